import PyProof.Rows.All
import Wide.All
import OpenK.AllK
import Wide.FinOn
import HandS.ForMost
import HandS.Deep
import HandS.TupAny
import HandS.TupMul
import HandS.Conv
import HandS.Style
import HandS.SortInts
import HandS.Walk
import HandS.Zip
import HandS.Rev
import HandS.Strs
import HandS.ExcValue
import PyProof.TupleKey
import PyProof.DictRoadsH
import PyProof.P3Eq
import KE.GoesMore
import KE.GoesEnum
import PyProof.Rows.SumAny
import KE.KMathGC
import HandS.Wide
import HandS.Gcd
import HandS.SortKw
import HandS.SortRule
import KE.SortData
import KE.SortKeyed
import KE.KDictCopyH
import KE.KDictWalk
import KE.KDictList
import KE.KDictPairs
import HandS.TryOnly
import HandS.IsInst
import HandS.Star
import KE.KDictDisplayH
import KE.KDictSum
import KE.KEqDict
import PySem.Challenge.RW_leastlattices_k79_whole_one_table_or_mor
set_option Elab.async false
set_option linter.all false
set_option maxRecDepth 100000
set_option maxHeartbeats 4000000
/-! DL0: tuples that are known to bear no dict: made so, asked so. -/
namespace DL
open PySem PySem.Spec PyProof.Rows L2

def tup0 (its : List Value) : Obj := { cls := .type "tuple", data := .seq its.toArray }
/-- a tuple of vs at a, its object known to bear no dict -/
def TD (K : PySem.W.Frag) (H : Hp) (a : Addr) (vs : List V) : Prop :=
  (∃ its, H a = some (.frz (tup0 its) (.tup vs))) ∨
    ∃ (o : Obj) (its : Array Value) (n : Nat), K.lookup a = some o ∧ o.cls = .type "tuple" ∧ o.dict = none ∧ o.data = .seq its n ∧ its.size ≤ sizeLine ∧ Vals vs its.toList
theorem TD.sq {K : PySem.W.Frag} {H : Hp} {a : Addr} {vs : List V} (h : TD K H a vs) : SqT K H a vs := by
  rcases h with ⟨its, h⟩ | ⟨o, its, n, h1, h2, h3, h4, h5, h6⟩
  · exact .inl (.inr ⟨_, h⟩)
  · exact .inr ⟨o, its, n, h1, h2, h4, h5, h6⟩
theorem TD.mono {K : PySem.W.Frag} {H H' : Hp} {a : Addr} {vs : List V} (e : Same H H') (h : TD K H a vs) : TD K H' a vs := by
  rcases h with ⟨its, h⟩ | h
  · exact .inl ⟨its, e _ _ h⟩
  · exact .inr h
section
variable {X : Cx} {pins : List (Addr × Obj)} {σ : L2.St} {H : Hp} {s : Shared}
/-- a new tuple, its object known -/
theorem tup_in {vs : List V} {its : List Value} {t' : Nat} (I : Inv X pins σ H s) (hv : Vals vs its) (hz : vs.length ≤ sizeLine) :
    Inv X pins σ (upd H s.heap.objs.size (.frz (tup0 its) (.tup vs))) { s with heap := s.heap.push (tup0 its), toks := t' } := by
  refine I.laid (fun _ _ q => Heap.get?_push_of_some _ q) (Nat.le_refl _) ⟨Heap.get?_push_size _ rfl, hz, its, hv, ?_⟩
  exact ⟨_, Heap.get?_push_size _ rfl, rfl, _, rfl⟩
theorem TD.obj {a : Addr} {vs : List V} (I : Inv X pins σ H s) (h : TD X.K H a vs) : ∃ ob, s.heap.get? a = some ob ∧ ob.dict = none := by
  rcases h with ⟨its, h⟩ | ⟨o, its, n, h1, h2, h3, _⟩
  · obtain ⟨e, _⟩ := I.hok a _ h
    exact ⟨_, e, rfl⟩
  · exact ⟨o, I.kIn a o h1, h3⟩

/-! ### made by a display -/
def tTup0 (t : TA) : TE := fun σ H Q => t σ H fun xs H1 => xs.length ≤ sizeLine ∧ ∀ p its, H1 p = none → Q (.ref p) (upd H1 p (.frz (tup0 its) (.tup xs)))
theorem pe_tup0 {es : List Expr} {t : TA} {pos : Pos} {x1} (h : PA X es t) : PE X (.Tuple es x1 pos) (tTup0 t) := by
  refine ⟨fun pins s σ H Q I hq => ?_⟩
  refine wpAny_Tuple_spliced (thn (h.run pos pins s σ H _ I hq) fun us s1 ⟨xs, H1, I1, r, z, q⟩ => ⟨by rw [← r.length]; exact z, ?_⟩)
  exact ⟨.ref _, _, tup_in (t' := s1.toks) I1 r z, rfl, q _ us (I1.hok.fresh (Nat.le_refl _))⟩

/-! ### t + u -/
def rCat0 (K : PySem.W.Frag) : R2 := fun x y H Q => ∃ a b xs ys, x = .ref a ∧ y = .ref b ∧ SqT K H a xs ∧ SqT K H b ys ∧ xs.length + ys.length ≤ sizeLine ∧
  (xs = [] → Q (.ref b) H) ∧ (xs ≠ [] → ys = [] → Q (.ref a) H) ∧ (xs ≠ [] → ys ≠ [] → ∀ p its, H p = none → Q (.ref p) (upd H p (.frz (tup0 its) (.tup (xs ++ ys)))))
theorem op_cat0 : OpR X (binaryOp .Add) (rCat0 X.K) := by
  intro pins s σ H x y v u Q I rx ry h
  obtain ⟨a, b, xs, ys, rfl, rfl, ha, hb, hz, q0, q1, q2⟩ := h
  obtain ⟨its, r1, p1, _⟩ := I.tuple ha
  obtain ⟨its2, r2, p2, _⟩ := I.tuple hb
  cases rx
  cases ry
  by_cases hx : xs = []
  · subst hx
    cases r1
    exact cat_tup0 p1 p2 ⟨.ref _, H, I, rfl, q0 rfl⟩
  · refine HT.cat_tup p1 p2 (fun z => hx (r1.nil_iff.mp z)) (fun z => ⟨.ref _, H, I, rfl, q1 hx (r2.nil_iff.mp z)⟩) (fun z => ?_) (by rw [← r1.length, ← r2.length]; exact hz)
    exact ⟨.ref _, _, tup_in (t' := s.toks) I (r1.append r2) (by rw [List.length_append]; exact hz), rfl, q2 hx (fun w => z (r2.nil_iff.mpr w)) _ (its ++ its2) (I.hok.fresh (Nat.le_refl _))⟩

/-! ### t[lo:hi] -/
def rSl0 (K : PySem.W.Frag) : V → Option Int → Option Int → Hp → VK → Prop := fun x lo hi H Q => ∃ a xs, x = .ref a ∧ SqT K H a xs ∧
  (HT.sIx xs.length 0 lo = 0 ∧ HT.sIx xs.length xs.length hi = xs.length → Q (.ref a) H) ∧
  (¬ (HT.sIx xs.length 0 lo = 0 ∧ HT.sIx xs.length xs.length hi = xs.length) → ∀ p its, H p = none → Q (.ref p) (upd H p (.frz (tup0 its) (.tup (cutV xs lo hi)))))
theorem sl_tup0 : SlR X (rSl0 X.K) := by
  intro pins s σ H x v vl vu lo hi sl Q I rx hs pl pu h
  obtain ⟨a, xs, rfl, hx, q1, q2⟩ := h
  cases rx
  obtain ⟨its, r, ht, hz⟩ := I.tuple hx
  have hn : its.toArray.size = xs.length := by rw [List.size_toArray]; exact r.length.symm
  refine ⟨"tuple", _, PyProof.Rows.slot_tuple_getitem.lookup, ht.typeIs, ?_⟩
  by_cases hw : HT.sIx xs.length 0 lo = 0 ∧ HT.sIx xs.length xs.length hi = xs.length
  · exact getItem_tuple_whole ht hs pl pu (by rw [hn]; exact hw) ⟨.ref _, H, I, rfl, q1 hw⟩
  · refine HT.getItem_tuple_cut ht hs pl pu (by rw [hn]; exact hw) ?_ (by rw [hn]; exact hz)
    rw [hn]
    exact ⟨.ref _, _, tup_in (t' := s.toks) I ((r.drop _).take _) (Nat.le_trans (cutV_length xs lo hi) hz), rfl, q2 hw _ _ (I.hok.fresh (Nat.le_refl _))⟩

/-! ### tuple(x) -/
def rTup0 (K : PySem.W.Frag) : List V → Hp → VK → Prop := fun xs H Q => ∃ p ys, xs = [.ref p] ∧ ((SqL K H p ys ∧ ∀ l its, H l = none → Q (.ref l) (upd H l (.frz (tup0 its) (.tup ys)))) ∨ (SqT K H p ys ∧ Q (.ref p) H))
theorem call_tup0 : CallR X (.type "tuple") (rTup0 X.K) := by
  intro pins s σ H xs us Q I r h
  obtain ⟨p, ys, rfl, h⟩ := h
  obtain ⟨u, rfl, rx⟩ := vals1 r
  cases rx
  rcases h with ⟨hq, q⟩ | ⟨hq, q⟩
  · obtain ⟨its, r', pl, hz⟩ := I.list hq
    have hl := r'.length
    refine call_tuple_list pl.isList (fun h' kp => ?_) (by rw [List.size_toArray]; omega)
    have I1 : Inv X pins σ H { s with heap := h' } := I.kept (t' := s.toks) kp
    exact ⟨.ref _, _, tup_in (t' := s.toks) I1 r' hz, rfl, q _ its (I1.hok.fresh (Nat.le_refl _))⟩
  · obtain ⟨its, r', pl, hz⟩ := I.tuple hq
    exact call_tuple_same pl ⟨.ref _, H, I, rfl, q⟩
def tTupRg0 (te : L2.St → Hp → (Int → Int → Hp → Prop) → Prop) : TE := fun σ H Q => te σ H fun a b H1 => RgOk a b ∧ ∀ q its, H1 q = none → Q (.ref q) (upd H1 q (.frz (tup0 its) (.tup (rgV a b))))
theorem pe_tupRg0 {e : Expr} {te : L2.St → Hp → (Int → Int → Hp → Prop) → Prop} {p pos : Pos} (hc : X.calm = true) (hg : Gl X "tuple") (hm : X.mg "tuple" = none) (he : PRg X e te) (na : starEach [e] X.env = (false, eval e X.env) :: starEach [] X.env := by rfl) :
    PE X (.Call (.Name "tuple" p) [e] [] pos) (tTupRg0 te) := by
  refine ⟨fun pins s σ H Q I h => ?_⟩
  refine Call_ (ld_blt I hg hm boot_tuple (PyProof.Rows.callWith_type1 (args_cons (thn (he pins s σ H _ I h) fun x s1 ⟨r, a, b, t, u, v, H1, ex, hr, I1, ok, q⟩ => args_nil ?_) na) na))
  subst ex
  obtain ⟨b1, b2, b3, b4, b5⟩ := ok
  refine call_tuple_range (n := (b - a).toNat) (I1.ok.hd hc) hr (small_one b1 b2 b3 b4) (rangeSize_nat a b) b5 fun h' tk acc hk hi => ?_
  have I2 : Inv X pins σ H1 { s1 with heap := h', toks := tk } := I1.kept hk
  have e0 : (tup0 acc.toList) = { cls := .type "tuple", data := .seq acc } := by unfold tup0; rw [Array.toArray_toList]
  have I3 := tup_in (t' := tk) I2 (vals_rg hi) (by rw [rgV_length, sizeLine_eq]; omega)
  rw [e0] at I3
  refine ⟨.ref _, _, I3, rfl, ?_⟩
  rw [← e0]
  exact q _ _ (I2.hok.fresh (Nat.le_refl _))

/-! ### t.index(x) -/
def rTIx (K : PySem.W.Frag) : V → List V → Hp → VK → Prop := fun x xs H Q => ∃ (a : Addr) (ys : List V) (y : V) (j : Nat) (z : V), x = V.ref a ∧ xs = [y] ∧ SqT K H a ys ∧ flatV y = true ∧ ys.all flatV = true ∧ ys[j]? = some z ∧ eqV z y = true ∧
  (∀ (m : Nat) (z' : V), m < j → ys[m]? = some z' → eqV z' y = false) ∧ Q (.int (j : Nat)) H
theorem mt_tix : MtR X "tuple.index" (rTIx X.K) := by
  intro pins s σ H x xs v us Q I rx rs h
  obtain ⟨p, ys, y, j, z, rfl, rfl, hq, fy, fys, hy, he, hno, q⟩ := h
  cases rx
  obtain ⟨u, rfl, ru⟩ := vals1 rs
  obtain ⟨its, r, pl, hz⟩ := I.tuple hq
  obtain ⟨⟨cls, dd, dt, sl⟩, ho, hc, n, hd⟩ := pl
  simp only at hc hd
  subst hc
  subst hd
  have hl : its.toArray.size = ys.length := by rw [List.size_toArray, ← r.length]
  have hj : j < its.toArray.size := by rw [hl]; exact (List.getElem?_eq_some_iff.mp hy).1
  have aux : ∀ (m : Nat) (hm : m < its.toArray.size) (w : V), ys[m]? = some w → RelV w its.toArray[m] := fun m hm w hw => by
    obtain ⟨w', h1, h2⟩ := r.get hw
    have e := (List.getElem?_eq_some_iff.mp h1).2
    have e2 : its.toArray[m] = its[m]'(by simpa using hm) := by simp
    rw [e2, e]
    exact h2
  have eU : ∀ (m : Nat) (hm : m < its.toArray.size) (w : V), ys[m]? = some w → eqU y its.toArray[m] = eqV w y := fun m hm w hw => by
    have ra := aux m hm w hw
    have fw : flatV w = true := flat_at fys hw
    unfold eqU
    cases w with
    | non => rw [show its.toArray[m] = _ from ra]
    | bl b => rw [show its.toArray[m] = _ from ra]
    | int i => obtain ⟨t, e⟩ := ra; rw [e]
    | str x => obtain ⟨t, e⟩ := ra; rw [e]
    | byt _ => cases fw
    | flt _ => cases fw
    | ref _ => cases fw
    | ty _ => cases fw
  refine call_meets PySem.F.slot_tuple_index ⟨_, ho, rfl⟩ PySem.F.entry_tuple_index (PySem.F.args_tuple_index_2 _ _) (TI.tuple_indexAt p its.toArray n dd sl u (eqU y) j hj ?_ ?_)
    ⟨ho, fun w hw => mem_eqAt ru fy r fys w (by simpa using hw), ⟨.int (j : Nat), H, I.tok _, ⟨_, rfl⟩, q⟩⟩
  · rw [eU j hj z hy]; exact he
  · intro m hm hmj
    have hm' : m < ys.length := by rw [← hl]; exact hm
    rw [eU m hm _ (List.getElem?_eq_getElem hm')]
    exact hno m _ hmj (List.getElem?_eq_getElem hm')
def tBMT (K : PySem.W.Frag) (r : V → List V → Hp → VK → Prop) (to : TE) (t : TA) : TE := fun σ H Q => to σ H fun x H1 => (∃ p vs, x = .ref p ∧ TD K H1 p vs) ∧ t σ H1 fun xs H2 => r x xs H2 Q
theorem pe_bmT {o e : Expr} {es : List Expr} {to : TE} {t : TA} {name : Str} {apos cpos : Pos} {id : String} {r : V → List V → Hp → VK → Prop}
    (pa : PlainAttrs "tuple") (slot : Slot "tuple" name id) (hty : typeOf (.builtin id) = pure (.type "method_descriptor")) (hm : MtR X id r) (ho : PE X o to) (ha : PA X (e :: es) t)
    (hbase : attributeBase o name X.env (eval o X.env) = eval o X.env := by rfl)
    (hfew : ((backTo cpos (starEach (e :: es) X.env)).all (fun x => !x.1) && (backToKw cpos (keywordEach [] X.env)).all (fun x => x.1.isSome)
      && decide ((e :: es).length + ([] : List Keyword).length + (if ([] : List Keyword).isEmpty then 0 else 1) < 30)) = true := by rfl)
    (hline : (apos.endLine == cpos.line) = true := by rfl) (hs : starEach (e :: es) X.env = (false, eval e X.env) :: starEach es X.env := by rfl) (hplain : (backTo cpos (starEach es X.env)).any (·.1) = false := by rfl) :
    PE X (.Call (.Attribute o name apos) (e :: es) [] cpos) (tBMT X.K r to t) := by
  refine ⟨fun pins s σ H Q I h => ?_⟩
  refine wpAny_Call_method_late hbase hfew hline rfl (thn (ho.run pins s σ H _ I h) fun v s1 ⟨x, H1, I1, r1, ⟨p, vs, ex, td⟩, q1⟩ => ?_)
  subst ex
  cases r1
  obtain ⟨its, _, ht, _⟩ := I1.tuple td.sq
  refine ⟨"tuple", id, pa, slot, hty, ht.typeIs, fun a ea => by cases ea; exact TD.obj I1 td, ?_⟩
  have hA := ha.run cpos pins s1 σ H1 _ I1 q1
  rw [hs] at hA ⊢
  refine Calls.callWith_builtin (by show (false || (backTo cpos (starEach es X.env)).any (·.1)) = false; rw [hplain] <;> rfl) (Calls.evalArgs_plain ?_)
  exact thn hA fun us s2 ⟨ws, H2, I2, r2, q2⟩ => hm pins s2 σ H2 (.ref p) ws _ us Q I2 rfl r2 q2
end
end DL

set_option Elab.async false
set_option linter.all false
set_option maxRecDepth 100000
set_option maxHeartbeats 4000000
/-! DK0: tuples of any depth as keys of a dict. -/
namespace DL
open PySem PySem.Spec PyProof.Rows L2

abbrev D := PyData

mutual
/-- tuples of ints and tuples, no deeper than n -/
def keyD : Nat → D → Bool
  | _, .int _ => true
  | 0, .tuple _ => false
  | n + 1, .tuple ds => keyDs n ds
  | _, _ => false
def keyDs : Nat → List D → Bool
  | _, [] => true
  | n, d :: ds => keyD n d && keyDs n ds
end
theorem keyDs_mem {n : Nat} : ∀ {ds : List D} {d : D}, keyDs n ds = true → d ∈ ds → keyD n d = true
  | [], _, _, h => nomatch h
  | x :: xs, d, h, hm => by
    unfold keyDs at h
    rw [Bool.and_eq_true] at h
    rcases List.mem_cons.mp hm with rfl | hm
    · exact h.1
    · exact keyDs_mem h.2 hm
mutual
def hashD : D → Int
  | .int i => hashInt i
  | .tuple ds => reduceHash (Builtin.Tuple.tupleHashOf (hashDs ds))
  | _ => 0
def hashDs : List D → List Int
  | [] => []
  | d :: ds => hashD d :: hashDs ds
end
mutual
def drawD : D → Nat
  | .tuple ds => drawDs ds + 1
  | _ => 1
def drawDs : List D → Nat
  | [] => 0
  | d :: ds => drawD d + drawDs ds
end
theorem hashDs_map : ∀ ds, hashDs ds = ds.map hashD
  | [] => rfl
  | d :: ds => by rw [hashDs, hashDs_map ds]; rfl
theorem drawDs_snoc : ∀ (ds : List D) (d : D), drawDs (ds ++ [d]) = drawDs ds + drawD d
  | [], d => by simp [drawDs]
  | x :: xs, d => by rw [List.cons_append, drawDs, drawDs, drawDs_snoc xs d, Nat.add_assoc]

mutual
inductive KIs (h : Heap) : D → Value → Prop
  | int (i t) : KIs h (.int i) (.int i t)
  | tup {a : Addr} {o : Obj} {its : Array Value} {n : Nat} {ds : List D} : h.get? a = some o → o.cls = .type "tuple" → o.data = .seq its n → KAll h ds its.toList → KIs h (.tuple ds) (.ref a)
inductive KAll (h : Heap) : List D → List Value → Prop
  | nil : KAll h [] []
  | cons {d : D} {v : Value} {ds : List D} {vs : List Value} : KIs h d v → KAll h ds vs → KAll h (d :: ds) (v :: vs)
end
mutual
theorem KIs.reads {h : Heap} : ∀ {d : D} {v : Value}, KIs h d v → Reads h v d []
  | _, _, .int i t => .int i t
  | _, _, .tup h1 h2 h3 h4 => .tuple h1 h2 h3 (KAll.reads h4)
theorem KAll.reads {h : Heap} : ∀ {ds : List D} {vs : List Value}, KAll h ds vs → ReadsAll h vs ds []
  | _, _, .nil => .nil
  | _, _, .cons a b => by
    have := ReadsAll.cons (KIs.reads a) (KAll.reads b)
    exact this
end
mutual
theorem keyD_lay : ∀ {n : Nat} {d : D}, keyD n d = true → d.canLay0 = true ∧ d.depth ≤ n + 1
  | n, .int _, _ => ⟨rfl, by simp [PyData.depth]⟩
  | n, .str x, h => by cases n <;> simp [keyD] at h
  | 0, .tuple _, h => by simp [keyD] at h
  | n + 1, .tuple ds, h => by
    have := keyDs_lay (n := n) (ds := ds) (by simpa [keyD] using h)
    refine ⟨by simpa [PyData.canLay0] using this.1, ?_⟩
    have h2 := this.2
    simp only [PyData.depth]
    omega
  | n, .none, h => by cases n <;> simp [keyD] at h
  | n, .bool _, h => by cases n <;> simp [keyD] at h
  | n, .list _, h => by cases n <;> simp [keyD] at h
  | n, .dict _, h => by cases n <;> simp [keyD] at h
theorem keyDs_lay : ∀ {n : Nat} {ds : List D}, keyDs n ds = true → PyData.canLayAll0 ds = true ∧ PyData.depthAll ds ≤ n + 1
  | n, [], _ => ⟨rfl, by simp [PyData.depthAll]⟩
  | n, d :: ds, h => by
    simp only [keyDs, Bool.and_eq_true] at h
    have h1 := keyD_lay h.1
    have h2 := keyDs_lay h.2
    refine ⟨by simp [PyData.canLayAll0, h1.1, h2.1], ?_⟩
    simp only [PyData.depthAll]
    omega
end

section
variable {prog : Program} {w : World} {E : Value → Shared → Prop}
theorem hash_deep : ∀ (n : Nat) (d : D) (v : Value) (A : Around) (s : Shared) (Q : Int → Shared → Prop), keyD n d = true → KIs s.heap d v → A.units + n < cLine → Q (hashD d) { s with toks := s.toks + drawD d } →
    wpAny (model prog w) A (PySem.pyHash v) Q E s := by
  intro n
  induction n with
  | zero =>
    intro d v A s Q hk hi hu h
    cases hi with
    | int i t => exact (mixKind prog w).pyHash (k := .inl i) (mixKind_int prog w i t) h
    | tup _ _ _ _ => simp [keyD] at hk
  | succ n ih =>
    intro d v A s Q hk hi hu h
    cases hi with
    | int i t => exact (mixKind prog w).pyHash (k := .inl i) (mixKind_int prog w i t) h
    | @tup a o items sz ds ho hc hd hi =>
      have hks : keyDs n ds = true := by simpa [keyD] using hk
      have hT : s.TypeIs (.ref a) "tuple" := ⟨o, ho, hc⟩
      unfold pyHash
      first | unfold pyHashByItsType | skip
      first | refine wpAny_bind (wpAny_cRoomFor_or (.inr (by omega)) ?_) | skip
      refine wpAny_bind (wpAny_specialOf hT F.slot_tuple_hash.lookup ?_)
      show wpAny _ _ (if (some (Value.builtin "tuple.__hash__") == some Value.none) = true then _ else _) Q E s
      rw [if_neg (by rw [beq_builtin_none]; exact Bool.false_ne_true)]
      refine wpAny_bind (wpAny_specialOf hT F.slot_tuple_hash.lookup ?_)
      show wpAny _ _ (callSpecialIfBoundUnlessNone? (.ref a) "__hash__" _ >>= _) Q E s
      refine wpAny_bind (wpAny_callSpecialIfBoundUnlessNone?_slot hT F.slot_tuple_hash (wpAny_call_entry F.slot_tuple_hash hT F.entry_tuple_hash ?_ (F.args_tuple_hash_1 _)))
      show wpAny _ _ (Builtin.Tuple.tupleItemsOf (.ref a) >>= _) _ _ s
      refine wpAny_bind (wpAny_tupleItemsOf ho hd ?_)
      refine wpAny_bind ?_
      rw [← Array.forIn_toList]
      refine wpAny_forIn_list _
        (fun rest (b : Array Int) s' => ∃ done left, ds = done ++ left ∧ KAll s.heap left rest ∧ b.toList = done.map hashD ∧ s' = { s with toks := s.toks + drawDs done })
        _ ?_ ?_ _ _ ⟨[], ds, rfl, hi, rfl, rfl⟩
      · rintro x rest b s' ⟨done, left, rfl, hl, hb, rfl⟩
        cases hl with
        | @cons k _ ks' _ h1 hl' =>
          refine wpAny_bind (ih k _ _ _ _ (keyDs_mem hks (by simp)) h1 (by show A.units + 1 + n < cLine; omega) ?_)
          have e : { s with toks := s.toks + drawDs done + drawD k } = ({ s with toks := s.toks + drawDs (done ++ [k]) } : Shared) := by rw [drawDs_snoc, Nat.add_assoc]
          first
            | exact wpAny_pure ⟨done ++ [k], ks', by simp, hl', by simp [hb], e⟩
            | exact wpAny_bind (wpAny_pure (wpAny_pure ⟨done ++ [k], ks', by simp, hl', by simp [hb], e⟩))
      · rintro b s' ⟨done, left, rfl, hl, hb, rfl⟩
        cases hl
        rw [List.append_nil] at h
        show wpAny _ _ (retInt (Builtin.Tuple.tupleHashOf b.toList)) _ _ _
        rw [hb]
        refine wpAny_ret_mkInt ?_
        show wpAny _ _ (if (decide (-(2 : Int) ^ 63 ≤ Builtin.Tuple.tupleHashOf (done.map hashD)) && decide (Builtin.Tuple.tupleHashOf (done.map hashD) < 2 ^ 63)) = true then _ else _) Q E _
        simp only [hashD, drawD, hashDs_map, reduceHash] at h
        by_cases hr : (decide (-(2 : Int) ^ 63 ≤ Builtin.Tuple.tupleHashOf (done.map hashD)) && decide (Builtin.Tuple.tupleHashOf (done.map hashD) < 2 ^ 63)) = true
        · rw [if_pos hr]
          rw [if_pos hr] at h
          exact wpAny_pure (by simpa [Nat.add_assoc] using h)
        · rw [if_neg hr]
          rw [if_neg hr] at h
          exact wpAny_bind (wpAny_rule (wpAny_pure (by simpa [Nat.add_assoc] using h)))

theorem quiet_deep : ∀ (n m : Nat) (d : D) (v : Value) (A : Around) (s : Shared) (Q : Bool → Shared → Prop), n < m → keyD n d = true → KIs s.heap d v → Q true s →
    wpAny (model prog w) A (eqIsQuiet m v) Q E s := by
  intro n
  induction n with
  | zero =>
    intro m d v A s Q hm hk hi h
    cases hi with
    | int i t => rw [eqIsQuiet_byValue _ rfl]; exact wpAny_pure h
    | tup _ _ _ _ => simp [keyD] at hk
  | succ n ih =>
    intro m d v A s Q hm hk hi h
    cases hi with
    | int i t => rw [eqIsQuiet_byValue _ rfl]; exact wpAny_pure h
    | @tup a o items sz ds ho hc hd hi =>
      obtain ⟨m, rfl⟩ : ∃ j, m = j + 1 := ⟨m - 1, by omega⟩
      have hks : keyDs n ds = true := by simpa [keyD] using hk
      have hT : s.TypeIs (.ref a) "tuple" := ⟨o, ho, hc⟩
      unfold eqIsQuiet
      refine wpAny_bind (wpAny_specialOf hT F.slot_tuple_eq.lookup ?_)
      show wpAny _ _ (isInstance (.ref a) (.type "tuple") >>= _) _ _ s
      refine wpAny_bind (wpAny_isInstance hT isSubtype_tuple_tuple ?_)
      simp only [Bool.not_true, Bool.false_eq_true, if_false]
      refine wpAny_bind (wpAny_seqItems ho hd ?_)
      refine wpAny_bind ?_
      show wpAny _ _ (forIn items _ _) _ _ s
      rw [← Array.forIn_toList]
      refine wpAny_forIn_list _ (fun rest r s' => r.1 = none ∧ s' = s ∧ ∃ left, KAll s.heap left rest ∧ keyDs n left = true) _ ?_ ?_ _ _ ⟨rfl, rfl, ds, hi, hks⟩
      · rintro v rest r s' ⟨hr, rfl, left, hl, hkl⟩
        cases hl with
        | @cons k _ ks' _ h1 hl' =>
          simp only [keyDs, Bool.and_eq_true] at hkl
          refine wpAny_bind (ih m k _ _ _ _ (by omega) hkl.1 h1 ?_)
          simp only [Bool.not_true, Bool.false_eq_true, if_false]
          exact wpAny_pure ⟨rfl, rfl, ks', hl', hkl.2⟩
      · rintro ⟨r1, r2⟩ s' ⟨hr, rfl, _⟩
        simp only at hr
        subst hr
        exact wpAny_pure h
end

mutual
theorem eqv_iff : ∀ {n m : Nat} {a b : D}, keyD n a = true → keyD m b = true → (PyData.eqv a b = true ↔ a = b)
  | n, m, .int i, .int j, _, _ => by simp [PyData.eqv]
  | n, m, .int i, .tuple _, _, _ => by simp [PyData.eqv]
  | n, m, .tuple _, .int _, _, _ => by simp [PyData.eqv]
  | 0, _, .tuple _, .tuple _, h, _ => by simp [keyD] at h
  | _, 0, .tuple _, .tuple _, _, h => by simp [keyD] at h
  | n + 1, m + 1, .tuple as, .tuple bs, h, h' => by
    simp only [keyD] at h h'
    rw [PyData.eqv, eqvs_iff h h']
    exact ⟨fun e => by rw [e], fun e => by injection e⟩
  | n, _, .none, _, h, _ => by cases n <;> simp [keyD] at h
  | n, _, .str _, _, h, _ => by cases n <;> simp [keyD] at h
  | n, _, .bool _, _, h, _ => by cases n <;> simp [keyD] at h
  | n, _, .list _, _, h, _ => by cases n <;> simp [keyD] at h
  | n, _, .dict _, _, h, _ => by cases n <;> simp [keyD] at h
  | _, n, _, .none, _, h => by cases n <;> simp [keyD] at h
  | _, n, _, .str _, _, h => by cases n <;> simp [keyD] at h
  | _, n, _, .bool _, _, h => by cases n <;> simp [keyD] at h
  | _, n, _, .list _, _, h => by cases n <;> simp [keyD] at h
  | _, n, _, .dict _, _, h => by cases n <;> simp [keyD] at h
theorem eqvs_iff : ∀ {n m : Nat} {as bs : List D}, keyDs n as = true → keyDs m bs = true → (PyData.eqvAll as bs = true ↔ as = bs)
  | _, _, [], [], _, _ => by simp [PyData.eqvAll]
  | _, _, [], _ :: _, _, _ => by simp [PyData.eqvAll]
  | _, _, _ :: _, [], _, _ => by simp [PyData.eqvAll]
  | n, m, a :: as, b :: bs, h, h' => by
    simp only [keyDs, Bool.and_eq_true] at h h'
    rw [PyData.eqvAll, Bool.and_eq_true, eqv_iff h.1 h'.1, eqvs_iff h.2 h'.2]
    exact ⟨fun e => by rw [e.1, e.2], fun e => by injection e with e1 e2; exact ⟨e1, e2⟩⟩
end
mutual
theorem KIs.stay {h h' : Heap} (k : ∀ (a : Addr) (o : Obj) (its : Array Value) (n : Nat), h.get? a = some o → o.data = .seq its n → h'.get? a = some o) : ∀ {d : D} {v : Value}, KIs h d v → KIs h' d v
  | _, _, .int i t => .int i t
  | _, _, .tup h1 h2 h3 h4 => .tup (k _ _ _ _ h1 h3) h2 h3 (KAll.stay k h4)
theorem KAll.stay {h h' : Heap} (k : ∀ (a : Addr) (o : Obj) (its : Array Value) (n : Nat), h.get? a = some o → o.data = .seq its n → h'.get? a = some o) : ∀ {ds : List D} {vs : List Value}, KAll h ds vs → KAll h' ds vs
  | _, _, .nil => .nil
  | _, _, .cons a b => .cons (KIs.stay k a) (KAll.stay k b)
end
noncomputable instance decD : DecidableEq D := fun a b => Classical.propDecidable (a = b)
/-- tuples no deeper than six -/
noncomputable def deepKind (prog : Program) (w : World) : HeapKind prog w D where
  is := fun h d a => KIs h d (.ref a) ∧ keyD 6 d = true
  hash := hashD
  draws := drawD
  room := fun A => A.units + 10 < cLine
  inj := fun hx hy => SeqAt.Reads.unique _ _ _ _ _ (keyD_lay hx.2).1 hx.1.reads hy.1.reads
  keeps := fun {h h' k a d o es ep} x ho hd hs => ⟨x.1.stay fun b ob its n hb hb2 => by
    have hne : b ≠ d := by
      rintro rfl
      obtain rfl : ob = o := Option.some.inj (hb.symm.trans ho)
      rw [hd] at hb2; exact nomatch hb2
    exact (hs.2 b hne).trans hb, x.2⟩
  pyHash := fun {A E s k a Q} hu hk h => hash_deep 6 k _ A s Q hk.2 hk.1 (by have : A.units + 10 < cLine := hu; omega) h
  eqBool := fun {A E s x y a b Q} hu hx hy h => by
    have h1 := keyD_lay hx.2
    have h2 := keyD_lay hy.2
    refine SeqAt.eqBoolOverData prog w A E s _ _ x y [] [] Q hx.1.reads hy.1.reads h1.1 h2.1 (by have : A.units + 10 < cLine := hu; omega) ?_
    have e : PyData.eqv x y = decide (x = y) := by
      rw [Bool.eq_iff_iff, eqv_iff hx.2 hy.2, decide_eq_true_iff]
    rw [e]
    exact h
  quiet := fun hk h => quiet_deep 6 8 _ _ _ _ _ (by omega) hk.2 hk.1 h

/-! ### the object of a dict -/
def isI : D → Bool
  | .int _ => true
  | _ => false
def isTk : D → Bool
  | .tuple ds => keyD 6 (.tuple ds)
  | _ => false
/-- the dict at a, its object known -/
def xO (a : Addr) (o : Obj) : HO := .ext fun h => h.get? a = some o
/-- key's data, key, value -/
abbrev Tr := D × V × V
structure DFc (a : Addr) (o : Obj) (ts : List Tr) : Prop where
  ns : (a == sysModules) = false
  ex : o.ExactDict
  dat : ∃ es ep, o.data = .dict es ep ∧ Paired (fun (t : Tr) (e : DictEntry) => e.hash = hashD t.1 ∧ RelV t.2.1 e.key ∧ RelV t.2.2 e.val) ts es.toList
  few : ts.length ≤ sizeLine
  nd : (ts.map (·.1)).Nodup
  keys : (ts.map (·.1)).all isI = true ∨ (ts.map (·.1)).all isTk = true
end DL

set_option Elab.async false
set_option linter.all false
set_option maxRecDepth 100000
set_option maxHeartbeats 4000000
/-! DL1: deep data, owners, environments, the judgements. -/
namespace DL
open PySem PySem.Spec PyProof.Rows L2

mutual
/-- what a value stands for, over the frozen heap F -/
inductive Dq (K : PySem.W.Frag) (F : Hp) : V → D → Prop
  | non : Dq K F .non .none
  | bl (b : Bool) : Dq K F (.bl b) (.bool b)
  | int (i : Int) : Dq K F (.int i) (.int i)
  | str (x : Str) : Dq K F (.str x) (.str x)
  | lst {a : Addr} {vs : List V} {ds : List D} : F a = some (.lst vs) → DqAll K F vs ds → Dq K F (.ref a) (.list ds)
  | tup {a : Addr} {vs : List V} {ds : List D} : TD K F a vs → DqAll K F vs ds → Dq K F (.ref a) (.tuple ds)
  | dct {a : Addr} {o : Obj} {ts : List Tr} {kvs : List (D × D)} : F a = some (xO a o) → DFc a o ts → ts.map (·.1) = kvs.map (·.1) → DqAll K F (ts.map (·.2.1)) (kvs.map (·.1)) → DqAll K F (ts.map (·.2.2)) (kvs.map (·.2)) → Dq K F (.ref a) (.dict kvs)
inductive DqAll (K : PySem.W.Frag) (F : Hp) : List V → List D → Prop
  | nil : DqAll K F [] []
  | cons {v : V} {vs : List V} {d : D} {ds : List D} : Dq K F v d → DqAll K F vs ds → DqAll K F (v :: vs) (d :: ds)
end

section
variable {K : PySem.W.Frag} {F F' : Hp}
mutual
theorem Dq.mono (e : Same F F') : ∀ {v : V} {d : D}, Dq K F v d → Dq K F' v d
  | _, _, .non => .non
  | _, _, .bl b => .bl b
  | _, _, .int i => .int i
  | _, _, .str x => .str x
  | _, _, .lst h a => .lst (e _ _ h) (DqAll.mono e a)
  | _, _, .tup h a => .tup (h.mono e) (DqAll.mono e a)
  | _, _, .dct h f k a b => .dct (e _ _ h) f k (DqAll.mono e a) (DqAll.mono e b)
theorem DqAll.mono (e : Same F F') : ∀ {vs : List V} {ds : List D}, DqAll K F vs ds → DqAll K F' vs ds
  | _, _, .nil => .nil
  | _, _, .cons a b => .cons (Dq.mono e a) (DqAll.mono e b)
end
mutual
theorem Dq.dp : ∀ {v : V} {d : D}, PyData.canLay0 d = true → Dq K F v d → Dp K F v d
  | _, _, _, .non => .non
  | _, _, _, .bl b => .bl b
  | _, _, _, .int i => .int i
  | _, _, _, .str x => .str x
  | _, _, c, .lst h a => .lst (SqL.of h) (DqAll.dp (by simpa [PyData.canLay0] using c) a)
  | _, _, c, .tup h a => .tup h.sq (DqAll.dp (by simpa [PyData.canLay0] using c) a)
  | _, _, c, .dct _ _ _ _ _ => by simp [PyData.canLay0] at c
theorem DqAll.dp : ∀ {vs : List V} {ds : List D}, PyData.canLayAll0 ds = true → DqAll K F vs ds → DpAll K F vs ds
  | _, _, _, .nil => .nil
  | _, _, c, .cons a b => by
    simp only [PyData.canLayAll0, Bool.and_eq_true] at c
    exact .cons (Dq.dp c.1 a) (DqAll.dp c.2 b)
end
theorem DqAll.len : ∀ {vs : List V} {ds : List D}, DqAll K F vs ds → vs.length = ds.length
  | _, _, .nil => rfl
  | _, _, .cons _ b => by simp [DqAll.len b]
theorem DqAll.get : ∀ {vs : List V} {ds : List D} {i : Nat} {d : D}, DqAll K F vs ds → ds[i]? = some d → ∃ v, vs[i]? = some v ∧ Dq K F v d
  | _, _, i, d, .nil, h => by simp at h
  | _, _, 0, d, .cons a b, h => ⟨_, rfl, by simp at h; subst h; exact a⟩
  | _, _, i + 1, d, .cons a b, h => by
    obtain ⟨v, h1, h2⟩ := DqAll.get (i := i) b (by simpa using h)
    exact ⟨v, by simpa using h1, h2⟩
theorem DqAll.append : ∀ {vs ws : List V} {ds es : List D}, DqAll K F vs ds → DqAll K F ws es → DqAll K F (vs ++ ws) (ds ++ es)
  | _, _, _, _, .nil, b => b
  | _, _, _, _, .cons a t, b => .cons a (DqAll.append t b)
theorem DqAll.take : ∀ {vs : List V} {ds : List D} (n : Nat), DqAll K F vs ds → DqAll K F (vs.take n) (ds.take n)
  | _, _, 0, _ => .nil
  | _, _, _ + 1, .nil => .nil
  | _, _, n + 1, .cons a b => .cons a (DqAll.take n b)
theorem DqAll.drop : ∀ {vs : List V} {ds : List D} (n : Nat), DqAll K F vs ds → DqAll K F (vs.drop n) (ds.drop n)
  | _, _, 0, h => h
  | _, _, _ + 1, .nil => .nil
  | _, _, n + 1, .cons a b => DqAll.drop n b
theorem DqAll.set {v : V} {d : D} (hv : Dq K F v d) : ∀ {vs : List V} {ds : List D} (n : Nat), DqAll K F vs ds → DqAll K F (vs.set n v) (ds.set n d)
  | _, _, _, .nil => .nil
  | _, _, 0, .cons a b => .cons hv b
  | _, _, n + 1, .cons a b => .cons a (DqAll.set hv n b)
theorem DqAll.eraseIdx : ∀ {vs : List V} {ds : List D} (n : Nat), DqAll K F vs ds → DqAll K F (vs.eraseIdx n) (ds.eraseIdx n)
  | _, _, _, .nil => .nil
  | _, _, 0, .cons a b => b
  | _, _, n + 1, .cons a b => .cons a (DqAll.eraseIdx n b)
theorem DqAll.reverse : ∀ {vs : List V} {ds : List D}, DqAll K F vs ds → DqAll K F vs.reverse ds.reverse
  | _, _, .nil => .nil
  | _, _, .cons a b => by
    rw [List.reverse_cons, List.reverse_cons]
    exact (DqAll.reverse b).append (.cons a .nil)
theorem Dq.int_inv {v : V} {i : Int} (h : Dq K F v (.int i)) : v = .int i := by cases h; rfl
theorem Dq.bl_inv {v : V} {b : Bool} (h : Dq K F v (.bool b)) : v = .bl b := by cases h; rfl
theorem Dq.str_inv {v : V} {x : Str} (h : Dq K F v (.str x)) : v = .str x := by cases h; rfl
theorem Dq.non_inv {v : V} (h : Dq K F v .none) : v = .non := by cases h; rfl
theorem Dq.lst_inv {v : V} {ds : List D} (h : Dq K F v (.list ds)) : ∃ a vs, v = .ref a ∧ F a = some (.lst vs) ∧ DqAll K F vs ds := by
  cases h with
  | lst h a => exact ⟨_, _, rfl, h, a⟩
theorem Dq.tup_inv {v : V} {ds : List D} (h : Dq K F v (.tuple ds)) : ∃ a vs, v = .ref a ∧ TD K F a vs ∧ DqAll K F vs ds := by
  cases h with
  | tup h a => exact ⟨_, _, rfl, h, a⟩
theorem Dq.dct_inv {v : V} {kvs : List (D × D)} (h : Dq K F v (.dict kvs)) : ∃ a o ts, v = .ref a ∧ F a = some (xO a o) ∧ DFc a o ts ∧ ts.map (·.1) = kvs.map (·.1) ∧ DqAll K F (ts.map (·.2.1)) (kvs.map (·.1)) ∧ DqAll K F (ts.map (·.2.2)) (kvs.map (·.2)) := by
  cases h with
  | dct h f k a b => exact ⟨_, _, _, rfl, h, f, k, a, b⟩
end

/-! ### owners -/
inductive Ow where
  | src | sl (i : Nat)
  deriving DecidableEq
abbrev Om := Addr → Option Ow
structure Wk (F : Hp) (O : Om) (H : Hp) : Prop where
  fh : Same F H
  fo : ∀ a, O a ≠ none → F a = none
  oh : ∀ a, O a ≠ none → H a ≠ none

/-! ### the drawn source of the laws -/
structure Src where
  cells : List Int
  left : Int
  mixed : Int
  turn : Int
  deriving DecidableEq
def Src.kvs (s : Src) (c : Addr) : List (Key × V) := [(.inr "cells", .ref c), (.inr "left", .int s.left), (.inr "mixed", .int s.mixed), (.inr "turn", .int s.turn)]
/-- ghosts: where the source is, the list of lists that a loop walks with its own names -/
structure Pc where
  src : Option (Addr × Addr)
  al : Option (Addr × List Addr)
def SrcOk (O : Om) (H : Hp) : Pc → Src → Prop
  | ⟨none, _⟩, _ => ∀ a, O a ≠ some .src
  | ⟨some (p, c), _⟩, s => O p = some .src ∧ O c = some .src ∧ H p = some (.dK (s.kvs c)) ∧ H c = some (.lst (s.cells.map V.int)) ∧ ∀ a, O a = some .src → a = p ∨ a = c

/-! ### slots -/
inductive Sl where
  | un | fz (d : D) | ow (ds : List D) | o2 (dss : List (List D)) | dc (kvs : List (D × D)) | oh (dss : List (List D)) | al (r k : Nat) | sr
abbrev Rho := List Sl
inductive All2 {α β : Type} (R : α → β → Prop) : List α → List β → Prop
  | nil : All2 R [] []
  | cons {a b as bs} : R a b → All2 R as bs → All2 R (a :: as) (b :: bs)
theorem All2.imp {α β : Type} {R S : α → β → Prop} (h : ∀ a b, R a b → S a b) : ∀ {as : List α} {bs : List β}, All2 R as bs → All2 S as bs
  | _, _, .nil => .nil
  | _, _, .cons a b => .cons (h _ _ a) (All2.imp h b)
theorem All2.len {α β : Type} {R : α → β → Prop} : ∀ {as : List α} {bs : List β}, All2 R as bs → as.length = bs.length
  | _, _, .nil => rfl
  | _, _, .cons _ b => by simp [All2.len b]
theorem All2.impMem {α β : Type} {R S : α → β → Prop} : ∀ {as : List α} {bs : List β}, (∀ a b, a ∈ as → R a b → S a b) → All2 R as bs → All2 S as bs
  | _, _, _, .nil => .nil
  | _, _, h, .cons a b => .cons (h _ _ (List.mem_cons_self) a) (All2.impMem (fun x y hx => h x y (List.mem_cons_of_mem _ hx)) b)

def SlOk (K : PySem.W.Frag) (F : Hp) (O : Om) (H : Hp) (pc : Pc) (i : Nat) (v : Option V) : Sl → Prop
  | .un => True
  | .fz d => ∃ x, v = some x ∧ Dq K F x d
  | .ow ds => ∃ q vs, v = some (.ref q) ∧ O q = some (.sl i) ∧ H q = some (.lst vs) ∧ DqAll K F vs ds
  | .o2 dss => ∃ q qs, v = some (.ref q) ∧ O q = some (.sl i) ∧ H q = some (.lst (qs.map V.ref)) ∧ q ∉ qs ∧ qs.Nodup ∧ All2 (fun a ds => O a = some (.sl i) ∧ ∃ vs, H a = some (.lst vs) ∧ DqAll K F vs ds) qs dss
  | .dc kvs => ∃ q o ts, v = some (.ref q) ∧ O q = some (.sl i) ∧ H q = some (xO q o) ∧ DFc q o ts ∧ ts.map (·.1) = kvs.map (·.1) ∧ DqAll K F (ts.map (·.2.1)) (kvs.map (·.1)) ∧ DqAll K F (ts.map (·.2.2)) (kvs.map (·.2))
  | .oh dss => ∃ q qs, v = some (.ref q) ∧ O q = some (.sl i) ∧ H q = some (.lst (qs.map V.ref)) ∧ q ∉ qs ∧ qs.Nodup ∧ All2 (fun a ds => O a = some (.sl i) ∧ ∃ vs, H a = some (.lst vs) ∧ DqAll K F vs ds) qs dss ∧ pc.al = some (q, qs)
  | .al _ k => ∃ q qs a, pc.al = some (q, qs) ∧ qs[k]? = some a ∧ v = some (.ref a)
  | .sr => ∃ p c, v = some (.ref p) ∧ pc.src = some (p, c)
structure EnvOk (K : PySem.W.Frag) (F : Hp) (O : Om) (H : Hp) (pc : Pc) (σ : L2.St) (ρ : Rho) : Prop where
  len : σ.length = ρ.length
  at_ : ∀ i sl, ρ[i]? = some sl → ∃ v, σ[i]? = some v ∧ SlOk K F O H pc i v sl
structure Stt (K : PySem.W.Frag) (F : Hp) (O : Om) (H : Hp) (pc : Pc) (σ : L2.St) (ρ : Rho) (s : Src) : Prop where
  wk : Wk F O H
  env : EnvOk K F O H pc σ ρ
  src : SrcOk O H pc s

/-! ### an expression's step -/
structure Ny (O : Om) (F H F' H' : Hp) : Prop where
  ff : Same F F'
  fh : Same F' H'
  own : ∀ a, O a ≠ none → O a ≠ some .src → H' a = H a
  unown : ∀ a o, H a = some o → O a = none → H' a = some o
  dom : ∀ a, H a ≠ none → H' a ≠ none
  new : ∀ a o, F' a = some o → F a = some o ∨ H a = none
section
variable {K : PySem.W.Frag} {F F' F'' H H' H'' : Hp} {O : Om} {pc : Pc} {σ : L2.St} {ρ : Rho} {s s' : Src}
theorem Ny.refl (w : Wk F O H) : Ny O F H F H := ⟨Same.refl _, w.fh, fun _ _ _ => rfl, fun _ _ h _ => h, fun _ h => h, fun _ _ h => .inl h⟩
theorem Ny.trans (a : Ny O F H F' H') (b : Ny O F' H' F'' H'') : Ny O F H F'' H'' where
  ff := a.ff.trans b.ff
  fh := b.fh
  own := fun x h1 h2 => (b.own x h1 h2).trans (a.own x h1 h2)
  unown := fun x o h1 h2 => b.unown x o (a.unown x o h1 h2) h2
  dom := fun x h => b.dom x (a.dom x h)
  new := fun x o h => by
    rcases b.new x o h with h | h
    · exact a.new x o h
    · refine .inr ?_
      cases q : H x with
      | none => rfl
      | some u => exact absurd h (a.dom x (by rw [q]; exact fun z => nomatch z))
theorem Ny.wk (n : Ny O F H F' H') (w : Wk F O H) : Wk F' O H' := ⟨n.fh, fun a h => by
  cases q : F' a with
  | none => rfl
  | some o =>
    rcases n.new a o q with z | z
    · rw [w.fo a h] at z; cases z
    · exact absurd z (w.oh a h), fun a h => n.dom a (w.oh a h)⟩
theorem SlOk.ny {i : Nat} {v : Option V} {sl : Sl} (n : Ny O F H F' H') (h : SlOk K F O H pc i v sl) : SlOk K F' O H' pc i v sl := by
  cases sl with
  | un => trivial
  | fz d =>
    obtain ⟨x, h1, h2⟩ := h
    exact ⟨x, h1, h2.mono n.ff⟩
  | ow ds =>
    obtain ⟨q, vs, h1, h2, h3, h4⟩ := h
    exact ⟨q, vs, h1, h2, by rw [n.own q (by rw [h2]; exact fun z => nomatch z) (by rw [h2]; exact fun z => nomatch z)]; exact h3, h4.mono n.ff⟩
  | o2 dss =>
    obtain ⟨q, qs, h1, h2, h3, h4, h5, h6⟩ := h
    refine ⟨q, qs, h1, h2, by rw [n.own q (by rw [h2]; exact fun z => nomatch z) (by rw [h2]; exact fun z => nomatch z)]; exact h3, h4, h5, h6.imp fun a ds ⟨e1, vs, e2, e3⟩ => ⟨e1, vs, ?_, e3.mono n.ff⟩⟩
    rw [n.own a (by rw [e1]; exact fun z => nomatch z) (by rw [e1]; exact fun z => nomatch z)]
    exact e2
  | dc kvs =>
    obtain ⟨q, o, ts, h1, h2, h3, h4, h5, h6, h7⟩ := h
    exact ⟨q, o, ts, h1, h2, by rw [n.own q (by rw [h2]; exact fun z => nomatch z) (by rw [h2]; exact fun z => nomatch z)]; exact h3, h4, h5, h6.mono n.ff, h7.mono n.ff⟩
  | oh dss =>
    obtain ⟨q, qs, h1, h2, h3, h4, h5, h6, h7⟩ := h
    refine ⟨q, qs, h1, h2, by rw [n.own q (by rw [h2]; exact fun z => nomatch z) (by rw [h2]; exact fun z => nomatch z)]; exact h3, h4, h5, h6.imp fun a ds ⟨e1, vs, e2, e3⟩ => ⟨e1, vs, ?_, e3.mono n.ff⟩, h7⟩
    rw [n.own a (by rw [e1]; exact fun z => nomatch z) (by rw [e1]; exact fun z => nomatch z)]
    exact e2
  | al r k => exact h
  | sr => exact h
theorem EnvOk.ny (n : Ny O F H F' H') (e : EnvOk K F O H pc σ ρ) : EnvOk K F' O H' pc σ ρ :=
  ⟨e.len, fun i sl h => let ⟨v, h1, h2⟩ := e.at_ i sl h; ⟨v, h1, h2.ny n⟩⟩
theorem Stt.ny (n : Ny O F H F' H') (h : Stt K F O H pc σ ρ s) (h' : SrcOk O H' pc s') : Stt K F' O H' pc σ ρ s' := ⟨n.wk h.wk, h.env.ny n, h'⟩
/-- a pure step: the heap only grows -/
theorem Ny.pure (w : Wk F O H) (e : Same H H') (ff : Same F F') (fh : Same F' H') (new : ∀ a o, F' a = some o → F a = some o ∨ H a = none) : Ny O F H F' H' where
  ff := ff
  fh := fh
  own := fun a h _ => by
    cases q : H a with
    | none => exact absurd q (w.oh a h)
    | some o => exact e a o q
  unown := fun a o h _ => e a o h
  dom := fun a h => by
    cases q : H a with
    | none => exact absurd q h
    | some o => rw [e a o q]; exact fun z => nomatch z
  new := new
theorem SrcOk.same {w : Src} (e : Same H H') (h : SrcOk O H pc w) : SrcOk O H' pc w := by
  obtain ⟨ps, al⟩ := pc
  cases ps with
  | none => exact h
  | some pc =>
    obtain ⟨p, c⟩ := pc
    obtain ⟨h1, h2, h3, h4, h5⟩ := h
    exact ⟨h1, h2, e _ _ h3, e _ _ h4, h5⟩
theorem same_new {H : Hp} {p : Addr} {o : HO} (h : H p = none) : Same H (upd H p o) := fun b x e => by
  rw [upd_ne (ne_of_none e h)]
  exact e
/-- a new frozen object -/
theorem Ny.alloc {p : Addr} {o : HO} (w : Wk F O H) (h : H p = none) : Ny O F H (upd F p o) (upd H p o) := by
  have hF : F p = none := by
    cases q : F p with
    | none => rfl
    | some u => rw [w.fh _ _ q] at h; cases h
  refine .pure w (same_new h) (same_new hF) (fun a u e => ?_) fun a u e => ?_
  · by_cases ha : a = p
    · subst ha; rw [upd_same] at e ⊢; exact e
    · rw [upd_ne ha] at e ⊢; exact w.fh _ _ e
  · by_cases ha : a = p
    · subst ha; exact .inr h
    · rw [upd_ne ha] at e; exact .inl e
end

/-! ### the judgements -/
abbrev Y := Rho → Src → Option (D × Src)
abbrev Yl := Rho → Src → Option (List D × Src)
abbrev Yb := Rho → Src → Option (Bool × Src)
abbrev Yo := Rho → Src → Option (Option Int × Src)
def bO {α β : Type} (o : Option (α × Src)) (k : α → Src → Option β) : Option β := match o with
  | some (a, s) => k a s
  | none => none
theorem bO_some {α β : Type} {o : Option (α × Src)} {k : α → Src → Option β} {b : β} (h : bO o k = some b) : ∃ a s, o = some (a, s) ∧ k a s = some b := by
  cases o with
  | none => cases h
  | some p => exact ⟨p.1, p.2, rfl, h⟩
def mO {α β : Type} (o : Option α) (k : α → Option β) : Option β := match o with
  | some a => k a
  | none => none
theorem mO_some {α β : Type} {o : Option α} {k : α → Option β} {b : β} (h : mO o k = some b) : ∃ a, o = some a ∧ k a = some b := by
  cases o with
  | none => cases h
  | some p => exact ⟨p, rfl, h⟩
/-- an expression: its value's data -/
def SdY (K : PySem.W.Frag) (t : TE) (g : Y) : Prop := ∀ F O H pc σ ρ s d s', Stt K F O H pc σ ρ s → g ρ s = some (d, s') → ∀ Q : VK, (∀ v F' H', Ny O F H F' H' → SrcOk O H' pc s' → Dq K F' v d → Q v H') → t σ H Q
/-- an expression that makes a new list -/
def SdN (K : PySem.W.Frag) (t : TE) (g : Yl) : Prop := ∀ F O H pc σ ρ s ds s', Stt K F O H pc σ ρ s → g ρ s = some (ds, s') → ∀ Q : VK,
  (∀ p vs F' H', Ny O F H F' H' → SrcOk O H' pc s' → H p = none → F' p = none → H' p = some (.lst vs) → DqAll K F' vs ds → Q (.ref p) H') → t σ H Q
/-- arguments -/
def SdA (K : PySem.W.Frag) (t : TA) (g : Yl) : Prop := ∀ F O H pc σ ρ s ds s', Stt K F O H pc σ ρ s → g ρ s = some (ds, s') → ∀ Q : List V → Hp → Prop, (∀ vs F' H', Ny O F H F' H' → SrcOk O H' pc s' → DqAll K F' vs ds → Q vs H') → t σ H Q
/-- a test -/
def SdT (K : PySem.W.Frag) (t : TT) (g : Yb) : Prop := ∀ F O H pc σ ρ s b s', Stt K F O H pc σ ρ s → g ρ s = some (b, s') → ∀ Q : Bool → Hp → Prop, (∀ F' H', Ny O F H F' H' → SrcOk O H' pc s' → Q b H') → t σ H Q
/-- a part of a slice -/
def SdO (K : PySem.W.Frag) (t : TO) (g : Yo) : Prop := ∀ F O H pc σ ρ s b s', Stt K F O H pc σ ρ s → g ρ s = some (b, s') → ∀ Q : Option Int → Hp → Prop, (∀ F' H', Ny O F H F' H' → SrcOk O H' pc s' → Q b H') → t σ H Q

/-! ### values: an operation of two places, one, a call of a builtin -/
def Sd2 (K : PySem.W.Frag) (r : R2) (f : D → D → Option D) : Prop := ∀ F O H x y a b d, Wk F O H → Dq K F x a → Dq K F y b → f a b = some d → ∀ Q : VK,
  (∀ v F' H', Same H H' → Same F F' → Same F' H' → (∀ a o, F' a = some o → F a = some o ∨ H a = none) → Dq K F' v d → Q v H') → r x y H Q
def Sd1 (K : PySem.W.Frag) (r : V → Hp → VK → Prop) (f : D → Option D) : Prop := ∀ F O H x a d, Wk F O H → Dq K F x a → f a = some d → ∀ Q : VK,
  (∀ v F' H', Same H H' → Same F F' → Same F' H' → (∀ a o, F' a = some o → F a = some o ∨ H a = none) → Dq K F' v d → Q v H') → r x H Q
def SdC (K : PySem.W.Frag) (r : List V → Hp → VK → Prop) (f : List D → Option D) : Prop := ∀ F O H xs as d, Wk F O H → DqAll K F xs as → f as = some d → ∀ Q : VK,
  (∀ v F' H', Same H H' → Same F F' → Same F' H' → (∀ a o, F' a = some o → F a = some o ∨ H a = none) → Dq K F' v d → Q v H') → r xs H Q
end DL

set_option Elab.async false
set_option linter.all false
set_option maxRecDepth 100000
set_option maxHeartbeats 4000000
/-! DL2: expressions. -/
namespace DL
open PySem PySem.Spec PyProof.Rows L2

def lim : Nat := 100000
theorem lim_le {n : Nat} (h : n ≤ lim) : n ≤ sizeLine := Nat.le_trans h (by decide)
theorem lim_lt {n : Nat} (h : n < lim) : n < sizeLine := Nat.lt_of_lt_of_le h (by decide)

section
variable {K : PySem.W.Frag} {ta tb tc te : TE} {ga gb gc ge : Y}

/-! ### names, constants -/
def varY (i : Nat) : Y := fun ρ s => match ρ[i]? with
  | some (.fz d) => some (d, s)
  | _ => none
theorem sd_var (i : Nat) : SdY K (tVar i) (varY i) := by
  intro F O H pc σ ρ s d s' st h Q q
  unfold varY at h
  split at h
  · rename_i d' e
    cases h
    obtain ⟨v, h1, x, h2, h3⟩ := st.env.at_ i _ e
    subst h2
    exact ⟨x, h1, q x F H (Ny.refl st.wk) st.src h3⟩
  · cases h
def cY (d : D) : Y := fun _ s => some (d, s)
theorem sd_c {v : V} {d : D} (h : ∀ F, Dq K F v d) : SdY K (tC v) (cY d) := by
  intro F O H pc σ ρ s d' s' st e Q q
  cases e
  exact q v F H (Ny.refl st.wk) st.src (h F)
theorem sd_int (i : Int) : SdY K (tC (.int i)) (cY (.int i)) := sd_c fun _ => .int i
theorem sd_bl (b : Bool) : SdY K (tC (.bl b)) (cY (.bool b)) := sd_c fun _ => .bl b
theorem sd_non : SdY K (tC .non) (cY .none) := sd_c fun _ => .non
theorem sd_str (x : Str) : SdY K (tC (.str x)) (cY (.str x)) := sd_c fun _ => .str x

/-! ### operations -/
def y1 (f : D → Option D) (a : Y) : Y := fun ρ s => bO (a ρ s) fun x s1 => mO (f x) fun d => some (d, s1)
def y2 (f : D → D → Option D) (a b : Y) : Y := fun ρ s => bO (a ρ s) fun x s1 => bO (b ρ s1) fun y s2 => mO (f x y) fun d => some (d, s2)
def yC (f : List D → Option D) (a : Yl) : Y := fun ρ s => bO (a ρ s) fun xs s1 => mO (f xs) fun d => some (d, s1)
theorem sd_1 {r : V → Hp → VK → Prop} {f : D → Option D} (hr : Sd1 K r f) (ha : SdY K ta ga) : SdY K (tUn r ta) (y1 f ga) := by
  intro F O H pc σ ρ s d s' st h Q q
  obtain ⟨x, s1, e1, h⟩ := bO_some h
  obtain ⟨z, e2, h⟩ := mO_some h
  cases h
  refine ha F O H pc σ ρ s x _ st e1 _ fun v F1 H1 n1 sr1 d1 => ?_
  refine hr F1 O H1 v x d (n1.wk st.wk) d1 e2 Q fun v' F2 H2 a b c e f => ?_
  exact q v' F2 H2 (n1.trans (Ny.pure (n1.wk st.wk) a b c e)) (sr1.same a) f
theorem sd_2 {r : R2} {f : D → D → Option D} (hr : Sd2 K r f) (ha : SdY K ta ga) (hb : SdY K tb gb) : SdY K (tOp r ta tb) (y2 f ga gb) := by
  intro F O H pc σ ρ s d s' st h Q q
  obtain ⟨x, s1, e1, h⟩ := bO_some h
  obtain ⟨y, s2, e2, h⟩ := bO_some h
  obtain ⟨z, e3, h⟩ := mO_some h
  cases h
  refine ha F O H pc σ ρ s x s1 st e1 _ fun v F1 H1 n1 sr1 d1 => ?_
  refine hb F1 O H1 pc σ ρ s1 y _ (st.ny n1 sr1) e2 _ fun u F2 H2 n2 sr2 d2 => ?_
  refine hr F2 O H2 v u x y d (n2.wk (n1.wk st.wk)) (d1.mono n2.ff) d2 e3 Q fun v' F3 H3 a b c e f => ?_
  exact q v' F3 H3 ((n1.trans n2).trans (Ny.pure (n2.wk (n1.wk st.wk)) a b c e)) (sr2.same a) f
theorem sd_C {r : List V → Hp → VK → Prop} {f : List D → Option D} {t : TA} {g : Yl} (hr : SdC K r f) (ha : SdA K t g) : SdY K (tCB r t) (yC f g) := by
  intro F O H pc σ ρ s d s' st h Q q
  obtain ⟨x, s1, e1, h⟩ := bO_some h
  obtain ⟨z, e2, h⟩ := mO_some h
  cases h
  refine ha F O H pc σ ρ s x _ st e1 _ fun v F1 H1 n1 sr1 d1 => ?_
  refine hr F1 O H1 v x d (n1.wk st.wk) d1 e2 Q fun v' F2 H2 a b c e f => ?_
  exact q v' F2 H2 (n1.trans (Ny.pure (n1.wk st.wk) a b c e)) (sr1.same a) f

/-! ### arguments, displays -/
def aNil : Yl := fun _ s => some ([], s)
def aCons (a : Y) (r : Yl) : Yl := fun ρ s => bO (a ρ s) fun x s1 => bO (r ρ s1) fun xs s2 => some (x :: xs, s2)
theorem sa_nil : SdA K tNil aNil := by
  intro F O H pc σ ρ s d s' st h Q q
  cases h
  exact q [] F H (Ny.refl st.wk) st.src .nil
theorem sa_cons {t : TA} {g : Yl} (ha : SdY K ta ga) (hr : SdA K t g) : SdA K (tCons ta t) (aCons ga g) := by
  intro F O H pc σ ρ s d s' st h Q q
  obtain ⟨x, s1, e1, h⟩ := bO_some h
  obtain ⟨y, s2, e2, h⟩ := bO_some h
  cases h
  refine ha F O H pc σ ρ s x s1 st e1 _ fun v F1 H1 n1 sr1 d1 => ?_
  refine hr F1 O H1 pc σ ρ s1 y _ (st.ny n1 sr1) e2 _ fun u F2 H2 n2 sr2 d2 => ?_
  exact q (v :: u) F2 H2 (n1.trans n2) sr2 (.cons (d1.mono n2.ff) d2)
def tupY (g : Yl) : Y := fun ρ s => bO (g ρ s) fun xs s1 => if xs.length ≤ lim then some (.tuple xs, s1) else none
def lstY (g : Yl) : Yl := fun ρ s => bO (g ρ s) fun xs s1 => if xs.length ≤ lim then some (xs, s1) else none
theorem sd_tup {t : TA} {g : Yl} (ha : SdA K t g) : SdY K (tTup0 t) (tupY g) := by
  intro F O H pc σ ρ s d s' st h Q q
  obtain ⟨x, s1, e1, h⟩ := bO_some h
  split at h
  · rename_i hl
    cases h
    refine ha F O H pc σ ρ s x _ st e1 _ fun v F1 H1 n1 sr1 d1 => ⟨lim_le (by rw [d1.len]; exact hl), fun p its hp => ?_⟩
    have al := Ny.alloc (o := .frz (tup0 its) (.tup v)) (n1.wk st.wk) hp
    exact q (.ref p) _ _ (n1.trans al) (sr1.same (same_new hp)) (.tup (.inl ⟨its, upd_same⟩) (d1.mono al.ff))
  · cases h
theorem sn_lst {t : TA} {g : Yl} (ha : SdA K t g) : SdN K (tLst t) (lstY g) := by
  intro F O H pc σ ρ s d s' st h Q q
  obtain ⟨x, s1, e1, h⟩ := bO_some h
  split at h
  · rename_i hl
    cases h
    refine ha F O H pc σ ρ s d _ st e1 _ fun v F1 H1 n1 sr1 d1 => ⟨lim_le (by rw [d1.len]; exact hl), fun p hp => ?_⟩
    have hF : F1 p = none := by
      cases z : F1 p with
      | none => rfl
      | some u => rw [n1.fh _ _ z] at hp; cases hp
    have w1 := n1.wk st.wk
    refine q p v F1 (upd H1 p (.lst v)) (n1.trans (Ny.pure w1 (same_new hp) (Same.refl _) (w1.fh.trans (same_new hp)) fun _ _ h => .inl h)) (sr1.same (same_new hp)) ?_ hF upd_same d1
    cases z : H p with
    | none => rfl
    | some u => exact absurd hp (n1.dom p (by rw [z]; exact fun z => nomatch z))
  · cases h
/-- a new list as a value that no one changes -/
def frY (g : Yl) : Y := fun ρ s => bO (g ρ s) fun xs s1 => some (.list xs, s1)
theorem sd_fr {t : TE} {g : Yl} (ha : SdN K t g) : SdY K t (frY g) := by
  intro F O H pc σ ρ s d s' st h Q q
  obtain ⟨x, s1, e1, h⟩ := bO_some h
  cases h
  refine ha F O H pc σ ρ s x _ st e1 _ fun p v F1 H1 n1 sr1 hp hF hH d1 => ?_
  have e : Same F1 (upd F1 p (.lst v)) := same_new hF
  refine q (.ref p) (upd F1 p (.lst v)) H1 ⟨n1.ff.trans e, fun a o z => ?_, n1.own, n1.unown, n1.dom, fun a o z => ?_⟩ sr1 (.lst upd_same (d1.mono e))
  · by_cases ha : a = p
    · subst ha; rw [upd_same] at z; cases z; exact hH
    · rw [upd_ne ha] at z; exact n1.fh _ _ z
  · by_cases ha : a = p
    · subst ha; exact .inr hp
    · rw [upd_ne ha] at z; exact n1.new _ _ z

/-! ### tests -/
def bT (g : Y) : Yb := fun ρ s => bO (g ρ s) fun d s1 => match d with
  | .bool b => some (b, s1)
  | _ => none
theorem st_B (h : SdY K te ge) : SdT K (tB te) (bT ge) := by
  intro F O H pc σ ρ s d s' st e Q q
  obtain ⟨x, s1, e1, e⟩ := bO_some e
  refine h F O H pc σ ρ s x s1 st e1 _ fun v F1 H1 n1 sr1 d1 => ?_
  split at e
  · cases e
    exact ⟨_, d1.bl_inv, q F1 H1 n1 sr1⟩
  · cases e
theorem st_Test (h : SdY K te ge) : SdT K (tTest te) (bT ge) := st_B h
variable {tt tu : TT} {gt gu : Yb}
def andT (a b : Yb) : Yb := fun ρ s => bO (a ρ s) fun x s1 => if x = true then b ρ s1 else some (false, s1)
def orT (a b : Yb) : Yb := fun ρ s => bO (a ρ s) fun x s1 => if x = true then some (true, s1) else b ρ s1
def notT (a : Yb) : Yb := fun ρ s => bO (a ρ s) fun x s1 => some (!x, s1)
theorem st_and (h1 : SdT K tt gt) (h2 : SdT K tu gu) : SdT K (tAnd tt tu) (andT gt gu) := by
  intro F O H pc σ ρ s d s' st e Q q
  obtain ⟨x, s1, e1, e⟩ := bO_some e
  refine h1 F O H pc σ ρ s x s1 st e1 _ fun F1 H1 n1 sr1 => ?_
  cases x with
  | true =>
    rw [if_pos rfl] at e ⊢
    exact h2 F1 O H1 pc σ ρ s1 d s' (st.ny n1 sr1) e Q fun F2 H2 n2 sr2 => q F2 H2 (n1.trans n2) sr2
  | false =>
    rw [if_neg Bool.false_ne_true] at e ⊢
    cases e
    exact q F1 H1 n1 sr1
theorem st_or (h1 : SdT K tt gt) (h2 : SdT K tu gu) : SdT K (tOr tt tu) (orT gt gu) := by
  intro F O H pc σ ρ s d s' st e Q q
  obtain ⟨x, s1, e1, e⟩ := bO_some e
  refine h1 F O H pc σ ρ s x s1 st e1 _ fun F1 H1 n1 sr1 => ?_
  cases x with
  | false =>
    rw [if_neg Bool.false_ne_true] at e ⊢
    exact h2 F1 O H1 pc σ ρ s1 d s' (st.ny n1 sr1) e Q fun F2 H2 n2 sr2 => q F2 H2 (n1.trans n2) sr2
  | true =>
    rw [if_pos rfl] at e ⊢
    cases e
    exact q F1 H1 n1 sr1
theorem st_not (h1 : SdT K tt gt) : SdT K (tNot tt) (notT gt) := by
  intro F O H pc σ ρ s d s' st e Q q
  obtain ⟨x, s1, e1, e⟩ := bO_some e
  cases e
  exact h1 F O H pc σ ρ s x _ st e1 _ fun F1 H1 n1 sr1 => q F1 H1 n1 sr1

/-! ### values by tests -/
def ifY (t : Yb) (a b : Y) : Y := fun ρ s => bO (t ρ s) fun x s1 => if x = true then a ρ s1 else b ρ s1
theorem sd_if (h : SdT K tt gt) (ha : SdY K ta ga) (hb : SdY K tb gb) : SdY K (tIf tt ta tb) (ifY gt ga gb) := by
  intro F O H pc σ ρ s d s' st e Q q
  obtain ⟨x, s1, e1, e⟩ := bO_some e
  refine h F O H pc σ ρ s x s1 st e1 _ fun F1 H1 n1 sr1 => ?_
  cases x with
  | true =>
    rw [if_pos rfl] at e ⊢
    exact ha F1 O H1 pc σ ρ s1 d s' (st.ny n1 sr1) e Q fun v F2 H2 n2 sr2 => q v F2 H2 (n1.trans n2) sr2
  | false =>
    rw [if_neg Bool.false_ne_true] at e ⊢
    exact hb F1 O H1 pc σ ρ s1 d s' (st.ny n1 sr1) e Q fun v F2 H2 n2 sr2 => q v F2 H2 (n1.trans n2) sr2
def andY (a b : Y) : Y := fun ρ s => bO (a ρ s) fun x s1 => match x with
  | .bool true => b ρ s1
  | .bool false => some (.bool false, s1)
  | _ => none
def orY (a b : Y) : Y := fun ρ s => bO (a ρ s) fun x s1 => match x with
  | .bool false => b ρ s1
  | .bool true => some (.bool true, s1)
  | _ => none
def notD : D → Option D
  | .bool b => some (.bool (!b))
  | _ => none
def notY (a : Y) : Y := y1 notD a
theorem sd_and (ha : SdY K ta ga) (hb : SdY K tb gb) : SdY K (tAndV ta tb) (andY ga gb) := by
  intro F O H pc σ ρ s d s' st e Q q
  obtain ⟨x, s1, e1, e⟩ := bO_some e
  refine ha F O H pc σ ρ s x s1 st e1 _ fun v F1 H1 n1 sr1 d1 => ?_
  split at e
  · refine ⟨true, d1.bl_inv, ?_⟩
    rw [if_pos rfl]
    exact hb F1 O H1 pc σ ρ s1 d s' (st.ny n1 sr1) e Q fun v F2 H2 n2 sr2 => q v F2 H2 (n1.trans n2) sr2
  · cases e
    refine ⟨false, d1.bl_inv, ?_⟩
    rw [if_neg Bool.false_ne_true]
    exact q _ F1 H1 n1 sr1 (.bl false)
  · cases e
theorem sd_or (ha : SdY K ta ga) (hb : SdY K tb gb) : SdY K (tOrV ta tb) (orY ga gb) := by
  intro F O H pc σ ρ s d s' st e Q q
  obtain ⟨x, s1, e1, e⟩ := bO_some e
  refine ha F O H pc σ ρ s x s1 st e1 _ fun v F1 H1 n1 sr1 d1 => ?_
  split at e
  · refine ⟨false, d1.bl_inv, ?_⟩
    rw [if_neg Bool.false_ne_true]
    exact hb F1 O H1 pc σ ρ s1 d s' (st.ny n1 sr1) e Q fun v F2 H2 n2 sr2 => q v F2 H2 (n1.trans n2) sr2
  · cases e
    refine ⟨true, d1.bl_inv, ?_⟩
    rw [if_pos rfl]
    exact q _ F1 H1 n1 sr1 (.bl true)
  · cases e
theorem sd_not (ha : SdY K ta ga) : SdY K (tNotV ta) (notY ga) := by
  intro F O H pc σ ρ s d s' st e Q q
  obtain ⟨x, s1, e1, e⟩ := bO_some e
  obtain ⟨z, e2, e⟩ := mO_some e
  cases e
  refine ha F O H pc σ ρ s x _ st e1 _ fun v F1 H1 n1 sr1 d1 => ?_
  unfold notD at e2
  split at e2
  · cases e2
    exact ⟨_, d1.bl_inv, q _ F1 H1 n1 sr1 (.bl _)⟩
  · cases e2

/-! ### slices -/
def SdSl (K : PySem.W.Frag) (r : V → Option Int → Option Int → Hp → VK → Prop) (f : D → Option Int → Option Int → Option D) : Prop := ∀ F O H x lo hi a d, Wk F O H → Dq K F x a → f a lo hi = some d → ∀ Q : VK,
  (∀ v F' H', Same H H' → Same F F' → Same F' H' → (∀ a o, F' a = some o → F a = some o ∨ H a = none) → Dq K F' v d → Q v H') → r x lo hi H Q
def oNo : Yo := fun _ s => some (none, s)
def oYes (g : Y) : Yo := fun ρ s => bO (g ρ s) fun d s1 => match d with
  | .int i => some (some i, s1)
  | _ => none
theorem so_no : SdO K tNoPart oNo := by
  intro F O H pc σ ρ s d s' st e Q q
  cases e
  exact q F H (Ny.refl st.wk) st.src
theorem so_yes (h : SdY K te ge) : SdO K (tPart te) (oYes ge) := by
  intro F O H pc σ ρ s d s' st e Q q
  obtain ⟨x, s1, e1, e⟩ := bO_some e
  refine h F O H pc σ ρ s x s1 st e1 _ fun v F1 H1 n1 sr1 d1 => ?_
  split at e
  · cases e
    exact ⟨_, d1.int_inv, q F1 H1 n1 sr1⟩
  · cases e
def slY (f : D → Option Int → Option Int → Option D) (a : Y) (l u : Yo) : Y := fun ρ s => bO (a ρ s) fun x s1 => bO (l ρ s1) fun lo s2 => bO (u ρ s2) fun hi s3 => mO (f x lo hi) fun d => some (d, s3)
theorem sd_sl {r : V → Option Int → Option Int → Hp → VK → Prop} {f : D → Option Int → Option Int → Option D} {tl th : TO} {gl gh : Yo} (hr : SdSl K r f) (ha : SdY K te ge) (hl : SdO K tl gl) (hh : SdO K th gh) : SdY K (tSl r te tl th) (slY f ge gl gh) := by
  intro F O H pc σ ρ s d s' st h Q q
  obtain ⟨x, s1, e1, h⟩ := bO_some h
  obtain ⟨lo, s2, e2, h⟩ := bO_some h
  obtain ⟨hi, s3, e3, h⟩ := bO_some h
  obtain ⟨z, e4, h⟩ := mO_some h
  cases h
  refine ha F O H pc σ ρ s x s1 st e1 _ fun v F1 H1 n1 sr1 d1 => ?_
  have st1 := st.ny n1 sr1
  refine hl F1 O H1 pc σ ρ s1 lo s2 st1 e2 _ fun F2 H2 n2 sr2 => ?_
  have st2 := st1.ny n2 sr2
  refine hh F2 O H2 pc σ ρ s2 hi _ st2 e3 _ fun F3 H3 n3 sr3 => ?_
  refine hr F3 O H3 v lo hi x d (n3.wk st2.wk) ((d1.mono n2.ff).mono n3.ff) e4 Q fun v' F4 H4 a b c e f => ?_
  exact q v' F4 H4 (((n1.trans n2).trans n3).trans (Ny.pure (n3.wk st2.wk) a b c e)) (sr3.same a) f

/-! ### own lists are looked at -/
def scalD : D → Bool
  | .none => true
  | .bool _ => true
  | .int _ => true
  | .str _ => true
  | _ => false
theorem Dq.scal {F F' : Hp} {v : V} {d : D} (h : Dq K F v d) (hs : scalD d = true) : Dq K F' v d := by
  cases h with
  | non => exact .non
  | bl b => exact .bl b
  | int i => exact .int i
  | str x => exact .str x
  | lst _ _ => cases hs
  | tup _ _ => cases hs
  | dct _ _ _ _ _ => cases hs
def viewS (ρ : Rho) : Sl → Sl
  | .ow ds => .fz (.list ds)
  | .o2 dss => .fz (.list (dss.map .list))
  | .dc kvs => .fz (.dict kvs)
  | .oh dss => .fz (.list (dss.map .list))
  | .al r k => match ρ[r]? with
    | some (.oh dss) => (match dss[k]? with
      | some ds => .fz (.list ds)
      | none => .un)
    | _ => .un
  | x => x
abbrev viewR (ρ : Rho) : Rho := ρ.map (viewS ρ)
def vwY (g : Y) : Y := fun ρ s => bO (g (viewR ρ) s) fun d s1 => if scalD d = true then some (d, s1) else none
def isSl : Option Ow → Bool
  | some (.sl _) => true
  | _ => false
def upF (F : Hp) (O : Om) (H : Hp) : Hp := fun a => if isSl (O a) = true then H a else F a
def upO (O : Om) : Om := fun a => if isSl (O a) = true then none else O a
theorem view_o2 {F : Hp} {H : Hp} {O : Om} {i : Nat} {F2 : Hp} (e : Same F F2) (hF : ∀ a o, O a = some (.sl i) → H a = some o → F2 a = some o) : ∀ {qs : List Addr} {dss : List (List D)},
    All2 (fun a ds => O a = some (.sl i) ∧ ∃ vs, H a = some (.lst vs) ∧ DqAll K F vs ds) qs dss → DqAll K F2 (qs.map V.ref) (dss.map .list)
  | _, _, .nil => .nil
  | _, _, .cons ⟨h1, vs, h2, h3⟩ b => .cons (.lst (hF _ _ h1 h2) (h3.mono e)) (view_o2 e hF b)
theorem up_same {F H : Hp} {O : Om} (w : Wk F O H) : Same F (upF F O H) := fun a o e => by
  unfold upF
  rw [if_neg]
  · exact e
  · intro z
    have : O a ≠ none := fun q => by rw [q] at z; cases z
    rw [w.fo a this] at e; cases e
theorem up_wk {F H : Hp} {O : Om} (w : Wk F O H) : Wk (upF F O H) (upO O) H := by
  refine ⟨fun a o e => ?_, fun a h => ?_, fun a h => ?_⟩
  · unfold upF at e
    split at e
    · exact e
    · exact w.fh _ _ e
  · unfold upO at h
    split at h
    · exact absurd rfl h
    · rename_i z
      unfold upF
      rw [if_neg z]
      exact w.fo a h
  · unfold upO at h
    split at h
    · exact absurd rfl h
    · exact w.oh a h
theorem All2.get0 {α β : Type} {R : α → β → Prop} : ∀ {as : List α} {bs : List β} {k : Nat} {b : β}, All2 R as bs → bs[k]? = some b → ∃ a, as[k]? = some a ∧ R a b
  | _, _, _, _, .nil, h => by simp at h
  | _, _, 0, _, .cons x y, h => by simp at h; subst h; exact ⟨_, rfl, x⟩
  | _, _, k + 1, _, .cons x y, h => by
    obtain ⟨a, h1, h2⟩ := All2.get0 (k := k) y (by simpa using h)
    exact ⟨a, by simpa using h1, h2⟩
theorem isSl_of {O : Om} {a : Addr} {i : Nat} (h : O a = some (.sl i)) : isSl (O a) = true := by rw [h]; rfl
theorem up_env {F H : Hp} {O : Om} {pc : Pc} {σ : L2.St} {ρ : Rho} (w : Wk F O H) (e : EnvOk K F O H pc σ ρ) : EnvOk K (upF F O H) (upO O) H pc σ (viewR ρ) := by
  refine ⟨by rw [List.length_map]; exact e.len, fun i sl h => ?_⟩
  rw [List.getElem?_map] at h
  cases z : ρ[i]? with
  | none => rw [z] at h; cases h
  | some u =>
    rw [z] at h
    cases h
    obtain ⟨v, h1, h2⟩ := e.at_ i u z
    refine ⟨v, h1, ?_⟩
    cases u with
    | un => trivial
    | fz d =>
      obtain ⟨x, h3, h4⟩ := h2
      exact ⟨x, h3, h4.mono (up_same w)⟩
    | ow ds =>
      obtain ⟨q, vs, h3, h4, h5, h6⟩ := h2
      refine ⟨_, h3, .lst (vs := vs) ?_ (h6.mono (up_same w))⟩
      unfold upF
      rw [if_pos (isSl_of h4)]
      exact h5
    | o2 dss =>
      obtain ⟨q, qs, h3, h4, h5, h6, h7, h8⟩ := h2
      refine ⟨_, h3, .lst (vs := qs.map V.ref) ?_ (view_o2 (up_same w) (fun a o z1 z2 => ?_) h8)⟩
      · unfold upF
        rw [if_pos (isSl_of h4)]
        exact h5
      · unfold upF
        rw [if_pos (isSl_of z1)]
        exact z2
    | dc kvs =>
      obtain ⟨q, o, ts, h3, h4, h5, h6, h7, h8, h9⟩ := h2
      refine ⟨_, h3, .dct (o := o) (ts := ts) ?_ h6 h7 (h8.mono (up_same w)) (h9.mono (up_same w))⟩
      unfold upF
      rw [if_pos (isSl_of h4)]
      exact h5
    | oh dss =>
      obtain ⟨q, qs, h3, h4, h5, h6, h7, h8, h9⟩ := h2
      refine ⟨_, h3, .lst (vs := qs.map V.ref) ?_ (view_o2 (up_same w) (fun a o z1 z2 => ?_) h8)⟩
      · unfold upF
        rw [if_pos (isSl_of h4)]
        exact h5
      · unfold upF
        rw [if_pos (isSl_of z1)]
        exact z2
    | al r k =>
      obtain ⟨q, qs, a, h3, h4, h5⟩ := h2
      show SlOk K (upF F O H) (upO O) H pc i v (match ρ[r]? with
        | some (.oh dss) => (match dss[k]? with
          | some ds => .fz (.list ds)
          | none => .un)
        | _ => .un)
      split
      · rename_i dss hr
        split
        · rename_i ds hd
          obtain ⟨v2, g1, q2, qs2, g2, g3, g4, g5, g6, g7, g8⟩ := e.at_ r _ hr
          rw [h3] at g8
          cases g8
          obtain ⟨a2, k1, k2, vs, k3, k4⟩ := All2.get0 g7 hd
          rw [h4] at k1
          cases k1
          refine ⟨_, h5, .lst (vs := vs) ?_ (k4.mono (up_same w))⟩
          unfold upF
          rw [if_pos (isSl_of k2)]
          exact k3
        · trivial
      · trivial
    | sr => exact h2
theorem up_src {H : Hp} {O : Om} {pc : Pc} {s : Src} : SrcOk (upO O) H pc s ↔ SrcOk O H pc s := by
  have e : ∀ a, upO O a = some .src ↔ O a = some .src := fun a => by
    unfold upO
    constructor
    · intro h
      split at h
      · cases h
      · exact h
    · intro h
      rw [if_neg (by rw [h]; exact fun z => nomatch z)]
      exact h
  obtain ⟨ps, al⟩ := pc
  cases ps with
  | none => exact ⟨fun h a z => h a ((e a).mpr z), fun h a z => h a ((e a).mp z)⟩
  | some pc =>
    obtain ⟨p, c⟩ := pc
    constructor
    · rintro ⟨h1, h2, h3, h4, h5⟩
      exact ⟨(e _).mp h1, (e _).mp h2, h3, h4, fun a z => h5 a ((e a).mpr z)⟩
    · rintro ⟨h1, h2, h3, h4, h5⟩
      exact ⟨(e _).mpr h1, (e _).mpr h2, h3, h4, fun a z => h5 a ((e a).mp z)⟩
/-- back from the looked-at own lists -/
theorem up_back {F H F' H' : Hp} {O : Om} (w : Wk F O H) (n : Ny (upO O) (upF F O H) H F' H') : Ny O F H (fun a => if isSl (O a) = true then none else F' a) H' where
  ff := fun a o e => by
    have h := n.ff a o (up_same w a o e)
    show (if isSl (O a) = true then none else F' a) = some o
    rw [if_neg]
    · exact h
    · intro z
      have : O a ≠ none := fun q => by rw [q] at z; cases z
      rw [w.fo a this] at e; cases e
  fh := fun a o e => by
    have e : (if isSl (O a) = true then none else F' a) = some o := e
    split at e
    · cases e
    · exact n.fh _ _ e
  own := fun a h1 h2 => by
    have z : isSl (O a) = true := by
      cases q : O a with
      | none => exact absurd q h1
      | some u =>
        cases u with
        | src => exact absurd q h2
        | sl i => rfl
    have hn : upO O a = none := by unfold upO; rw [if_pos z]
    cases q : H a with
    | none => exact absurd q (w.oh a h1)
    | some o => exact n.unown a o q hn
  unown := fun a o h1 h2 => n.unown a o h1 (by unfold upO; rw [h2]; rfl)
  dom := n.dom
  new := fun a o e => by
    have e : (if isSl (O a) = true then none else F' a) = some o := e
    split at e
    · cases e
    · rename_i z
      rcases n.new a o e with h | h
      · unfold upF at h
        rw [if_neg z] at h
        exact .inl h
      · exact .inr h
theorem sd_vw {t : TE} {g : Y} (h : SdY K t g) : SdY K t (vwY g) := by
  intro F O H pc σ ρ s d s' st e Q q
  obtain ⟨x, s1, e1, e⟩ := bO_some e
  split at e
  · rename_i hs
    cases e
    refine h (upF F O H) (upO O) H pc σ _ s d _ ⟨up_wk st.wk, up_env st.wk st.env, up_src.mpr st.src⟩ e1 Q fun v F' H' n sr d1 => ?_
    exact q v _ H' (up_back st.wk n) (up_src.mp sr) (d1.scal hs)
  · cases e
def vwT (g : Yb) : Yb := fun ρ s => g (viewR ρ) s
theorem st_vw {t : TT} {g : Yb} (h : SdT K t g) : SdT K t (vwT g) := by
  intro F O H pc σ ρ s d s' st e Q q
  refine h (upF F O H) (upO O) H pc σ _ s d _ ⟨up_wk st.wk, up_env st.wk st.env, up_src.mpr st.src⟩ e Q fun F' H' n sr => ?_
  exact q _ H' (up_back st.wk n) (up_src.mp sr)
/-- x[e], x an own list -/
def oixY (i : Nat) (e : Y) : Y := fun ρ s => bO (e ρ s) fun k s1 => match ρ[i]?, k with
  | some (.ow ds), .int n => mO (atI ds n) fun d => some (d, s1)
  | _, _ => none
theorem atI_q {F : Hp} {vs : List V} {ds : List D} {n : Int} {d : D} (h : DqAll K F vs ds) (e : atI ds n = some d) : ∃ v, atI vs n = some v ∧ Dq K F v d := by
  unfold atI at e ⊢
  rw [h.len]
  cases z : ixN ds.length n with
  | none => rw [z] at e; cases e
  | some j =>
    rw [z] at e
    exact h.get e
theorem sd_oix {i : Nat} (h : SdY K te ge) : SdY K (tOp (rIxL K) (tVar i) te) (oixY i ge) := by
  intro F O H pc σ ρ s d s' st e Q q
  obtain ⟨k, s1, e1, e⟩ := bO_some e
  split at e
  · rename_i ds n er
    obtain ⟨z, e2, e⟩ := mO_some e
    cases e
    obtain ⟨v, h1, a, vs, rfl, h3, h4, h5⟩ := st.env.at_ i _ er
    refine ⟨.ref a, h1, ?_⟩
    refine h F O H pc σ ρ s _ _ st e1 _ fun v F1 H1 n1 sr1 d1 => ?_
    obtain ⟨x, e3, d3⟩ := atI_q h5 e2
    refine ⟨a, vs, n, x, rfl, d1.int_inv, SqL.of ?_, e3, q x F1 H1 n1 sr1 (d3.mono n1.ff)⟩
    rw [n1.own a (by rw [h3]; exact fun z => nomatch z) (by rw [h3]; exact fun z => nomatch z)]
    exact h4
  · cases e
end
end DL

set_option Elab.async false
set_option linter.all false
set_option maxRecDepth 100000
set_option maxHeartbeats 4000000
/-! DL3: what operations and builtins do with data. -/
namespace DL
open PySem PySem.Spec PyProof.Rows L2

abbrev QK (K : PySem.W.Frag) (F H : Hp) (Q : VK) (z : D) : Prop :=
  ∀ v F' H', Same H H' → Same F F' → Same F' H' → (∀ a o, F' a = some o → F a = some o ∨ H a = none) → Dq K F' v z → Q v H'
section
variable {K : PySem.W.Frag} {F H : Hp} {O : Om} {Q : VK} {z : D} {v : V} {vs : List V} {ds : List D} {p : Addr}
theorem fin0 (w : Wk F O H) (q : QK K F H Q z) (d : Dq K F v z) : Q v H := q v F H (Same.refl _) (Same.refl _) w.fh (fun _ _ h => .inl h) d
theorem Wk.nF (w : Wk F O H) (hp : H p = none) : F p = none := by
  cases z : F p with
  | none => rfl
  | some u => rw [w.fh _ _ z] at hp; cases hp
theorem fin_new {o : HO} (w : Wk F O H) (q : QK K F H Q z) (hp : H p = none) (d : Dq K (upd F p o) (.ref p) z) : Q (.ref p) (upd H p o) := by
  have n := Ny.alloc (o := o) w hp
  exact q _ _ _ (same_new hp) n.ff n.fh n.new d
theorem finL (w : Wk F O H) (q : QK K F H Q (.list ds)) (hp : H p = none) (d : DqAll K F vs ds) : Q (.ref p) (upd H p (.lst vs)) :=
  fin_new w q hp (.lst upd_same (d.mono (same_new (w.nF hp))))
theorem finT {its : List Value} (w : Wk F O H) (q : QK K F H Q (.tuple ds)) (hp : H p = none) (d : DqAll K F vs ds) : Q (.ref p) (upd H p (.frz (tup0 its) (.tup vs))) :=
  fin_new w q hp (.tup (.inl ⟨its, upd_same⟩) (d.mono (same_new (w.nF hp))))
theorem Wk.l (w : Wk F O H) {a : Addr} (h : F a = some (.lst vs)) : SqL K H a vs := SqL.of (w.fh _ _ h)
theorem Wk.t (w : Wk F O H) {a : Addr} (h : TD K F a vs) : SqT K H a vs := (h.mono w.fh).sq
theorem dqAll_nil (h : DqAll K F vs ds) : vs = [] ↔ ds = [] := by
  cases h with
  | nil => simp
  | cons _ _ => simp
end
theorem opr_or {X : Cx} {f : Value → Value → Sem Value} {r r' : R2} (h : OpR X f r) (h' : OpR X f r') : OpR X f (fun x y H Q => r x y H Q ∨ r' x y H Q) := by
  intro pins s σ H x y v u Q I rx ry q
  rcases q with q | q
  · exact h pins s σ H x y v u Q I rx ry q
  · exact h' pins s σ H x y v u Q I rx ry q
/-! ### + -/
def rInt2 (g : Int → Int → V) : R2 := rI0 g
def addD : D → D → Option D
  | .int i, .int j => some (.int (i + j))
  | .list a, .list b => if a.length + b.length ≤ lim then some (.list (a ++ b)) else none
  | .tuple a, .tuple b => if a.length + b.length ≤ lim then some (.tuple (a ++ b)) else none
  | .str a, .str b => if a.length + b.length ≤ lim then some (.str (a ++ b)) else none
  | _, _ => none
def rAdds : R2 := fun x y H Q => ∃ i j, x = .str i ∧ y = .str j ∧ i.length + j.length ≤ sizeLine ∧ Q (.str (i ++ j)) H
def rAddA (K : PySem.W.Frag) : R2 := fun x y H Q => (rI0 (fun i j => .int (i + j)) x y H Q ∨ rCat x y H Q) ∨ (rCat0 K x y H Q ∨ rAdds x y H Q)
theorem op_addA {X : Cx} : OpR X (binaryOp .Add) (rAddA X.K) := opr_or (opr_or op_add op_cat) (opr_or op_cat0 op_add_str)
theorem s2_add {K : PySem.W.Frag} : Sd2 K (rAddA K) addD := by
  intro F O H x y a b d w hx hy e Q q
  unfold addD at e
  split at e
  · cases e
    exact .inl (.inl ⟨_, _, hx.int_inv, hy.int_inv, fin0 w q (.int _)⟩)
  · split at e
    · rename_i hl
      cases e
      obtain ⟨p, vs, rfl, h1, h2⟩ := hx.lst_inv
      obtain ⟨p2, ws, rfl, h3, h4⟩ := hy.lst_inv
      exact .inl (.inr ⟨p, p2, vs, ws, rfl, rfl, w.fh _ _ h1, w.fh _ _ h3, lim_le (by rw [h2.len, h4.len]; exact hl), fun l hl => finL w q hl (h2.append h4)⟩)
    · cases e
  · split at e
    · rename_i hl
      cases e
      obtain ⟨p, vs, rfl, h1, h2⟩ := hx.tup_inv
      obtain ⟨p2, ws, rfl, h3, h4⟩ := hy.tup_inv
      refine .inr (.inl ⟨p, p2, vs, ws, rfl, rfl, w.t h1, w.t h3, lim_le (by rw [h2.len, h4.len]; exact hl), fun z => ?_, fun _ z => ?_, fun _ _ l its hl => finT w q hl (h2.append h4)⟩)
      · subst z
        cases h2
        exact fin0 w q hy
      · subst z
        cases h4
        rw [List.append_nil] at q
        exact fin0 w q hx
    · cases e
  · split at e
    · rename_i hl
      cases e
      exact .inr (.inr ⟨_, _, hx.str_inv, hy.str_inv, lim_le hl, fin0 w q (.str _)⟩)
    · cases e
  · cases e

/-! ### - * // % ** -/
def i2D (c : Int → Int → Bool) (g : Int → Int → Int) : D → D → Option D
  | .int i, .int j => if c i j = true then some (.int (g i j)) else none
  | _, _ => none
theorem s2_I {K : PySem.W.Frag} {C : Int → Int → Prop} {c : Int → Int → Bool} {g : Int → Int → Int} (hc : ∀ i j, c i j = true → C i j) : Sd2 K (rI C fun i j => .int (g i j)) (i2D c g) := by
  intro F O H x y a b d w hx hy e Q q
  unfold i2D at e
  split at e
  · split at e
    · rename_i h
      cases e
      exact ⟨_, _, hx.int_inv, hy.int_inv, hc _ _ h, fin0 w q (.int _)⟩
    · cases e
  · cases e
def subD : D → D → Option D
  | .int i, .int j => some (.int (i - j))
  | _, _ => none
theorem s2_sub {K : PySem.W.Frag} : Sd2 K (rI0 fun i j => .int (i - j)) subD := by
  intro F O H x y a b d w hx hy e Q q
  unfold subD at e
  split at e
  · cases e
    exact ⟨_, _, hx.int_inv, hy.int_inv, fin0 w q (.int _)⟩
  · cases e
/-- * : ints of which one is below 2 ^ 64; a list, a tuple times an int -/
def mulD : D → D → Option D
  | .int i, .int j => if (decide (-(2 ^ 64) < i) && decide (i < 2 ^ 64)) || (decide (-(2 ^ 64) < j) && decide (j < 2 ^ 64)) then some (.int (i * j)) else none
  | .list a, .int k => if (decide (-(2 ^ 62) ≤ k) && decide (k < 2 ^ 62)) && decide (a.length * k.toNat ≤ lim) then some (.list (List.replicate k.toNat a).flatten) else none
  | _, _ => none
def rMulA : R2 := fun x y H Q => rI CMul (fun i j => .int (i * j)) x y H Q ∨ rRep x y H Q
theorem op_mulA {X : Cx} : OpR X (binaryOp .Mult) rMulA := opr_or op_mul op_rep
theorem dqAll_rep {K : PySem.W.Frag} {F : Hp} {vs : List V} {ds : List D} (h : DqAll K F vs ds) : ∀ n : Nat, DqAll K F (List.replicate n vs).flatten (List.replicate n ds).flatten
  | 0 => .nil
  | n + 1 => by
    rw [List.replicate_succ, List.replicate_succ, List.flatten_cons, List.flatten_cons]
    exact h.append (dqAll_rep h n)
theorem s2_mul {K : PySem.W.Frag} : Sd2 K rMulA mulD := by
  intro F O H x y a b d w hx hy e Q q
  unfold mulD at e
  split at e
  · split at e
    · rename_i h
      cases e
      refine .inl ⟨_, _, hx.int_inv, hy.int_inv, ?_, fin0 w q (.int _)⟩
      simp only [Bool.or_eq_true, Bool.and_eq_true, decide_eq_true_eq] at h
      exact h
    · cases e
  · split at e
    · rename_i h
      cases e
      simp only [Bool.and_eq_true, decide_eq_true_eq] at h
      obtain ⟨⟨k1, k2⟩, k3⟩ := h
      obtain ⟨p, vs, rfl, h1, h2⟩ := hx.lst_inv
      exact .inr ⟨p, _, vs, rfl, hy.int_inv, w.fh _ _ h1, by omega, by omega, lim_le (by rw [h2.len]; exact k3), fun l hl => finL w q hl (dqAll_rep h2 _)⟩
    · cases e
  · cases e
def fdivD : D → D → Option D := i2D (fun _ j => j != 0 && decide (j.natAbs < 1073741824)) fun i j => i.fdiv j
theorem s2_fdiv {K : PySem.W.Frag} : Sd2 K (rI CDivN fun i j => .int (i.fdiv j)) fdivD := s2_I fun i j h => by
  simp only [Bool.and_eq_true, bne_iff_ne, decide_eq_true_eq] at h
  exact h
def modD : D → D → Option D := i2D (fun _ j => j != 0) fun i j => i.fmod j
theorem s2_mod {K : PySem.W.Frag} : Sd2 K (rI (fun _ j => j ≠ 0) fun i j => .int (i.fmod j)) modD := s2_I fun i j h => by
  simp only [bne_iff_ne] at h
  exact h
def powD : D → D → Option D := i2D (fun i j => decide (0 ≤ j) && decide (j ≤ 1000000) && decide (i.natAbs < 2 ^ 64)) fun i j => i ^ j.toNat
theorem s2_pow {K : PySem.W.Frag} : Sd2 K (rI CPow fun i j => .int (i ^ j.toNat)) powD := s2_I fun i j h => by
  simp only [Bool.and_eq_true, decide_eq_true_eq] at h
  exact ⟨h.1.1, h.1.2, h.2⟩
def negD : D → Option D
  | .int i => some (.int (-i))
  | _ => none
theorem s1_neg {K : PySem.W.Frag} : Sd1 K (rU fun i => .int (-i)) negD := by
  intro F O H x a d w hx e Q q
  unfold negD at e
  split at e
  · cases e
    exact ⟨_, hx.int_inv, fin0 w q (.int _)⟩
  · cases e

/-! ### comparisons -/
def eqD (a b : D) : Option D := if SeqAt.shaped a = true ∧ SeqAt.shaped b = true then some (.bool (PyData.eqv a b)) else match a, b with
  | .str x, .str y => some (.bool (x == y))
  | _, _ => none
def neD (a b : D) : Option D := if SeqAt.shaped a = true ∧ SeqAt.shaped b = true then some (.bool (!PyData.eqv a b)) else match a, b with
  | .str x, .str y => some (.bool (!(x == y)))
  | _, _ => none
def rEqA (K : PySem.W.Frag) : R2 := fun x y H Q => rEqD K x y H Q ∨ rEq x y H Q
def rNeA (K : PySem.W.Frag) : R2 := fun x y H Q => rNeD K x y H Q ∨ rNe x y H Q
theorem op_eqA {X : Cx} (hu : X.A.units + 64 < cLine) : OpR X (compareOp .Eq) (rEqA X.K) := opr_or (op_eqD hu) op_eq
theorem op_neA {X : Cx} (hu : X.A.units + 64 < cLine) : OpR X (compareOp .NotEq) (rNeA X.K) := opr_or (op_neD hu) op_ne
theorem s2_eq {K : PySem.W.Frag} : Sd2 K (rEqA K) eqD := by
  intro F O H x y a b d w hx hy e Q q
  unfold eqD at e
  split at e
  · rename_i h
    cases e
    exact .inl ⟨a, b, (hx.mono w.fh).dp (SeqAt.canLay_of_shaped h.1), (hy.mono w.fh).dp (SeqAt.canLay_of_shaped h.2), h.1, h.2, fin0 w q (.bl _)⟩
  · split at e
    · cases e
      rw [hx.str_inv, hy.str_inv]
      exact .inr ⟨rfl, by rw [dec_str]; exact fin0 w q (.bl _)⟩
    · cases e
theorem s2_ne {K : PySem.W.Frag} : Sd2 K (rNeA K) neD := by
  intro F O H x y a b d w hx hy e Q q
  unfold neD at e
  split at e
  · rename_i h
    cases e
    exact .inl ⟨a, b, (hx.mono w.fh).dp (SeqAt.canLay_of_shaped h.1), (hy.mono w.fh).dp (SeqAt.canLay_of_shaped h.2), h.1, h.2, fin0 w q (.bl _)⟩
  · split at e
    · cases e
      rw [hx.str_inv, hy.str_inv]
      exact .inr ⟨rfl, by rw [dec_str]; exact fin0 w q (.bl _)⟩
    · cases e
def cmpD (g : Int → Int → Bool) : D → D → Option D
  | .int i, .int j => some (.bool (g i j))
  | _, _ => none
theorem s2_cmp {K : PySem.W.Frag} {g : Int → Int → Bool} : Sd2 K (rI0 fun i j => .bl (g i j)) (cmpD g) := by
  intro F O H x y a b d w hx hy e Q q
  unfold cmpD at e
  split at e
  · cases e
    exact ⟨_, _, hx.int_inv, hy.int_inv, fin0 w q (.bl _)⟩
  · cases e
abbrev ltD := cmpD fun i j => decide (i < j)
abbrev leD := cmpD fun i j => decide (i ≤ j)
abbrev gtD := cmpD fun i j => decide (j < i)
abbrev geD := cmpD fun i j => decide (j ≤ i)
/-! in, not in: lists and tuples of data of any depth -/
def rInA (K : PySem.W.Frag) (neg : Bool) : R2 := fun x y H Q => ∃ d ds, Dp K H x d ∧ (Dp K H y (.list ds) ∨ Dp K H y (.tuple ds)) ∧ SeqAt.shaped d = true ∧ SeqAt.shaped (.list ds) = true ∧ Q (.bl (if neg then !ds.any fun z => PyData.eqv z d else ds.any fun z => PyData.eqv z d)) H
theorem op_inA {X : Cx} (hu : X.A.units + 65 < cLine) : OpR X (compareOp .In) (rInA X.K false) := by
  intro pins s σ H x y v u Q I rx ry h
  obtain ⟨d, ds, hd, he, sd, se, q⟩ := h
  obtain ⟨as, r1⟩ := Dp.reads I d x v hd rx
  rcases he with he | he
  · obtain ⟨bs, r2⟩ := Dp.reads I (.list ds) y u he ry
    exact SeqAt.in_list_reads r2 r1 (SeqAt.canLay_of_shaped se) (SeqAt.canLay_of_shaped sd) (room_in_shaped sd hu) ⟨.bl _, H, I, rfl, q⟩
  · obtain ⟨bs, r2⟩ := Dp.reads I (.tuple ds) y u he ry
    exact SeqAt.in_tuple_reads r2 r1 (SeqAt.canLay_of_shaped se) (SeqAt.canLay_of_shaped sd) (room_in_shaped sd hu) ⟨.bl _, H, I, rfl, q⟩
theorem op_notInA {X : Cx} (hu : X.A.units + 65 < cLine) : OpR X (compareOp .NotIn) (rInA X.K true) := by
  intro pins s σ H x y v u Q I rx ry h
  obtain ⟨d, ds, hd, he, sd, se, q⟩ := h
  obtain ⟨as, r1⟩ := Dp.reads I d x v hd rx
  rcases he with he | he
  · obtain ⟨bs, r2⟩ := Dp.reads I (.list ds) y u he ry
    exact SeqAt.notIn_list_reads r2 r1 (SeqAt.canLay_of_shaped se) (SeqAt.canLay_of_shaped sd) (room_in_shaped sd hu) ⟨.bl _, H, I, rfl, q⟩
  · obtain ⟨bs, r2⟩ := Dp.reads I (.tuple ds) y u he ry
    exact SeqAt.notIn_tuple_reads r2 r1 (SeqAt.canLay_of_shaped se) (SeqAt.canLay_of_shaped sd) (room_in_shaped sd hu) ⟨.bl _, H, I, rfl, q⟩
def inD (neg : Bool) (x y : D) : Option D := match y with
  | .list ds | .tuple ds => if SeqAt.shaped x = true ∧ SeqAt.shaped (.list ds) = true then some (.bool (if neg then !ds.any fun z => PyData.eqv z x else ds.any fun z => PyData.eqv z x)) else none
  | _ => none
theorem s2_in {K : PySem.W.Frag} {neg : Bool} : Sd2 K (rInA K neg) (inD neg) := by
  intro F O H x y a b d w hx hy e Q q
  unfold inD at e
  split at e
  · split at e
    · rename_i h
      cases e
      exact ⟨a, _, (hx.mono w.fh).dp (SeqAt.canLay_of_shaped h.1), .inl ((hy.mono w.fh).dp (SeqAt.canLay_of_shaped h.2)), h.1, h.2, fin0 w q (.bl _)⟩
    · cases e
  · split at e
    · rename_i h
      cases e
      exact ⟨a, _, (hx.mono w.fh).dp (SeqAt.canLay_of_shaped h.1), .inr ((hy.mono w.fh).dp (SeqAt.canLay_of_shaped h.2)), h.1, h.2, fin0 w q (.bl _)⟩
    · cases e
  · cases e
/-! is None -/
def isND : D → D → Option D
  | .none, .none => some (.bool true)
  | _, .none => some (.bool false)
  | _, _ => none
def notND : D → D → Option D
  | .none, .none => some (.bool false)
  | _, .none => some (.bool true)
  | _, _ => none
theorem dq_non_iff {K : PySem.W.Frag} {F : Hp} {v : V} {d : D} (h : Dq K F v d) : (v = .non ↔ d = .none) := by
  cases h <;> simp
theorem s2_isN {K : PySem.W.Frag} : Sd2 K (fun x y H Q => y = .non ∧ Q (.bl (decide (x = .non))) H) isND := by
  intro F O H x y a b d w hx hy e Q q
  unfold isND at e
  split at e
  · cases e
    refine ⟨hy.non_inv, ?_⟩
    rw [decide_eq_true hx.non_inv]
    exact fin0 w q (.bl _)
  · rename_i hne
    cases e
    refine ⟨hy.non_inv, ?_⟩
    rw [decide_eq_false fun z => hne ((dq_non_iff hx).mp z)]
    exact fin0 w q (.bl _)
  · cases e
theorem s2_notN {K : PySem.W.Frag} : Sd2 K (fun x y H Q => y = .non ∧ Q (.bl (!decide (x = .non))) H) notND := by
  intro F O H x y a b d w hx hy e Q q
  unfold notND at e
  split at e
  · cases e
    refine ⟨hy.non_inv, ?_⟩
    rw [decide_eq_true hx.non_inv]
    exact fin0 w q (.bl _)
  · rename_i hne
    cases e
    refine ⟨hy.non_inv, ?_⟩
    rw [decide_eq_false fun z => hne ((dq_non_iff hx).mp z)]
    exact fin0 w q (.bl _)
  · cases e

/-! ### subscripts, slices -/
def ixD : D → D → Option D
  | .list ds, .int i => atI ds i
  | .tuple ds, .int i => atI ds i
  | _, _ => none
theorem s2_ix {K : PySem.W.Frag} : Sd2 K (rIx K) ixD := by
  intro F O H x y a b d w hx hy e Q q
  unfold ixD at e
  split at e
  · obtain ⟨p, vs, rfl, h1, h2⟩ := hx.lst_inv
    obtain ⟨u, e3, d3⟩ := atI_q h2 e
    exact .inl ⟨p, vs, _, u, rfl, hy.int_inv, w.l h1, e3, fin0 w q d3⟩
  · obtain ⟨p, vs, rfl, h1, h2⟩ := hx.tup_inv
    obtain ⟨u, e3, d3⟩ := atI_q h2 e
    exact .inr (.inl ⟨p, vs, _, u, rfl, hy.int_inv, w.t h1, e3, fin0 w q d3⟩)
  · cases e
def cutL {α : Type} (xs : List α) (lo hi : Option Int) : List α := (xs.drop (HT.sIx xs.length 0 lo)).take (HT.sIx xs.length xs.length hi - HT.sIx xs.length 0 lo)
theorem cut_q {K : PySem.W.Frag} {F : Hp} {vs : List V} {ds : List D} {lo hi : Option Int} (h : DqAll K F vs ds) : DqAll K F (cutV vs lo hi) (cutL ds lo hi) := by
  unfold cutV cutL
  rw [h.len]
  exact (h.drop _).take _
def rSlA0 (K : PySem.W.Frag) : V → Option Int → Option Int → Hp → VK → Prop := fun x lo hi H Q => rSlL K x lo hi H Q ∨ rSl0 K x lo hi H Q
theorem sl_A0 {X : Cx} : SlR X (rSlA0 X.K) := sl_list.or sl_tup0
def slD : D → Option Int → Option Int → Option D
  | .list ds, lo, hi => some (.list (cutL ds lo hi))
  | .tuple ds, lo, hi => some (.tuple (cutL ds lo hi))
  | _, _, _ => none
theorem ssl {K : PySem.W.Frag} : SdSl K (rSlA0 K) slD := by
  intro F O H x lo hi a d w hx e Q q
  unfold slD at e
  split at e
  · cases e
    obtain ⟨p, vs, rfl, h1, h2⟩ := hx.lst_inv
    exact .inl ⟨p, vs, rfl, w.l h1, fun l hl => finL w q hl (cut_q h2)⟩
  · cases e
    obtain ⟨p, vs, rfl, h1, h2⟩ := hx.tup_inv
    refine .inr ⟨p, vs, rfl, w.t h1, fun z => ?_, fun _ l its hl => finT w q hl (cut_q h2)⟩
    refine fin0 w q ?_
    have e : ∀ ds : List D, ds.length = vs.length → cutL ds lo hi = ds := fun ds hl => by
      unfold cutL
      rw [hl, z.1, z.2, List.drop_zero, Nat.sub_zero, ← hl, List.take_length]
    rw [e _ h2.len.symm]
    exact hx
  · cases e

/-! ### builtins -/
def lenC : List D → Option D
  | [.list ds] => some (.int ds.length)
  | [.tuple ds] => some (.int ds.length)
  | _ => none
def rLen (K : PySem.W.Frag) : List V → Hp → VK → Prop := fun xs H Q => ∃ p ys, xs = [.ref p] ∧ (SqL K H p ys ∨ SqT K H p ys) ∧ Q (.int ys.length) H
theorem one_q {K : PySem.W.Frag} {F : Hp} {vs : List V} {d : D} (h : DqAll K F vs [d]) : ∃ v, vs = [v] ∧ Dq K F v d := by
  cases h with
  | cons a b =>
    cases b
    exact ⟨_, rfl, a⟩
theorem two_q {K : PySem.W.Frag} {F : Hp} {vs : List V} {d e : D} (h : DqAll K F vs [d, e]) : ∃ v u, vs = [v, u] ∧ Dq K F v d ∧ Dq K F u e := by
  cases h with
  | cons a b =>
    obtain ⟨u, rfl, h⟩ := one_q b
    exact ⟨_, _, rfl, a, h⟩
theorem sC_len {K : PySem.W.Frag} : SdC K (rLen K) lenC := by
  intro F O H xs as d w hx e Q q
  unfold lenC at e
  split at e
  · cases e
    obtain ⟨v, rfl, h⟩ := one_q hx
    obtain ⟨p, vs, rfl, h1, h2⟩ := h.lst_inv
    refine ⟨p, vs, rfl, .inl (w.l h1), ?_⟩
    rw [h2.len]
    exact fin0 w q (.int _)
  · cases e
    obtain ⟨v, rfl, h⟩ := one_q hx
    obtain ⟨p, vs, rfl, h1, h2⟩ := h.tup_inv
    refine ⟨p, vs, rfl, .inr (w.t h1), ?_⟩
    rw [h2.len]
    exact fin0 w q (.int _)
  · cases e
/-- a list of ints -/
def intsD : List D → Option (List Int)
  | [] => some []
  | .int i :: r => match intsD r with
    | some is => some (i :: is)
    | none => none
  | _ => none
theorem ints_q {K : PySem.W.Frag} {F : Hp} : ∀ {vs : List V} {ds : List D} {is : List Int}, DqAll K F vs ds → intsD ds = some is → vs = is.map V.int
  | _, _, _, .nil, e => by cases e; rfl
  | _, _, is, .cons (d := d) (ds := r) a b, e => by
    cases d with
    | int i =>
      unfold intsD at e
      cases z : intsD r with
      | none => rw [z] at e; cases e
      | some is' =>
        rw [z] at e
        cases e
        rw [a.int_inv, ints_q b z]
        rfl
    | none => cases e
    | bool _ => cases e
    | str _ => cases e
    | list _ => cases e
    | tuple _ => cases e
    | dict _ => cases e
theorem dqAll_ints {K : PySem.W.Frag} {F : Hp} : ∀ is : List Int, DqAll K F (is.map V.int) (is.map PyData.int)
  | [] => .nil
  | i :: is => .cons (.int i) (dqAll_ints is)
theorem intsD_map : ∀ is : List Int, intsD (is.map PyData.int) = some is
  | [] => rfl
  | i :: is => by simp [intsD, intsD_map is]
def sumC : List D → Option D
  | [.list ds] => mO (intsD ds) fun is => some (.int is.sum)
  | [.tuple ds] => mO (intsD ds) fun is => some (.int is.sum)
  | _ => none
/-- sum of a tuple of ints too -/
theorem sum_tup {prog : Program} {w : World} {A : Around} {E : Value → Shared → Prop} {s : Shared} {t : Addr} {its : List Value} {ns : List Int} {Q : Value → Shared → Prop} (hh : A.handled = none) (ht : s.heap.IsTuple t its.toArray) (hi : IntsAre its ns)
    (h : ∀ g tk u, (∀ b o, s.heap.get? b = some o → g.get? b = some o) → Q (.int ns.sum u) { s with heap := g, toks := tk }) : wpAny (model prog w) A (call (.builtin "sum") [.ref t]) Q E s := by
  obtain ⟨xs, e⟩ := hi.allInts.items
  have hn : numsOf (intItems xs).toList = ns := by rw [← e]; exact hi.numsOf
  rw [nums_intItems] at hn
  rw [e] at ht
  have hlt : t < s.heap.objs.size := by
    obtain ⟨_, z, _⟩ := id ht
    exact Heap.lt_size z
  refine call_sum_walkG (wpAny_pyIter_tuple ht ⟨_, _, _, _, _, _, numAt xs, rfl, Walks.tuple (A := A.in1) hh s.heap.objs.size t (Nat.ne_of_lt hlt) (intItems xs), ⟨⟨_, Heap.get?_push_size _ rfl, rfl, rfl⟩, ht.at fun o z => Heap.get?_push_of_some _ z⟩, fun b hb => ?_, fun _ _ => intItems_at, fun g tk u hk => ?_⟩)
  · show b < (s.heap.push _).objs.size
    rw [Heap.size_push]
    rcases List.mem_cons.mp hb with z | z
    · rw [z]; exact Nat.lt_succ_self _
    · rw [List.mem_singleton.mp z]; exact Nat.lt_succ_of_lt hlt
  · have q := h g tk u fun b o z => hk b o (fun y => by rw [List.mem_singleton.mp y] at z; exact absurd (Heap.lt_size z) (Nat.lt_irrefl _)) (Heap.get?_push_of_some _ z)
    rw [show ns.sum = preSum (numAt xs) (intItems xs).size by rw [preSum_eq, List.take_of_length_le (by simp [intItems]), hn]] at q
    exact q
def rSumT (K : PySem.W.Frag) : List V → Hp → VK → Prop := fun vs H Q => ∃ (a : Addr) (ns : List Int), vs = [V.ref a] ∧ SqT K H a (ns.map V.int) ∧ Q (.int ns.sum) H
theorem cr_sumT {X : Cx} (hc : X.calm = true) : CallR X (.builtin "sum") (rSumT X.K) := by
  intro pins s σ H vs us Q I r h
  obtain ⟨a, ns, rfl, hs, q⟩ := h
  obtain ⟨its, rv, ht, _⟩ := I.tuple hs
  rw [Vals.ref1 r]
  exact sum_tup (I.ok.hd hc) ht rv.ints fun g tk u hk => ⟨.int _, H, I.kept hk, ⟨_, rfl⟩, q⟩
def rSumA (K : PySem.W.Frag) : List V → Hp → VK → Prop := fun xs H Q => rSum K xs H Q ∨ rSumT K xs H Q
theorem cr_sumA {X : Cx} (hc : X.calm = true) : CallR X (.builtin "sum") (rSumA X.K) := CallR.or (cr_sum hc) (cr_sumT hc)
theorem sC_sum {K : PySem.W.Frag} : SdC K (rSumA K) sumC := by
  intro F O H xs as d w hx e Q q
  unfold sumC at e
  split at e
  · obtain ⟨is, e1, e⟩ := mO_some e
    cases e
    obtain ⟨v, rfl, h⟩ := one_q hx
    obtain ⟨p, vs, rfl, h1, h2⟩ := h.lst_inv
    have := ints_q h2 e1
    subst this
    exact .inl ⟨p, is, rfl, w.l h1, fin0 w q (.int _)⟩
  · obtain ⟨is, e1, e⟩ := mO_some e
    cases e
    obtain ⟨v, rfl, h⟩ := one_q hx
    obtain ⟨p, vs, rfl, h1, h2⟩ := h.tup_inv
    have := ints_q h2 e1
    subst this
    exact .inr ⟨p, is, rfl, w.t h1, fin0 w q (.int _)⟩
  · cases e
/-- the least, the greatest of a list that is not empty -/
def minI : List Int → Int
  | [] => 0
  | [i] => i
  | i :: r => min i (minI r)
def maxI : List Int → Int
  | [] => 0
  | [i] => i
  | i :: r => max i (maxI r)
theorem minI_le : ∀ {is : List Int}, ∀ y ∈ is, minI is ≤ y
  | [], y, h => by cases h
  | [i], y, h => by
    rw [List.mem_singleton.mp h]
    exact Int.le_refl _
  | i :: j :: r, y, h => by
    show min i (minI (j :: r)) ≤ y
    rcases List.mem_cons.mp h with h | h
    · subst h; omega
    · have := minI_le (is := j :: r) y h
      omega
theorem minI_mem : ∀ {is : List Int}, is ≠ [] → minI is ∈ is
  | [], h => absurd rfl h
  | [i], _ => List.mem_singleton.mpr rfl
  | i :: j :: r, _ => by
    show min i (minI (j :: r)) ∈ _
    have h := minI_mem (is := j :: r) (fun z => nomatch z)
    by_cases c : i ≤ minI (j :: r)
    · rw [Int.min_eq_left c]; exact List.mem_cons_self
    · rw [Int.min_eq_right (by omega)]; exact List.mem_cons_of_mem _ h
theorem maxI_ge : ∀ {is : List Int}, ∀ y ∈ is, y ≤ maxI is
  | [], y, h => by cases h
  | [i], y, h => by
    rw [List.mem_singleton.mp h]
    exact Int.le_refl _
  | i :: j :: r, y, h => by
    show y ≤ max i (maxI (j :: r))
    rcases List.mem_cons.mp h with h | h
    · subst h; omega
    · have := maxI_ge (is := j :: r) y h
      omega
theorem maxI_mem : ∀ {is : List Int}, is ≠ [] → maxI is ∈ is
  | [], h => absurd rfl h
  | [i], _ => List.mem_singleton.mpr rfl
  | i :: j :: r, _ => by
    show max i (maxI (j :: r)) ∈ _
    have h := maxI_mem (is := j :: r) (fun z => nomatch z)
    by_cases c : i ≤ maxI (j :: r)
    · rw [Int.max_eq_right c]; exact List.mem_cons_of_mem _ h
    · rw [Int.max_eq_left (by omega)]; exact List.mem_cons_self
def minC : List D → Option D
  | [.list ds] => mO (intsD ds) fun is => if is = [] then none else some (.int (minI is))
  | [.int i, .int j] => some (.int (min i j))
  | _ => none
def maxC : List D → Option D
  | [.list ds] => mO (intsD ds) fun is => if is = [] then none else some (.int (maxI is))
  | [.int i, .int j] => some (.int (max i j))
  | _ => none
def rMin2 : List V → Hp → VK → Prop := fun xs H Q => ∃ i j, xs = [.int i, .int j] ∧ Q (.int (if j < i then j else i)) H
def rMax2 : List V → Hp → VK → Prop := fun xs H Q => ∃ i j, xs = [.int i, .int j] ∧ Q (.int (if j > i then j else i)) H
def rMinA (K : PySem.W.Frag) : List V → Hp → VK → Prop := fun xs H Q => rMin K xs H Q ∨ rMin2 xs H Q
def rMaxA (K : PySem.W.Frag) : List V → Hp → VK → Prop := fun xs H Q => rMax K xs H Q ∨ rMax2 xs H Q
theorem cr_minA {X : Cx} (hc : X.calm = true) : CallR X (.builtin "min") (rMinA X.K) := (cr_min hc).or (call_min2 hc)
theorem cr_maxA {X : Cx} (hc : X.calm = true) : CallR X (.builtin "max") (rMaxA X.K) := (cr_max hc).or (call_max2 hc)
theorem sC_min {K : PySem.W.Frag} : SdC K (rMinA K) minC := by
  intro F O H xs as d w hx e Q q
  unfold minC at e
  split at e
  · obtain ⟨is, e1, e⟩ := mO_some e
    split at e
    · cases e
    · rename_i hne
      cases e
      obtain ⟨v, rfl, h⟩ := one_q hx
      obtain ⟨p, vs, rfl, h1, h2⟩ := h.lst_inv
      have := ints_q h2 e1
      subst this
      refine .inl ⟨p, is, rfl, w.l h1, ?_, fun m hm hle => ?_⟩
      · cases is with
        | nil => exact absurd rfl hne
        | cons _ _ => exact Nat.succ_pos _
      · have e : m = minI is := Int.le_antisymm (hle _ (minI_mem hne)) (minI_le _ hm)
        rw [e]
        exact fin0 w q (.int _)
  · cases e
    obtain ⟨v, u, rfl, h, h'⟩ := two_q hx
    cases h
    cases h'
    refine .inr ⟨_, _, rfl, ?_⟩
    rename_i i j
    have e : (if j < i then j else i) = min i j := by split <;> omega
    rw [e]
    exact fin0 w q (.int _)
  · cases e
theorem sC_max {K : PySem.W.Frag} : SdC K (rMaxA K) maxC := by
  intro F O H xs as d w hx e Q q
  unfold maxC at e
  split at e
  · obtain ⟨is, e1, e⟩ := mO_some e
    split at e
    · cases e
    · rename_i hne
      cases e
      obtain ⟨v, rfl, h⟩ := one_q hx
      obtain ⟨p, vs, rfl, h1, h2⟩ := h.lst_inv
      have := ints_q h2 e1
      subst this
      refine .inl ⟨p, is, rfl, w.l h1, ?_, fun m hm hle => ?_⟩
      · cases is with
        | nil => exact absurd rfl hne
        | cons _ _ => exact Nat.succ_pos _
      · have e : m = maxI is := Int.le_antisymm (maxI_ge _ hm) (hle _ (maxI_mem hne))
        rw [e]
        exact fin0 w q (.int _)
  · cases e
    obtain ⟨v, u, rfl, h, h'⟩ := two_q hx
    cases h
    cases h'
    refine .inr ⟨_, _, rfl, ?_⟩
    rename_i i j
    have e : (if j > i then j else i) = max i j := by split <;> omega
    rw [e]
    exact fin0 w q (.int _)
  · cases e
def absC : List D → Option D
  | [.int i] => some (.int (if i < 0 then -i else i))
  | _ => none
theorem sC_abs {K : PySem.W.Frag} : SdC K (fun xs H Q => ∃ i, xs = [.int i] ∧ Q (.int (if i < 0 then -i else i)) H) absC := by
  intro F O H xs as d w hx e Q q
  unfold absC at e
  split at e
  · cases e
    obtain ⟨v, rfl, h⟩ := one_q hx
    cases h
    exact ⟨_, rfl, fin0 w q (.int _)⟩
  · cases e
def intC : List D → Option D
  | [.int i] => some (.int i)
  | [.bool b] => some (.int (if b then 1 else 0))
  | _ => none
theorem sC_int {K : PySem.W.Frag} : SdC K (fun xs H Q => (∃ i, xs = [.int i] ∧ Q (.int i) H) ∨ ∃ k, xs = [.bl k] ∧ Q (.int (if k then 1 else 0)) H) intC := by
  intro F O H xs as d w hx e Q q
  unfold intC at e
  split at e
  · cases e
    obtain ⟨v, rfl, h⟩ := one_q hx
    cases h
    exact .inl ⟨_, rfl, fin0 w q (.int _)⟩
  · cases e
    obtain ⟨v, rfl, h⟩ := one_q hx
    cases h
    exact .inr ⟨_, rfl, fin0 w q (.int _)⟩
  · cases e
/-- sorted ints -/
def insI (i : Int) : List Int → List Int
  | [] => [i]
  | j :: r => if i ≤ j then i :: j :: r else j :: insI i r
def sortI : List Int → List Int
  | [] => []
  | i :: r => insI i (sortI r)
theorem insI_perm (i : Int) : ∀ is : List Int, (insI i is).Perm (i :: is)
  | [] => .refl _
  | j :: r => by
    unfold insI
    split
    · exact .refl _
    · exact ((insI_perm i r).cons j).trans (.swap i j r)
theorem sortI_perm : ∀ is : List Int, (sortI is).Perm is
  | [] => .refl _
  | i :: r => (insI_perm i (sortI r)).trans ((sortI_perm r).cons i)
theorem insI_sorted (i : Int) : ∀ {is : List Int}, is.Pairwise (· ≤ ·) → (insI i is).Pairwise (· ≤ ·)
  | [], _ => List.pairwise_singleton _ _
  | j :: r, h => by
    unfold insI
    obtain ⟨h1, h2⟩ := List.pairwise_cons.mp h
    split
    · rename_i hij
      refine List.pairwise_cons.mpr ⟨fun x hx => ?_, h⟩
      rcases List.mem_cons.mp hx with e | hx
      · rw [e]; exact hij
      · exact Int.le_trans hij (h1 x hx)
    · rename_i hij
      refine List.pairwise_cons.mpr ⟨fun x hx => ?_, insI_sorted i h2⟩
      rcases List.mem_cons.mp ((insI_perm i r).mem_iff.mp hx) with e | hx
      · rw [e]; omega
      · exact h1 x hx
theorem sortI_sorted : ∀ is : List Int, (sortI is).Pairwise (· ≤ ·)
  | [] => List.Pairwise.nil
  | i :: r => insI_sorted i (sortI_sorted r)
theorem sorted_one {as bs : List Int} (p : as.Perm bs) (ha : as.Pairwise (· ≤ ·)) (hb : bs.Pairwise (· ≤ ·)) : as = bs := by
  induction as generalizing bs with
  | nil => exact (List.Perm.nil_eq p)
  | cons a as ih =>
    cases bs with
    | nil => exact absurd p.symm (fun q => by have := q.length_eq; simp at this)
    | cons b bs =>
      obtain ⟨h1, h2⟩ := List.pairwise_cons.mp ha
      obtain ⟨h3, h4⟩ := List.pairwise_cons.mp hb
      have e : a = b := by
        have m1 : a ∈ b :: bs := p.mem_iff.mp List.mem_cons_self
        have m2 : b ∈ a :: as := p.mem_iff.mpr List.mem_cons_self
        rcases List.mem_cons.mp m1 with e | m1
        · exact e
        · rcases List.mem_cons.mp m2 with e | m2
          · exact e.symm
          · exact Int.le_antisymm (h1 b m2) (h3 a m1)
      subst e
      rw [ih (List.Perm.cons_inv p) h2 h4]
def sortC : List D → Option (List D)
  | [.list ds] => mO (intsD ds) fun is => some ((sortI is).map .int)
  | [.tuple ds] => mO (intsD ds) fun is => some ((sortI is).map .int)
  | _ => none
/-- a call that makes a new list -/
def SdCN (K : PySem.W.Frag) (r : List V → Hp → VK → Prop) (f : List D → Option (List D)) : Prop := ∀ F O H xs as ds, Wk F O H → DqAll K F xs as → f as = some ds → ∀ Q : VK,
  (∀ p vs, H p = none → DqAll K F vs ds → Q (.ref p) (upd H p (.lst vs))) → r xs H Q
def Sd2N (K : PySem.W.Frag) (r : R2) (f : D → D → Option (List D)) : Prop := ∀ F O H x y a b ds, Wk F O H → Dq K F x a → Dq K F y b → f a b = some ds → ∀ Q : VK,
  (∀ p vs, H p = none → DqAll K F vs ds → Q (.ref p) (upd H p (.lst vs))) → r x y H Q
def SdSlN (K : PySem.W.Frag) (r : V → Option Int → Option Int → Hp → VK → Prop) (f : D → Option Int → Option Int → Option (List D)) : Prop := ∀ F O H x lo hi a ds, Wk F O H → Dq K F x a → f a lo hi = some ds → ∀ Q : VK,
  (∀ p vs, H p = none → DqAll K F vs ds → Q (.ref p) (upd H p (.lst vs))) → r x lo hi H Q
/-- sorted of a tuple of ints too -/
def rSortedTI (K : PySem.W.Frag) : List V → Hp → VK → Prop := fun vs H Q => ∃ (p : Addr) (ns : List Int), vs = [V.ref p] ∧ SqT K H p (ns.map V.int) ∧
  ∀ (out : List Int) (l : Addr), out.Perm ns → out.Pairwise (· ≤ ·) → H l = none → Q (.ref l) (upd H l (.lst (out.map V.int)))
theorem cr_sortedTI {X : Cx} : CallR X (.builtin "sorted") (rSortedTI X.K) := by
  intro pins s σ H vs us Q I r h
  obtain ⟨p, ns, rfl, hs, q⟩ := h
  obtain ⟨its, rv, ht, hz⟩ := I.tuple hs
  rw [Vals.ref1 r]
  have hi := rv.ints
  have hzi : its.length ≤ sizeLine := by rw [← rv.length]; exact hz
  obtain ⟨o, ho, hc, n, hd⟩ := id ht
  refine Calls.call_function_entry PyProof.Rows.kind_sorted PyProof.Rows.plain_sorted PyProof.Rows.entry_sorted (PyProof.Rows.args_sorted1 _) ?_
  unfold Builtin.«sorted»
  refine wpAny_bind (m := checkCount "sorted" 1 1 _) (wpAny_pure (wpAny_bind (wpAny_collect_seq p (.inr rfl) ho hc hd (fun g kp => ?_) (by rw [List.size_toArray]; exact hzi))))
  refine wpAny_bind (wpAny_newList ?_ hzi)
  have hn : (g.push (PyProof.Rows.seqObj "list" its.toArray 0)).get? g.objs.size = some (PyProof.Rows.seqObj "list" its.toArray 0) := Heap.get?_push_size _ rfl
  have kept : ∀ b u, s.heap.get? b = some u → b < g.objs.size ∧ g.get? b = some u := fun b u e => ⟨Heap.lt_size (kp b u e), kp b u e⟩
  have hnH : H g.objs.size = none := (I.hok.kept kp).fresh (Nat.le_refl _)
  have hns : s.heap.get? g.objs.size = none := by
    cases z : s.heap.get? g.objs.size with
    | none => rfl
    | some u => exact absurd (kept _ u z).1 (Nat.lt_irrefl _)
  refine wpAny_bind (wpAny_holding (wpAny_call_entry PyProof.Rows.slot_list_sort ⟨_, hn, rfl⟩ PyProof.Rows.entry_list_sort
    (SrtO.list_sort_ord SrtO.swo_int hn hzi (fun h2 => SrtO.ints_sortable hi h2) fun out h1 h2 => ⟨_, rfl, wpAny_pure ⟨_, rfl, ?_⟩⟩) (PyProof.Rows.args_list_sort _)))
  obtain ⟨k1, k2, k3⟩ := SrtO.ints_out hi h1 h2
  obtain ⟨ep, he'⟩ := PyProof.Rows.sortedHeap_at (vs := its) (out := out.toArray) hn
  have hlen : ((out.map SrtO.iv).map V.int).length ≤ sizeLine := by
    rw [List.length_map] at hz ⊢
    rw [k2.length_eq]
    exact hz
  have old : ∀ b u, s.heap.get? b = some u → (PyProof.Rows.sortedHeap (g.push (PyProof.Rows.seqObj "list" its.toArray 0)) g.objs.size its out.toArray).get? b = some u := fun b u e => by
    obtain ⟨z1, z2⟩ := kept b u e
    rw [PyProof.Rows.sortedHeap_old (Nat.ne_of_lt z1) (Nat.lt_of_lt_of_le z1 (by rw [PyProof.Rows.size_push']; exact Nat.le_succ _))]
    exact Heap.get?_push_of_some _ z2
  exact ⟨.ref _, upd H g.objs.size (.lst ((out.map SrtO.iv).map V.int)), I.laidN (t' := s.toks) old hns hnH ⟨hlen, out, ep, vals_of_ints k1, he'⟩, rfl, q _ _ k2 k3 hnH⟩
def rSortedA (K : PySem.W.Frag) : List V → Hp → VK → Prop := fun xs H Q => rSortedI K xs H Q ∨ rSortedTI K xs H Q
theorem cr_sortedA {X : Cx} : CallR X (.builtin "sorted") (rSortedA X.K) := CallR.or cr_sortedI cr_sortedTI
theorem sCN_sorted {K : PySem.W.Frag} : SdCN K (rSortedA K) sortC := by
  intro F O H xs as ds w hx e Q q
  unfold sortC at e
  split at e
  · obtain ⟨is, e1, e⟩ := mO_some e
    cases e
    obtain ⟨v, rfl, h⟩ := one_q hx
    obtain ⟨p, vs, rfl, h1, h2⟩ := h.lst_inv
    have := ints_q h2 e1
    subst this
    refine .inl ⟨p, is, rfl, w.l h1, fun ns' p' pm sr hp => ?_⟩
    have e : ns' = sortI is := sorted_one (pm.trans (sortI_perm is).symm) sr (sortI_sorted is)
    rw [e]
    exact q p' _ hp (dqAll_ints _)
  · obtain ⟨is, e1, e⟩ := mO_some e
    cases e
    obtain ⟨v, rfl, h⟩ := one_q hx
    obtain ⟨p, vs, rfl, h1, h2⟩ := h.tup_inv
    have := ints_q h2 e1
    subst this
    refine .inr ⟨p, is, rfl, w.t h1, fun ns' p' pm sr hp => ?_⟩
    have e : ns' = sortI is := sorted_one (pm.trans (sortI_perm is).symm) sr (sortI_sorted is)
    rw [e]
    exact q p' _ hp (dqAll_ints _)
  · cases e
def listC : List D → Option (List D)
  | [.list ds] => some ds
  | [.tuple ds] => some ds
  | _ => none
def rListA (K : PySem.W.Frag) : List V → Hp → VK → Prop := fun xs H Q => ∃ p ys, xs = [.ref p] ∧ (SqL K H p ys ∨ SqT K H p ys) ∧ ∀ l, H l = none → Q (.ref l) (upd H l (.lst ys))
theorem sCN_list {K : PySem.W.Frag} : SdCN K (rListA K) listC := by
  intro F O H xs as ds w hx e Q q
  unfold listC at e
  split at e
  · cases e
    obtain ⟨v, rfl, h⟩ := one_q hx
    obtain ⟨p, vs, rfl, h1, h2⟩ := h.lst_inv
    exact ⟨p, vs, rfl, .inl (w.l h1), fun l hl => q l vs hl h2⟩
  · cases e
    obtain ⟨v, rfl, h⟩ := one_q hx
    obtain ⟨p, vs, rfl, h1, h2⟩ := h.tup_inv
    exact ⟨p, vs, rfl, .inr (w.t h1), fun l hl => q l vs hl h2⟩
  · cases e
def tupleC : List D → Option D
  | [.list ds] => some (.tuple ds)
  | [.tuple ds] => some (.tuple ds)
  | _ => none
theorem sC_tuple {K : PySem.W.Frag} : SdC K (rTup0 K) tupleC := by
  intro F O H xs as d w hx e Q q
  unfold tupleC at e
  split at e
  · cases e
    obtain ⟨v, rfl, h⟩ := one_q hx
    obtain ⟨p, vs, rfl, h1, h2⟩ := h.lst_inv
    exact ⟨p, vs, rfl, .inl ⟨w.l h1, fun l its hl => finT w q hl h2⟩⟩
  · cases e
    obtain ⟨v, rfl, h⟩ := one_q hx
    obtain ⟨p, vs, rfl, h1, h2⟩ := h.tup_inv
    exact ⟨p, vs, rfl, .inr ⟨w.t h1, fin0 w q h⟩⟩
  · cases e
def catN : D → D → Option (List D)
  | .list a, .list b => if a.length + b.length ≤ lim then some (a ++ b) else none
  | _, _ => none
theorem s2N_add {K : PySem.W.Frag} : Sd2N K (rAddA K) catN := by
  intro F O H x y a b d w hx hy e Q q
  unfold catN at e
  split at e
  · split at e
    · rename_i hl
      cases e
      obtain ⟨p, vs, rfl, h1, h2⟩ := hx.lst_inv
      obtain ⟨p2, ws, rfl, h3, h4⟩ := hy.lst_inv
      exact .inl (.inr ⟨p, p2, vs, ws, rfl, rfl, w.fh _ _ h1, w.fh _ _ h3, lim_le (by rw [h2.len, h4.len]; exact hl), fun l hl => q l _ hl (h2.append h4)⟩)
    · cases e
  · cases e
def repN : D → D → Option (List D)
  | .list a, .int k => if (decide (-(2 ^ 62) ≤ k) && decide (k < 2 ^ 62)) && decide (a.length * k.toNat ≤ lim) then some (List.replicate k.toNat a).flatten else none
  | _, _ => none
theorem s2N_mul {K : PySem.W.Frag} : Sd2N K rMulA repN := by
  intro F O H x y a b d w hx hy e Q q
  unfold repN at e
  split at e
  · split at e
    · rename_i h
      cases e
      simp only [Bool.and_eq_true, decide_eq_true_eq] at h
      obtain ⟨⟨k1, k2⟩, k3⟩ := h
      obtain ⟨p, vs, rfl, h1, h2⟩ := hx.lst_inv
      exact .inr ⟨p, _, vs, rfl, hy.int_inv, w.fh _ _ h1, by omega, by omega, lim_le (by rw [h2.len]; exact k3), fun l hl => q l _ hl (dqAll_rep h2 _)⟩
    · cases e
  · cases e
def cutN : D → Option Int → Option Int → Option (List D)
  | .list ds, lo, hi => some (cutL ds lo hi)
  | _, _, _ => none
theorem sslN {K : PySem.W.Frag} : SdSlN K (rSlA0 K) cutN := by
  intro F O H x lo hi a d w hx e Q q
  unfold cutN at e
  split at e
  · cases e
    obtain ⟨p, vs, rfl, h1, h2⟩ := hx.lst_inv
    exact .inl ⟨p, vs, rfl, w.l h1, fun l hl => q l _ hl (cut_q h2)⟩
  · cases e
end DL

set_option Elab.async false
set_option linter.all false
set_option maxRecDepth 100000
set_option maxHeartbeats 4000000
/-! DL4: new lists, ranges, index, what is walked, comprehensions. -/
namespace DL
open PySem PySem.Spec PyProof.Rows L2

section
variable {K : PySem.W.Frag} {ta tb te : TE} {ga gb ge : Y}
/-! ### new lists by calls, operations, slices -/
def ynC (f : List D → Option (List D)) (a : Yl) : Yl := fun ρ s => bO (a ρ s) fun xs s1 => mO (f xs) fun ds => some (ds, s1)
def yn2 (f : D → D → Option (List D)) (a b : Y) : Yl := fun ρ s => bO (a ρ s) fun x s1 => bO (b ρ s1) fun y s2 => mO (f x y) fun d => some (d, s2)
def ynSl (f : D → Option Int → Option Int → Option (List D)) (a : Y) (l u : Yo) : Yl := fun ρ s => bO (a ρ s) fun x s1 => bO (l ρ s1) fun lo s2 => bO (u ρ s2) fun hi s3 => mO (f x lo hi) fun d => some (d, s3)
theorem n_end {F F1 H H1 : Hp} {O : Om} {pc : Pc} {s' : Src} {Q : VK} {p : Addr} {vs : List V} {ds : List D} (w : Wk F O H) (n1 : Ny O F H F1 H1) (sr : SrcOk O H1 pc s')
    (q : ∀ p vs F' H', Ny O F H F' H' → SrcOk O H' pc s' → H p = none → F' p = none → H' p = some (.lst vs) → DqAll K F' vs ds → Q (.ref p) H') (hp : H1 p = none) (d : DqAll K F1 vs ds) : Q (.ref p) (upd H1 p (.lst vs)) := by
  have w1 := n1.wk w
  refine q p vs F1 _ (n1.trans (Ny.pure w1 (same_new hp) (Same.refl _) (w1.fh.trans (same_new hp)) fun _ _ h => .inl h)) (sr.same (same_new hp)) ?_ (w1.nF hp) upd_same d
  cases z : H p with
  | none => rfl
  | some u => exact absurd hp (n1.dom p (by rw [z]; exact fun z => nomatch z))
theorem sn_C {r : List V → Hp → VK → Prop} {f : List D → Option (List D)} {t : TA} {g : Yl} (hr : SdCN K r f) (ha : SdA K t g) : SdN K (tCB r t) (ynC f g) := by
  intro F O H pc σ ρ s d s' st h Q q
  obtain ⟨x, s1, e1, h⟩ := bO_some h
  obtain ⟨z, e2, h⟩ := mO_some h
  cases h
  refine ha F O H pc σ ρ s x _ st e1 _ fun v F1 H1 n1 sr1 d1 => ?_
  exact hr F1 O H1 v x _ (n1.wk st.wk) d1 e2 Q fun p vs hp d2 => n_end st.wk n1 sr1 q hp d2
theorem sn_2 {r : R2} {f : D → D → Option (List D)} (hr : Sd2N K r f) (ha : SdY K ta ga) (hb : SdY K tb gb) : SdN K (tOp r ta tb) (yn2 f ga gb) := by
  intro F O H pc σ ρ s d s' st h Q q
  obtain ⟨x, s1, e1, h⟩ := bO_some h
  obtain ⟨y, s2, e2, h⟩ := bO_some h
  obtain ⟨z, e3, h⟩ := mO_some h
  cases h
  refine ha F O H pc σ ρ s x s1 st e1 _ fun v F1 H1 n1 sr1 d1 => ?_
  refine hb F1 O H1 pc σ ρ s1 y _ (st.ny n1 sr1) e2 _ fun u F2 H2 n2 sr2 d2 => ?_
  exact hr F2 O H2 v u x y _ (n2.wk (n1.wk st.wk)) (d1.mono n2.ff) d2 e3 Q fun p vs hp d3 => n_end st.wk (n1.trans n2) sr2 q hp d3
theorem sn_sl {r : V → Option Int → Option Int → Hp → VK → Prop} {f : D → Option Int → Option Int → Option (List D)} {tl th : TO} {gl gh : Yo} (hr : SdSlN K r f) (ha : SdY K te ge) (hl : SdO K tl gl) (hh : SdO K th gh) : SdN K (tSl r te tl th) (ynSl f ge gl gh) := by
  intro F O H pc σ ρ s d s' st h Q q
  obtain ⟨x, s1, e1, h⟩ := bO_some h
  obtain ⟨lo, s2, e2, h⟩ := bO_some h
  obtain ⟨hi, s3, e3, h⟩ := bO_some h
  obtain ⟨z, e4, h⟩ := mO_some h
  cases h
  refine ha F O H pc σ ρ s x s1 st e1 _ fun v F1 H1 n1 sr1 d1 => ?_
  have st1 := st.ny n1 sr1
  refine hl F1 O H1 pc σ ρ s1 lo s2 st1 e2 _ fun F2 H2 n2 sr2 => ?_
  have st2 := st1.ny n2 sr2
  refine hh F2 O H2 pc σ ρ s2 hi _ st2 e3 _ fun F3 H3 n3 sr3 => ?_
  exact hr F3 O H3 v lo hi x _ (n3.wk st2.wk) ((d1.mono n2.ff).mono n3.ff) e4 Q fun p vs hp d4 => n_end st.wk ((n1.trans n2).trans n3) sr3 q hp d4

/-! ### e[::-1] -/
def revD : D → Option D
  | .list ds => some (.list ds.reverse)
  | _ => none
def revN : D → Option (List D)
  | .list ds => some ds.reverse
  | _ => none
def yn1 (f : D → Option (List D)) (a : Y) : Yl := fun ρ s => bO (a ρ s) fun x s1 => mO (f x) fun ds => some (ds, s1)
theorem sn_rev (h : SdY K te ge) : SdN K (tRevL K te) (yn1 revN ge) := by
  intro F O H pc σ ρ s d s' st e Q q
  obtain ⟨x, s1, e1, e⟩ := bO_some e
  obtain ⟨z, e2, e⟩ := mO_some e
  cases e
  refine h F O H pc σ ρ s x _ st e1 _ fun v F1 H1 n1 sr1 d1 => ?_
  unfold revN at e2
  split at e2
  · cases e2
    obtain ⟨p, vs, rfl, h1, h2⟩ := d1.lst_inv
    exact ⟨p, vs, rfl, (n1.wk st.wk).l h1, fun l hl => n_end st.wk n1 sr1 q hl h2.reverse⟩
  · cases e2

/-! ### list(range(..)), tuple(range(..)) -/
abbrev Yr := Rho → Src → Option ((Int × Int) × Src)
def SdR (K : PySem.W.Frag) (t : L2.St → Hp → (Int → Int → Hp → Prop) → Prop) (g : Yr) : Prop := ∀ F O H pc σ ρ s ab s', Stt K F O H pc σ ρ s → g ρ s = some (ab, s') → ∀ Q : Int → Int → Hp → Prop,
  (∀ F' H', Ny O F H F' H' → SrcOk O H' pc s' → Q ab.1 ab.2 H') → t σ H Q
def rg1 (a : Y) : Yr := fun ρ s => bO (a ρ s) fun x s1 => match x with
  | .int n => some ((0, n), s1)
  | _ => none
def rg2 (a b : Y) : Yr := fun ρ s => bO (a ρ s) fun x s1 => bO (b ρ s1) fun y s2 => match x, y with
  | .int i, .int j => some ((i, j), s2)
  | _, _ => none
theorem sr_1 (h : SdY K ta ga) : SdR K (tRg1 ta) (rg1 ga) := by
  intro F O H pc σ ρ s d s' st e Q q
  obtain ⟨x, s1, e1, e⟩ := bO_some e
  refine h F O H pc σ ρ s x _ st e1 _ fun v F1 H1 n1 sr1 d1 => ?_
  split at e
  · cases e
    exact ⟨_, d1.int_inv, q F1 H1 n1 sr1⟩
  · cases e
theorem sr_2 (h : SdY K ta ga) (h' : SdY K tb gb) : SdR K (tRg2 ta tb) (rg2 ga gb) := by
  intro F O H pc σ ρ s d s' st e Q q
  obtain ⟨x, s1, e1, e⟩ := bO_some e
  obtain ⟨y, s2, e2, e⟩ := bO_some e
  refine h F O H pc σ ρ s x _ st e1 _ fun v F1 H1 n1 sr1 d1 => ?_
  refine h' F1 O H1 pc σ ρ s1 y _ (st.ny n1 sr1) e2 _ fun u F2 H2 n2 sr2 d2 => ?_
  split at e
  · cases e
    exact ⟨_, _, d1.int_inv, d2.int_inv, q F2 H2 (n1.trans n2) sr2⟩
  · cases e
def rgD (a b : Int) : List D := (List.range (b - a).toNat).map fun i => .int (a + (i : Nat))
theorem rg_q {F : Hp} (a b : Int) : DqAll K F (rgV a b) (rgD a b) := by
  unfold rgV rgD
  induction (List.range (b - a).toNat) with
  | nil => exact .nil
  | cons x xs ih => exact .cons (.int _) ih
def rgOk (a b : Int) : Bool := decide (-100000 ≤ a) && decide (a ≤ 100000) && decide (-100000 ≤ b) && decide (b ≤ 100000)
theorem rgOk_ok {a b : Int} (h : rgOk a b = true) : RgOk a b := by
  simp only [rgOk, Bool.and_eq_true, decide_eq_true_eq] at h
  obtain ⟨⟨⟨h1, h2⟩, h3⟩, h4⟩ := h
  exact ⟨by omega, by omega, by omega, by omega, by omega⟩
def ynR (g : Yr) : Yl := fun ρ s => bO (g ρ s) fun ab s1 => if rgOk ab.1 ab.2 = true then some (rgD ab.1 ab.2, s1) else none
def yR (g : Yr) : Y := fun ρ s => bO (g ρ s) fun ab s1 => if rgOk ab.1 ab.2 = true then some (.tuple (rgD ab.1 ab.2), s1) else none
theorem sn_range {t : L2.St → Hp → (Int → Int → Hp → Prop) → Prop} {g : Yr} (h : SdR K t g) : SdN K (tLstRg t) (ynR g) := by
  intro F O H pc σ ρ s d s' st e Q q
  obtain ⟨⟨a, b⟩, s1, e1, e⟩ := bO_some e
  split at e
  · rename_i hr
    cases e
    exact h F O H pc σ ρ s _ _ st e1 _ fun F1 H1 n1 sr1 => ⟨rgOk_ok hr, fun l hl => n_end st.wk n1 sr1 q hl (rg_q a b)⟩
  · cases e
theorem sd_trange {t : L2.St → Hp → (Int → Int → Hp → Prop) → Prop} {g : Yr} (h : SdR K t g) : SdY K (tTupRg0 t) (yR g) := by
  intro F O H pc σ ρ s d s' st e Q q
  obtain ⟨⟨a, b⟩, s1, e1, e⟩ := bO_some e
  split at e
  · rename_i hr
    cases e
    refine h F O H pc σ ρ s _ _ st e1 _ fun F1 H1 n1 sr1 => ⟨rgOk_ok hr, fun l its hl => ?_⟩
    have w1 := n1.wk st.wk
    exact finT (ds := rgD a b) w1 (fun v F2 H2 a1 a2 a3 a4 a5 => q v F2 H2 (n1.trans (Ny.pure w1 a1 a2 a3 a4)) (sr1.same a1) a5) hl (rg_q a b)
  · cases e

/-! ### x.index(e) -/
def idxL (d : D) : List D → Nat → Option Nat
  | [], _ => none
  | z :: r, n => if PyData.eqv z d = true then some n else idxL d r (n + 1)
theorem idxL_spec (d : D) : ∀ (ds : List D) (n j : Nat), idxL d ds n = some j → n ≤ j ∧ ∃ z, ds[j - n]? = some z ∧ PyData.eqv z d = true ∧ ∀ (m : Nat) (z' : D), m < j - n → ds[m]? = some z' → PyData.eqv z' d = false
  | [], n, j, h => by cases h
  | z :: r, n, j, h => by
    unfold idxL at h
    split at h
    · rename_i hz
      cases h
      exact ⟨Nat.le_refl _, z, by simp, hz, fun m z' hm => by omega⟩
    · rename_i hz
      obtain ⟨h1, z2, h2, h3, h4⟩ := idxL_spec d r (n + 1) j h
      refine ⟨by omega, z2, ?_, h3, fun m z' hm hm' => ?_⟩
      · rw [show j - n = (j - (n + 1)) + 1 by omega, List.getElem?_cons_succ]
        exact h2
      · cases m with
        | zero =>
          simp at hm'
          subst hm'
          exact Bool.eq_false_iff.mpr hz
        | succ m =>
          rw [List.getElem?_cons_succ] at hm'
          exact h4 m z' (by omega) hm'
def idxD (x d : D) : Option D := match x with
  | .list ds => if SeqAt.shaped (.list ds) = true ∧ SeqAt.shaped d = true then mO (idxL d ds 0) fun j => some (.int (j : Nat)) else none
  | .tuple ds => if ds.all scalD = true ∧ scalD d = true then mO (idxL d ds 0) fun j => some (.int (j : Nat)) else none
  | _ => none
def tIdx (K : PySem.W.Frag) (ta te : TE) : TE := fun σ H Q => tBM K "list" (rIndexD K) ta (tCons te tNil) σ H Q ∨ tBMT K (rTIx K) ta (tCons te tNil) σ H Q
theorem pe_or {X : Cx} {e : Expr} {t u : TE} (h : PE X e t) (h' : PE X e u) : PE X e (fun σ H Q => t σ H Q ∨ u σ H Q) := ⟨fun pins s σ H Q I q => q.elim (h.run pins s σ H Q I) (h'.run pins s σ H Q I)⟩
theorem pe_idx {X : Cx} {o e : Expr} {to te : TE} {apos cpos : Pos} (hu : X.A.units + 65 < cLine) (ho : PE X o to) (he : PE X e te)
    (hbase : attributeBase o "index" X.env (eval o X.env) = eval o X.env := by rfl)
    (hfew : ((backTo cpos (starEach [e] X.env)).all (fun x => !x.1) && (backToKw cpos (keywordEach [] X.env)).all (fun x => x.1.isSome)
      && decide ([e].length + ([] : List Keyword).length + (if ([] : List Keyword).isEmpty then 0 else 1) < 30)) = true := by rfl)
    (hline : (apos.endLine == cpos.line) = true := by rfl) (hs : starEach [e] X.env = (false, eval e X.env) :: starEach [] X.env := by rfl) (hplain : (backTo cpos (starEach [] X.env)).any (·.1) = false := by rfl) :
    PE X (.Call (.Attribute o "index" apos) [e] [] cpos) (tIdx X.K to te) :=
  pe_or (pe_bm PySem.F.plainAttrs_list PySem.F.slot_list_index PySem.F.type_list_index (mt_indexD hu) ho (pa_cons he pa_nil hs) hbase hfew hline hs hplain)
    (pe_bmT PySem.F.plainAttrs_tuple PySem.F.slot_tuple_index PySem.F.type_tuple_index mt_tix ho (pa_cons he pa_nil hs) hbase hfew hline hs hplain)
theorem scal_flat {F : Hp} {v : V} {d : D} (h : Dq K F v d) (e : scalD d = true) : flatV v = true := by
  cases h with
  | non => rfl
  | bl b => rfl
  | int i => rfl
  | str x => rfl
  | lst _ _ => cases e
  | tup _ _ => cases e
  | dct _ _ _ _ _ => cases e
theorem scal_eqv {F : Hp} {v u : V} {d e : D} (h : Dq K F v d) (h' : Dq K F u e) (hs : scalD d = true) (hs' : scalD e = true) : eqV v u = PyData.eqv d e := by
  cases h <;> first
    | (cases hs; done)
    | (cases h' <;> first
        | (cases hs'; done)
        | (simp only [eqV, PyData.eqv]; done)
        | rfl)
theorem all_scal {F : Hp} : ∀ {vs : List V} {ds : List D}, DqAll K F vs ds → ds.all scalD = true → vs.all flatV = true
  | _, _, .nil, _ => rfl
  | _, _, .cons a b, e => by
    rw [List.all_cons, Bool.and_eq_true] at e ⊢
    exact ⟨scal_flat a e.1, all_scal b e.2⟩
theorem DqAll.get' {F : Hp} : ∀ {vs : List V} {ds : List D} {i : Nat} {v : V}, DqAll K F vs ds → vs[i]? = some v → ∃ d, ds[i]? = some d ∧ Dq K F v d
  | _, _, i, d, .nil, h => by simp at h
  | _, _, 0, d, .cons a b, h => ⟨_, rfl, by simp at h; subst h; exact a⟩
  | _, _, i + 1, d, .cons a b, h => by
    obtain ⟨v, h1, h2⟩ := DqAll.get' (i := i) b (by simpa using h)
    exact ⟨v, by simpa using h1, h2⟩
theorem sd_idx (ha : SdY K ta ga) (he : SdY K te ge) : SdY K (tIdx K ta te) (y2 idxD ga ge) := by
  intro F O H pc σ ρ s d s' st h Q q
  obtain ⟨x, s1, e1, h⟩ := bO_some h
  obtain ⟨y, s2, e2, h⟩ := bO_some h
  obtain ⟨z, e3, h⟩ := mO_some h
  cases h
  unfold idxD at e3
  split at e3
  · rename_i ds
    split at e3
    · rename_i hsh
      obtain ⟨j, e4, e3⟩ := mO_some e3
      cases e3
      obtain ⟨-, z, h1, h2, h3⟩ := idxL_spec _ _ _ _ e4
      refine .inl (ha F O H pc σ ρ s _ s1 st e1 _ fun v F1 H1 n1 sr1 d1 => ?_)
      have w1 := n1.wk st.wk
      obtain ⟨p, vs, rfl, h4, h5⟩ := d1.lst_inv
      refine ⟨.inl ⟨rfl, vs, w1.l h4⟩, ?_⟩
      refine he F1 O H1 pc σ ρ s1 y _ (st.ny n1 sr1) e2 _ fun u F2 H2 n2 sr2 d2 => ?_
      have w2 := n2.wk w1
      exact ⟨p, u, y, _, j, z, rfl, rfl, ((d1.mono n2.ff).mono w2.fh).dp (SeqAt.canLay_of_shaped hsh.1), (d2.mono w2.fh).dp (SeqAt.canLay_of_shaped hsh.2), hsh.1, hsh.2, h1, h2, h3, q _ F2 H2 (n1.trans n2) sr2 (.int _)⟩
    · cases e3
  · rename_i ds
    split at e3
    · rename_i hsh
      obtain ⟨j, e4, e3⟩ := mO_some e3
      cases e3
      obtain ⟨-, z, h1, h2, h3⟩ := idxL_spec _ _ _ _ e4
      refine .inr (ha F O H pc σ ρ s _ s1 st e1 _ fun v F1 H1 n1 sr1 d1 => ?_)
      have w1 := n1.wk st.wk
      obtain ⟨p, vs, rfl, h4, h5⟩ := d1.tup_inv
      refine ⟨⟨p, vs, rfl, h4.mono w1.fh⟩, ?_⟩
      refine he F1 O H1 pc σ ρ s1 y _ (st.ny n1 sr1) e2 _ fun u F2 H2 n2 sr2 d2 => ?_
      have w2 := n2.wk w1
      have h5' := h5.mono n2.ff
      obtain ⟨v0, g1, g2⟩ := h5'.get h1
      have sz : scalD z = true := List.all_eq_true.mp hsh.1 z (List.mem_of_getElem? h1)
      refine ⟨p, vs, u, j, v0, rfl, rfl, w2.t (h4.mono n2.ff), scal_flat d2 hsh.2, all_scal h5' hsh.1, g1, by rw [scal_eqv g2 d2 sz hsh.2]; exact h2, fun m z' hm hm' => ?_, q _ F2 H2 (n1.trans n2) sr2 (.int _)⟩
      obtain ⟨d', k1, k2⟩ := h5'.get' hm'
      have sd : scalD d' = true := List.all_eq_true.mp hsh.1 d' (List.mem_of_getElem? k1)
      rw [scal_eqv k2 d2 sd hsh.2]
      exact h3 m d' hm k1
    · cases e3
  · cases e3

/-! ### what a loop or a comprehension walks, with its target -/
/-- the names of a target, the values in them -/
def TurnOk {α : Type} (K : PySem.W.Frag) (J : It) (g : TG) (F : Hp) (xs : List α) (bind : α → Rho → Option Rho) (js : List Nat) : Prop :=
  ∃ Yv : Nat → Hp → V → Hp → Prop, Walk J xs.length (fun H => Same F H) Yv ∧
    ∀ (i : Nat) (a : α) (x : V) (H H' Fc : Hp) (O : Om) (pc : Pc) (σ : L2.St) (ρ ρ' : Rho) (s : Src), xs[i]? = some a → Same F Fc → Stt K Fc O H pc σ ρ s → bind a ρ = some ρ' → Yv i H x H' →
      ∀ Q : L2.St → Hp → Prop, (∀ σ' F' H'', Ny O Fc H F' H'' → Stt K F' O H'' pc σ' ρ' s → (∀ vs : List Nat, (∀ j ∈ js, j ∈ vs) → wipe σ' vs = wipe σ vs) → Q σ' H'') → g x σ H' Q
def SdI {α : Type} (K : PySem.W.Frag) (wi : TI) (g : TG) (fi : Rho → Src → Option (List α × Src)) (bind : α → Rho → Option Rho) (js : List Nat) : Prop :=
  ∀ F O H pc σ ρ s xs s', Stt K F O H pc σ ρ s → fi ρ s = some (xs, s') → ∀ R : It → Hp → Prop, (∀ J F' H', Ny O F H F' H' → SrcOk O H' pc s' → TurnOk K J g F' xs bind js → R J H') → wi σ H R

theorem set_env {F H : Hp} {O : Om} {pc : Pc} {σ : L2.St} {ρ : Rho} {i : Nat} {v : V} {d : D} (e : EnvOk K F O H pc σ ρ) (h : Dq K F v d) : EnvOk K F O H pc (σ.set i (some v)) (ρ.set i (.fz d)) := by
  refine ⟨by rw [List.length_set, List.length_set]; exact e.len, fun j sl hj => ?_⟩
  by_cases hij : i = j
  · subst hij
    by_cases hl : i < ρ.length
    · rw [List.getElem?_set_self hl] at hj
      cases hj
      exact ⟨some v, by rw [List.getElem?_set_self (by rw [e.len]; exact hl)], v, rfl, h⟩
    · rw [List.getElem?_eq_none (by rw [List.length_set]; omega)] at hj
      cases hj
  · rw [List.getElem?_set_ne hij] at hj ⊢
    exact e.at_ j sl hj
theorem wipe_set {σ : L2.St} {i : Nat} {x : Option V} : ∀ {vs : List Nat}, i ∈ vs → wipe (σ.set i x) vs = wipe σ vs
  | [], h => by cases h
  | v :: vs, h => by
    unfold wipe
    by_cases hv : i ∈ vs
    · rw [wipe_set hv]
    · rcases List.mem_cons.mp h with e | h
      · subst e
        have aux : ∀ (ws : List Nat), i ∉ ws → wipe (σ.set i x) ws = (wipe σ ws).set i x := by
          intro ws
          induction ws with
          | nil => intro _; rfl
          | cons w ws ih =>
            intro hw
            unfold wipe
            rw [ih (fun z => hw (List.mem_cons_of_mem _ z)), List.set_comm]
            exact fun z => hw (by rw [z]; exact List.mem_cons_self)
        rw [aux vs hv, List.set_set]
      · exact absurd h hv
/-- one name: bound to each item -/
def bN (i : Nat) : D → Rho → Option Rho := fun d ρ => some (ρ.set i (.fz d))
/-- names of a tuple -/
def bNs : List Nat → List D → Rho → Option Rho
  | [], [], ρ => some ρ
  | i :: is, d :: ds, ρ => bNs is ds (ρ.set i (.fz d))
  | _, _, _ => none
def bTp (is : List Nat) : D → Rho → Option Rho := fun d ρ => match d with
  | .tuple ds => bNs is ds ρ
  | _ => none
def bP (i j : Nat) : D × D → Rho → Option Rho := fun p ρ => some ((ρ.set i (.fz p.1)).set j (.fz p.2))
def gNames : List Nat → TGs
  | [] => gNil
  | i :: is => gCons (gName i) (gNames is)
theorem g_names {F H : Hp} {O : Om} {pc : Pc} : ∀ {is : List Nat} {vs : List V} {ds : List D} {σ : L2.St} {ρ ρ' : Rho}, DqAll K F vs ds → EnvOk K F O H pc σ ρ → bNs is ds ρ = some ρ' → ∀ Q : L2.St → Hp → Prop,
    (∀ σ', EnvOk K F O H pc σ' ρ' → (∀ ws : List Nat, (∀ j ∈ is, j ∈ ws) → wipe σ' ws = wipe σ ws) → Q σ' H) → gNames is vs σ H Q
  | [], _, _, _, _, _, .nil, e, h, Q, q => by cases h; exact ⟨rfl, q _ e fun _ _ => rfl⟩
  | [], _, _, _, _, _, .cons _ _, e, h, Q, q => by cases h
  | i :: is, _, _, _, _, _, .nil, e, h, Q, q => by cases h
  | i :: is, _, _, _, _, _, .cons (v := v) (vs := vs) a b, e, h, Q, q => by
    refine ⟨v, vs, rfl, ?_⟩
    refine g_names b (set_env (i := i) e a) h Q fun σ' e' w => q σ' e' fun ws hw => ?_
    rw [w ws fun j hj => hw j (List.mem_cons_of_mem _ hj), wipe_set (hw i List.mem_cons_self)]
theorem Stt.set {F O H pc σ ρ s i v d} (st : Stt K F O H pc σ ρ s) (h : Dq K F v d) : Stt K F O H pc (σ.set i (some v)) (ρ.set i (.fz d)) s := ⟨st.wk, set_env st.env h, st.src⟩

/-- the items of a list or a tuple -/
def itemsD : D → Option (List D)
  | .list ds => some ds
  | .tuple ds => some ds
  | _ => none
def iY (g : Y) : Yl := fun ρ s => bO (g ρ s) fun x s1 => mO (itemsD x) fun ds => some (ds, s1)
/-- for over a list or a tuple, whichever it is -/
def iSeq (K : PySem.W.Frag) (tl : TE) : TI := fun σ H R => iList K tl σ H R ∨ iTup K tl σ H R
theorem pi_or {X : Cx} {tg e : Expr} {w w' : TI} (h : PI X tg e w) (h' : PI X tg e w') : PI X tg e (fun σ H R => w σ H R ∨ w' σ H R) :=
  ⟨fun pins s σ H R I q => q.elim (h.run pins s σ H R I) (h'.run pins s σ H R I)⟩
theorem pi_seq {X : Cx} {tg e : Expr} {t : TE} (h : PE X e t) : PI X tg e (iSeq X.K t) := pi_or (pi_list h) (pi_tup h)
/-- a target whose value is told by data alone -/
def TgOk (K : PySem.W.Frag) (g : TG) (bind : D → Rho → Option Rho) (js : List Nat) : Prop :=
  ∀ F O H pc σ ρ ρ' s v d, Stt K F O H pc σ ρ s → Dq K F v d → bind d ρ = some ρ' → ∀ Q : L2.St → Hp → Prop,
    (∀ σ', Stt K F O H pc σ' ρ' s → (∀ ws : List Nat, (∀ j ∈ js, j ∈ ws) → wipe σ' ws = wipe σ ws) → Q σ' H) → g v σ H Q
theorem tg_name (i : Nat) : TgOk K (gName i) (bN i) [i] := by
  intro F O H pc σ ρ ρ' s v d st h e Q q
  cases e
  exact q _ (st.set h) fun ws hw => wipe_set (hw i (List.mem_singleton.mpr rfl))
theorem tg_tup (is : List Nat) {n : Nat} (hn : is.length = n) : TgOk K (gTup K n (gNames is)) (bTp is) is := by
  intro F O H pc σ ρ ρ' s v d st h e Q q
  unfold bTp at e
  split at e
  · obtain ⟨p, vs, rfl, h1, h2⟩ := h.tup_inv
    have hl : ∀ (is : List Nat) (ds : List D) (ρ : Rho), bNs is ds ρ = some ρ' → is.length = ds.length := by
      intro is
      induction is with
      | nil =>
        intro ds ρ e
        cases ds with
        | nil => rfl
        | cons _ _ => cases e
      | cons i is ih =>
        intro ds ρ e
        cases ds with
        | nil => cases e
        | cons d ds => rw [List.length_cons, List.length_cons, ih ds _ e]
    refine ⟨p, vs, rfl, st.wk.t h1, by rw [h2.len, ← hl _ _ _ e]; exact hn, ?_⟩
    exact g_names h2 st.env e Q fun σ' e' w => q σ' ⟨st.wk, e', st.src⟩ w
  · cases e
theorem at_data {F : Hp} {vs : List V} {ds : List D} {i : Nat} {x : V} {a : D} (h : DqAll K F vs ds) (hx : vs[i]? = some x) (ha : ds[i]? = some a) : Dq K F x a := by
  obtain ⟨v, e1, e2⟩ := h.get ha
  rw [hx] at e1
  cases e1
  exact e2
theorem si_seq {tl : TE} {gl : Y} {g : TG} {bind : D → Rho → Option Rho} {js : List Nat} (h : SdY K tl gl) (hg : TgOk K g bind js) : SdI K (iSeq K tl) g (iY gl) bind js := by
  intro F O H pc σ ρ s xs s' st e R q
  obtain ⟨x, s1, e1, e⟩ := bO_some e
  obtain ⟨z, e2, e⟩ := mO_some e
  cases e
  unfold itemsD at e2
  split at e2
  · cases e2
    refine .inl (h F O H pc σ ρ s _ _ st e1 _ fun v F1 H1 n1 sr1 d1 => ?_)
    obtain ⟨p, vs, rfl, h1, h2⟩ := d1.lst_inv
    refine ⟨p, rfl, ⟨vs, (n1.wk st.wk).l h1⟩, q _ F1 H1 n1 sr1 ⟨YAt vs, ?_, ?_⟩⟩
    · rw [← h2.len]
      exact walk_list.mono (fun H e => SqL.of (e _ _ h1)) fun _ _ _ _ _ _ y => y
    · intro i a x H H' Fc O pc σ ρ ρ' s ha hF st2 hb hy Q k
      obtain ⟨rfl, hx⟩ := hy
      exact hg Fc O H' pc σ ρ ρ' s x a st2 (at_data (h2.mono hF) hx ha) hb Q fun σ' st3 w => k σ' Fc H' (Ny.refl st2.wk) st3 w
  · cases e2
    refine .inr (h F O H pc σ ρ s _ _ st e1 _ fun v F1 H1 n1 sr1 d1 => ?_)
    obtain ⟨p, vs, rfl, h1, h2⟩ := d1.tup_inv
    refine ⟨p, rfl, ⟨vs, (n1.wk st.wk).t h1⟩, q _ F1 H1 n1 sr1 ⟨YAt vs, ?_, ?_⟩⟩
    · rw [← h2.len]
      exact walk_tup.mono (fun H e => (h1.mono e).sq) fun _ _ _ _ _ _ y => y
    · intro i a x H H' Fc O pc σ ρ ρ' s ha hF st2 hb hy Q k
      obtain ⟨rfl, hx⟩ := hy
      exact hg Fc O H' pc σ ρ ρ' s x a st2 (at_data (h2.mono hF) hx ha) hb Q fun σ' st3 w => k σ' Fc H' (Ny.refl st2.wk) st3 w
  · cases e2
/-- over range -/
def iR1 (g : Y) : Yl := fun ρ s => bO (g ρ s) fun x s1 => match x with
  | .int n => if rgOk 0 n = true then some (rgD 0 n, s1) else none
  | _ => none
def iR2 (a b : Y) : Yl := fun ρ s => bO (a ρ s) fun x s1 => bO (b ρ s1) fun y s2 => match x, y with
  | .int i, .int j => if rgOk i j = true then some (rgD i j, s2) else none
  | _, _ => none
theorem turn_range {g : TG} {bind : D → Rho → Option Rho} {js : List Nat} {F : Hp} (hg : TgOk K g bind js) (lo hi : Int) : TurnOk K (Itr lo (hi - lo).toNat) g F (rgD lo hi) bind js := by
  have hl : (rgD lo hi).length = (hi - lo).toNat := by unfold rgD; rw [List.length_map, List.length_range]
  refine ⟨YFn fun i => .int (lo + i), ?_, ?_⟩
  · rw [hl]
    exact walk_range.mono (fun _ _ => trivial) fun _ _ _ _ _ _ y => y
  · intro i a x H H' Fc O pc σ ρ ρ' s ha hF st2 hb hy Q k
    obtain ⟨rfl, rfl⟩ := hy
    have e : a = .int (lo + i) := by
      unfold rgD at ha
      rw [List.getElem?_map] at ha
      cases z : (List.range (hi - lo).toNat)[i]? with
      | none => rw [z] at ha; cases ha
      | some j =>
        rw [z] at ha
        cases ha
        have := (List.getElem?_eq_some_iff.mp z).2
        rw [List.getElem_range] at this
        rw [this]
    subst e
    exact hg Fc O H' pc σ ρ ρ' s _ _ st2 (.int _) hb Q fun σ' st3 w => k σ' Fc H' (Ny.refl st2.wk) st3 w
theorem si_r1 {tl : TE} {gl : Y} {g : TG} {bind : D → Rho → Option Rho} {js : List Nat} (h : SdY K tl gl) (hg : TgOk K g bind js) : SdI K (iRng1 (tCons tl tNil)) g (iR1 gl) bind js := by
  intro F O H pc σ ρ s xs s' st e R q
  obtain ⟨x, s1, e1, e⟩ := bO_some e
  split at e
  · split at e
    · rename_i n hr
      cases e
      refine h F O H pc σ ρ s _ _ st e1 _ fun v F1 H1 n1 sr1 d1 => ?_
      obtain ⟨b1, b2, b3, b4, b5⟩ := rgOk_ok hr
      refine ⟨n, by rw [d1.int_inv], by omega, by omega, ?_⟩
      have t := turn_range (F := F1) hg 0 n
      rw [Int.sub_zero] at t
      exact q _ F1 H1 n1 sr1 t
    · cases e
  · cases e
theorem si_r2 {tl th : TE} {gl gh : Y} {g : TG} {bind : D → Rho → Option Rho} {js : List Nat} (h : SdY K tl gl) (h' : SdY K th gh) (hg : TgOk K g bind js) : SdI K (iRng2 (tCons tl (tCons th tNil))) g (iR2 gl gh) bind js := by
  intro F O H pc σ ρ s xs s' st e R q
  obtain ⟨x, s1, e1, e⟩ := bO_some e
  obtain ⟨y, s2, e2, e⟩ := bO_some e
  split at e
  · split at e
    · rename_i hr
      cases e
      refine h F O H pc σ ρ s _ _ st e1 _ fun v F1 H1 n1 sr1 d1 => ?_
      refine h' F1 O H1 pc σ ρ _ _ _ (st.ny n1 sr1) e2 _ fun u F2 H2 n2 sr2 d2 => ?_
      obtain ⟨b1, b2, b3, b4, b5⟩ := rgOk_ok hr
      exact ⟨_, _, by rw [d1.int_inv, d2.int_inv], ⟨by omega, by omega, by omega, by omega⟩, q _ F2 H2 (n1.trans n2) sr2 (turn_range hg _ _)⟩
    · cases e
  · cases e
/-- over pairs that are made as it goes: zip, enumerate -/
theorem turn_pair {J : It} {F : Hp} {n : Nat} {fx fy : Nat → Option V} {ps : List (D × D)} {i j : Nat} (hn : ps.length = n) (w : Walk J n (fun H => Same F H) (YPair fx fy))
    (hd : ∀ k p x y, ps[k]? = some p → fx k = some x → fy k = some y → Dq K F x p.1 ∧ Dq K F y p.2) : TurnOk K J (gTup K 2 (gNames [i, j])) F ps (bP i j) [i, j] := by
  subst hn
  refine ⟨_, w, ?_⟩
  intro k a x H H' Fc O pc σ ρ ρ' s ha hF st2 hb hy Q kk
  obtain ⟨T, u, v, rfl, hT, rfl, e1, e2⟩ := hy
  cases hb
  obtain ⟨d1, d2⟩ := hd k a u v ha e1 e2
  have n : Ny O Fc H Fc (upd H T (.tup [u, v])) := Ny.pure st2.wk (same_new hT) (Same.refl _) (st2.wk.fh.trans (same_new hT)) fun _ _ h => .inl h
  have st3 := st2.ny n (st2.src.same (same_new hT))
  refine ⟨T, [u, v], rfl, SqT.of upd_same, rfl, u, [v], rfl, v, [], rfl, rfl, ?_⟩
  refine kk _ Fc _ n ((st3.set (d1.mono hF)).set (d2.mono hF)) fun ws hw => ?_
  rw [wipe_set (hw j (by simp)), wipe_set (hw i (by simp))]
def zipL : List D → List D → List (D × D) := List.zip
def iZ (a b : Y) : Rho → Src → Option (List (D × D) × Src) := fun ρ s => bO (a ρ s) fun x s1 => bO (b ρ s1) fun y s2 => match x, y with
  | .list xs, .list ys => some (xs.zip ys, s2)
  | _, _ => none
theorem si_zip {ta tb : TE} {ga gb : Y} {i j : Nat} (h : SdY K ta ga) (h' : SdY K tb gb) : SdI K (iZip K (tCons ta (tCons tb tNil))) (gTup K 2 (gNames [i, j])) (iZ ga gb) (bP i j) [i, j] := by
  intro F O H pc σ ρ s xs s' st e R q
  obtain ⟨x, s1, e1, e⟩ := bO_some e
  obtain ⟨y, s2, e2, e⟩ := bO_some e
  split at e
  · cases e
    refine h F O H pc σ ρ s _ _ st e1 _ fun v F1 H1 n1 sr1 d1 => ?_
    refine h' F1 O H1 pc σ ρ _ _ _ (st.ny n1 sr1) e2 _ fun u F2 H2 n2 sr2 d2 => ?_
    have w2 := n2.wk (n1.wk st.wk)
    obtain ⟨p, vs, rfl, h1, h2⟩ := (d1.mono n2.ff).lst_inv
    obtain ⟨p2, ws, rfl, h3, h4⟩ := d2.lst_inv
    refine ⟨p, p2, vs, ws, rfl, w2.l h1, w2.l h3, q _ F2 H2 (n1.trans n2) sr2 (turn_pair (n := min vs.length ws.length) (fx := fun i => vs[i]?) (fy := fun i => ws[i]?) ?_ ?_ ?_)⟩
    · rw [List.length_zip, h2.len, h4.len]
    · exact (walk_zip rfl).mono (fun H e => ⟨SqL.of (e _ _ h1), SqL.of (e _ _ h3)⟩) fun _ _ _ _ _ _ y => y
    · intro k p x y hk hx hy
      rw [List.getElem?_zip_eq_some] at hk
      exact ⟨at_data h2 hx hk.1, at_data h4 hy hk.2⟩
  · cases e

/-! ### comprehensions -/
def wipeR (ρ : Rho) : List Nat → Rho
  | [] => ρ
  | v :: vs => (wipeR ρ vs).set v .un
def lcGo {α : Type} (bind : α → Rho → Option Rho) (t : Yb) (e : Y) : List α → List D → Rho → Src → Option (List D × Src)
  | [], acc, _, s => some (acc, s)
  | x :: xs, acc, ρ, s => mO (bind x ρ) fun ρ1 => bO (t ρ1 s) fun b s1 => if b = true then bO (e ρ1 s1) fun d s2 => if acc.length < lim then lcGo bind t e xs (acc ++ [d]) ρ s2 else none else lcGo bind t e xs acc ρ s1
def lcY {α : Type} (fi : Rho → Src → Option (List α × Src)) (bind : α → Rho → Option Rho) (t : Yb) (e : Y) (vs : List Nat) : Yl := fun ρ s => bO (fi ρ s) fun xs s1 => lcGo bind t e xs [] (wipeR ρ vs) s1
def yesT : Yb := fun _ s => some (true, s)
theorem st_yes : SdT K tYes yesT := by
  intro F O H pc σ ρ s b s' st e Q q
  cases e
  exact q F H (Ny.refl st.wk) st.src
theorem wipe_env {F H : Hp} {O : Om} {pc : Pc} {σ : L2.St} {ρ : Rho} (e : EnvOk K F O H pc σ ρ) : ∀ vs : List Nat, EnvOk K F O H pc (wipe σ vs) (wipeR ρ vs)
  | [] => e
  | v :: vs => by
    have ih := wipe_env e vs
    refine ⟨by unfold wipe wipeR; rw [List.length_set, List.length_set]; exact ih.len, fun j sl hj => ?_⟩
    unfold wipeR at hj
    unfold wipe
    by_cases hij : v = j
    · subst hij
      by_cases hl : v < (wipeR ρ vs).length
      · rw [List.getElem?_set_self hl] at hj
        cases hj
        exact ⟨none, by rw [List.getElem?_set_self (by rw [ih.len]; exact hl)], trivial⟩
      · rw [List.getElem?_eq_none (by rw [List.length_set]; omega)] at hj
        cases hj
    · rw [List.getElem?_set_ne hij] at hj ⊢
      exact ih.at_ j sl hj
/-- the list in the making: tracked, no one's own, not frozen -/
theorem ny_push {F H F' H' : Hp} {O : Om} {Dl : Addr} {acc : List V} {x : V} (n : Ny O F H F' H') (hF : F' Dl = none) (hO : O Dl = none) (hH : H Dl = none) : Ny O F H F' (upd H' Dl (.lst (acc ++ [x]))) where
  ff := n.ff
  fh := fun a o e => by
    by_cases ha : a = Dl
    · rw [ha, hF] at e; cases e
    · rw [upd_ne ha]; exact n.fh a o e
  own := fun a h1 h2 => by
    rw [upd_ne (fun z => h1 (by rw [z, hO]))]
    exact n.own a h1 h2
  unown := fun a o h1 h2 => by
    rw [upd_ne (fun z => by rw [z, hH] at h1; cases h1)]
    exact n.unown a o h1 h2
  dom := fun a h => by
    by_cases ha : a = Dl
    · rw [ha, upd_same]; exact fun z => nomatch z
    · rw [upd_ne ha]; exact n.dom a h
  new := n.new
theorem src_push {H : Hp} {O : Om} {pc : Pc} {s : Src} {Dl : Addr} {o : HO} (h : SrcOk O H pc s) (hO : O Dl = none) : SrcOk O (upd H Dl o) pc s := by
  obtain ⟨ps, al⟩ := pc
  cases ps with
  | none => exact h
  | some pc =>
    obtain ⟨p, c⟩ := pc
    obtain ⟨h1, h2, h3, h4, h5⟩ := h
    refine ⟨h1, h2, ?_, ?_, h5⟩
    · rw [upd_ne (fun z => by rw [z, hO] at h1; cases h1)]; exact h3
    · rw [upd_ne (fun z => by rw [z, hO] at h2; cases h2)]; exact h4
theorem sn_lc {α : Type} {wi : TI} {g : TG} {tt : TT} {te : TE} {vs js : List Nat} {fi : Rho → Src → Option (List α × Src)} {bind : α → Rho → Option Rho} {gt : Yb} {ge : Y} (hi : SdI K wi g fi bind js) (hj : ∀ j ∈ js, j ∈ vs) (ht : SdT K tt gt) (he : SdY K te ge) :
    SdN K (tLc wi g tt te vs) (lcY fi bind gt ge vs) := by
  intro F O H pc σ ρ s ds s' st e Q q
  obtain ⟨xs, s1, e1, e⟩ := bO_some e
  refine hi F O H pc σ ρ s xs s1 st e1 _ fun J F1 H1 n1 sr1 tk => ?_
  intro Dl hD
  have st1 := st.ny n1 sr1
  have hOD : O Dl = none := by
    cases z : O Dl with
    | none => rfl
    | some u => exact absurd hD (st1.wk.oh Dl (by rw [z]; exact fun z => nomatch z))
  have hFD : F1 Dl = none := st1.wk.nF hD
  have hHD : H Dl = none := by
    cases z : H Dl with
    | none => rfl
    | some u => exact absurd hD (n1.dom Dl (by rw [z]; exact fun z => nomatch z))
  obtain ⟨Yv, wk, step⟩ := tk
  -- the state between turns
  let Pv : Nat → Hp → Prop := fun i H2 => ∃ F2 s2 acc vacc, Ny O F1 H1 F2 H2 ∧ SrcOk O H2 pc s2 ∧ F2 Dl = none ∧ H2 Dl = some (.lst vacc) ∧ DqAll K F2 vacc acc ∧ lcGo bind gt ge (xs.drop i) acc (wipeR ρ vs) s2 = some (ds, s')
  refine lc_it (vs := vs) wk Pv ?_ ?_ ?_ ?_
  · refine ⟨F1, s1, [], [], Ny.pure st1.wk (same_new hD) (Same.refl _) (st1.wk.fh.trans (same_new hD)) fun _ _ h => .inl h, sr1.same (same_new hD), hFD, upd_same, .nil, ?_⟩
    rw [List.drop_zero]
    exact e
  · rintro i H2 _ ⟨F2, s2, acc, vacc, n2, _⟩
    exact n2.ff.trans n2.fh
  · rintro i x H2 H2' hlt ⟨F2, s2, acc, vacc, n2, sr2, hF2, hH2, da, ego⟩ hy
    have hxi : xs[i]? = some xs[i] := List.getElem?_eq_getElem hlt
    rw [List.drop_eq_getElem_cons hlt] at ego
    unfold lcGo at ego
    obtain ⟨ρ1, eb, ego⟩ := mO_some ego
    have st2 : Stt K F2 O H2 pc (wipe σ vs) (wipeR ρ vs) s2 := ⟨n2.wk st1.wk, wipe_env (st1.env.ny n2) vs, sr2⟩
    refine step i _ x H2 H2' F2 O pc _ _ ρ1 s2 hxi n2.ff st2 eb hy _ fun σ' F3 H3 n3 st3 hw => ?_
    have keepW : wipe σ' vs = wipe σ vs := by
      rw [hw vs hj]
      have : ∀ ws : List Nat, (∀ w ∈ ws, w ∈ vs) → wipe (wipe σ vs) ws = wipe σ vs := by
        intro ws
        induction ws with
        | nil => intro _; rfl
        | cons w ws ih =>
          intro h
          show (wipe (wipe σ vs) ws).set w none = _
          rw [ih fun z hz => h z (List.mem_cons_of_mem _ hz)]
          have hmem := h w List.mem_cons_self
          have gen : ∀ (us : List Nat), w ∈ us → (wipe σ us).set w none = wipe σ us := by
            intro us
            induction us with
            | nil => intro z; cases z
            | cons u us ih2 =>
              intro z
              unfold wipe
              by_cases huw : u = w
              · subst huw; rw [List.set_set]
              · rw [List.set_comm _ _ huw, ih2 (by rcases List.mem_cons.mp z with z | z
                                                   · exact absurd z.symm huw
                                                   · exact z)]
          exact gen vs hmem
      exact this vs fun _ h => h
    refine ⟨keepW, ?_⟩
    obtain ⟨b, s3, et, ego⟩ := bO_some ego
    refine ht F3 O H3 pc σ' ρ1 s2 b s3 st3 et _ fun F4 H4 n4 sr4 => ?_
    have st4 := st3.ny n4 sr4
    have hFn : ∀ {F' H' : Hp}, Ny O F2 H2 F' H' → F' Dl = none := fun {F' H'} n => by
      cases z : F' Dl with
      | none => rfl
      | some o =>
        rcases n.new Dl o z with h | h
        · rw [hF2] at h; cases h
        · rw [hH2] at h; cases h
    cases b with
    | false =>
      rw [if_neg Bool.false_ne_true] at ego ⊢
      exact ⟨F4, s3, acc, vacc, (n2.trans n3).trans n4, sr4, hFn (n3.trans n4), (n3.trans n4).unown _ _ hH2 hOD, (da.mono n3.ff).mono n4.ff, ego⟩
    | true =>
      rw [if_pos rfl] at ego ⊢
      obtain ⟨d, s4, ee, ego⟩ := bO_some ego
      split at ego
      · rename_i hz
        refine he F4 O H4 pc σ' ρ1 s3 d s4 st4 ee _ fun v F5 H5 n5 sr5 d5 => ?_
        have n35 := (n3.trans n4).trans n5
        refine ⟨vacc, n35.unown _ _ hH2 hOD, lim_lt (by rw [da.len]; exact hz), F5, s4, acc ++ [d], vacc ++ [v], ny_push (n2.trans n35) (hFn n35) hOD hD, src_push sr5 hOD, hFn n35, upd_same, (da.mono n35.ff).append (.cons d5 .nil), ego⟩
      · cases ego
  · rintro H2 ⟨F2, s2, acc, vacc, n2, sr2, hF2, hH2, da, ego⟩
    rw [List.drop_length] at ego
    cases ego
    exact q Dl vacc F2 H2 (n1.trans n2) sr2 hHD hF2 hH2 da
end
end DL

set_option Elab.async false
set_option linter.all false
set_option maxRecDepth 100000
set_option maxHeartbeats 4000000
/-! DL5: statements. -/
namespace DL
open PySem PySem.Spec PyProof.Rows L2

/-! ### a statement's step -/
structure Sq (F : Hp) (O : Om) (H F' : Hp) (O' : Om) (H' : Hp) : Prop where
  ff : Same F F'
  unown : ∀ a o, H a = some o → O a = none → H' a = some o ∧ O' a = none
  dom : ∀ a, H a ≠ none → H' a ≠ none
  src : ∀ a, O a = some .src → O' a = some .src
  new : ∀ a o, F' a = some o → F a = some o ∨ O a ≠ none ∨ H a = none
def PcLe (pc pc' : Pc) : Prop := (pc.src = none ∨ pc'.src = pc.src) ∧ pc'.al = pc.al
theorem PcLe.refl (pc : Pc) : PcLe pc pc := ⟨.inr rfl, rfl⟩
theorem PcLe.trans {a b c : Pc} (h : PcLe a b) (h' : PcLe b c) : PcLe a c := by
  refine ⟨?_, h'.2.trans h.2⟩
  rcases h.1 with h1 | h1
  · exact .inl h1
  · rcases h'.1 with h2 | h2
    · exact .inl (h1.symm.trans h2)
    · exact .inr (h2.trans h1)
section
variable {F F' F'' H H' H'' : Hp} {O O' O'' : Om}
theorem Sq.refl (F : Hp) (O : Om) (H : Hp) : Sq F O H F O H := ⟨Same.refl _, fun _ _ h h' => ⟨h, h'⟩, fun _ h => h, fun _ h => h, fun _ _ h => .inl h⟩
theorem Sq.trans (a : Sq F O H F' O' H') (b : Sq F' O' H' F'' O'' H'') : Sq F O H F'' O'' H'' where
  ff := a.ff.trans b.ff
  unown := fun x o h1 h2 => let ⟨h3, h4⟩ := a.unown x o h1 h2; b.unown x o h3 h4
  dom := fun x h => b.dom x (a.dom x h)
  src := fun x h => b.src x (a.src x h)
  new := fun x o h => by
    rcases b.new x o h with h | h | h
    · exact a.new x o h
    · by_cases hO : O x = none
      · cases hH : H x with
        | none => exact .inr (.inr rfl)
        | some u => exact absurd (a.unown x u hH hO).2 h
      · exact .inr (.inl hO)
    · cases hH : H x with
      | none => exact .inr (.inr rfl)
      | some u => exact absurd h (a.dom x (by rw [hH]; exact fun z => nomatch z))
theorem Ny.sq (n : Ny O F H F' H') : Sq F O H F' O H' := ⟨n.ff, fun a o h1 h2 => ⟨n.unown a o h1 h2, h2⟩, n.dom, fun _ h => h, fun a o h => (n.new a o h).elim .inl fun z => .inr (.inr z)⟩
end
inductive Fl where
  | nx (ρ : Rho) | rt (d : D) | bk (ρ : Rho) | ct (ρ : Rho)
abbrev Z := Rho → Src → Option (Fl × Src)
def EndOk (K : PySem.W.Frag) (F : Hp) (O : Om) (H : Hp) (pc : Pc) (Dn : Ends) (fl : Fl) (s' : Src) : Prop := match fl with
  | .nx ρ' => ∀ σ' F' O' H' pc', Sq F O H F' O' H' → PcLe pc pc' → Stt K F' O' H' pc' σ' ρ' s' → Dn.nx σ' H'
  | .bk ρ' => ∀ σ' F' O' H' pc', Sq F O H F' O' H' → PcLe pc pc' → Stt K F' O' H' pc' σ' ρ' s' → Dn.bk σ' H'
  | .ct ρ' => ∀ σ' F' O' H' pc', Sq F O H F' O' H' → PcLe pc pc' → Stt K F' O' H' pc' σ' ρ' s' → Dn.ct σ' H'
  | .rt d => ∀ v F' O' H' pc', Sq F O H F' O' H' → PcLe pc pc' → Wk F' O' H' → SrcOk O' H' pc' s' → Dq K F' v d → Dn.rt v H'
def SdS (K : PySem.W.Frag) (t : TS) (G : Z) : Prop := ∀ F O H pc σ ρ s fl s', Stt K F O H pc σ ρ s → G ρ s = some (fl, s') → ∀ Dn : Ends, EndOk K F O H pc Dn fl s' → t Dn σ H
section
variable {K : PySem.W.Frag} {F F' H H' : Hp} {O O' : Om} {pc pc' : Pc} {Dn : Ends} {fl : Fl} {s' : Src}
theorem EndOk.after (q : Sq F O H F' O' H') (p : PcLe pc pc') (e : EndOk K F O H pc Dn fl s') : EndOk K F' O' H' pc' Dn fl s' := by
  cases fl with
  | nx ρ => exact fun σ' F2 O2 H2 pc2 q2 p2 st => e σ' F2 O2 H2 pc2 (q.trans q2) (p.trans p2) st
  | bk ρ => exact fun σ' F2 O2 H2 pc2 q2 p2 st => e σ' F2 O2 H2 pc2 (q.trans q2) (p.trans p2) st
  | ct ρ => exact fun σ' F2 O2 H2 pc2 q2 p2 st => e σ' F2 O2 H2 pc2 (q.trans q2) (p.trans p2) st
  | rt d => exact fun v F2 O2 H2 pc2 q2 p2 w sr d => e v F2 O2 H2 pc2 (q.trans q2) (p.trans p2) w sr d
end

section
variable {K : PySem.W.Frag} {te ta tb : TE} {ge ga gb : Y} {t u : TS} {G G' : Z}
/-! ### blocks -/
def nxS : Z := fun ρ s => some (.nx ρ, s)
theorem ss_next : SdS K tNext nxS := by
  intro F O H pc σ ρ s fl s' st e Dn k
  cases e
  exact k σ F O H pc (Sq.refl _ _ _) (PcLe.refl _) st
def seqS (a b : Z) : Z := fun ρ s => match a ρ s with
  | some (.nx ρ1, s1) => b ρ1 s1
  | r => r
theorem ss_seq (h : SdS K t G) (h' : SdS K u G') : SdS K (tSeq t u) (seqS G G') := by
  intro F O H pc σ ρ s fl s' st e Dn k
  unfold seqS at e
  cases z : G ρ s with
  | none => rw [z] at e; cases e
  | some p =>
    obtain ⟨f1, s1⟩ := p
    rw [z] at e
    refine h F O H pc σ ρ s f1 s1 st z _ ?_
    cases f1 with
    | nx ρ1 => exact fun σ' F' O' H' pc' q p st' => h' F' O' H' pc' σ' ρ1 s1 fl s' st' e Dn (k.after q p)
    | rt d => cases e; exact k
    | bk ρ1 => cases e; exact k
    | ct ρ1 => cases e; exact k
def dropS (g : Y) : Z := fun ρ s => bO (g ρ s) fun _ s1 => some (.nx ρ, s1)
theorem ss_drop (h : SdY K te ge) : SdS K (tDrop te) (dropS ge) := by
  intro F O H pc σ ρ s fl s' st e Dn k
  obtain ⟨x, s1, e1, e⟩ := bO_some e
  cases e
  exact h F O H pc σ ρ s x _ st e1 _ fun v F1 H1 n1 sr1 _ => k σ F1 O H1 pc n1.sq (PcLe.refl _) (st.ny n1 sr1)
def retS (g : Y) : Z := fun ρ s => bO (g ρ s) fun d s1 => some (.rt d, s1)
theorem ss_ret (h : SdY K te ge) : SdS K (tRet te) (retS ge) := by
  intro F O H pc σ ρ s fl s' st e Dn k
  obtain ⟨x, s1, e1, e⟩ := bO_some e
  cases e
  exact h F O H pc σ ρ s x _ st e1 _ fun v F1 H1 n1 sr1 d1 => k v F1 O H1 pc n1.sq (PcLe.refl _) (n1.wk st.wk) sr1 d1
def retN : Z := fun _ s => some (.rt .none, s)
theorem ss_retN : SdS K tRetN retN := by
  intro F O H pc σ ρ s fl s' st e Dn k
  cases e
  exact k .non F O H pc (Sq.refl _ _ _) (PcLe.refl _) st.wk st.src .non
def bkS : Z := fun ρ s => some (.bk ρ, s)
def ctS : Z := fun ρ s => some (.ct ρ, s)
theorem ss_break : SdS K tBreak bkS := by
  intro F O H pc σ ρ s fl s' st e Dn k
  cases e
  exact k σ F O H pc (Sq.refl _ _ _) (PcLe.refl _) st
theorem ss_cont : SdS K tCont ctS := by
  intro F O H pc σ ρ s fl s' st e Dn k
  cases e
  exact k σ F O H pc (Sq.refl _ _ _) (PcLe.refl _) st
def ifS (c : Yb) (a b : Z) : Z := fun ρ s => bO (c ρ s) fun x s1 => if x = true then a ρ s1 else b ρ s1
theorem ss_if {tc : TT} {gc : Yb} (hc : SdT K tc gc) (h : SdS K t G) (h' : SdS K u G') : SdS K (tIfS tc t u) (ifS gc G G') := by
  intro F O H pc σ ρ s fl s' st e Dn k
  obtain ⟨x, s1, e1, e⟩ := bO_some e
  refine hc F O H pc σ ρ s x s1 st e1 _ fun F1 H1 n1 sr1 => ?_
  have k1 := k.after n1.sq (PcLe.refl _)
  cases x with
  | true =>
    rw [if_pos rfl] at e ⊢
    exact h F1 O H1 pc σ ρ s1 fl s' (st.ny n1 sr1) e Dn k1
  | false =>
    rw [if_neg Bool.false_ne_true] at e ⊢
    exact h' F1 O H1 pc σ ρ s1 fl s' (st.ny n1 sr1) e Dn k1

/-! ### stores -/
/-- what is to be stored: frozen data, or a new list of one's own, or a new list of new lists; S: the new cells -/
def NewOr (K : PySem.W.Frag) (F' H' : Hp) (v : V) (S : List Addr) : Sl → Prop
  | .fz d => S = [] ∧ Dq K F' v d
  | .ow ds => ∃ p vs, v = .ref p ∧ S = [p] ∧ H' p = some (.lst vs) ∧ DqAll K F' vs ds
  | .o2 dss => ∃ p qs, v = .ref p ∧ S = p :: qs ∧ H' p = some (.lst (qs.map V.ref)) ∧ p ∉ qs ∧ qs.Nodup ∧ All2 (fun a ds => ∃ vs, H' a = some (.lst vs) ∧ DqAll K F' vs ds) qs dss
  | .dc kvs => ∃ p o ts, v = .ref p ∧ S = [p] ∧ H' p = some (xO p o) ∧ DFc p o ts ∧ ts.map (·.1) = kvs.map (·.1) ∧ DqAll K F' (ts.map (·.2.1)) (kvs.map (·.1)) ∧ DqAll K F' (ts.map (·.2.2)) (kvs.map (·.2))
  | _ => False
/-- new cells -/
def NewS (O : Om) (H F' H' : Hp) (S : List Addr) : Prop := ∀ a ∈ S, H a = none ∧ O a = none ∧ F' a = none ∧ H' a ≠ none
abbrev Yu := Rho → Src → Option (Sl × Src)
def SdU (K : PySem.W.Frag) (t : TE) (g : Yu) : Prop := ∀ F O H pc σ ρ s sl s', Stt K F O H pc σ ρ s → g ρ s = some (sl, s') → ∀ Q : VK, (∀ v F' H' S, Ny O F H F' H' → SrcOk O H' pc s' → NewS O H F' H' S → NewOr K F' H' v S sl → Q v H') → t σ H Q
def fzU (g : Y) : Yu := fun ρ s => bO (g ρ s) fun d s1 => some (.fz d, s1)
def owU (g : Yl) : Yu := fun ρ s => bO (g ρ s) fun ds s1 => some (.ow ds, s1)
theorem su_fz (h : SdY K te ge) : SdU K te (fzU ge) := by
  intro F O H pc σ ρ s sl s' st e Q q
  obtain ⟨x, s1, e1, e⟩ := bO_some e
  cases e
  exact h F O H pc σ ρ s x _ st e1 _ fun v F1 H1 n1 sr1 d1 => q v F1 H1 [] n1 sr1 (fun _ z => nomatch z) ⟨rfl, d1⟩
theorem Wk.nO {F H : Hp} {O : Om} {p : Addr} (w : Wk F O H) (hp : H p = none) : O p = none := by
  cases z : O p with
  | none => rfl
  | some u => exact absurd hp (w.oh p (by rw [z]; exact fun z => nomatch z))
theorem su_ow {gl : Yl} (h : SdN K te gl) : SdU K te (owU gl) := by
  intro F O H pc σ ρ s sl s' st e Q q
  obtain ⟨x, s1, e1, e⟩ := bO_some e
  cases e
  refine h F O H pc σ ρ s x _ st e1 _ fun p vs F1 H1 n1 sr1 hp hF hH d1 => q (.ref p) F1 H1 [p] n1 sr1 (fun a z => ?_) ⟨p, vs, rfl, rfl, hH, d1⟩
  rw [List.mem_singleton.mp z]
  exact ⟨hp, st.wk.nO hp, hF, by rw [hH]; exact fun z => nomatch z⟩
/-- the owners behind a store -/
def nO (O : Om) (i : Nat) (S : List Addr) : Om := fun a => if a ∈ S then some (.sl i) else O a
theorem nO_ne {O : Om} {S : List Addr} {a : Addr} {i : Nat} (h : a ∉ S) : nO O i S a = O a := by unfold nO; rw [if_neg h]
theorem nO_in {O : Om} {S : List Addr} {a : Addr} {i : Nat} (h : a ∈ S) : nO O i S a = some (.sl i) := by unfold nO; rw [if_pos h]
theorem SlOk.own {F H : Hp} {O O' : Om} {i : Nat} {v : Option V} {sl : Sl} {pc : Pc} (h : ∀ a, O a = some (.sl i) → O' a = some (.sl i)) (k : SlOk K F O H pc i v sl) : SlOk K F O' H pc i v sl := by
  cases sl with
  | un => trivial
  | fz d => exact k
  | ow ds =>
    obtain ⟨q, vs, h1, h2, h3⟩ := k
    exact ⟨q, vs, h1, h _ h2, h3⟩
  | o2 dss =>
    obtain ⟨q, qs, h1, h2, h3, h4, h5, h6⟩ := k
    exact ⟨q, qs, h1, h _ h2, h3, h4, h5, h6.imp fun a ds z => ⟨h _ z.1, z.2⟩⟩
  | dc kvs =>
    obtain ⟨q, o, ts, h1, h2, h3⟩ := k
    exact ⟨q, o, ts, h1, h _ h2, h3⟩
  | oh dss =>
    obtain ⟨q, qs, h1, h2, h3, h4, h5, h6, h7⟩ := k
    exact ⟨q, qs, h1, h _ h2, h3, h4, h5, h6.imp fun a ds z => ⟨h _ z.1, z.2⟩, h7⟩
  | al r k => exact k
  | sr => exact k
theorem set_slot {F H : Hp} {O : Om} {pc : Pc} {σ : L2.St} {ρ : Rho} {i : Nat} {v : V} {sl : Sl} (e : EnvOk K F O H pc σ ρ) (h : SlOk K F O H pc i (some v) sl) : EnvOk K F O H pc (σ.set i (some v)) (ρ.set i sl) := by
  refine ⟨by rw [List.length_set, List.length_set]; exact e.len, fun j sl' hj => ?_⟩
  by_cases hij : i = j
  · subst hij
    by_cases hl : i < ρ.length
    · rw [List.getElem?_set_self hl] at hj
      cases hj
      exact ⟨some v, by rw [List.getElem?_set_self (by rw [e.len]; exact hl)], h⟩
    · rw [List.getElem?_eq_none (by rw [List.length_set]; omega)] at hj
      cases hj
  · rw [List.getElem?_set_ne hij] at hj ⊢
    exact e.at_ j sl' hj
/-- the store of a value at a slot -/
theorem store {F H F1 H1 : Hp} {O O1 : Om} {pc : Pc} {σ : L2.St} {ρ : Rho} {s1 : Src} {i : Nat} {v : V} {sl : Sl} {S : List Addr} (n : Sq F O H F1 O1 H1) (st : Stt K F1 O1 H1 pc σ ρ s1) (hS : NewS O1 H F1 H1 S) (h : NewOr K F1 H1 v S sl) :
    Sq F O H F1 (nO O1 i S) H1 ∧ Stt K F1 (nO O1 i S) H1 pc (σ.set i (some v)) (ρ.set i sl) s1 := by
  have keep : ∀ a, O1 a ≠ none → nO O1 i S a = O1 a := fun a ha => nO_ne (fun z => ha (hS a z).2.1)
  refine ⟨⟨n.ff, fun a o e1 e2 => ?_, n.dom, fun a e => ?_, n.new⟩, ⟨⟨st.wk.fh, fun a e => ?_, fun a e => ?_⟩, ?_, ?_⟩⟩
  · obtain ⟨e3, e4⟩ := n.unown a o e1 e2
    exact ⟨e3, by rw [nO_ne (fun z => by rw [(hS a z).1] at e1; cases e1)]; exact e4⟩
  · have e := n.src a e
    rw [keep a (by rw [e]; exact fun z => nomatch z)]
    exact e
  · by_cases ha : a ∈ S
    · exact (hS a ha).2.2.1
    · rw [nO_ne ha] at e; exact st.wk.fo a e
  · by_cases ha : a ∈ S
    · exact (hS a ha).2.2.2
    · rw [nO_ne ha] at e; exact st.wk.oh a e
  · refine set_slot ⟨st.env.len, fun j sl' hj => let ⟨v', k1, k2⟩ := st.env.at_ j sl' hj; ⟨v', k1, k2.own fun a e => ?_⟩⟩ ?_
    · rw [keep a (by rw [e]; exact fun z => nomatch z)]
      exact e
    · cases sl with
      | un => exact h.elim
      | al _ _ => exact h.elim
      | oh _ => exact h.elim
      | sr => exact h.elim
      | fz d => exact ⟨v, rfl, h.2⟩
      | ow ds =>
        obtain ⟨p, vs, rfl, rfl, h4, h5⟩ := h
        exact ⟨p, vs, rfl, nO_in (List.mem_singleton.mpr rfl), h4, h5⟩
      | o2 dss =>
        obtain ⟨p, qs, rfl, rfl, h3, h4, h5, h6⟩ := h
        exact ⟨p, qs, rfl, nO_in List.mem_cons_self, h3, h4, h5, h6.impMem fun a ds ha z => ⟨nO_in (List.mem_cons_of_mem _ ha), z⟩⟩
      | dc kvs =>
        obtain ⟨p, o, ts, rfl, rfl, h4⟩ := h
        exact ⟨p, o, ts, rfl, nO_in (List.mem_singleton.mpr rfl), h4⟩
  · have hs := st.src
    obtain ⟨ps, al⟩ := pc
    cases ps with
    | none =>
      intro a e
      by_cases ha : a ∈ S
      · rw [nO_in ha] at e; cases e
      · rw [nO_ne ha] at e; exact hs a e
    | some pc =>
      obtain ⟨a, c⟩ := pc
      obtain ⟨k1, k2, k3, k4, k5⟩ := hs
      refine ⟨?_, ?_, k3, k4, fun b e => ?_⟩
      · rw [keep a (by rw [k1]; exact fun z => nomatch z)]; exact k1
      · rw [keep c (by rw [k2]; exact fun z => nomatch z)]; exact k2
      · by_cases ha : b ∈ S
        · rw [nO_in ha] at e; cases e
        · rw [nO_ne ha] at e; exact k5 b e
def asgS (i : Nat) (g : Yu) : Z := fun ρ s => bO (g ρ s) fun sl s1 => some (.nx (ρ.set i sl), s1)
theorem ss_asg {i : Nat} {gu : Yu} (h : SdU K te gu) : SdS K (tAsg te (gName i)) (asgS i gu) := by
  intro F O H pc σ ρ s fl s' st e Dn k
  obtain ⟨x, s1, e1, e⟩ := bO_some e
  cases e
  refine h F O H pc σ ρ s x _ st e1 _ fun v F1 H1 S n1 sr1 hS d1 => ?_
  obtain ⟨q, st'⟩ := store (i := i) n1.sq (st.ny n1 sr1) hS d1
  exact k _ F1 _ H1 pc q (PcLe.refl _) st'
/-! a, b = e1, e2 -/
theorem NewS.later {F1 H H1 F2 H2 : Hp} {O : Om} {S : List Addr} (n : Ny O F1 H1 F2 H2) (h : NewS O H F1 H1 S) : NewS O H F2 H2 S := fun a ha => by
  obtain ⟨h1, h2, h3, h4⟩ := h a ha
  refine ⟨h1, h2, ?_, n.dom a h4⟩
  cases z : F2 a with
  | none => rfl
  | some o =>
    rcases n.new a o z with w | w
    · rw [h3] at w; cases w
    · exact absurd w h4
theorem NewOr.later {F1 H H1 F2 H2 : Hp} {O : Om} {v : V} {sl : Sl} {S : List Addr} (n : Ny O F1 H1 F2 H2) (hS : NewS O H F1 H1 S) (h : NewOr K F1 H1 v S sl) : NewOr K F2 H2 v S sl := by
  cases sl with
  | un => exact h
  | al _ _ => exact h
  | oh _ => exact h
  | sr => exact h
  | fz d => exact ⟨h.1, h.2.mono n.ff⟩
  | ow ds =>
    obtain ⟨p, vs, rfl, rfl, h4, h5⟩ := h
    exact ⟨p, vs, rfl, rfl, n.unown _ _ h4 (hS p (List.mem_singleton.mpr rfl)).2.1, h5.mono n.ff⟩
  | o2 dss =>
    obtain ⟨p, qs, rfl, rfl, h3, h4, h5, h6⟩ := h
    exact ⟨p, qs, rfl, rfl, n.unown _ _ h3 (hS p List.mem_cons_self).2.1, h4, h5, h6.impMem fun a ds ha ⟨vs, z1, z2⟩ => ⟨vs, n.unown _ _ z1 (hS a (List.mem_cons_of_mem _ ha)).2.1, z2.mono n.ff⟩⟩
  | dc kvs =>
    obtain ⟨p, o, ts, rfl, rfl, h4, h5, h6, h7, h8⟩ := h
    exact ⟨p, o, ts, rfl, rfl, n.unown _ _ h4 (hS p (List.mem_singleton.mpr rfl)).2.1, h5, h6, h7.mono n.ff, h8.mono n.ff⟩
/-- another new one, behind the store of an earlier one -/
theorem NewS.second {F1 F2 H H0 H1 Hs H2 : Hp} {O0 Oa : Om} {i : Nat} {S T : List Addr} (d1 : NewS O0 H0 F1 H1 S) (le1 : ∀ a, H1 a ≠ none → Hs a ≠ none) (d2 : NewS Oa Hs F2 H2 T) (dom : ∀ a, H a ≠ none → Hs a ≠ none) : NewS (nO Oa i S) H F2 H2 T := fun a ha => by
  obtain ⟨g1, g2, g3, g4⟩ := d2 a ha
  refine ⟨?_, ?_, g3, g4⟩
  · cases z : H a with
    | none => rfl
    | some o => exact absurd g1 (dom a (by rw [z]; exact fun z => nomatch z))
  · rw [nO_ne (fun z => le1 a (d1 a z).2.2.2 g1)]
    exact g2
def parS (i j : Nat) (a b : Yu) : Z := fun ρ s => bO (a ρ s) fun x s1 => bO (b ρ s1) fun y s2 => some (.nx ((ρ.set i x).set j y), s2)
theorem ss_par {i j : Nat} {gu gv : Yu} (h : SdU K ta gu) (h' : SdU K tb gv) : SdS K (tPar i j (tCons ta (tCons tb tNil))) (parS i j gu gv) := by
  intro F O H pc σ ρ s fl s' st e Dn k
  obtain ⟨x, s1, e1, e⟩ := bO_some e
  obtain ⟨y, s2, e2, e⟩ := bO_some e
  cases e
  refine h F O H pc σ ρ s x _ st e1 _ fun v F1 H1 S1 n1 sr1 w1 d1 => ?_
  have st1 := st.ny n1 sr1
  refine h' F1 O H1 pc σ ρ s1 y _ st1 e2 _ fun u F2 H2 S2 n2 sr2 w2 d2 => ⟨v, u, rfl, ?_⟩
  have st2 := st1.ny n2 sr2
  obtain ⟨q, st3⟩ := store (i := i) (n1.trans n2).sq st2 (w1.later n2) (d1.later n2 w1)
  obtain ⟨q2, st4⟩ := store (i := j) q st3 (NewS.second w1 (fun _ z => z) w2 n1.dom) d2
  exact k _ F2 _ H2 pc q2 (PcLe.refl _) st4
def par3S (i j l : Nat) (a b c : Yu) : Z := fun ρ s => bO (a ρ s) fun x s1 => bO (b ρ s1) fun y s2 => bO (c ρ s2) fun z s3 => some (.nx (((ρ.set i x).set j y).set l z), s3)
theorem ss_par3 {tc : TE} {i j l : Nat} {gu gv gw : Yu} (h : SdU K ta gu) (h' : SdU K tb gv) (h'' : SdU K tc gw) : SdS K (tPar3 i j l (tCons ta (tCons tb (tCons tc tNil)))) (par3S i j l gu gv gw) := by
  intro F O H pc σ ρ s fl s' st e Dn k
  obtain ⟨x, s1, e1, e⟩ := bO_some e
  obtain ⟨y, s2, e2, e⟩ := bO_some e
  obtain ⟨z, s3, e3, e⟩ := bO_some e
  cases e
  refine h F O H pc σ ρ s x _ st e1 _ fun v F1 H1 S1 n1 sr1 w1 d1 => ?_
  have st1 := st.ny n1 sr1
  refine h' F1 O H1 pc σ ρ s1 y _ st1 e2 _ fun u F2 H2 S2 n2 sr2 w2 d2 => ?_
  have st2 := st1.ny n2 sr2
  refine h'' F2 O H2 pc σ ρ s2 z _ st2 e3 _ fun w F3 H3 S3 n3 sr3 w3 d3 => ⟨v, u, w, rfl, ?_⟩
  have st3 := st2.ny n3 sr3
  obtain ⟨q, st4⟩ := store (i := i) ((n1.trans n2).trans n3).sq st3 ((w1.later n2).later n3) ((d1.later n2 w1).later n3 (w1.later n2))
  obtain ⟨q2, st5⟩ := store (i := j) q st4 (NewS.second w1 (fun _ z => z) (w2.later n3) n1.dom) (d2.later n3 w2)
  obtain ⟨q3, st6⟩ := store (i := l) q2 st5 (NewS.second w2 (fun _ z => z) (NewS.second (H := H2) w1 n2.dom w3 (fun _ z => z)) (n1.trans n2).dom) d3
  exact k _ F3 _ H3 pc q3 (PcLe.refl _) st6

/-! ### stores into own lists -/
theorem EnvOk.own_at {F H : Hp} {O : Om} {pc : Pc} {σ : L2.St} {ρ : Rho} {i : Nat} {ds : List D} (e : EnvOk K F O H pc σ ρ) (h : ρ[i]? = some (.ow ds)) : ∃ q vs, σ[i]? = some (some (.ref q)) ∧ O q = some (.sl i) ∧ H q = some (.lst vs) ∧ DqAll K F vs ds := by
  obtain ⟨v, h1, q, vs, rfl, h2, h3, h4⟩ := e.at_ i _ h
  exact ⟨q, vs, h1, h2, h3, h4⟩
/-- a cell of slot i is written: the other slots, the source, what is frozen are as before -/
theorem slot_keep {F H : Hp} {O : Om} {pc : Pc} {i j : Nat} {q : Addr} {o : HO} {v : Option V} {sl : Sl} (hq : O q = some (.sl i)) (hij : j ≠ i) (k : SlOk K F O H pc j v sl) : SlOk K F O (upd H q o) pc j v sl := by
  have ne : ∀ a, O a = some (.sl j) → a ≠ q := fun a h z => by
    rw [z, hq] at h
    cases h
    exact hij rfl
  cases sl with
  | un => trivial
  | fz d => exact k
  | ow ds =>
    obtain ⟨a, vs, h1, h2, h3, h4⟩ := k
    exact ⟨a, vs, h1, h2, by rw [upd_ne (ne a h2)]; exact h3, h4⟩
  | o2 dss =>
    obtain ⟨a, qs, h1, h2, h3, h4, h5, h6⟩ := k
    exact ⟨a, qs, h1, h2, by rw [upd_ne (ne a h2)]; exact h3, h4, h5, h6.imp fun b ds ⟨z1, vs, z2, z3⟩ => ⟨z1, vs, by rw [upd_ne (ne b z1)]; exact z2, z3⟩⟩
  | dc kvs =>
    obtain ⟨a, ob, ts, h1, h2, h3, h4⟩ := k
    exact ⟨a, ob, ts, h1, h2, by rw [upd_ne (ne a h2)]; exact h3, h4⟩
  | oh dss =>
    obtain ⟨a, qs, h1, h2, h3, h4, h5, h6, h7⟩ := k
    exact ⟨a, qs, h1, h2, by rw [upd_ne (ne a h2)]; exact h3, h4, h5, h6.imp fun b ds ⟨z1, vs, z2, z3⟩ => ⟨z1, vs, by rw [upd_ne (ne b z1)]; exact z2, z3⟩, h7⟩
  | al r k' => exact k
  | sr => exact k
theorem own_upd {F H : Hp} {O : Om} {pc : Pc} {σ : L2.St} {ρ : Rho} {s : Src} {i : Nat} {q : Addr} {vs : List V} {ds : List D} (st : Stt K F O H pc σ ρ s) (h1 : σ[i]? = some (some (.ref q))) (h2 : O q = some (.sl i)) (h4 : DqAll K F vs ds) :
    Sq F O H F O (upd H q (.lst vs)) ∧ Stt K F O (upd H q (.lst vs)) pc σ (ρ.set i (.ow ds)) s := by
  have hn : O q ≠ none := by rw [h2]; exact fun z => nomatch z
  have hF := st.wk.fo q hn
  refine ⟨⟨Same.refl _, fun a o e1 e2 => ⟨?_, e2⟩, fun a e => ?_, fun _ e => e, fun _ _ e => .inl e⟩, ⟨⟨fun a o e => ?_, st.wk.fo, fun a e => ?_⟩, ⟨?_, fun j sl hj => ?_⟩, ?_⟩⟩
  · rw [upd_ne (fun z => hn (by rw [← z]; exact e2))]; exact e1
  · by_cases ha : a = q
    · rw [ha, upd_same]; exact fun z => nomatch z
    · rw [upd_ne ha]; exact e
  · rw [upd_ne (fun z => by rw [z, hF] at e; cases e)]; exact st.wk.fh a o e
  · by_cases ha : a = q
    · rw [ha, upd_same]; exact fun z => nomatch z
    · rw [upd_ne ha]; exact st.wk.oh a e
  · rw [List.length_set]; exact st.env.len
  · by_cases hij : i = j
    · subst hij
      by_cases hl : i < ρ.length
      · rw [List.getElem?_set_self hl] at hj
        cases hj
        exact ⟨_, h1, q, vs, rfl, h2, upd_same, h4⟩
      · rw [List.getElem?_eq_none (by rw [List.length_set]; omega)] at hj
        cases hj
    · rw [List.getElem?_set_ne hij] at hj
      obtain ⟨v, k1, k2⟩ := st.env.at_ j sl hj
      exact ⟨v, k1, slot_keep h2 (fun z => hij z.symm) k2⟩
  · have hs := st.src
    obtain ⟨ps, al⟩ := pc
    cases ps with
    | none => exact hs
    | some pc =>
      obtain ⟨a, c⟩ := pc
      obtain ⟨k1, k2, k3, k4, k5⟩ := hs
      exact ⟨k1, k2, by rw [upd_ne (fun z => by rw [z, h2] at k1; cases k1)]; exact k3, by rw [upd_ne (fun z => by rw [z, h2] at k2; cases k2)]; exact k4, k5⟩
/-- x.append(e) -/
def appS (i : Nat) (g : Y) : Z := fun ρ s => bO (g ρ s) fun d s1 => match ρ[i]? with
  | some (.ow ds) => if ds.length < lim then some (.nx (ρ.set i (.ow (ds ++ [d]))), s1) else none
  | _ => none
theorem ss_app {i : Nat} (h : SdY K te ge) : SdS K (tDrop (tBM K "list" rAppend (tVar i) (tCons te tNil))) (appS i ge) := by
  intro F O H pc σ ρ s fl s' st e Dn k
  obtain ⟨x, s1, e1, e⟩ := bO_some e
  split at e
  · rename_i ds hi
    split at e
    · rename_i hz
      cases e
      obtain ⟨q, vs, h1, h2, h3, h4⟩ := st.env.own_at hi
      refine ⟨.ref q, h1, .inl ⟨rfl, vs, SqL.of h3⟩, ?_⟩
      refine h F O H pc σ ρ s x _ st e1 _ fun v F1 H1 n1 sr1 d1 => ?_
      have st1 := st.ny n1 sr1
      have hH1 : H1 q = some (.lst vs) := by
        rw [n1.own q (by rw [h2]; exact fun z => nomatch z) (by rw [h2]; exact fun z => nomatch z)]
        exact h3
      refine ⟨q, vs, v, rfl, rfl, hH1, lim_lt (by rw [h4.len]; exact hz), ?_⟩
      obtain ⟨q2, st2⟩ := own_upd st1 h1 h2 ((h4.mono n1.ff).append (.cons d1 .nil))
      exact k _ F1 O _ pc (n1.sq.trans q2) (PcLe.refl _) st2
    · cases e
  · cases e
/-! ### targets that may change what is owned -/
abbrev Tg := D → Rho → Src → Option (Rho × Src)
def SdG (K : PySem.W.Frag) (g : TG) (b : Tg) : Prop := ∀ F O H pc σ ρ s d v ρ' s', Stt K F O H pc σ ρ s → Dq K F v d → b d ρ s = some (ρ', s') → ∀ Q : L2.St → Hp → Prop,
  (∀ σ' F' O' H', Sq F O H F' O' H' → Stt K F' O' H' pc σ' ρ' s' → Q σ' H') → g v σ H Q
def nmG (i : Nat) : Tg := fun d ρ s => some (ρ.set i (.fz d), s)
theorem sg_name (i : Nat) : SdG K (gName i) (nmG i) := by
  intro F O H pc σ ρ s d v ρ' s' st h e Q q
  cases e
  exact q _ F O H (Sq.refl _ _ _) (st.set h)
/-- x[e] = .., x an own list -/
def subG (i : Nat) (g : Y) : Tg := fun d ρ s => bO (g ρ s) fun k s1 => match ρ[i]?, k with
  | some (.ow ds), .int n => mO (ixN ds.length n) fun j => some (ρ.set i (.ow (ds.set j d)), s1)
  | _, _ => none
theorem sg_sub {i : Nat} (h : SdY K te ge) : SdG K (gSub (tVar i) te rSetL) (subG i ge) := by
  intro F O H pc σ ρ s d v ρ' s' st hd e Q q
  obtain ⟨x, s1, e1, e⟩ := bO_some e
  split at e
  · rename_i ds n hi
    obtain ⟨j, e2, e⟩ := mO_some e
    cases e
    obtain ⟨p, vs, h1, h2, h3, h4⟩ := st.env.own_at hi
    refine ⟨.ref p, h1, ?_⟩
    refine h F O H pc σ ρ s _ _ st e1 _ fun u F1 H1 n1 sr1 d1 => ?_
    have st1 := st.ny n1 sr1
    have hH1 : H1 p = some (.lst vs) := by
      rw [n1.own p (by rw [h2]; exact fun z => nomatch z) (by rw [h2]; exact fun z => nomatch z)]
      exact h3
    refine ⟨p, vs, n, j, rfl, d1.int_inv, hH1, by rw [h4.len]; exact e2, ?_⟩
    obtain ⟨q2, st2⟩ := own_upd st1 h1 h2 (DqAll.set (hd.mono n1.ff) j (h4.mono n1.ff))
    exact q _ F1 O _ (n1.sq.trans q2) st2
  · cases e
def nilGs : List D → Rho → Src → Option (Rho × Src) := fun ds ρ s => match ds with
  | [] => some (ρ, s)
  | _ => none
def consGs (g : Tg) (r : List D → Rho → Src → Option (Rho × Src)) : List D → Rho → Src → Option (Rho × Src) := fun ds ρ s => match ds with
  | d :: ds => bO (g d ρ s) fun ρ1 s1 => r ds ρ1 s1
  | _ => none
def SdGs (K : PySem.W.Frag) (g : TGs) (b : List D → Rho → Src → Option (Rho × Src)) : Prop := ∀ F O H pc σ ρ s ds vs ρ' s', Stt K F O H pc σ ρ s → DqAll K F vs ds → b ds ρ s = some (ρ', s') → ∀ Q : L2.St → Hp → Prop,
  (∀ σ' F' O' H', Sq F O H F' O' H' → Stt K F' O' H' pc σ' ρ' s' → Q σ' H') → g vs σ H Q
theorem sgs_nil : SdGs K gNil nilGs := by
  intro F O H pc σ ρ s ds vs ρ' s' st h e Q q
  unfold nilGs at e
  split at e
  · cases e
    cases h
    exact ⟨rfl, q _ F O H (Sq.refl _ _ _) st⟩
  · cases e
theorem sgs_cons {g : TG} {gs : TGs} {b : Tg} {bs : List D → Rho → Src → Option (Rho × Src)} (h : SdG K g b) (h' : SdGs K gs bs) : SdGs K (gCons g gs) (consGs b bs) := by
  intro F O H pc σ ρ s ds vs ρ' s' st hd e Q q
  unfold consGs at e
  split at e
  · obtain ⟨ρ1, s1, e1, e⟩ := bO_some e
    cases hd with
    | cons a t =>
      refine ⟨_, _, rfl, ?_⟩
      refine h F O H pc σ ρ s _ _ ρ1 s1 st a e1 _ fun σ1 F1 O1 H1 q1 st1 => ?_
      exact h' F1 O1 H1 pc σ1 ρ1 s1 _ _ ρ' s' st1 (t.mono q1.ff) e Q fun σ2 F2 O2 H2 q2 st2 => q σ2 F2 O2 H2 (q1.trans q2) st2
  · cases e
def tupG (n : Nat) (b : List D → Rho → Src → Option (Rho × Src)) : Tg := fun d ρ s => match d with
  | .tuple ds => if ds.length = n then b ds ρ s else none
  | _ => none
theorem sg_tup {n : Nat} {gs : TGs} {bs : List D → Rho → Src → Option (Rho × Src)} (h : SdGs K gs bs) : SdG K (gTup K n gs) (tupG n bs) := by
  intro F O H pc σ ρ s d v ρ' s' st hd e Q q
  unfold tupG at e
  split at e
  · split at e
    · rename_i hn
      obtain ⟨p, vs, rfl, h1, h2⟩ := hd.tup_inv
      exact ⟨p, vs, rfl, st.wk.t h1, by rw [h2.len]; exact hn, h F O H pc σ ρ s _ _ ρ' s' st h2 e Q q⟩
    · cases e
  · cases e
def asgGS (g : Y) (b : Tg) : Z := fun ρ s => bO (g ρ s) fun d s1 => bO (b d ρ s1) fun ρ1 s2 => some (.nx ρ1, s2)
theorem ss_asgG {g : TG} {b : Tg} (h : SdY K te ge) (hg : SdG K g b) : SdS K (tAsg te g) (asgGS ge b) := by
  intro F O H pc σ ρ s fl s' st e Dn k
  obtain ⟨x, s1, e1, e⟩ := bO_some e
  obtain ⟨ρ1, s2, e2, e⟩ := bO_some e
  cases e
  refine h F O H pc σ ρ s x _ st e1 _ fun v F1 H1 n1 sr1 d1 => ?_
  exact hg F1 O H1 pc σ ρ s1 x v ρ1 _ (st.ny n1 sr1) d1 e2 _ fun σ2 F2 O2 H2 q2 st2 => k σ2 F2 O2 H2 pc (n1.sq.trans q2) (PcLe.refl _) st2
/-! ### x += e -/
def augS (f : Int → Int → Int) (i : Nat) (g : Y) : Z := fun ρ s => match ρ[i]? with
  | some (.fz (.int a)) => bO (g ρ s) fun d s1 => match d with
    | .int b => some (.nx (ρ.set i (.fz (.int (f a b)))), s1)
    | _ => none
  | _ => none
theorem ss_aug {f : Int → Int → Int} {i : Nat} (h : SdY K te ge) : SdS K (tAug i te (ipI f)) (augS f i ge) := by
  intro F O H pc σ ρ s fl s' st e Dn k
  unfold augS at e
  split at e
  · rename_i a hi
    obtain ⟨x, s1, e1, e⟩ := bO_some e
    split at e
    · cases e
      obtain ⟨v, h1, w, rfl, h2⟩ := st.env.at_ i _ hi
      refine ⟨w, h1, ?_⟩
      refine h F O H pc σ ρ s _ _ st e1 _ fun u F1 H1 n1 sr1 d1 => ⟨_, _, h2.int_inv, d1.int_inv, ?_⟩
      exact k _ F1 O H1 pc n1.sq (PcLe.refl _) ((st.ny n1 sr1).set (.int _))
    · cases e
  · cases e

/-! ### what is owned is frozen -/
def frzR (i : Nat) (ρ : Rho) : Rho := match ρ[i]? with
  | some (.ow ds) => ρ.set i (.fz (.list ds))
  | some (.o2 dss) => ρ.set i (.fz (.list (dss.map .list)))
  | some (.dc kvs) => ρ.set i (.fz (.dict kvs))
  | _ => ρ
def inB (S : List Addr) (a : Addr) : Bool := decide (a ∈ S)
theorem freeze {F H : Hp} {O : Om} {pc : Pc} {σ : L2.St} {ρ : Rho} {s : Src} {i : Nat} {S : List Addr} {d : D} {v : V} (st : Stt K F O H pc σ ρ s) (hS : ∀ a ∈ S, O a = some (.sl i)) (hv : σ[i]? = some (some v))
    (hd : ∀ F', Same F F' → (∀ a ∈ S, F' a = H a) → Dq K F' v d) : ∃ F' O', Sq F O H F' O' H ∧ Stt K F' O' H pc σ (ρ.set i (.fz d)) s := by
  have nF : ∀ a ∈ S, F a = none := fun a h => st.wk.fo a (by rw [hS a h]; exact fun z => nomatch z)
  have sF : Same F (fun a => if a ∈ S then H a else F a) := fun a o e => by
    show (if a ∈ S then H a else F a) = some o
    rw [if_neg (fun z => by rw [nF a z] at e; cases e)]
    exact e
  have kO : ∀ a w, O a = some w → w ≠ .sl i → (if a ∈ S then none else O a) = some w := fun a w e hw => by
    rw [if_neg (fun z => by rw [hS a z] at e; cases e; exact hw rfl)]
    exact e
  refine ⟨fun a => if a ∈ S then H a else F a, fun a => if a ∈ S then none else O a, ⟨sF, fun a o e1 e2 => ⟨e1, ?_⟩, fun _ h => h, fun a e => kO a _ e (fun z => nomatch z), fun a o e => ?_⟩, ⟨⟨fun a o e => ?_, fun a e => ?_, fun a e => ?_⟩, ⟨?_, fun j sl hj => ?_⟩, ?_⟩⟩
  · show (if a ∈ S then none else O a) = none
    split
    · rfl
    · exact e2
  · have e : (if a ∈ S then H a else F a) = some o := e
    split at e
    · rename_i h
      exact .inr (.inl (by rw [hS a h]; exact fun z => nomatch z))
    · exact .inl e
  · have e : (if a ∈ S then H a else F a) = some o := e
    split at e
    · exact e
    · exact st.wk.fh a o e
  · have e : (if a ∈ S then none else O a) ≠ none := e
    show (if a ∈ S then H a else F a) = none
    split at e
    · exact absurd rfl e
    · rename_i h
      rw [if_neg h]
      exact st.wk.fo a e
  · have e : (if a ∈ S then none else O a) ≠ none := e
    split at e
    · exact absurd rfl e
    · exact st.wk.oh a e
  · rw [List.length_set]; exact st.env.len
  · by_cases hij : i = j
    · subst hij
      by_cases hl : i < ρ.length
      · rw [List.getElem?_set_self hl] at hj
        cases hj
        exact ⟨_, hv, v, rfl, hd _ sF fun a h => by show (if a ∈ S then H a else F a) = H a; rw [if_pos h]⟩
      · rw [List.getElem?_eq_none (by rw [List.length_set]; omega)] at hj
        cases hj
    · rw [List.getElem?_set_ne hij] at hj
      obtain ⟨w, k1, k2⟩ := st.env.at_ j sl hj
      refine ⟨w, k1, ?_⟩
      have oj : ∀ a, O a = some (.sl j) → (if a ∈ S then none else O a) = some (.sl j) := fun a e => kO a _ e (fun z => by cases z; exact hij rfl)
      cases sl with
      | un => trivial
      | fz d' =>
        obtain ⟨x, h3, h4⟩ := k2
        exact ⟨x, h3, h4.mono sF⟩
      | ow ds =>
        obtain ⟨q, vs, h3, h4, h5, h6⟩ := k2
        exact ⟨q, vs, h3, oj _ h4, h5, h6.mono sF⟩
      | o2 dss =>
        obtain ⟨q, qs, h3, h4, h5, h6, h7, h8⟩ := k2
        exact ⟨q, qs, h3, oj _ h4, h5, h6, h7, h8.imp fun a ds ⟨z1, vs, z2, z3⟩ => ⟨oj _ z1, vs, z2, z3.mono sF⟩⟩
      | dc kvs =>
        obtain ⟨q, o, ts, h3, h4, h5, h6, h7, h8, h9⟩ := k2
        exact ⟨q, o, ts, h3, oj _ h4, h5, h6, h7, h8.mono sF, h9.mono sF⟩
      | oh dss =>
        obtain ⟨q, qs, h3, h4, h5, h6, h7, h8, h9⟩ := k2
        exact ⟨q, qs, h3, oj _ h4, h5, h6, h7, h8.imp fun a ds ⟨z1, vs, z2, z3⟩ => ⟨oj _ z1, vs, z2, z3.mono sF⟩, h9⟩
      | al r k' => exact k2
      | sr => exact k2
  · have hs := st.src
    have os : ∀ a, (if a ∈ S then none else O a) = some Ow.src → O a = some .src := fun a e => by
      split at e
      · cases e
      · exact e
    obtain ⟨ps, al⟩ := pc
    cases ps with
    | none => exact fun a e => hs a (os a e)
    | some pc =>
      obtain ⟨a, c⟩ := pc
      obtain ⟨k1, k2, k3, k4, k5⟩ := hs
      exact ⟨kO a _ k1 (fun z => nomatch z), kO c _ k2 (fun z => nomatch z), k3, k4, fun b e => k5 b (os b e)⟩
theorem frz_st {F H : Hp} {O : Om} {pc : Pc} {σ : L2.St} {ρ : Rho} {s : Src} (i : Nat) (st : Stt K F O H pc σ ρ s) : ∃ F' O', Sq F O H F' O' H ∧ Stt K F' O' H pc σ (frzR i ρ) s := by
  unfold frzR
  split
  · rename_i ds hi
    obtain ⟨q, vs, h1, h2, h3, h4⟩ := st.env.own_at hi
    refine freeze (S := [q]) st (fun a h => by rw [List.mem_singleton.mp h]; exact h2) h1 fun F' e hF => .lst (vs := vs) ?_ (h4.mono e)
    rw [hF q (List.mem_singleton.mpr rfl)]
    exact h3
  · rename_i dss hi
    obtain ⟨v, h1, q, qs, rfl, h2, h3, h4, h5, h6⟩ := st.env.at_ i _ hi
    have hq : ∀ a ∈ qs, O a = some (.sl i) := by
      clear hi h3 h4 h5
      induction h6 with
      | nil => intro a h; cases h
      | cons a b ih =>
        intro x h
        rcases List.mem_cons.mp h with h | h
        · rw [h]; exact a.1
        · exact ih x h
    refine freeze (S := q :: qs) st (fun a h => ?_) h1 fun F' e hF => .lst (vs := qs.map V.ref) ?_ ?_
    · rcases List.mem_cons.mp h with h | h
      · rw [h]; exact h2
      · exact hq a h
    · rw [hF q List.mem_cons_self]
      exact h3
    · have hF' : ∀ a ∈ qs, F' a = H a := fun a h => hF a (List.mem_cons_of_mem _ h)
      clear hi h3 h4 h5 hq hF
      induction h6 with
      | nil => exact .nil
      | cons a b ih =>
        obtain ⟨z1, vs, z2, z3⟩ := a
        refine .cons (.lst (vs := vs) ?_ (z3.mono e)) (ih fun a h => hF' a (List.mem_cons_of_mem _ h))
        rw [hF' _ List.mem_cons_self]
        exact z2
  · rename_i kvs hi
    obtain ⟨v, h1, q, o, ts, rfl, h2, h3, h4, h5, h6, h7⟩ := st.env.at_ i _ hi
    refine freeze (S := [q]) st (fun a h => by rw [List.mem_singleton.mp h]; exact h2) h1 fun F' e hF => .dct (o := o) (ts := ts) ?_ h4 h5 (h6.mono e) (h7.mono e)
    rw [hF q (List.mem_singleton.mpr rfl)]
    exact h3
  · exact ⟨F, O, Sq.refl _ _ _, st⟩
def frzS (i : Nat) (G : Z) : Z := fun ρ s => G (frzR i ρ) s
theorem ss_frz (i : Nat) (h : SdS K t G) : SdS K t (frzS i G) := by
  intro F O H pc σ ρ s fl s' st e Dn k
  obtain ⟨F', O', q, st'⟩ := frz_st i st
  exact h F' O' H pc σ _ s fl s' st' e Dn (k.after q (PcLe.refl _))

/-! ### loops -/
def forGo {α : Type} (bind : α → Rho → Option Rho) (G : Z) : List α → Rho → Src → Option (Fl × Src)
  | [], ρ, s => some (.nx ρ, s)
  | x :: xs, ρ, s => mO (bind x ρ) fun ρ1 => bO (G ρ1 s) fun fl s1 => match fl with
    | .nx ρ2 => forGo bind G xs ρ2 s1
    | .ct ρ2 => forGo bind G xs ρ2 s1
    | .bk ρ2 => some (.nx ρ2, s1)
    | .rt d => some (.rt d, s1)
def forS {α : Type} (fi : Rho → Src → Option (List α × Src)) (bind : α → Rho → Option Rho) (G : Z) : Z := fun ρ s => bO (fi ρ s) fun xs s1 => forGo bind G xs ρ s1
theorem ss_for {α : Type} {wi : TI} {g : TG} {js : List Nat} {fi : Rho → Src → Option (List α × Src)} {bind : α → Rho → Option Rho} (hi : SdI K wi g fi bind js) (h : SdS K t G) : SdS K (tFor wi g t) (forS fi bind G) := by
  intro F O H pc σ ρ s fl s' st e Dn k
  obtain ⟨xs, s1, e1, e⟩ := bO_some e
  refine hi F O H pc σ ρ s xs s1 st e1 _ fun J F1 H1 n1 sr1 tk => ?_
  have st1 := st.ny n1 sr1
  obtain ⟨Yv, wk, step⟩ := tk
  let Pv : Nat → L2.St → Hp → Prop := fun i σ2 H2 => ∃ F2 O2 pc2 ρ2 s2, Sq F1 O H1 F2 O2 H2 ∧ PcLe pc pc2 ∧ Stt K F2 O2 H2 pc2 σ2 ρ2 s2 ∧ forGo bind G (xs.drop i) ρ2 s2 = some (fl, s')
  refine for_it wk Pv ⟨F1, O, pc, ρ, s1, Sq.refl _ _ _, PcLe.refl _, st1, by rw [List.drop_zero]; exact e⟩ ?_ ?_ ?_
  · rintro i σ2 H2 _ ⟨F2, O2, pc2, ρ2, s2, q2, _, st2, _⟩
    exact q2.ff.trans st2.wk.fh
  · rintro i x σ2 H2 H2' hlt ⟨F2, O2, pc2, ρ2, s2, q2, p2, st2, ego⟩ hy
    have hxi : xs[i]? = some xs[i] := List.getElem?_eq_getElem hlt
    rw [List.drop_eq_getElem_cons hlt] at ego
    unfold forGo at ego
    obtain ⟨ρ3, eb, ego⟩ := mO_some ego
    refine step i _ x H2 H2' F2 O2 pc2 σ2 ρ2 ρ3 s2 hxi q2.ff st2 eb hy _ fun σ3 F3 H3 n3 st3 _ => ?_
    obtain ⟨f4, s4, eg, ego⟩ := bO_some ego
    have q3 := q2.trans n3.sq
    refine h F3 O2 H3 pc2 σ3 ρ3 s2 f4 s4 st3 eg _ ?_
    have kk := k.after (n1.sq.trans q3) p2
    cases f4 with
    | nx ρ4 => exact fun σ' F' O' H' pc' q p st' => ⟨F', O', pc', ρ4, s4, q3.trans q, p2.trans p, st', ego⟩
    | ct ρ4 => exact fun σ' F' O' H' pc' q p st' => ⟨F', O', pc', ρ4, s4, q3.trans q, p2.trans p, st', ego⟩
    | bk ρ4 =>
      cases ego
      exact kk
    | rt d =>
      cases ego
      exact kk
  · rintro σ2 H2 ⟨F2, O2, pc2, ρ2, s2, q2, p2, st2, ego⟩
    rw [List.drop_length] at ego
    cases ego
    exact k σ2 F2 O2 H2 pc2 (n1.sq.trans q2) p2 st2
def whGo (c : Yb) (G : Z) : Nat → Rho → Src → Option (Fl × Src)
  | 0, _, _ => none
  | n + 1, ρ, s => bO (c ρ s) fun b s1 => if b = true then bO (G ρ s1) fun fl s2 => match fl with
      | .nx ρ2 => whGo c G n ρ2 s2
      | .ct ρ2 => whGo c G n ρ2 s2
      | .bk ρ2 => some (.nx ρ2, s2)
      | .rt d => some (.rt d, s2)
    else some (.nx ρ, s1)
def fuel : Nat := 1000000
def whS (c : Yb) (G : Z) : Z := fun ρ s => whGo c G (fuel + s.cells.length) ρ s
theorem ss_while {tc : TT} {gc : Yb} (hc : SdT K tc gc) (h : SdS K t G) : SdS K (tWhile tc t) (whS gc G) := by
  intro F O H pc σ ρ s fl s' st e Dn k
  refine ⟨fun m σ2 H2 => ∃ F2 O2 pc2 ρ2 s2, Sq F O H F2 O2 H2 ∧ PcLe pc pc2 ∧ Stt K F2 O2 H2 pc2 σ2 ρ2 s2 ∧ whGo gc G m ρ2 s2 = some (fl, s'), ⟨fuel + s.cells.length, F, O, pc, ρ, s, Sq.refl _ _ _, PcLe.refl _, st, e⟩, ?_⟩
  rintro m σ2 H2 ⟨F2, O2, pc2, ρ2, s2, q2, p2, st2, ego⟩
  cases m with
  | zero => cases ego
  | succ m =>
    unfold whGo at ego
    obtain ⟨b, s3, eb, ego⟩ := bO_some ego
    refine hc F2 O2 H2 pc2 σ2 ρ2 s2 b s3 st2 eb _ fun F3 H3 n3 sr3 => ?_
    have st3 := st2.ny n3 sr3
    have q3 := q2.trans n3.sq
    cases b with
    | false =>
      rw [if_neg Bool.false_ne_true] at ego ⊢
      cases ego
      exact k σ2 F3 O2 H3 pc2 q3 p2 st3
    | true =>
      rw [if_pos rfl] at ego ⊢
      obtain ⟨f4, s4, eg, ego⟩ := bO_some ego
      let N : L2.St → Hp → Prop := fun σ' H' => ∃ F' O' pc' ρ' s'', Sq F O H F' O' H' ∧ PcLe pc pc' ∧ Stt K F' O' H' pc' σ' ρ' s'' ∧ whGo gc G m ρ' s'' = some (fl, s')
      refine ⟨N, fun σ' H' hN => ⟨m, Nat.lt_succ_self m, hN⟩, ?_⟩
      refine h F3 O2 H3 pc2 σ2 ρ2 s3 f4 s4 st3 eg _ ?_
      have kk := k.after q3 p2
      cases f4 with
      | nx ρ4 => exact fun σ' F' O' H' pc' q p st' => ⟨F', O', pc', ρ4, s4, q3.trans q, p2.trans p, st', ego⟩
      | ct ρ4 => exact fun σ' F' O' H' pc' q p st' => ⟨F', O', pc', ρ4, s4, q3.trans q, p2.trans p, st', ego⟩
      | bk ρ4 =>
        cases ego
        exact kk
      | rt d =>
        cases ego
        exact kk
end
end DL

set_option Elab.async false
set_option linter.all false
set_option maxRecDepth 100000
set_option maxHeartbeats 4000000
/-! DL6g: promises of defs that also know that no repr is under way. -/
namespace DL
open PySem PySem.Spec PyProof.Rows L2

structure RoomG (k : Nat) (A : Around) : Prop where
  r : Room k A
  g : A.guards = some []
theorem RoomG.mono {j k : Nat} {A : Around} (h : RoomG k A) (jk : j ≤ k) : RoomG j A := ⟨h.r.mono jk, h.g⟩
theorem RoomG.down {k : Nat} {A : Around} (h : RoomG (k + 1) A) (env : Env) : RoomG k (A.deeper env) := ⟨h.r.deeper env, h.g⟩
section
variable {P : Program} {w : World} {K : PySem.W.Frag} {mg : Str → Option Value} {base : Heap}
structure FnG (P : Program) (w : World) (K : PySem.W.Frag) (mg : Str → Option Value) (base : Heap) (k : Nat) (f : Addr) (fd : FuncData) (ps : List Str) (sp : Sp) : Prop where
  ln : ∀ vs H Q E, sp vs H Q E → vs.length = ps.length
  go : ∀ (A : Around) (fr : List Env) (s : Shared) (H : Hp) (args : Args) (us : List Value) (vs : List V) (Q : VK) (E : XK), RoomG k A → Env0 P w K mg base A fr s H → BindsTo s fd args (ps.zip us) → Vals vs us → sp vs H Q E →
    codeAny (model P w) A (.call (.ref f) args) (CR CX0 fr P w H s Q E) s
theorem FnG.mono {j k : Nat} {f : Addr} {fd : FuncData} {ps : List Str} {sp : Sp} (F : FnG P w K mg base j f fd ps sp) (h : j ≤ k) : FnG P w K mg base k f fd ps sp := ⟨F.ln, fun A fr s H ar us vs Q E hr => F.go A fr s H ar us vs Q E (hr.mono h)⟩
theorem FnG.imp {k : Nat} {f : Addr} {fd : FuncData} {ps : List Str} {sp sp' : Sp} (F : FnG P w K mg base k f fd ps sp) (h : ∀ vs H Q E, sp' vs H Q E → sp vs H Q E) : FnG P w K mg base k f fd ps sp' :=
  ⟨fun vs H Q E q => F.ln vs H Q E (h _ _ _ _ q), fun A fr s H ar us vs Q E hr he hb hv hs => F.go A fr s H ar us vs Q E hr he hb hv (h _ _ _ _ hs)⟩
/-- a def by its body -/
theorem okG {x qual : Str} {st : Stmt} {f : Addr} {fd : FuncData} {N ps : List Str} {k : Nat} {sp : Sp} (Fn : Fun K x qual st f fd) (S : FnScope N ps (defScope st)) (ln : ∀ vs H Q E, sp vs H Q E → vs.length = ps.length)
    (body : ∀ (cdv : Value) (A : Around) (fr : List Env) (s : Shared) (H : Hp) (vs : List V) (Q : VK) (E : XK), RoomG k (A.deeper (envOfC qual (defScope st) s.heap.objs.size f cdv)) → sp vs H Q E →
      ∃ t, PSs (cxOf CX0 P w K mg base N qual (defScope st) f cdv A fr s H E).nox (defBody st) t ∧ t { nx := fun _ H' => Q .non H', rt := Q } (L2.start N vs) H) : FnG P w K mg base (k + 1) f fd ps sp := by
  obtain ⟨oc, od, kV, doc, pm, an, cdv, ct, osl, rfl, lk, hcd⟩ := Fn.ex
  refine ⟨ln, fun A fr s H ar us vs Q E hr e0 hb rv hsp => ?_⟩
  have inK : K.In s.heap := e0.mod.kin.keeps fun b o e => (e0.bs b o e).1
  have kinds : ∀ y ∈ ps.zip us, (defScope st).names.lookup y.1 = some .local ∨ ((defScope st).names.lookup y.1 = some .cell ∧ ((cellsFrom (s.heap.objs.size + 1) (defScope st).names []).lookup y.1).isSome = true) := by
    rintro ⟨n, v⟩ hy
    rcases S.par n (List.of_mem_zip hy).1 with z | z
    · exact .inl z
    · exact .inr ⟨z, PySem.W.cellsFrom_some _ _ _ (.inl z)⟩
  refine codeAny_call_function hr.r.depth (inK _ _ lk) rfl S.co S.gen rfl (PySem.W.codeRec_of inK hcd) (hb _ _ _ _ (wpAny_newFunctionEnv_cells S.kind kinds fun env he s1 ic => ?_))
  subst he
  have nl : s.heap.NoLimit := e0.mod.nolimit.keeps fun b o e => (e0.bs b o e).1
  obtain ⟨t, ht, hq⟩ := body cdv A fr s H vs Q E (hr.down _) hsp
  have I0 : L2.Inv (cxOf CX0 P w K mg base N qual (defScope st) f cdv A fr s H E) [] (L2.start N vs) H s1 := inv_start S hr.r.hd e0 (ln _ _ _ _ hsp) rv ic
  refine ⟨nl.keeps ic.toInCall.keep, codeAny_func (wpAny_mono (ht.nox.run [] s1 (L2.start N vs) H _ I0 hq) (fun fl s2 hs => ?_) fun e s2 hs => hs)⟩
  match fl, hs with
  | .ret u, hs =>
    obtain ⟨v, σ2, H2, J, r2, q2⟩ := hs
    exact ⟨v, H2, J.os, J.bare, J.base, J.hok, r2, q2⟩
  | .next, hs =>
    obtain ⟨σ2, H2, J, q2⟩ := hs
    exact ⟨V.non, H2, J.os, J.bare, J.base, J.hok, rfl, q2⟩
  | .brk, hs =>
    obtain ⟨_, _, _, z⟩ := hs
    exact z.elim
  | .cont, hs =>
    obtain ⟨_, _, _, z⟩ := hs
    exact z.elim
end

/-- a def that can be called by its name -/
structure Cal (P : Program) (w : World) (K : PySem.W.Frag) (mg : Str → Option Value) (base : Heap) (k : Nat) (x : Str) (ps : List Str) (sp : Sp) : Prop where
  ex : ∃ f fd, FnG P w K mg base k f fd ps sp ∧ Binds K fd ps [] ∧ mg x = some (.ref f) ∧ PySem.W.keepIn K (.ref f) = true
theorem Cal.mono {P : Program} {w : World} {K : PySem.W.Frag} {mg : Str → Option Value} {base : Heap} {j k : Nat} {x : Str} {ps : List Str} {sp : Sp} (C : Cal P w K mg base j x ps sp) (h : j ≤ k) : Cal P w K mg base k x ps sp := by
  obtain ⟨f, fd, h1, h2⟩ := C.ex
  exact ⟨f, fd, h1.mono h, h2⟩
theorem Cal.imp {P : Program} {w : World} {K : PySem.W.Frag} {mg : Str → Option Value} {base : Heap} {k : Nat} {x : Str} {ps : List Str} {sp sp' : Sp} (C : Cal P w K mg base k x ps sp) (h : ∀ vs H Q E, sp' vs H Q E → sp vs H Q E) : Cal P w K mg base k x ps sp' := by
  obtain ⟨f, fd, h1, h2⟩ := C.ex
  exact ⟨f, fd, h1.imp h, h2⟩
section
variable {X : Cx} {k : Nat} {x : Str} {ps : List Str} {sp : Sp} {p pos : Pos} {e : Expr} {es : List Expr} {t : TA}
theorem go_fn {pins : List (Addr × Obj)} {σ : L2.St} {H : Hp} {s : Shared} {Q : VK} {us : List Value} {vs : List V} {f : Addr} {fd : FuncData} (F : FnG X.prog X.w X.K X.mg X.base k f fd ps sp) (hr : RoomG k X.A) (hb : Binds X.K fd ps [])
    (I : L2.Inv X pins σ H s) (r : Vals vs us) (h : sp vs H Q E0) : wpAny (model X.prog X.w) X.A (call (.ref f) us) (EP X pins σ Q) X.xe s := by
  have hl : (us ++ []).length = ps.length := by rw [List.append_nil, ← r.length]; exact F.ln _ _ _ _ h
  have bd := hb s us I.kIn hl
  rw [List.append_nil] at bd
  refine wpAny_call (codeAny_mono (F.go X.A X.stack s H ⟨us, []⟩ us vs Q E0 hr I.env0 bd r h) fun z s2 hq => ?_)
  match z, hq with
  | .error e, hq => exact hq.elim
  | .ok (.ret u), hq => exact I.after hq
  | .ok .next, hq => exact hq.elim
  | .ok .brk, hq => exact hq.elim
  | .ok .cont, hq => exact hq.elim
theorem pe_cal (C : Cal X.prog X.w X.K X.mg X.base k x ps sp) (hr : RoomG k X.A) (hg : Gl X x) (ha : PA X (e :: es) t) (hdb : (x == ("__debug__" : Str)) = false := by decide)
    (he : starEach (e :: es) X.env = (false, eval e X.env) :: starEach es X.env := by rfl) (hpl : (backTo pos (starEach es X.env)).any (·.1) = false := by rfl) :
    PE X (.Call (.Name x p) (e :: es) [] pos) (tCall sp [] E0 t) := by
  obtain ⟨f, fd, h1, h2, h3, h4⟩ := C.ex
  refine ⟨fun pins s σ H Q I h => wpAny_Call_Name_kw (ld_glob I hg h3 (PySem.W.callWith_K (h₀ := X.base) I.ok.mod.kin h4 (thn (ha.run pos pins s σ H _ I h) fun us s1 ⟨vs, H1, I1, r, q⟩ => ⟨I1.kIn, ?_⟩) he hpl) hdb)⟩
  have q2 : sp (vs ++ []) H1 Q E0 := q
  rw [List.append_nil] at q2
  exact go_fn h1 hr h2 I1 r q2
theorem pe_cal0 (C : Cal X.prog X.w X.K X.mg X.base k x ps sp) (hr : RoomG k X.A) (hg : Gl X x) (hdb : (x == ("__debug__" : Str)) = false := by decide) :
    PE X (.Call (.Name x p) [] [] pos) (tCall sp [] E0 tNil) := by
  obtain ⟨f, fd, h1, h2, h3, h4⟩ := C.ex
  exact ⟨fun pins s σ H Q I h => wpAny_Call_Name_kw (ld_glob I hg h3 (PySem.W.callWith_K0 I.kIn h4 (go_fn (us := []) h1 hr h2 I .nil h)) hdb)⟩
end
/-! ### the law's call -/
/-- a list that stands in the heap, and nothing else, may be tracked -/
structure One (a : Addr) (o : Obj) (xs : List V) (H : Hp) : Prop where
  other : ∀ b, b ≠ a → H b = none
  this : H a = none ∨ H a = some (.frz o (.lst xs))
theorem call_law {P : Program} {w : World} {K : PySem.W.Frag} {mg mb : Str → Option Value} {k : Nat} {fa a : Addr} {fd : FuncData} {x : Str} {sp : Sp} {s : Shared} {vs : List Value} {ns : List Int} (inK : K.In s.heap) (nsM : s.heap.Ns mainGlobals mg)
    (nsB : s.heap.Ns builtinsNs mb) (boot : ∀ x : Str, x ≠ "__name__" → mb x = bootBuiltins x) (nl : s.heap.NoLimit) (ng : s.gens = #[]) (ho : s.heap.get? a = some { cls := .type "list", data := .seq vs.toArray }) (hi : IntsAre vs ns) (hl : ns.length ≤ sizeLine)
    (hr : RoomG k callerA) (F : ∀ base : Heap, K.In base → base.Ns mainGlobals mg → FnG P w K mg base k fa fd [x] sp) (bind : ∀ (s : Shared) (u : Value), BindsTo s fd ⟨[u], []⟩ [(x, u)])
    (hsp : ∀ H : Hp, SqL K H a (ns.map V.int) → sp [.ref a] H (fun v _ => v = .bl true) E0) :
    codeAny (model P w) callerA (.call (.ref fa) ⟨[.ref a], []⟩) (fun r s2 => r = .ok (.ret (.bool true)) ∧ OldK s.heap s2.heap ∧ s2.os = s.os ∧ AllBare s2.gens) s := by
  have rv := vals_ints hi
  have main : ∀ H : Hp, One a { cls := .type "list", data := .seq vs.toArray } (ns.map V.int) H → (H a ≠ none → K.lookup a = none) → SqL K H a (ns.map V.int) →
      codeAny (model P w) callerA (.call (.ref fa) ⟨[.ref a], []⟩) (fun r s2 => r = .ok (.ret (.bool true)) ∧ OldK s.heap s2.heap ∧ s2.os = s.os ∧ AllBare s2.gens) s := by
    intro H h1 hK hS
    have hok : HOk P w H s.heap := fun b o z => by
      by_cases hb : b = a
      · subst hb
        rcases h1.this with y | y
        · rw [y] at z; cases z
        · rw [y] at z
          cases z
          exact ⟨ho, by rw [List.length_map]; exact hl, vs, _, rv, ho⟩
      · rw [h1.other b hb] at z; cases z
    have still : ∀ {b : Addr} {o : Obj}, s.heap.get? b = some o → b ≠ a → (hidT s.heap H).get? b = some o := fun e n => hidT_get e (h1.other _ n)
    have notA : ∀ {b : Addr} {o : Obj} {es : Array DictEntry} {ep : Nat}, s.heap.get? b = some o → o.data = .dict es ep → b ≠ a := fun {b o es ep} e d z => by
      rw [z, ho] at e
      cases e
      have y : Data.seq vs.toArray _ = Data.dict es ep := d
      cases y
    have nsOf : ∀ {b : Addr} {m : Str → Option Value}, s.heap.Ns b m → (hidT s.heap H).Ns b m := fun ⟨o, es, ep, e, d, r⟩ => ⟨o, es, ep, still e (notA e d), d, r⟩
    have inB : K.In (hidT s.heap H) := fun b o e => hidT_get (inK b o e) (by
      by_cases hb : b = a
      · subst hb
        rcases h1.this with y | y
        · exact y
        · rw [hK (by rw [y]; exact fun z => nomatch z)] at e; cases e
      · exact h1.other b hb)
    obtain ⟨mc, n1, n2⟩ := nl
    have e0 : Env0 P w K mg (hidT s.heap H) callerA [] s H := ⟨rfl, ⟨inB, nsOf nsM, ⟨mb, nsOf nsB, boot⟩, ⟨mc, nsOf n1, n2⟩⟩, fun b o e => of_hidT e, Nat.le_of_eq (hidT_size _ _), trivial, fun b z => (nomatch z), hok, .of_eq ng⟩
    refine codeAny_mono ((F _ inB (nsOf nsM)).go callerA [] s H ⟨[.ref a], []⟩ [.ref a] [.ref a] _ _ hr e0 (bind s (.ref a)) (.cons rfl .nil) (hsp H hS)) fun r s2 h => ?_
    match r, h with
    | .error e, h => exact h.elim
    | .ok .next, h => exact h.elim
    | .ok .brk, h => exact h.elim
    | .ok .cont, h => exact h.elim
    | .ok (.ret u), h =>
      obtain ⟨v, H2, os, bare, un, hok2, r2, q⟩ := h
      have q2 : v = .bl true := q
      subst q2
      have r3 : u = Value.bool true := r2
      refine ⟨by rw [r3], OldK.of_keep fun b o e => ?_, os, bare⟩
      by_cases hb : b = a
      · subst hb
        rcases h1.this with y | y
        · exact un.keep b o e y (fun z => (nomatch z)) (fun z => (nomatch z))
        · have y2 := un.frzs b _ _ y
          obtain ⟨e2, _⟩ := hok2 b _ y2
          rw [ho] at e
          cases e
          exact e2
      · exact un.keep b o e (h1.other b hb) (fun z => (nomatch z)) (fun z => (nomatch z))
  cases hk : K.lookup a with
  | none =>
    refine main (fun b => if b = a then some (.frz { cls := .type "list", data := .seq vs.toArray } (.lst (ns.map V.int))) else none) ⟨fun b hb => if_neg hb, .inr (if_pos rfl)⟩ (fun _ => hk) ?_
    exact .inl (.inr ⟨{ cls := .type "list", data := .seq vs.toArray }, if_pos rfl⟩)
  | some o =>
    have e := inK a o hk
    rw [ho] at e
    cases e
    exact main (fun _ => none) ⟨fun _ _ => rfl, .inl rfl⟩ (fun z => absurd rfl z) (.inr ⟨_, vs.toArray, _, hk, rfl, rfl, rfl, by rw [List.size_toArray, hi.length]; exact hl, by simpa using rv⟩)
theorem walkG {l : PySem.W.OpenLaw} {n k : Nat} {q : Program} {loose : List Str} {XP : (Str → Option Value) → Heap → Prop} {YP : World → Heap → Prop} {d : DefRec} {K : Params → PySem.W.Frag} {sp : PySem.W.Frag → Sp} {x : Str} (hn : l.most = some n) (hn2 : n ≤ sizeLine)
    (hdf : d.params.defaults = []) (hr : RoomG k callerA) (hY : ∀ (w : World) (h : Heap), YP w h → (K w.params).In h)
    (F : ∀ (w : World) (mg : Str → Option Value) (fa : Addr) (h : Heap), (K w.params).In h → h.Ns mainGlobals mg → mg d.name = some (.ref fa) → ∃ fd : FuncData, (∀ (s : Shared) (u : Value), BindsTo s fd ⟨[u], []⟩ [(x, u)]) ∧
      ∀ base : Heap, (K w.params).In base → base.Ns mainGlobals mg → FnG l.prog w (K w.params) mg base k fa fd [x] (sp (K w.params)))
    (hsp : ∀ (K : PySem.W.Frag) (H : Hp) (a : Addr) (ns : List Int), ns.length ≤ n → SqL K H a (ns.map V.int) → sp K [.ref a] H (fun v _ => v = .bl true) E0) :
    PySem.W.WalkO q loose XP YP l.row.toRowW d [] (fun f vs => PySem.call f vs) := by
  refine Att.attach_call hn hdf fun w _ s mg mb fa _ _ _ _ a vs ns G Y _ _ _ hmg hobj hints hlen hg => ?_
  obtain ⟨fd, hb, hF⟩ := F w mg fa _ (hY w _ Y) G.T.g hmg
  exact call_law (hY w _ Y) G.T.g G.T.b G.T.builtins G.T.nolimit hg hobj hints (Nat.le_trans hlen hn2) hr hF hb fun H hS => hsp _ H a ns hlen hS
end DL

set_option Elab.async false
set_option linter.all false
set_option maxRecDepth 100000
set_option maxHeartbeats 4000000
/-! DL6: defs and calls. -/
namespace DL
open PySem PySem.Spec PyProof.Rows L2

/-- a def that changes nothing: its value's data by its arguments' -/
def spP (K : PySem.W.Frag) (n : Nat) (m : List D → Option D) : Sp := fun vs H Q _ => ∃ F ds d, Same F H ∧ DqAll K F vs ds ∧ ds.length = n ∧ m ds = some d ∧ QK K F H Q d
/-- a def that draws from the source, its first argument -/
def spY (K : PySem.W.Frag) (n : Nat) (m : List D → Src → Option (D × Src)) : Sp := fun vs H Q _ => ∃ p c rest F ds s d s', vs = .ref p :: rest ∧ Same F H ∧ F p = none ∧ F c = none ∧ H p = some (.dK (s.kvs c)) ∧ H c = some (.lst (s.cells.map V.int)) ∧
  DqAll K F rest ds ∧ ds.length = n ∧ m ds s = some (d, s') ∧
  ∀ v F' H', (∀ a o, a ≠ p → a ≠ c → H a = some o → H' a = some o) → H' p = some (.dK (s'.kvs c)) → H' c = some (.lst (s'.cells.map V.int)) → Same F F' → Same F' H' → F' p = none → F' c = none → (∀ a o, F' a = some o → F a = some o ∨ H a = none) → Dq K F' v d → Q v H'

def dummy : Src := ⟨[], 0, 0, 0⟩
def iniR (ds : List D) (k : Nat) : Rho := ds.map .fz ++ List.replicate k .un
def outD : Option (Fl × Src) → Option D
  | some (.rt d, _) => some d
  | some (.nx _, _) => some .none
  | _ => none
def outY : Option (Fl × Src) → Option (D × Src)
  | some (.rt d, s) => some (d, s)
  | some (.nx _, s) => some (.none, s)
  | _ => none
def runD (G : Z) (k : Nat) : List D → Option D := fun ds => outD (G (iniR ds k) dummy)
def runY (G : Z) (k : Nat) : List D → Src → Option (D × Src) := fun ds s => outY (G (.sr :: iniR ds k) s)

section
variable {K : PySem.W.Frag}
theorem start_at {N : List Str} {vs : List V} {ds : List D} {k : Nat} {F : Hp} (hv : DqAll K F vs ds) (hN : N.length = vs.length + k) : (L2.start N vs).length = (iniR ds k).length ∧ ∀ (i : Nat) (sl : Sl), (iniR ds k)[i]? = some sl → ∃ v, (L2.start N vs)[i]? = some v ∧ (sl = Sl.un ∨ ∃ d x, sl = Sl.fz d ∧ v = some x ∧ Dq K F x d) := by
  have hl := hv.len
  unfold L2.start iniR
  refine ⟨by simp only [List.length_append, List.length_map, List.length_replicate]; omega, fun i sl h => ?_⟩
  by_cases hi : i < ds.length
  · rw [List.getElem?_append_left (by rw [List.length_map]; exact hi), List.getElem?_map, List.getElem?_eq_getElem hi] at h
    cases h
    obtain ⟨x, h1, h2⟩ := hv.get (List.getElem?_eq_getElem hi)
    refine ⟨some x, ?_, .inr ⟨_, x, rfl, rfl, h2⟩⟩
    rw [List.getElem?_append_left (by rw [List.length_map]; omega), List.getElem?_map, h1]
    rfl
  · rw [List.getElem?_append_right (by rw [List.length_map]; omega), List.length_map, List.getElem?_replicate] at h
    split at h
    · rename_i hk
      cases h
      refine ⟨none, ?_, .inl rfl⟩
      rw [List.getElem?_append_right (by rw [List.length_map]; omega), List.length_map, List.getElem?_replicate, if_pos (by omega)]
    · cases h

variable {P : Program} {w : World} {mg : Str → Option Value} {base : Heap}
/-- a def by its body -/
theorem def_P {x qual : Str} {st : Stmt} {f : Addr} {fd : FuncData} {N ps : List Str} {k kk n : Nat} {G : Z} (Fn : Fun K x qual st f fd) (S : FnScope N ps (defScope st)) (hn : ps.length = n) (hN : N.length = n + kk)
    (body : ∀ (cdv : Value) (A : Around) (outer : List Env) (s : Shared) (H : Hp) (E : XK), RoomG k (A.deeper (envOfC qual (defScope st) s.heap.objs.size f cdv)) →
      ∃ t, PSs (cxOf CX0 P w K mg base N qual (defScope st) f cdv A outer s H E).nox (defBody st) t ∧ SdS K t G) : FnG P w K mg base (k + 1) f fd ps (spP K n (runD G kk)) := by
  refine okG Fn S (fun vs H Q E h => ?_) (fun cdv A outer s H vs Q E hr h => ?_)
  · obtain ⟨F, ds, d, h1, h2, h3, h4, h5⟩ := h
    rw [h2.len, h3, hn]
  · obtain ⟨F, ds, d, h1, h2, h3, h4, h5⟩ := h
    obtain ⟨t, hp, hs⟩ := body cdv A outer s H E hr
    refine ⟨t, hp, ?_⟩
    obtain ⟨e1, e2⟩ := start_at (N := N) (k := kk) h2 (by rw [h2.len, h3]; exact hN)
    have st : Stt K F (fun _ => none) H ⟨none, none⟩ (L2.start N vs) (iniR ds kk) dummy := by
      refine ⟨⟨h1, fun a z => absurd rfl z, fun a z => absurd rfl z⟩, ⟨e1, fun i sl hi => ?_⟩, fun a z => nomatch z⟩
      obtain ⟨v, g1, g2⟩ := e2 i sl hi
      refine ⟨v, g1, ?_⟩
      rcases g2 with rfl | ⟨d', y, rfl, rfl, g3⟩
      · trivial
      · exact ⟨y, rfl, g3⟩
    unfold runD outD at h4
    have fin : ∀ v F' O' H', Sq F (fun _ => none) H F' O' H' → Wk F' O' H' → Dq K F' v d → Q v H' := fun v F' O' H' q wk dq =>
      h5 v F' H' (fun a o e => (q.unown a o e rfl).1) q.ff wk.fh (fun a o e => (q.new a o e).elim .inl fun z => z.elim (fun y => absurd rfl y) .inr) dq
    split at h4
    · rename_i d' s' eg
      cases h4
      exact hs F _ H ⟨none, none⟩ _ _ dummy _ s' st eg _ fun v F' O' H' pc' q p wk sr dq => fin v F' O' H' q wk dq
    · rename_i ρ' s' eg
      cases h4
      exact hs F _ H ⟨none, none⟩ _ _ dummy _ s' st eg _ fun σ' F' O' H' pc' q p st' => fin .non F' O' H' q st'.wk .non
    · cases h4
/-- a def that draws, by its body -/
theorem def_Y {x qual : Str} {st : Stmt} {f : Addr} {fd : FuncData} {N ps : List Str} {k kk n : Nat} {G : Z} (Fn : Fun K x qual st f fd) (S : FnScope N ps (defScope st)) (hn : ps.length = n + 1) (hN : N.length = n + 1 + kk)
    (body : ∀ (cdv : Value) (A : Around) (outer : List Env) (s : Shared) (H : Hp) (E : XK), RoomG k (A.deeper (envOfC qual (defScope st) s.heap.objs.size f cdv)) →
      ∃ t, PSs (cxOf CX0 P w K mg base N qual (defScope st) f cdv A outer s H E).nox (defBody st) t ∧ SdS K t G) : FnG P w K mg base (k + 1) f fd ps (spY K n (runY G kk)) := by
  refine okG Fn S (fun vs H Q E h => ?_) (fun cdv A outer s H vs Q E hr h => ?_)
  · obtain ⟨p, c, rest, F, ds, s, d, s', rfl, _, _, _, _, _, h2, h3, _⟩ := h
    rw [List.length_cons, h2.len, h3, hn]
  · obtain ⟨p, c, rest, F, ds, s1, d, s', rfl, h1, hFp, hFc, hp, hc, h2, h3, h4, h5⟩ := h
    obtain ⟨t, hpp, hs⟩ := body cdv A outer s H E hr
    refine ⟨t, hpp, ?_⟩
    have hpc : p ≠ c := ne_of hp hc (fun z => nomatch z)
    let O : Om := fun a => if a = p then some .src else if a = c then some .src else none
    have Op : O p = some .src := by show (if p = p then _ else _) = _; rw [if_pos rfl]
    have Oc : O c = some .src := by show (if c = p then _ else _) = _; rw [if_neg hpc.symm, if_pos rfl]
    have On : ∀ a, O a ≠ none → a = p ∨ a = c := fun a z => by
      by_cases h1 : a = p
      · exact .inl h1
      · by_cases h2 : a = c
        · exact .inr h2
        · exact absurd (show O a = none by show (if a = p then _ else _) = _; rw [if_neg h1, if_neg h2]) z
    have Oz : ∀ a, a ≠ p → a ≠ c → O a = none := fun a h1 h2 => by show (if a = p then _ else _) = _; rw [if_neg h1, if_neg h2]
    cases N with
    | nil => rw [List.length_nil] at hN; omega
    | cons N0 N =>
    obtain ⟨e1, e2⟩ := start_at (N := N) (k := kk) h2 (by rw [h2.len, h3]; rw [List.length_cons] at hN; omega)
    have es : L2.start (N0 :: N) (.ref p :: rest) = some (.ref p) :: L2.start N rest := by
      unfold L2.start
      rw [List.map_cons, List.length_cons, List.length_cons, Nat.add_sub_add_right]
      rfl
    have st : Stt K F O H ⟨some (p, c), none⟩ (L2.start (N0 :: N) (.ref p :: rest)) (.sr :: iniR ds kk) s1 := by
      refine ⟨⟨h1, fun a z => ?_, fun a z => ?_⟩, ⟨?_, fun i sl hi => ?_⟩, Op, Oc, hp, hc, fun a z => On a (by rw [z]; exact fun y => nomatch y)⟩
      · rcases On a z with rfl | rfl
        · exact hFp
        · exact hFc
      · rcases On a z with rfl | rfl
        · rw [hp]; exact fun y => nomatch y
        · rw [hc]; exact fun y => nomatch y
      · rw [es, List.length_cons, List.length_cons, e1]
      · rw [es]
        cases i with
        | zero =>
          cases hi
          exact ⟨_, rfl, p, c, rfl, rfl⟩
        | succ i =>
          rw [List.getElem?_cons_succ] at hi
          obtain ⟨v, g1, g2⟩ := e2 i sl hi
          refine ⟨v, by rw [List.getElem?_cons_succ]; exact g1, ?_⟩
          rcases g2 with rfl | ⟨d', y, rfl, rfl, g3⟩
          · trivial
          · exact ⟨y, rfl, g3⟩
    unfold runY outY at h4
    have fin : ∀ v F' O' H' pc', Sq F O H F' O' H' → PcLe ⟨some (p, c), none⟩ pc' → Wk F' O' H' → SrcOk O' H' pc' s' → Dq K F' v d → Q v H' := fun v F' O' H' pc' q pl wk sr dq => by
      obtain ⟨pl, -⟩ := pl
      obtain ⟨ps', al'⟩ := pc'
      rcases pl with z | z
      · cases z
      · cases z
        obtain ⟨k1, k2, k3, k4, k5⟩ := sr
        refine h5 v F' H' (fun a o z1 z2 e => (q.unown a o e (Oz a z1 z2)).1) k3 k4 q.ff wk.fh (wk.fo p (by rw [k1]; exact fun y => nomatch y)) (wk.fo c (by rw [k2]; exact fun y => nomatch y)) (fun a o e => ?_) dq
        rcases q.new a o e with z | z | z
        · exact .inl z
        · rcases On a z with rfl | rfl
          · rw [wk.fo _ (by rw [k1]; exact fun y => nomatch y)] at e; cases e
          · rw [wk.fo _ (by rw [k2]; exact fun y => nomatch y)] at e; cases e
        · exact .inr z
    split at h4
    · rename_i d' s2 eg
      cases h4
      exact hs F O H ⟨some (p, c), none⟩ _ _ s1 _ s' st eg _ fun v F' O' H' pc' q pl wk sr dq => fin v F' O' H' pc' q pl wk sr dq
    · rename_i ρ' s2 eg
      cases h4
      exact hs F O H ⟨some (p, c), none⟩ _ _ s1 _ s' st eg _ fun σ' F' O' H' pc' q pl st' => fin .non F' O' H' pc' q pl st'.wk st'.src .non
    · cases h4

/-! ### calls -/
def callY (n : Nat) (m : List D → Option D) (g : Yl) : Y := fun ρ s => bO (g ρ s) fun ds s1 => if ds.length = n then mO (m ds) fun d => some (d, s1) else none
theorem sd_call {n : Nat} {m : List D → Option D} {ta : TA} {ga : Yl} {E : XK} (h : SdA K ta ga) : SdY K (tCall (spP K n m) [] E ta) (callY n m ga) := by
  intro F O H pc σ ρ s d s' st e Q q
  obtain ⟨ds, s1, e1, e⟩ := bO_some e
  split at e
  · rename_i hn
    obtain ⟨z, e2, e⟩ := mO_some e
    cases e
    refine h F O H pc σ ρ s ds _ st e1 _ fun vs F1 H1 n1 sr1 d1 => ?_
    rw [List.append_nil]
    have w1 := n1.wk st.wk
    exact ⟨F1, ds, d, w1.fh, d1, hn, e2, fun v F' H' a b c' e f => q v F' H' (n1.trans (Ny.pure w1 a b c' e)) (sr1.same a) f⟩
  · cases e
def drawY (i n : Nat) (m : List D → Src → Option (D × Src)) (g : Yl) : Y := fun ρ s => match ρ[i]? with
  | some .sr => bO (g ρ s) fun ds s1 => if ds.length = n then m ds s1 else none
  | _ => none
theorem sd_draw {i n : Nat} {m : List D → Src → Option (D × Src)} {ta : TA} {ga : Yl} {E : XK} (h : SdA K ta ga) : SdY K (tCall (spY K n m) [] E (tCons (tVar i) ta)) (drawY i n m ga) := by
  intro F O H pc σ ρ s d s' st e Q q
  unfold drawY at e
  split at e
  · rename_i hi
    obtain ⟨ds, s1, e1, e⟩ := bO_some e
    split at e
    · rename_i hn
      obtain ⟨ps, al⟩ := pc
      obtain ⟨v, h1, p, c, rfl, hpc⟩ := st.env.at_ i _ hi
      cases hpc
      refine ⟨.ref p, h1, ?_⟩
      refine h F O H _ σ ρ s ds s1 st e1 _ fun vs F1 H1 n1 sr1 d1 => ?_
      have w1 := n1.wk st.wk
      obtain ⟨k1, k2, k3, k4, k5⟩ := sr1
      have ne1 : O p ≠ none := by rw [k1]; exact fun z => nomatch z
      have ne2 : O c ≠ none := by rw [k2]; exact fun z => nomatch z
      refine ⟨p, c, vs, F1, ds, s1, d, s', by rw [List.append_nil], w1.fh, w1.fo p ne1, w1.fo c ne2, k3, k4, d1, hn, e, fun v F' H' a1 a2 a3 a4 a5 a6 a7 a8 dq => ?_⟩
      have n2 : Ny O F1 H1 F' H' := by
        refine ⟨a4, a5, fun a z1 z2 => ?_, fun a o z1 z2 => a1 a o (fun y => ne1 (by rw [← y]; exact z2)) (fun y => ne2 (by rw [← y]; exact z2)) z1, fun a z => ?_, a8⟩
        · cases z : H1 a with
          | none => exact absurd z (w1.oh a z1)
          | some o => exact a1 a o (fun y => z2 (by rw [y]; exact k1)) (fun y => z2 (by rw [y]; exact k2)) z
        · by_cases y1 : a = p
          · rw [y1, a2]; exact fun y => nomatch y
          · by_cases y2 : a = c
            · rw [y2, a3]; exact fun y => nomatch y
            · cases zz : H1 a with
              | none => exact absurd zz z
              | some o => rw [a1 a o y1 y2 zz]; exact fun y => nomatch y
      exact q v F' H' (n1.trans n2) ⟨k1, k2, a2, a3, k5⟩ dq
    · cases e
  · cases e

/-! ### the source, made -/
def spMk (K : PySem.W.Frag) (mk : List Int → Src) : Sp := fun vs H Q _ => ∃ a ns, vs = [.ref a] ∧ SqL K H a (ns.map V.int) ∧ ns.length ≤ 63 ∧
  ∀ p c H', H p = none → H c = none → p ≠ c → Same H H' → H' p = some (.dK ((mk ns).kvs c)) → H' c = some (.lst ((mk ns).cells.map V.int)) → Q (.ref p) H'
/-- source = _law_source(script), at the law's entry: slot i -/
def mkS (i : Nat) (src : Src) (G : Z) : Rho → Option (Fl × Src) := fun ρ => G (ρ.set i .sr) src
theorem ss_mk {mk : List Int → Src} {i j : Nat} {E : XK} {t : TS} {G : Z} {F H : Hp} {σ : L2.St} {ρ : Rho} {a : Addr} {ns : List Int} {fl : Fl} {s' : Src} (ht : SdS K t G) (wk : Same F H) (env : EnvOk K F (fun _ => none) H ⟨none, none⟩ σ ρ)
    (hj : σ[j]? = some (some (.ref a))) (ha : SqL K H a (ns.map V.int)) (hl : ns.length ≤ 63) (hi : i < ρ.length) (e : G (ρ.set i .sr) (mk ns) = some (fl, s')) (Dn : Ends)
    (k : ∀ F1 O1 H1 pc1, (∀ b o, H b = some o → H1 b = some o ∧ O1 b = none) → Same F F1 → Same F1 H1 → EndOk K F1 O1 H1 pc1 Dn fl s') :
    tSeq (tAsg (tCall (spMk K mk) [] E (tCons (tVar j) tNil)) (gName i)) t Dn σ H := by
  refine ⟨.ref a, hj, a, ns, rfl, ha, hl, fun p c H1 hp hc hpc sm h1 h2 => ?_⟩
  let O : Om := fun b => if b = p then some .src else if b = c then some .src else none
  have Op : O p = some .src := by show (if p = p then _ else _) = _; rw [if_pos rfl]
  have Oc : O c = some .src := by show (if c = p then _ else _) = _; rw [if_neg hpc.symm, if_pos rfl]
  have On : ∀ a, O a ≠ none → a = p ∨ a = c := fun a z => by
    by_cases h1 : a = p
    · exact .inl h1
    · by_cases h2 : a = c
      · exact .inr h2
      · exact absurd (show O a = none by show (if a = p then _ else _) = _; rw [if_neg h1, if_neg h2]) z
  have Oz : ∀ a, a ≠ p → a ≠ c → O a = none := fun a h1 h2 => by show (if a = p then _ else _) = _; rw [if_neg h1, if_neg h2]
  have nF : ∀ b, H b = none → F b = none := fun b hb => by
    cases z : F b with
    | none => rfl
    | some o => rw [wk b o z] at hb; cases hb
  have st : Stt K F O H1 ⟨some (p, c), none⟩ (σ.set i (some (.ref p))) (ρ.set i .sr) (mk ns) := by
    refine ⟨⟨wk.trans sm, fun b z => ?_, fun b z => ?_⟩, ⟨?_, fun l sl hl => ?_⟩, Op, Oc, h1, h2, fun b z => On b (by rw [z]; exact fun y => nomatch y)⟩
    · rcases On b z with rfl | rfl
      · exact nF _ hp
      · exact nF _ hc
    · rcases On b z with rfl | rfl
      · rw [h1]; exact fun y => nomatch y
      · rw [h2]; exact fun y => nomatch y
    · rw [List.length_set, List.length_set]; exact env.len
    · by_cases hil : i = l
      · subst hil
        rw [List.getElem?_set_self hi] at hl
        cases hl
        exact ⟨some (.ref p), by rw [List.getElem?_set_self (by rw [env.len]; exact hi)], p, c, rfl, rfl⟩
      · rw [List.getElem?_set_ne hil] at hl ⊢
        obtain ⟨v, g1, g2⟩ := env.at_ l sl hl
        refine ⟨v, g1, ?_⟩
        cases sl with
        | un => trivial
        | fz d => exact g2
        | ow ds =>
          obtain ⟨q, vs, _, g4, _⟩ := g2
          cases g4
        | o2 dss =>
          obtain ⟨q, vs, _, g4, _⟩ := g2
          cases g4
        | dc kvs =>
          obtain ⟨q, o, ts, _, g4, _⟩ := g2
          cases g4
        | oh dss =>
          obtain ⟨q, vs, _, g4, _⟩ := g2
          cases g4
        | al r k' =>
          obtain ⟨q, vs, a, g4, _⟩ := g2
          cases g4
        | sr =>
          obtain ⟨q, vs, _, g4⟩ := g2
          cases g4
  refine ht F O H1 ⟨some (p, c), none⟩ _ _ (mk ns) fl s' st e Dn (k F O H1 _ (fun b o hb => ⟨sm b o hb, Oz b (fun z => ?_) (fun z => ?_)⟩) (Same.refl _) (wk.trans sm))
  · rw [z, hp] at hb; cases hb
  · rw [z, hc] at hb; cases hb
end
end DL

set_option Elab.async false
set_option linter.all false
set_option maxRecDepth 100000
set_option maxHeartbeats 4000000
/-! DL7: the laws' source: what it draws. -/
namespace DL
open PySem PySem.Spec PyProof.Rows L2

def mixI (ns : List Int) (m : Int) : Int := ns.foldl (fun m c => (m * 69069 + c * 31 + 5) % 2147483629) m
def absI (c : Int) : Int := if c < 0 then -c else c
def mkSrc (ns : List Int) : Src := ⟨(ns.map absI).reverse, 1, mixI ns 11, 0⟩
theorem mixI_snoc (ns : List Int) (c m : Int) : mixI (ns ++ [c]) m = (mixI ns m * 69069 + c * 31 + 5) % 2147483629 := by
  unfold mixI
  rw [List.foldl_append]
  rfl
theorem mixI_lt (ns : List Int) (m : Int) (h0 : 0 ≤ m) (h1 : m < 2147483629) : 0 ≤ mixI ns m ∧ mixI ns m < 2147483629 := by
  induction ns generalizing m with
  | nil => exact ⟨h0, h1⟩
  | cons c ns ih =>
    show 0 ≤ mixI ns ((m * 69069 + c * 31 + 5) % 2147483629) ∧ mixI ns ((m * 69069 + c * 31 + 5) % 2147483629) < 2147483629
    exact ih _ (Int.emod_nonneg _ (by decide)) (Int.emod_lt_of_pos _ (by decide))

/-- the cells are taken as long as nothing is left of the present one -/
def refill (many : Int) : Nat → Src → Src
  | 0, s => s
  | n + 1, s => if many > 1 ∧ s.left < 2 ∧ s.cells ≠ [] then refill many n { s with cells := s.cells.dropLast, left := s.cells.getLastD 0 } else s
def mx1 (many : Int) : Int := if many > 1 then many else 1
theorem mx1_eq (many : Int) : (if many > (1 : Int) then many else 1) = mx1 many := rfl
/-- a number from 0 to many - 1 -/
def pickP (many : Int) (s : Src) : Int × Src :=
  let s1 := refill many s.cells.length s
  if many < 2 ∨ s1.left > 1 then (s1.left.fmod (mx1 many), { s1 with left := s1.left.fdiv (mx1 many) })
  else
    let turn := s1.turn + 1
    let mixed := (s1.mixed + turn * 104729) % 998244353
    let mixed2 := (mixed * mixed + turn * 17) % 2147483647
    ((mixed2.fdiv 16).fmod many, { s1 with turn := turn, mixed := mixed2 })
def pickM : List D → Src → Option (D × Src)
  | [.int many], s => if many < 1000000 then some (.int (pickP many s).1, (pickP many s).2) else none
  | _, _ => none
theorem mx1_pos (many : Int) : 0 < mx1 many := by unfold mx1; split <;> omega
theorem pick_range (many : Int) (s : Src) : 0 ≤ (pickP many s).1 ∧ (pickP many s).1 < mx1 many := by
  unfold pickP
  have hp := mx1_pos many
  dsimp only
  split
  · rw [Int.fmod_eq_emod_of_nonneg _ (by omega)]
    exact ⟨Int.emod_nonneg _ (by omega), Int.emod_lt_of_pos _ hp⟩
  · rename_i h
    have h2 : 2 ≤ many := by omega
    have e : mx1 many = many := by unfold mx1; rw [if_pos (by omega)]
    dsimp only
    rw [e, Int.fmod_eq_emod_of_nonneg _ (by omega)]
    exact ⟨Int.emod_nonneg _ (by omega), Int.emod_lt_of_pos _ (by omega)⟩
/-- the things in a drawn order -/
def mixedGo : Nat → List D → Src → List D × Src
  | 0, _, s => ([], s)
  | n + 1, rest, s =>
    let p := pickP rest.length s
    let r := mixedGo n (rest.eraseIdx p.1.toNat) p.2
    ((rest[p.1.toNat]?).getD .none :: r.1, r.2)
def mixedM : List D → Src → Option (D × Src)
  | [.list ds], s => if ds.length < 1000 then some (.list (mixedGo ds.length ds s).1, (mixedGo ds.length ds s).2) else none
  | [.tuple ds], s => if ds.length < 1000 then some (.list (mixedGo ds.length ds s).1, (mixedGo ds.length ds s).2) else none
  | _, _ => none
theorem refill_eq (many : Int) (s : Src) : ∀ n, s.cells.length ≤ n → refill many n s = refill many s.cells.length s := by
  intro n
  induction n generalizing s with
  | zero => intro h; rw [Nat.le_zero.mp h]
  | succ n ih =>
    intro h
    cases hc : s.cells with
    | nil =>
      show refill many (n + 1) s = s
      unfold refill
      rw [if_neg (fun z => z.2.2 hc)]
    | cons c cs =>
      rw [List.length_cons]
      unfold refill
      split
      · have hl : s.cells.dropLast.length = cs.length := by rw [List.length_dropLast, hc, List.length_cons]; omega
        have h1 := ih { s with cells := s.cells.dropLast, left := s.cells.getLastD 0 } (by show s.cells.dropLast.length ≤ n; rw [hl]; rw [hc, List.length_cons] at h; omega)
        rw [h1]
        show refill many s.cells.dropLast.length _ = _
        rw [hl]
      · rfl
theorem refill_go {many : Int} {s : Src} (h : many > 1 ∧ s.left < 2 ∧ s.cells ≠ []) : refill many s.cells.length s = refill many (s.cells.dropLast).length { s with cells := s.cells.dropLast, left := s.cells.getLastD 0 } := by
  cases hc : s.cells with
  | nil => exact absurd hc h.2.2
  | cons c cs =>
    rw [List.length_cons]
    unfold refill
    rw [if_pos h, List.length_dropLast, List.length_cons, hc]
    rw [Nat.add_sub_cancel]
    cases cs.length <;> rfl
theorem refill_stop {many : Int} {s : Src} (h : ¬ (many > 1 ∧ s.left < 2 ∧ s.cells ≠ [])) : refill many s.cells.length s = s := by
  cases hc : s.cells with
  | nil => rfl
  | cons c cs =>
    rw [List.length_cons]
    unfold refill
    rw [if_neg h]

/-! ### the source's dict -/
def kC : Key := .inr "cells"
def kL : Key := .inr "left"
def kM : Key := .inr "mixed"
def kT : Key := .inr "turn"
theorem src_get {s : Src} {c : Addr} : valV (s.kvs c) kC = some (.ref c) ∧ valV (s.kvs c) kL = some (.int s.left) ∧ valV (s.kvs c) kM = some (.int s.mixed) ∧ valV (s.kvs c) kT = some (.int s.turn) := by
  refine ⟨?_, ?_, ?_, ?_⟩ <;> rfl
theorem src_put {s : Src} {c : Addr} {z : Int} : putK (s.kvs c) kL (.int z) = ({ s with left := z } : Src).kvs c ∧ putK (s.kvs c) kM (.int z) = ({ s with mixed := z } : Src).kvs c ∧ putK (s.kvs c) kT (.int z) = ({ s with turn := z } : Src).kvs c := by
  refine ⟨?_, ?_, ?_⟩ <;> rfl

section
variable {K : PySem.W.Frag} {te : TE} {ge : Y}
def rdS (i : Nat) (f : Src → Int) : Y := fun ρ s => match ρ[i]? with
  | some .sr => some (.int (f s), s)
  | _ => none
theorem sd_left (i : Nat) : SdY K (tDGet (tVar i) (tC (.str "left"))) (rdS i Src.left) := by
  intro F O H pc σ ρ s d s' st e Q q
  unfold rdS at e
  split at e
  · rename_i hi
    cases e
    obtain ⟨ps, al⟩ := pc
    obtain ⟨v, h1, p, c, rfl, hpc⟩ := st.env.at_ i _ hi
    cases hpc
    have g := DGet.k (k := kL) st.src.2.2.1
    rw [src_get.2.1] at g
    exact ⟨_, h1, p, _, rfl, g, q _ F H (Ny.refl st.wk) st.src (.int _)⟩
  · cases e
theorem sd_mixed (i : Nat) : SdY K (tDGet (tVar i) (tC (.str "mixed"))) (rdS i Src.mixed) := by
  intro F O H pc σ ρ s d s' st e Q q
  unfold rdS at e
  split at e
  · rename_i hi
    cases e
    obtain ⟨ps, al⟩ := pc
    obtain ⟨v, h1, p, c, rfl, hpc⟩ := st.env.at_ i _ hi
    cases hpc
    have g := DGet.k (k := kM) st.src.2.2.1
    rw [src_get.2.2.1] at g
    exact ⟨_, h1, p, _, rfl, g, q _ F H (Ny.refl st.wk) st.src (.int _)⟩
  · cases e
theorem sd_turn (i : Nat) : SdY K (tDGet (tVar i) (tC (.str "turn"))) (rdS i Src.turn) := by
  intro F O H pc σ ρ s d s' st e Q q
  unfold rdS at e
  split at e
  · rename_i hi
    cases e
    obtain ⟨ps, al⟩ := pc
    obtain ⟨v, h1, p, c, rfl, hpc⟩ := st.env.at_ i _ hi
    cases hpc
    have g := DGet.k (k := kT) st.src.2.2.1
    rw [src_get.2.2.2] at g
    exact ⟨_, h1, p, _, rfl, g, q _ F H (Ny.refl st.wk) st.src (.int _)⟩
  · cases e
theorem sd_lenC (i : Nat) : SdY K (tCB (rLen K) (tCons (tDGet (tVar i) (tC (.str "cells"))) tNil)) (rdS i fun s => s.cells.length) := by
  intro F O H pc σ ρ s d s' st e Q q
  unfold rdS at e
  split at e
  · rename_i hi
    cases e
    obtain ⟨ps, al⟩ := pc
    obtain ⟨v, h1, p, c, rfl, hpc⟩ := st.env.at_ i _ hi
    cases hpc
    have g := DGet.k (k := kC) st.src.2.2.1
    rw [src_get.1] at g
    refine ⟨_, h1, p, _, rfl, g, c, _, rfl, .inl (SqL.of st.src.2.2.2.1), ?_⟩
    rw [List.length_map]
    exact q _ F H (Ny.refl st.wk) st.src (.int _)
  · cases e
/-! source[..] = e -/
theorem src_write {F H : Hp} {O : Om} {σ : L2.St} {ρ : Rho} {s s2 : Src} {p c : Addr} {al : Option (Addr × List Addr)} {o : HO} (st : Stt K F O H ⟨some (p, c), al⟩ σ ρ s) (ho : o = .dK (s2.kvs c)) (hcells : s2.cells = s.cells) :
    Sq F O H F O (upd H p o) ∧ Stt K F O (upd H p o) ⟨some (p, c), al⟩ σ ρ s2 := by
  subst ho
  obtain ⟨k1, k2, k3, k4, k5⟩ := st.src
  have hn : O p ≠ none := by rw [k1]; exact fun z => nomatch z
  have hF := st.wk.fo p hn
  have hpc : p ≠ c := ne_of k3 k4 (fun z => nomatch z)
  refine ⟨⟨Same.refl _, fun a o e1 e2 => ⟨?_, e2⟩, fun a e => ?_, fun _ e => e, fun _ _ e => .inl e⟩, ⟨⟨fun a o e => ?_, st.wk.fo, fun a e => ?_⟩, ⟨st.env.len, fun j sl hj => ?_⟩, k1, k2, upd_same, ?_, k5⟩⟩
  · rw [upd_ne (fun z => hn (by rw [← z]; exact e2))]; exact e1
  · by_cases ha : a = p
    · rw [ha, upd_same]; exact fun z => nomatch z
    · rw [upd_ne ha]; exact e
  · rw [upd_ne (fun z => by rw [z, hF] at e; cases e)]; exact st.wk.fh a o e
  · by_cases ha : a = p
    · rw [ha, upd_same]; exact fun z => nomatch z
    · rw [upd_ne ha]; exact st.wk.oh a e
  · obtain ⟨v, g1, g2⟩ := st.env.at_ j sl hj
    refine ⟨v, g1, ?_⟩
    have ne : ∀ a, O a = some (.sl j) → a ≠ p := fun a h z => by rw [z, k1] at h; cases h
    cases sl with
    | un => trivial
    | fz d => exact g2
    | ow ds =>
      obtain ⟨a, vs, z1, z2, z3, z4⟩ := g2
      exact ⟨a, vs, z1, z2, by rw [upd_ne (ne a z2)]; exact z3, z4⟩
    | o2 dss =>
      obtain ⟨a, qs, z1, z2, z3, z4, z5, z6⟩ := g2
      exact ⟨a, qs, z1, z2, by rw [upd_ne (ne a z2)]; exact z3, z4, z5, z6.imp fun b ds ⟨y1, vs, y2, y3⟩ => ⟨y1, vs, by rw [upd_ne (ne b y1)]; exact y2, y3⟩⟩
    | dc kvs =>
      obtain ⟨a, ob, ts, z1, z2, z3, z4⟩ := g2
      exact ⟨a, ob, ts, z1, z2, by rw [upd_ne (ne a z2)]; exact z3, z4⟩
    | oh dss =>
      obtain ⟨a, qs, z1, z2, z3, z4, z5, z6, z7⟩ := g2
      exact ⟨a, qs, z1, z2, by rw [upd_ne (ne a z2)]; exact z3, z4, z5, z6.imp fun b ds ⟨y1, vs, y2, y3⟩ => ⟨y1, vs, by rw [upd_ne (ne b y1)]; exact y2, y3⟩, z7⟩
    | al r k' => exact g2
    | sr => exact g2
  · rw [upd_ne hpc.symm, hcells]; exact k4
def wrS (i : Nat) (f : Src → Int → Src) (g : Y) : Z := fun ρ s => bO (g ρ s) fun d s1 => match ρ[i]?, d with
  | some .sr, .int z => some (.nx ρ, f s1 z)
  | _, _ => none
theorem ss_wr {i : Nat} {f : Src → Int → Src} {key : Str} {k : Key} (hk : kV k = .str key) (hp : ∀ (s : Src) (c : Addr) (z : Int), putK (s.kvs c) k (.int z) = (f s z).kvs c) (hc : ∀ s z, (f s z).cells = s.cells) (h : SdY K te ge) :
    SdS K (sDPut (tVar i) (tC (.str key)) te) (wrS i f ge) := by
  intro F O H pc σ ρ s fl s' st e Dn kk
  obtain ⟨x, s1, e1, e⟩ := bO_some e
  split at e
  · rename_i z hi
    cases e
    refine h F O H pc σ ρ s _ s1 st e1 _ fun v F1 H1 n1 sr1 d1 => ?_
    have st1 := st.ny n1 sr1
    obtain ⟨ps, al⟩ := pc
    obtain ⟨w, h1, p, c, rfl, hpc⟩ := st1.env.at_ i _ hi
    cases hpc
    have e3 := st1.src.2.2.1
    refine ⟨_, h1, p, upd H1 p (.dK (putK (s1.kvs c) k v)), rfl, ?_, ?_⟩
    · rw [← hk]
      exact DPut.k e3 (by show 4 < sizeLine; decide)
    · rw [d1.int_inv, hp s1 c]
      obtain ⟨q, st2⟩ := src_write (s2 := f s1 _) st1 rfl (hc s1 _)
      exact kk σ F1 O _ _ (n1.sq.trans q) (PcLe.refl _) st2
  · cases e
theorem ss_wrL {i : Nat} (h : SdY K te ge) : SdS K (sDPut (tVar i) (tC (.str "left")) te) (wrS i (fun s z => { s with left := z }) ge) := ss_wr (k := kL) rfl (fun _ _ _ => src_put.1) (fun _ _ => rfl) h
theorem ss_wrM {i : Nat} (h : SdY K te ge) : SdS K (sDPut (tVar i) (tC (.str "mixed")) te) (wrS i (fun s z => { s with mixed := z }) ge) := ss_wr (k := kM) rfl (fun _ _ _ => src_put.2.1) (fun _ _ => rfl) h
theorem ss_wrT {i : Nat} (h : SdY K te ge) : SdS K (sDPut (tVar i) (tC (.str "turn")) te) (wrS i (fun s z => { s with turn := z }) ge) := ss_wr (k := kT) rfl (fun _ _ _ => src_put.2.2) (fun _ _ => rfl) h
/-! source["left"] = source["cells"].pop() -/
theorem cells_write {F H : Hp} {O : Om} {σ : L2.St} {ρ : Rho} {s s2 : Src} {p c : Addr} {al : Option (Addr × List Addr)} (st : Stt K F O H ⟨some (p, c), al⟩ σ ρ s) (h2 : s2.left = s.left ∧ s2.mixed = s.mixed ∧ s2.turn = s.turn) :
    Sq F O H F O (upd H c (.lst (s2.cells.map V.int))) ∧ Stt K F O (upd H c (.lst (s2.cells.map V.int))) ⟨some (p, c), al⟩ σ ρ s2 := by
  obtain ⟨k1, k2, k3, k4, k5⟩ := st.src
  have hn : O c ≠ none := by rw [k2]; exact fun z => nomatch z
  have hF := st.wk.fo c hn
  have hpc : p ≠ c := ne_of k3 k4 (fun z => nomatch z)
  refine ⟨⟨Same.refl _, fun a o e1 e2 => ⟨?_, e2⟩, fun a e => ?_, fun _ e => e, fun _ _ e => .inl e⟩, ⟨⟨fun a o e => ?_, st.wk.fo, fun a e => ?_⟩, ⟨st.env.len, fun j sl hj => ?_⟩, k1, k2, ?_, upd_same, k5⟩⟩
  · rw [upd_ne (fun z => hn (by rw [← z]; exact e2))]; exact e1
  · by_cases ha : a = c
    · rw [ha, upd_same]; exact fun z => nomatch z
    · rw [upd_ne ha]; exact e
  · rw [upd_ne (fun z => by rw [z, hF] at e; cases e)]; exact st.wk.fh a o e
  · by_cases ha : a = c
    · rw [ha, upd_same]; exact fun z => nomatch z
    · rw [upd_ne ha]; exact st.wk.oh a e
  · obtain ⟨v, g1, g2⟩ := st.env.at_ j sl hj
    refine ⟨v, g1, ?_⟩
    have ne : ∀ a, O a = some (.sl j) → a ≠ c := fun a h z => by rw [z, k2] at h; cases h
    cases sl with
    | un => trivial
    | fz d => exact g2
    | ow ds =>
      obtain ⟨a, vs, z1, z2, z3, z4⟩ := g2
      exact ⟨a, vs, z1, z2, by rw [upd_ne (ne a z2)]; exact z3, z4⟩
    | o2 dss =>
      obtain ⟨a, qs, z1, z2, z3, z4, z5, z6⟩ := g2
      exact ⟨a, qs, z1, z2, by rw [upd_ne (ne a z2)]; exact z3, z4, z5, z6.imp fun b ds ⟨y1, vs, y2, y3⟩ => ⟨y1, vs, by rw [upd_ne (ne b y1)]; exact y2, y3⟩⟩
    | dc kvs =>
      obtain ⟨a, ob, ts, z1, z2, z3, z4⟩ := g2
      exact ⟨a, ob, ts, z1, z2, by rw [upd_ne (ne a z2)]; exact z3, z4⟩
    | oh dss =>
      obtain ⟨a, qs, z1, z2, z3, z4, z5, z6, z7⟩ := g2
      exact ⟨a, qs, z1, z2, by rw [upd_ne (ne a z2)]; exact z3, z4, z5, z6.imp fun b ds ⟨y1, vs, y2, y3⟩ => ⟨y1, vs, by rw [upd_ne (ne b y1)]; exact y2, y3⟩, z7⟩
    | al r k' => exact g2
    | sr => exact g2
  · rw [upd_ne hpc, k3]
    unfold Src.kvs
    rw [h2.1, h2.2.1, h2.2.2]
def popC (i : Nat) : Z := fun ρ s => match ρ[i]? with
  | some .sr => if s.cells = [] then none else some (.nx ρ, { s with cells := s.cells.dropLast, left := s.cells.getLastD 0 })
  | _ => none
theorem ss_popC (i : Nat) : SdS K (sDPut (tVar i) (tC (.str "left")) (tBM0 K "list" rPop (tDGet (tVar i) (tC (.str "cells"))))) (popC i) := by
  intro F O H pc σ ρ s fl s' st e Dn kk
  unfold popC at e
  split at e
  · rename_i hi
    split at e
    · cases e
    · rename_i hne
      cases e
      obtain ⟨ps, al⟩ := pc
      obtain ⟨v, h1, p, c, rfl, hpc⟩ := st.env.at_ i _ hi
      cases hpc
      have g := DGet.k (k := kC) st.src.2.2.1
      rw [src_get.1] at g
      have hc := st.src.2.2.2.1
      have el : (s.cells.map V.int)[(s.cells.map V.int).length - 1]? = some (.int (s.cells.getLastD 0)) := by
        rw [List.length_map, List.getElem?_map, ← List.getLast?_eq_getElem?, List.getLastD_eq_getLast?]
        cases z : s.cells.getLast? with
        | none => exact absurd (List.getLast?_eq_none_iff.mp z) hne
        | some y => rfl
      refine ⟨_, h1, p, _, rfl, g, .inl ⟨rfl, _, SqL.of hc⟩, c, _, _, rfl, rfl, hc, el, ?_⟩
      rw [← List.map_dropLast]
      obtain ⟨q1, st1⟩ := cells_write (s2 := { s with cells := s.cells.dropLast }) st ⟨rfl, rfl, rfl⟩
      obtain ⟨w, h1', p', c', e1, e2⟩ := st1.env.at_ i _ hi
      have e3 := st1.src.2.2.1
      refine ⟨_, h1, p, _, rfl, DPut.k (k := kL) e3 (by show 4 < sizeLine; decide), ?_⟩
      rw [src_put.1]
      obtain ⟨q2, st2⟩ := src_write (s2 := { s with cells := s.cells.dropLast, left := s.cells.getLastD 0 }) st1 rfl rfl
      exact kk σ F O _ _ (q1.trans q2) (PcLe.refl _) st2
  · cases e
end
end DL

set_option Elab.async false
set_option linter.all false
set_option maxRecDepth 100000
set_option maxHeartbeats 4000000
/-! DL8: calls by name, chains, the other ways round, pairs of targets. -/
namespace DL
open PySem PySem.Spec PyProof.Rows L2

theorem room65 {A : Around} {k : Nat} (hr : Room k A) : A.units + 65 < cLine := by have := hr.un; omega
section
variable {K : PySem.W.Frag} {ta tb tc te : TE} {ga gb gc ge : Y}
/-! ### a < b < c -/
def chY (f g : D → D → Option D) (a b c : Y) : Y := fun ρ s => bO (a ρ s) fun x s1 => bO (b ρ s1) fun y s2 => mO (f x y) fun z => match z with
  | .bool true => bO (c ρ s2) fun w s3 => mO (g y w) fun d => some (d, s3)
  | .bool false => some (.bool false, s2)
  | _ => none
theorem sd_chain {r r' : R2} {f g : D → D → Option D} (hr : Sd2 K r f) (hr' : Sd2 K r' g) (ha : SdY K ta ga) (hb : SdY K tb gb) (hc : SdY K tc gc) : SdY K (tChain r r' ta tb tc) (chY f g ga gb gc) := by
  intro F O H pc σ ρ s d s' st h Q q
  obtain ⟨x, s1, e1, h⟩ := bO_some h
  obtain ⟨y, s2, e2, h⟩ := bO_some h
  obtain ⟨z, e3, h⟩ := mO_some h
  refine ha F O H pc σ ρ s x s1 st e1 _ fun v F1 H1 n1 sr1 d1 => ?_
  refine hb F1 O H1 pc σ ρ s1 y _ (st.ny n1 sr1) e2 _ fun u F2 H2 n2 sr2 d2 => ?_
  have w2 := n2.wk (n1.wk st.wk)
  refine hr F2 O H2 v u x y z w2 (d1.mono n2.ff) d2 e3 _ fun v' F3 H3 a b c e f => ?_
  have n3 := (n1.trans n2).trans (Ny.pure w2 a b c e)
  have sr3 := sr2.same a
  split at h
  · refine ⟨true, f.bl_inv, ?_⟩
    rw [if_pos rfl]
    obtain ⟨w, s3, e4, h⟩ := bO_some h
    obtain ⟨z2, e5, h⟩ := mO_some h
    cases h
    refine hc F3 O H3 pc σ ρ s2 w _ (st.ny n3 sr3) e4 _ fun v4 F4 H4 n4 sr4 d4 => ?_
    refine hr' F4 O H4 u v4 y w d (n4.wk (n3.wk st.wk)) ((d2.mono b).mono n4.ff) d4 e5 Q fun v5 F5 H5 a5 b5 c5 e5 f5 => ?_
    exact q v5 F5 H5 ((n3.trans n4).trans (Ny.pure (n4.wk (n3.wk st.wk)) a5 b5 c5 e5)) (sr4.same a5) f5
  · cases h
    refine ⟨false, f.bl_inv, ?_⟩
    rw [if_neg Bool.false_ne_true]
    exact q _ F3 H3 n3 sr3 (.bl false)
  · cases h

/-! ### t[::-1] -/
theorem adjust_rev (n : Nat) : Builtin.Slice.sliceAdjust none none (-1) (n : Int) = ((n : Int) - 1, -1) := by
  unfold Builtin.Slice.sliceAdjust
  simp
theorem places_rev (n : Nat) : Builtin.Slice.slicePlaces ((n : Int) - 1) (-1) (-1) = n := by
  unfold Builtin.Slice.slicePlaces
  rw [if_neg (by decide)]
  by_cases h : (n : Int) - 1 > -1
  · rw [if_pos h]
    have : ((n : Int) - 1 - -1 - 1) / (- -1) + 1 = (n : Int) := by
      rw [show (- -1 : Int) = 1 by decide, Int.ediv_one]
      omega
    rw [this, Int.toNat_natCast]
  · rw [if_neg h]
    omega
theorem pick_rev (xs : Array Value) : ((List.range xs.size).filterMap fun (m : Nat) => xs[(((xs.size : Int) - 1) + (m : Int) * (-1)).toNat]?).toArray = xs.toList.reverse.toArray := by
  congr 1
  apply List.ext_getElem?
  intro i
  have h0 : ∀ (l : List Nat), (∀ m ∈ l, m < xs.size) → (l.filterMap fun (m : Nat) => xs[(((xs.size : Int) - 1) + (m : Int) * (-1)).toNat]?) = l.map fun m => (xs.toList.reverse[m]?).getD .none := by
    intro l
    induction l with
    | nil => intro _; rfl
    | cons m l ih =>
      intro hm
      have h1 := hm m List.mem_cons_self
      have e1 : (((xs.size : Int) - 1) + (m : Int) * (-1)).toNat = xs.size - 1 - m := by omega
      have e2 : xs[xs.size - 1 - m]? = some (xs[xs.size - 1 - m]'(by omega)) := Array.getElem?_eq_getElem (by omega)
      have e3 : xs.toList.reverse[m]? = some (xs[xs.size - 1 - m]'(by omega)) := by
        rw [List.getElem?_reverse (by simpa using h1)]
        simp
      rw [List.filterMap_cons, e1, e2, List.map_cons, ih fun k hk => hm k (List.mem_cons_of_mem _ hk), e3]
      rfl
  rw [h0 _ fun m hm => List.mem_range.mp hm, List.getElem?_map]
  by_cases hi : i < xs.size
  · rw [List.getElem?_range hi]
    have : i < xs.toList.reverse.length := by simpa using hi
    rw [Option.map_some, List.getElem?_eq_getElem this]
    rfl
  · rw [List.getElem?_eq_none (by rw [List.length_range]; omega), List.getElem?_eq_none (by simp; omega)]
    rfl
theorem getItem_tup_rev {prog : Program} {w : World} {A : Around} {E : Value → Shared → Prop} {s : Shared} {t sl : Addr} {items : Array Value} {vl vu vs : Value} {Q : Value → Shared → Prop} (ht : IsTup s.heap t items) (hs : s.heap.IsSliceOf sl vl vu vs)
    (pl : IsPart vl none) (pu : IsPart vu none) (ps : IsPart vs (some (-1))) (hsz : items.size ≤ sizeLine)
    (h : Q (.ref s.heap.objs.size) { s with heap := s.heap.push { cls := .type "tuple", data := .seq items.toList.reverse.toArray } }) : wpAny (model prog w) A (getItem (.ref t) (.ref sl)) Q E s := by
  obtain ⟨os, hos, hcs, hds⟩ := id hs
  have hT : s.TypeIs (.ref sl) "slice" := ⟨os, hos, hcs⟩
  have hok : sizeOk (.seq items.toList.reverse.toArray) := by
    show items.toList.reverse.toArray.size ≤ sizeLine
    simpa using hsz
  unfold getItem
  try with_reducible refine wpAny_holding ?_
  first | refine wpAny_bind (wpAny_pure ?_) | skip
  refine wpAny_bind (wpAny_sequenceKey ht.typeIs (by decide) ?_)
  refine wpAny_bind (wpAny_callSpecial?_slot (name := Str.ofString "__getitem__") ht.typeIs PyProof.Rows.slot_tuple_getitem
    (wpAny_call_entry PyProof.Rows.slot_tuple_getitem ht.typeIs entry_tuple_getitem ?_ (args_tuple_getitem _ _)))
  show wpAny _ _ (Builtin.Tuple.tupleItemsOf (.ref t) >>= _) _ _ s
  refine wpAny_bind (tupleItemsOf_ ht ?_)
  refine wpAny_bind (wpAny_typeOf hT ?_)
  rw [if_pos (by decide)]
  refine wpAny_bind ?_
  show wpAny _ _ (Builtin.Slice.sliceApplied (.ref sl) (pure (items.size : Int))) _ _ s
  unfold Builtin.Slice.sliceApplied Builtin.Slice.sliceFields
  refine wpAny_bind (wpAny_bind (wpAny_field hos hds (x := vl) rfl (wpAny_bind (wpAny_field hos hds (x := vu) rfl (wpAny_bind (wpAny_field hos hds (x := vs) rfl (wpAny_pure ?_)))))))
  refine wpAny_bind (HT.slicePart_ ps ?_)
  show wpAny _ _ (if ((-1 : Int) == 0) = true then _ else _) _ _ s
  rw [if_neg (by decide)]
  refine wpAny_bind (HT.slicePart_ pl (wpAny_bind (HT.slicePart_ pu (wpAny_bind (wpAny_pure ?_)))))
  show wpAny _ _ (match Builtin.Slice.sliceAdjust none none (-1) (items.size : Int) with | (lo, hi) => pure (lo, (-1 : Int), Builtin.Slice.slicePlaces lo hi (-1))) _ _ s
  rw [adjust_rev]
  show wpAny _ _ (pure (((items.size : Int) - 1), (-1 : Int), Builtin.Slice.slicePlaces ((items.size : Int) - 1) (-1) (-1))) _ _ s
  rw [places_rev]
  refine wpAny_pure ?_
  show wpAny _ _ (if (((items.size : Int) - 1) == 0 && (-1 : Int) == 1 && items.size == items.size) = true then _ else _) _ _ s
  rw [if_neg (by simp), pick_rev]
  first
    | exact wpAny_bind (m := Builtin.Tuple.tupleExact _) (wpAny_newObj_type (wpAny_pure ⟨_, rfl, wpAny_pure h⟩) hok)
    | exact wpAny_bind (m := Builtin.Tuple.tupleExact _) (wpAny_newObj_type (wpAny_bind (wpAny_pure (wpAny_pure ⟨_, rfl, wpAny_pure h⟩))) hok)
    | exact wpAny_bind (wpAny_bind (m := Builtin.Tuple.tupleExact _) (wpAny_newObj_type (wpAny_pure (wpAny_pure ⟨_, rfl, wpAny_pure h⟩)) hok))
    | exact wpAny_bind (wpAny_bind (m := Builtin.Tuple.tupleExact _) (wpAny_newObj_type (wpAny_pure ⟨_, rfl, wpAny_pure h⟩) hok))
def tRevT (K : PySem.W.Frag) (te : TE) : TE := fun σ H Q => te σ H fun x H1 => ∃ a xs, x = .ref a ∧ SqT K H1 a xs ∧ ∀ p its, H1 p = none → Q (.ref p) (upd H1 p (.frz (tup0 its) (.tup xs.reverse)))
theorem pe_revT {X : Cx} {e : Expr} {te : TE} {k : Nat} {p1 p2 p3 pos : Pos} (he : PE X e te) : PE X (.Subscript e (.Slice none none (some (.UnaryOp .USub (.Constant (.int 1) k p1) p2)) p3) pos) (tRevT X.K te) := by
  refine ⟨fun pins s σ H Q I h => ?_⟩
  refine Subscript_ (thn (he.run pins s σ H _ I h) fun v s1 ⟨x, H1, I1, r1, a, xs, ex, hx, q⟩ => ?_)
  subst ex
  cases r1
  have hst : PO X (some (.UnaryOp .USub (.Constant (.int 1) k p1) p2)) (tPart (tUn (rU fun i => .int (-i)) (tC (.int 1)))) := po_some (pe_un un_neg pe_int)
  refine wpAny_Slice (thn (po_none.run pins s1 σ H1 (fun o H2 => o = none ∧ H2 = H1) I1 ⟨rfl, rfl⟩) fun vl s2 ⟨l, H2, I2, pl, el, e2⟩ => ?_)
  subst el e2
  refine thn (po_none.run pins s2 σ H2 (fun o H3 => o = none ∧ H3 = H2) I2 ⟨rfl, rfl⟩) fun vu s3 ⟨u, H3, I3, pu, eu, e3⟩ => ?_
  subst eu e3
  refine thn (hst.run pins s3 σ H3 (fun o H4 => o = some (-1) ∧ H4 = H3) I3 ⟨1, rfl, -1, rfl, rfl, rfl⟩) fun vs s4 ⟨o, H4, I4, ps, eo, e4⟩ => ?_
  subst eo e4
  have I5 : L2.Inv X pins σ H4 { s4 with heap := s4.heap.push { cls := .type "slice", data := .fields #[vl, vu, vs] } } := I4.kept (t' := s4.toks) fun b ob q => Heap.get?_push_of_some _ q
  obtain ⟨its, r, ht, hz⟩ := I5.tuple hx
  have hlen := r.length
  show wpAny (model X.prog X.w) X.A (subscriptTail e (.Slice none none (some (.UnaryOp .USub (.Constant (.int 1) k p1) p2)) p3) (.ref a) (.ref s4.heap.objs.size)) (EP X pins σ Q) X.xe { s4 with heap := s4.heap.push { cls := .type "slice", data := .fields #[vl, vu, vs] } }
  refine tail_any (ops := [.ref a, .ref s4.heap.objs.size]) ht.typeIs (PyProof.Rows.slot_tuple_getitem.lookup) ?_ (by with_unfolding_all rfl)
  refine getItem_tup_rev ht (Heap.IsSliceOf.new _ vl vu vs) pl pu ps (by rw [List.size_toArray]; omega) ?_
  exact ⟨.ref _, _, tup_in (t' := s4.toks) I5 r.reverse (by rw [List.length_reverse]; exact hz), rfl, q _ its.reverse (I5.hok.fresh (Nat.le_refl _))⟩
def tRevA (K : PySem.W.Frag) (te : TE) : TE := fun σ H Q => tRevL K te σ H Q ∨ tRevT K te σ H Q
theorem pe_revA {X : Cx} {e : Expr} {te : TE} {k : Nat} {p1 p2 p3 pos : Pos} (he : PE X e te) : PE X (.Subscript e (.Slice none none (some (.UnaryOp .USub (.Constant (.int 1) k p1) p2)) p3) pos) (tRevA X.K te) := pe_or (pe_revL he) (pe_revT he)
def revAD : D → Option D
  | .list ds => some (.list ds.reverse)
  | .tuple ds => some (.tuple ds.reverse)
  | _ => none
theorem sd_revA (h : SdY K te ge) : SdY K (tRevA K te) (y1 revAD ge) := by
  intro F O H pc σ ρ s d s' st e Q q
  obtain ⟨x, s1, e1, e⟩ := bO_some e
  obtain ⟨z, e2, e⟩ := mO_some e
  cases e
  unfold revAD at e2
  split at e2
  · cases e2
    refine .inl (h F O H pc σ ρ s _ _ st e1 _ fun v F1 H1 n1 sr1 d1 => ?_)
    obtain ⟨p, vs, rfl, h1, h2⟩ := d1.lst_inv
    have w1 := n1.wk st.wk
    exact ⟨p, vs, rfl, w1.l h1, fun l hl => finL (ds := _) w1 (fun v F2 H2 a b c e f => q v F2 H2 (n1.trans (Ny.pure w1 a b c e)) (sr1.same a) f) hl h2.reverse⟩
  · cases e2
    refine .inr (h F O H pc σ ρ s _ _ st e1 _ fun v F1 H1 n1 sr1 d1 => ?_)
    obtain ⟨p, vs, rfl, h1, h2⟩ := d1.tup_inv
    have w1 := n1.wk st.wk
    exact ⟨p, vs, rfl, w1.t h1, fun l its hl => finT (ds := _) w1 (fun v F2 H2 a b c e f => q v F2 H2 (n1.trans (Ny.pure w1 a b c e)) (sr1.same a) f) hl h2.reverse⟩
  · cases e2
theorem sn_revA (h : SdY K te ge) : SdN K (tRevA K te) (yn1 revN ge) := by
  intro F O H pc σ ρ s d s' st e Q q
  exact .inl (sn_rev h F O H pc σ ρ s d s' st e Q q)

/-! ### a, b = e1, e2 where a tuple is made on the way -/
theorem Ny.tup {F H : Hp} {O : Om} {p : Addr} {its : List Value} {vs : List V} (w : Wk F O H) (hp : H p = none) : Ny O F H F (upd H p (.frz (tup0 its) (.tup vs))) :=
  Ny.pure w (same_new hp) (Same.refl _) (w.fh.trans (same_new hp)) fun _ _ h => .inl h
theorem ss_parT {i j : Nat} {gu gv : Yu} (h : SdU K ta gu) (h' : SdU K tb gv) : SdS K (tAsg (tTup0 (tCons ta (tCons tb tNil))) (gTup K 2 (gNames [i, j]))) (parS i j gu gv) := by
  intro F O H pc σ ρ s fl s' st e Dn k
  obtain ⟨x, s1, e1, e⟩ := bO_some e
  obtain ⟨y, s2, e2, e⟩ := bO_some e
  cases e
  refine h F O H pc σ ρ s x _ st e1 _ fun v F1 H1 S1 n1 sr1 w1 d1 => ?_
  have st1 := st.ny n1 sr1
  refine h' F1 O H1 pc σ ρ s1 y _ st1 e2 _ fun u F2 H2 S2 n2 sr2 w2 d2 => ⟨by show 2 ≤ sizeLine; decide, fun p its hp => ?_⟩
  have st2 := st1.ny n2 sr2
  have n3 := Ny.tup (its := its) (vs := [v, u]) st2.wk hp
  have st3 := st2.ny n3 (sr2.same (same_new hp))
  refine ⟨p, [v, u], rfl, .inl (.inr ⟨_, upd_same⟩), rfl, v, [u], rfl, u, [], rfl, rfl, ?_⟩
  obtain ⟨q, st4⟩ := store (i := i) ((n1.trans n2).trans n3).sq st3 ((w1.later n2).later n3) ((d1.later n2 w1).later n3 (w1.later n2))
  obtain ⟨q2, st5⟩ := store (i := j) q st4 (NewS.second w1 (fun _ z => z) (w2.later n3) n1.dom) (d2.later n3 w2)
  exact k _ F2 _ _ pc q2 (PcLe.refl _) st5
theorem ss_parT3 {i j l : Nat} {gu gv gw : Yu} (h : SdU K ta gu) (h' : SdU K tb gv) (h'' : SdU K tc gw) : SdS K (tAsg (tTup0 (tCons ta (tCons tb (tCons tc tNil)))) (gTup K 3 (gNames [i, j, l]))) (par3S i j l gu gv gw) := by
  intro F O H pc σ ρ s fl s' st e Dn k
  obtain ⟨x, s1, e1, e⟩ := bO_some e
  obtain ⟨y, s2, e2, e⟩ := bO_some e
  obtain ⟨z, s3, e3, e⟩ := bO_some e
  cases e
  refine h F O H pc σ ρ s x _ st e1 _ fun v F1 H1 S1 n1 sr1 w1 d1 => ?_
  have st1 := st.ny n1 sr1
  refine h' F1 O H1 pc σ ρ s1 y _ st1 e2 _ fun u F2 H2 S2 n2 sr2 w2 d2 => ?_
  have st2 := st1.ny n2 sr2
  refine h'' F2 O H2 pc σ ρ s2 z _ st2 e3 _ fun w F3 H3 S3 n3 sr3 w3 d3 => ⟨by show 3 ≤ sizeLine; decide, fun p its hp => ?_⟩
  have st3 := st2.ny n3 sr3
  have n4 := Ny.tup (its := its) (vs := [v, u, w]) st3.wk hp
  have st4 := st3.ny n4 (sr3.same (same_new hp))
  refine ⟨p, [v, u, w], rfl, .inl (.inr ⟨_, upd_same⟩), rfl, v, [u, w], rfl, u, [w], rfl, w, [], rfl, rfl, ?_⟩
  obtain ⟨q, st5⟩ := store (i := i) (((n1.trans n2).trans n3).trans n4).sq st4 (((w1.later n2).later n3).later n4) (((d1.later n2 w1).later n3 (w1.later n2)).later n4 ((w1.later n2).later n3))
  obtain ⟨q2, st6⟩ := store (i := j) q st5 (NewS.second w1 (fun _ z => z) ((w2.later n3).later n4) n1.dom) ((d2.later n3 w2).later n4 (w2.later n3))
  obtain ⟨q3, st7⟩ := store (i := l) q2 st6 (NewS.second w2 (fun _ z => z) (NewS.second (H := H2) w1 n2.dom (w3.later n4) (fun _ z => z)) (n1.trans n2).dom) (d3.later n4 w3)
  exact k _ F3 _ _ pc q3 (PcLe.refl _) st7
end
end DL

set_option Elab.async false
set_option linter.all false
set_option maxRecDepth 100000
set_option maxHeartbeats 4000000
/-! DL9: the law's end, the pick, the things mixed. -/
namespace DL
open PySem PySem.Spec PyProof.Rows L2

def spLaw (K : PySem.W.Frag) : Sp := fun vs H Q _ => ∃ (a : Addr) (ns : List Int), vs = [.ref a] ∧ SqL K H a (ns.map V.int) ∧ ns.length ≤ 63 ∧ ∀ H', Q (.bl true) H'
theorem law_end {K : PySem.W.Frag} {kk i : Nat} {t : TS} {G : Z} {mk : List Int → Src} {H : Hp} {a : Addr} {ns : List Int} {N : List Str} {E : XK} {s2 : Src} {Dn : Ends} (hs : SdS K t G) (hS : SqL K H a (ns.map V.int)) (hl : ns.length ≤ 63) (hi : i < kk)
    (e : G ((List.replicate kk Sl.un).set i .sr) (mk ns) = some (.rt (.bool true), s2)) (q : ∀ H', Dn.rt (.bl true) H') (hN : N.length = kk := by rfl) :
    tSeq (tAsg (tCall (spMk K mk) [] E (tCons (tVar 0) tNil)) (gName i)) t Dn (L2.start N [.ref a]) H := by
  have h0 : (L2.start N [.ref a])[0]? = some (some (.ref a)) := by
    unfold L2.start
    rfl
  have hlen : (L2.start N [V.ref a]).length = kk := by
    unfold L2.start
    rw [List.length_append, List.length_map, List.length_replicate, List.length_cons, List.length_nil]
    omega
  refine ss_mk (F := fun _ => none) (ρ := List.replicate kk .un) hs (fun _ _ z => nomatch z) ⟨by rw [hlen, List.length_replicate], fun j sl hj => ?_⟩ h0 hS hl (by rw [List.length_replicate]; exact hi) e Dn fun F1 O1 H1 pc1 _ _ _ => fun v F' O' H' pc' _ _ _ _ d => ?_
  · rw [List.getElem?_replicate] at hj
    split at hj
    · cases hj
      rename_i hjk
      exact ⟨_, List.getElem?_eq_getElem (by rw [hlen]; exact hjk), trivial⟩
    · cases hj
  · rw [d.bl_inv]
    exact q H'

theorem spY_weak {K : PySem.W.Frag} {n : Nat} {m m' : List D → Src → Option (D × Src)} (h : ∀ ds s r, m' ds s = some r → m ds s = some r) : ∀ vs H Q E, spY K n m' vs H Q E → spY K n m vs H Q E := by
  rintro vs H Q E ⟨p, c, rest, F, ds, s, d, s', e, h1, h2, h3, h4, h5, h6, h7, h8, h9⟩
  exact ⟨p, c, rest, F, ds, s, d, s', e, h1, h2, h3, h4, h5, h6, h7, h _ _ _ h8, h9⟩
theorem spP_weak {K : PySem.W.Frag} {n : Nat} {m m' : List D → Option D} (h : ∀ ds r, m' ds = some r → m ds = some r) : ∀ vs H Q E, spP K n m' vs H Q E → spP K n m vs H Q E := by
  rintro vs H Q E ⟨F, ds, d, h1, h2, h3, h4, h5⟩
  exact ⟨F, ds, d, h1, h2, h3, h _ _ h4, h5⟩

/-! ### the pick -/
def whPick : Yb := andT (bT (y2 gtD (varY 1) (cY (.int 1)))) (andT (bT (y2 ltD (rdS 0 Src.left) (cY (.int 2)))) (bT (y2 gtD (rdS 0 fun s => s.cells.length) (cY (.int 0)))))
def endPick : Z := (seqS (asgS 2 (fzU (rdS 0 Src.left)))
      (seqS (ifS (orT (bT (y2 ltD (varY 1) (cY (.int 2)))) (bT (y2 gtD (varY 2) (cY (.int 1)))))
        (seqS (wrS 0 (fun s z => { s with left := z }) (y2 fdivD (varY 2) (yC maxC (aCons (cY (.int 1)) (aCons (varY 1) aNil)))))
      (retS (y2 modD (yC intC (aCons (varY 2) aNil)) (yC maxC (aCons (cY (.int 1)) (aCons (varY 1) aNil))))))
        nxS)
      (seqS (wrS 0 (fun s z => { s with turn := z }) (y2 addD (rdS 0 Src.turn) (cY (.int 1))))
      (seqS (asgS 3 (fzU (y2 modD (yC intC (aCons (y2 addD (rdS 0 Src.mixed) (y2 mulD (rdS 0 Src.turn) (cY (.int 104729)))) aNil)) (cY (.int 998244353)))))
      (seqS (asgS 3 (fzU (y2 modD (yC intC (aCons (y2 addD (y2 mulD (varY 3) (varY 3)) (y2 mulD (rdS 0 Src.turn) (cY (.int 17)))) aNil)) (cY (.int 2147483647)))))
      (seqS (wrS 0 (fun s z => { s with mixed := z }) (varY 3))
      (retS (y2 modD (yC intC (aCons (y2 fdivD (varY 3) (cY (.int 16))) aNil)) (varY 1)))))))))
def pickG : Z := seqS (whS whPick (popC 0)) endPick

theorem whPick_eq (many : Int) (y z : Sl) (s : Src) : whPick [.sr, .fz (.int many), y, z] s = some (decide (many > 1 ∧ s.left < 2 ∧ s.cells ≠ []), s) := by
  have h1 : (decide ((s.cells.length : Int) > 0)) = decide (s.cells ≠ []) := by
    cases s.cells with
    | nil => rfl
    | cons c cs => simp
  have e : whPick [.sr, .fz (.int many), y, z] s = (if decide (many > 1) = true then (if decide (s.left < 2) = true then some (decide ((s.cells.length : Int) > 0), s) else some (false, s)) else some (false, s)) := rfl
  rw [e, h1]
  by_cases a : many > 1 <;> by_cases b : s.left < 2 <;> simp [a, b]
theorem whPick_go (many : Int) (y z : Sl) : ∀ (n : Nat) (s : Src), s.cells.length < n → whGo whPick (popC 0) n [.sr, .fz (.int many), y, z] s = some (.nx [.sr, .fz (.int many), y, z], refill many s.cells.length s) := by
  intro n
  induction n with
  | zero => intro s h; omega
  | succ n ih =>
    intro s h
    unfold whGo
    rw [whPick_eq]
    by_cases c : many > 1 ∧ s.left < 2 ∧ s.cells ≠ []
    · rw [refill_go c, decide_eq_true c]
      dsimp only [bO]
      rw [if_pos rfl]
      have : popC 0 [.sr, .fz (.int many), y, z] s = some (.nx [.sr, .fz (.int many), y, z], { s with cells := s.cells.dropLast, left := s.cells.getLastD 0 }) := by
        show (if s.cells = [] then none else _) = _
        rw [if_neg c.2.2]
      rw [this]
      dsimp only [bO]
      rw [ih _ (by show s.cells.dropLast.length < n; rw [List.length_dropLast]; have := List.length_pos_iff.mpr c.2.2; omega)]
    · rw [refill_stop c, decide_eq_false c]
      rfl

def endV (many : Int) (s : Src) : Int × Src :=
  if many < 2 ∨ s.left > 1 then (s.left.fmod (mx1 many), { s with left := s.left.fdiv (mx1 many) })
  else
    let turn := s.turn + 1
    let mixed := (s.mixed + turn * 104729) % 998244353
    let mixed2 := (mixed * mixed + turn * 17) % 2147483647
    ((mixed2.fdiv 16).fmod many, { s with turn := turn, mixed := mixed2 })
theorem max_mx1 (many : Int) : max 1 many = mx1 many := by unfold mx1; split <;> omega
theorem mx1_lt {many : Int} (h : many < 1000000) : mx1 many ≠ 0 ∧ (mx1 many).natAbs < 1073741824 := by unfold mx1; split <;> omega
theorem fmod_pos_eq (a : Int) {b : Int} (h : 0 ≤ b) : a.fmod b = a % b := Int.fmod_eq_emod_of_nonneg a h
theorem mul_ii (a : Int) {b : Int} (h1 : -(2 ^ 64) < b) (h2 : b < 2 ^ 64) : mulD (.int a) (.int b) = some (.int (a * b)) := by
  unfold mulD
  simp only [decide_eq_true h1, decide_eq_true h2, Bool.and_true, Bool.or_true, if_true]
theorem mod_ii (a : Int) {b : Int} (h : b ≠ 0) : modD (.int a) (.int b) = some (.int (a.fmod b)) := by
  unfold modD i2D
  simp [h]
theorem fdiv_ii (a : Int) {b : Int} (h : b ≠ 0) (h2 : b.natAbs < 1073741824) : fdivD (.int a) (.int b) = some (.int (a.fdiv b)) := by
  unfold fdivD i2D
  simp [h, h2]
theorem endPick_eq (many : Int) (y z : Sl) (s : Src) (h : many < 1000000) : outY (endPick [.sr, .fz (.int many), y, z] s) = some (.int (endV many s).1, (endV many s).2) := by
  obtain ⟨hm0, hm1⟩ := mx1_lt h
  by_cases c : many < 2 ∨ s.left > 1
  · have e1 : (if decide (many < 2) = true then some (true, s) else some (decide (s.left > 1), s)) = some (true, s) := by
      rcases c with c | c
      · rw [if_pos (decide_eq_true c)]
      · rw [decide_eq_true c]; split <;> rfl
    have : endPick [.sr, .fz (.int many), y, z] s = some (.rt (.int (s.left.fmod (mx1 many))), { s with left := s.left.fdiv (mx1 many) }) := by
      unfold endPick seqS asgS fzU
      dsimp only [rdS, bO, List.getElem?_cons_zero, List.set_cons_succ, List.set_cons_zero]
      have e2 : orT (bT (y2 ltD (varY 1) (cY (.int 2)))) (bT (y2 gtD (varY 2) (cY (.int 1)))) [.sr, .fz (.int many), .fz (.int s.left), z] s = (if decide (many < 2) = true then some (true, s) else some (decide (s.left > 1), s)) := rfl
      unfold ifS
      rw [e2, e1]
      dsimp only [bO]
      rw [if_pos rfl]
      have e3 : y2 fdivD (varY 2) (yC maxC (aCons (cY (.int 1)) (aCons (varY 1) aNil))) [.sr, .fz (.int many), .fz (.int s.left), z] s = mO (fdivD (.int s.left) (.int (max 1 many))) fun d => some (d, s) := rfl
      have e4 : ∀ s2, y2 modD (yC intC (aCons (varY 2) aNil)) (yC maxC (aCons (cY (.int 1)) (aCons (varY 1) aNil))) [.sr, .fz (.int many), .fz (.int s.left), z] s2 = mO (modD (.int s.left) (.int (max 1 many))) fun d => some (d, s2) := fun _ => rfl
      have e5 : fdivD (.int s.left) (.int (max 1 many)) = some (.int (s.left.fdiv (mx1 many))) := by
        rw [max_mx1]
        unfold fdivD i2D
        simp [hm0, hm1]
      have e6 : modD (.int s.left) (.int (max 1 many)) = some (.int (s.left.fmod (mx1 many))) := by
        rw [max_mx1]
        unfold modD i2D
        simp [hm0]
      unfold wrS
      rw [e3, e5]
      dsimp only [mO, bO, List.getElem?_cons_zero, retS]
      rw [e4, e6]
      rfl
    rw [this]
    unfold endV
    rw [if_pos c]
    rfl
  · have c1 : ¬ many < 2 := fun z => c (.inl z)
    have c2 : ¬ s.left > 1 := fun z => c (.inr z)
    have e1 : (if decide (many < 2) = true then some (true, s) else some (decide (s.left > 1), s)) = some (false, s) := by
      rw [if_neg (by rw [decide_eq_true_eq]; exact c1), decide_eq_false c2]
    let turn := s.turn + 1
    let mixed := (s.mixed + turn * 104729) % 998244353
    let mixed2 := (mixed * mixed + turn * 17) % 2147483647
    have b1 : 0 ≤ mixed ∧ mixed < 998244353 := ⟨Int.emod_nonneg _ (by decide), Int.emod_lt_of_pos _ (by decide)⟩
    have : endPick [.sr, .fz (.int many), y, z] s = some (.rt (.int ((mixed2.fdiv 16).fmod many)), { s with turn := turn, mixed := mixed2 }) := by
      unfold endPick seqS asgS fzU
      dsimp only [rdS, bO, List.getElem?_cons_zero, List.set_cons_succ, List.set_cons_zero]
      have e2 : orT (bT (y2 ltD (varY 1) (cY (.int 2)))) (bT (y2 gtD (varY 2) (cY (.int 1)))) [.sr, .fz (.int many), .fz (.int s.left), z] s = (if decide (many < 2) = true then some (true, s) else some (decide (s.left > 1), s)) := rfl
      unfold ifS
      rw [e2, e1]
      dsimp only [bO, nxS]
      rw [if_neg Bool.false_ne_true]
      let s1 : Src := { s with turn := turn }
      have e3 : wrS 0 (fun s z => { s with turn := z }) (y2 addD (rdS 0 Src.turn) (cY (.int 1))) [.sr, .fz (.int many), .fz (.int s.left), z] s = some (.nx [.sr, .fz (.int many), .fz (.int s.left), z], s1) := rfl
      dsimp only
      rw [e3]
      dsimp only
      simp only [seqS, asgS, fzU, owU, y2, yC, y1, yn1, yn2, ynC, ynR, yR, rg1, rg2, slY, ynSl, oNo, oYes, aCons, aNil, rdS, cY, varY, tupY, lstY, frY, bO, mO, retS, retN, nxS, bT, andT, orT, notT, ifY, andY, orY, notY, vwY, vwT, oixY, parS, par3S, wrS, yesT, bN, iY, iR1, iR2, iZ, augS, appS, frzS, ifS, fuel, List.getElem?_cons_zero, List.getElem?_cons_succ, List.set_cons_zero, List.set_cons_succ, addD, intC, mul_ii _ (show -(2 ^ 64) < (104729 : Int) by decide) (by decide), mod_ii _ (show (998244353 : Int) ≠ 0 by decide), fmod_pos_eq _ (show 0 ≤ (998244353 : Int) by decide)]
      have h2 : mulD (.int mixed) (.int mixed) = some (.int (mixed * mixed)) := mul_ii _ (by omega) (by omega)
      have h2' : mulD (.int ((s.mixed + turn * 104729) % 998244353)) (.int ((s.mixed + turn * 104729) % 998244353)) = some (.int (mixed * mixed)) := h2
      simp only [seqS, asgS, fzU, owU, y2, yC, y1, yn1, yn2, ynC, ynR, yR, rg1, rg2, slY, ynSl, oNo, oYes, aCons, aNil, rdS, cY, varY, tupY, lstY, frY, bO, mO, retS, retN, nxS, bT, andT, orT, notT, ifY, andY, orY, notY, vwY, vwT, oixY, parS, par3S, wrS, yesT, bN, iY, iR1, iR2, iZ, augS, appS, frzS, ifS, fuel, List.getElem?_cons_zero, List.getElem?_cons_succ, List.set_cons_zero, List.set_cons_succ, addD, intC, s1, h2', mul_ii _ (show -(2 ^ 64) < (17 : Int) by decide) (by decide), mod_ii _ (show (2147483647 : Int) ≠ 0 by decide), fmod_pos_eq _ (show 0 ≤ (2147483647 : Int) by decide), fdiv_ii _ (show (16 : Int) ≠ 0 by decide) (by decide), mod_ii _ (show many ≠ 0 by omega)]
      rfl
    rw [this]
    unfold endV
    rw [if_neg c]
    rfl
theorem pick_eq (many : Int) (s : Src) : pickP many s = endV many (refill many s.cells.length s) := rfl
theorem pick_run (ds : List D) (s : Src) (r : D × Src) (h : pickM ds s = some r) : runY pickG 2 ds s = some r := by
  unfold pickM at h
  split at h
  · rename_i many
    split at h
    · rename_i hm
      cases h
      unfold runY pickG seqS whS
      show outY (match whGo whPick (popC 0) (fuel + s.cells.length) [.sr, .fz (.int many), .un, .un] s with | some (.nx ρ1, s1) => endPick ρ1 s1 | r => r) = _
      rw [whPick_go many .un .un _ s (by unfold fuel; omega)]
      dsimp only
      rw [endPick_eq many .un .un _ hm, pick_eq]
    · cases h
  · cases h
/-! ### the things mixed -/
section
variable {K : PySem.W.Frag}
theorem scratch_st {F H : Hp} {O : Om} {pc : Pc} {σ : L2.St} {ρ : Rho} {s : Src} {Dl : Addr} {o : HO} (st : Stt K F O H pc σ ρ s) (hF : F Dl = none) (hO : O Dl = none) : Stt K F O (upd H Dl o) pc σ ρ s := by
  have ne : ∀ a, O a ≠ none → a ≠ Dl := fun a h z => h (by rw [z, hO])
  refine ⟨⟨fun a x e => ?_, st.wk.fo, fun a e => ?_⟩, ⟨st.env.len, fun j sl hj => ?_⟩, src_push st.src hO⟩
  · rw [upd_ne (fun z => by rw [z, hF] at e; cases e)]; exact st.wk.fh a x e
  · rw [upd_ne (ne a e)]; exact st.wk.oh a e
  · obtain ⟨v, g1, g2⟩ := st.env.at_ j sl hj
    refine ⟨v, g1, ?_⟩
    cases sl with
    | un => trivial
    | fz d => exact g2
    | ow ds =>
      obtain ⟨a, vs, z1, z2, z3, z4⟩ := g2
      exact ⟨a, vs, z1, z2, by rw [upd_ne (ne a (by rw [z2]; exact fun z => nomatch z))]; exact z3, z4⟩
    | o2 dss =>
      obtain ⟨a, qs, z1, z2, z3, z4, z5, z6⟩ := g2
      exact ⟨a, qs, z1, z2, by rw [upd_ne (ne a (by rw [z2]; exact fun z => nomatch z))]; exact z3, z4, z5, z6.imp fun b ds ⟨y1, vs, y2, y3⟩ => ⟨y1, vs, by rw [upd_ne (ne b (by rw [y1]; exact fun z => nomatch z))]; exact y2, y3⟩⟩
    | dc kvs =>
      obtain ⟨a, ob, ts, z1, z2, z3, z4⟩ := g2
      exact ⟨a, ob, ts, z1, z2, by rw [upd_ne (ne a (by rw [z2]; exact fun z => nomatch z))]; exact z3, z4⟩
    | oh dss =>
      obtain ⟨a, qs, z1, z2, z3, z4, z5, z6, z7⟩ := g2
      exact ⟨a, qs, z1, z2, by rw [upd_ne (ne a (by rw [z2]; exact fun z => nomatch z))]; exact z3, z4, z5, z6.imp fun b ds ⟨y1, vs, y2, y3⟩ => ⟨y1, vs, by rw [upd_ne (ne b (by rw [y1]; exact fun z => nomatch z))]; exact y2, y3⟩, z7⟩
    | al r k' => exact g2
    | sr => exact g2
theorem scratch_sq {F H F' H' : Hp} {O O' : Om} {Dl : Addr} {o : HO} (q : Sq F O H F' O' H') (hH : H Dl = none) : Sq F O H F' O' (upd H' Dl o) := by
  refine ⟨q.ff, fun a x e1 e2 => ⟨?_, (q.unown a x e1 e2).2⟩, fun a e => ?_, q.src, q.new⟩
  · rw [upd_ne (fun z => by rw [z, hH] at e1; cases e1)]; exact (q.unown a x e1 e2).1
  · by_cases ha : a = Dl
    · rw [ha, upd_same]; exact fun z => nomatch z
    · rw [upd_ne ha]; exact q.dom a e
def mixG : Z := fun ρ s => match ρ with
  | [.sr, _, .ow ds, _] => if ds.length < 1000 then some (.rt (.list (mixedGo ds.length ds s).1), (mixedGo ds.length ds s).2) else none
  | _ => none
theorem mixedGo_len : ∀ (n : Nat) (ds : List D) (s : Src), (mixedGo n ds s).1.length = n
  | 0, _, _ => rfl
  | n + 1, ds, s => by
    unfold mixedGo
    show _ + 1 = _
    rw [mixedGo_len n]
theorem mixedGo_step {rem : List D} {s : Src} (h : 0 < rem.length) : mixedGo rem.length rem s = ((rem[(pickP rem.length s).1.toNat]?).getD .none :: (mixedGo (rem.length - 1) (rem.eraseIdx (pickP rem.length s).1.toNat) (pickP rem.length s).2).1, (mixedGo (rem.length - 1) (rem.eraseIdx (pickP rem.length s).1.toNat) (pickP rem.length s).2).2) := by
  cases rem with
  | nil => cases h
  | cons x xs => rfl
theorem seqIndex_nn {i : Int} {n : Nat} (h0 : 0 ≤ i) (h : i < n) : seqIndex? i n = some i.toNat := by
  unfold seqIndex?
  simp only [if_neg (show ¬ i < 0 by omega)]
  rw [if_pos (by simp [h0, h])]
theorem pickM_eq {many : Int} (s : Src) (h : many < 1000000) : pickM [.int many] s = some (.int (pickP many s).1, (pickP many s).2) := by
  unfold pickM
  simp only [h, if_true]
theorem drawY_ev {i n : Nat} {m : List D → Src → Option (D × Src)} {g : Yl} {ρ : Rho} {s s1 : Src} {xs : List D} (h : ρ[i]? = some .sr) (hg : g ρ s = some (xs, s1)) (hn : xs.length = n) : drawY i n m g ρ s = m xs s1 := by
  unfold drawY
  rw [h]
  simp only [hg, bO, hn, if_true]
theorem ss_mixed {E : XK} : SdS K (tRet (tLc (iRng1 (tCons (tCB (rLen K) (tCons (tVar 2) tNil)) tNil)) (gName 3) tYes (tBM K "list" rPopAt (tVar 2) (tCons (tCall (spY K 1 pickM) [] E (tCons (tVar 0) (tCons (tCB (rLen K) (tCons (tVar 2) tNil)) tNil))) tNil)) [3])) mixG := by
  intro F O H pc σ ρ s fl s' st e Dn k
  unfold mixG at e
  split at e
  · rename_i s1 ds s2
    split at e
    · rename_i hlen
      cases e
      -- the length
      have sl : SdY K (tCB (rLen K) (tCons (tVar 2) tNil)) (vwY (yC lenC (aCons (varY 2) aNil))) := sd_vw (sd_C sC_len (sa_cons (sd_var 2) sa_nil))
      have el : ∀ (z : Sl) (rem : List D) (s3 : Src), vwY (yC lenC (aCons (varY 2) aNil)) [.sr, s1, .ow rem, z] s3 = some (.int rem.length, s3) := fun _ _ _ => rfl
      refine sl F O H pc σ _ s _ _ st (el _ _ _) _ fun v F1 H1 n1 sr1 d1 => ?_
      have st1 := st.ny n1 sr1
      refine ⟨(ds.length : Int), by rw [d1.int_inv], by omega, by omega, ?_⟩
      rw [Int.toNat_natCast]
      intro Dl hD
      have hOD : O Dl = none := by
        cases z : O Dl with
        | none => rfl
        | some u => exact absurd hD (st1.wk.oh Dl (by rw [z]; exact fun z => nomatch z))
      have hFD : F1 Dl = none := st1.wk.nF hD
      have hHD : H Dl = none := by
        cases z : H Dl with
        | none => rfl
        | some u => exact absurd hD (n1.dom Dl (by rw [z]; exact fun z => nomatch z))
      have wst : Stt K F1 O H1 pc (wipe σ [3]) [.sr, s1, .ow ds, .un] s := ⟨st1.wk, wipe_env st1.env [3], st1.src⟩
      let Pv : Nat → Hp → Prop := fun i H2 => ∃ F2 acc vacc rem s3, Sq F1 O H1 F2 O H2 ∧ F2 Dl = none ∧ H2 Dl = some (.lst vacc) ∧ DqAll K F2 vacc acc ∧ Stt K F2 O H2 pc (wipe σ [3]) [.sr, s1, .ow rem, .un] s3 ∧ rem.length + i = ds.length ∧ acc.length = i ∧
        acc ++ (mixedGo rem.length rem s3).1 = (mixedGo ds.length ds s).1 ∧ (mixedGo rem.length rem s3).2 = (mixedGo ds.length ds s).2
      refine lc_range (vs := [3]) Pv ?_ ?_ ?_
      · exact ⟨F1, [], [], ds, s, scratch_sq (Sq.refl _ _ _) hD, hFD, upd_same, .nil, scratch_st wst hFD hOD, rfl, rfl, rfl, rfl⟩
      · rintro i H2 hi ⟨F2, acc, vacc, rem, s3, q2, f2, h2, da, st2, hr, ha, e1, e2⟩
        refine ⟨?_, ?_⟩
        · show ((σ.set 3 none).set 3 _).set 3 none = σ.set 3 none
          rw [List.set_set, List.set_set]
        unfold tYes
        dsimp only
        rw [if_pos rfl]
        have st3 : Stt K F2 O H2 pc _ [.sr, s1, .ow rem, .fz (.int (0 + i))] s3 := st2.set (i := 3) (v := .int (0 + i)) (.int _)
        obtain ⟨q, vs, g1, g2, g3, g4⟩ := st2.env.own_at (i := 2) rfl
        have g1' : ((wipe σ [3]).set 3 (some (.int (0 + i))))[2]? = some (some (.ref q)) := by
          rw [List.getElem?_set_ne (by decide)]; exact g1
        refine ⟨.ref q, g1', .inl ⟨rfl, vs, SqL.of g3⟩, ?_⟩
        -- the pick
        have sp : SdY K (tCall (spY K 1 pickM) [] E (tCons (tVar 0) (tCons (tCB (rLen K) (tCons (tVar 2) tNil)) tNil))) (drawY 0 1 pickM (aCons (vwY (yC lenC (aCons (varY 2) aNil))) aNil)) := sd_draw (sa_cons sl sa_nil)
        have hrem : 0 < rem.length := by omega
        have ep : drawY 0 1 pickM (aCons (vwY (yC lenC (aCons (varY 2) aNil))) aNil) [.sr, s1, .ow rem, .fz (.int (0 + i))] s3 = some (.int (pickP rem.length s3).1, (pickP rem.length s3).2) := by
          have e9 : aCons (vwY (yC lenC (aCons (varY 2) aNil))) aNil [.sr, s1, .ow rem, .fz (.int (0 + i))] s3 = some ([.int rem.length], s3) := rfl
          exact (drawY_ev rfl e9 rfl).trans (pickM_eq _ (by omega))
        refine sp F2 O H2 pc _ _ s3 _ _ st3 ep _ fun v3 F3 H3 n3 sr3 d3 => ?_
        have st4 := st2.ny n3 sr3
        have pr := pick_range rem.length s3
        rw [show mx1 (rem.length : Int) = rem.length by unfold mx1; split <;> omega] at pr
        have hlt : (pickP rem.length s3).1.toNat < rem.length := by omega
        have hq3 : H3 q = some (.lst vs) := by
          rw [n3.own q (by rw [g2]; exact fun z => nomatch z) (by rw [g2]; exact fun z => nomatch z)]
          exact g3
        obtain ⟨w, w1, w2⟩ := g4.get (List.getElem?_eq_getElem hlt)
        have hvl := g4.len
        refine ⟨q, vs, _, (pickP rem.length s3).1.toNat, w, rfl, by rw [d3.int_inv], hq3, by omega, by omega, ?_, w1, ?_⟩
        · rw [hvl, seqIndex_nn pr.1 (by omega)]
        · obtain ⟨q5, st5⟩ := own_upd st4 g1 g2 ((g4.mono n3.ff).eraseIdx (pickP rem.length s3).1.toNat)
          have hDq : Dl ≠ q := fun z => by rw [z, g2] at hOD; cases hOD
          have f3 : F3 Dl = none := by
            cases z : F3 Dl with
            | none => rfl
            | some o =>
              rcases n3.new Dl o z with h | h
              · rw [f2] at h; cases h
              · rw [h2] at h; cases h
          refine ⟨vacc, ?_, ?_, F3, acc ++ [rem[(pickP rem.length s3).1.toNat]], vacc ++ [w], rem.eraseIdx (pickP rem.length s3).1.toNat, (pickP rem.length s3).2, scratch_sq ((q2.trans n3.sq).trans q5) hD, f3, upd_same, (da.mono n3.ff).append (.cons (w2.mono n3.ff) .nil), scratch_st st5 f3 hOD, ?_, ?_, ?_, ?_⟩
          · rw [upd_ne hDq]; exact n3.unown _ _ h2 hOD
          · rw [da.len]; exact small1000 (by omega)
          · rw [List.length_eraseIdx, if_pos hlt]; omega
          · rw [List.length_append, List.length_singleton, ha]
          · rw [← e1, List.append_assoc]
            refine congrArg (acc ++ ·) ?_
            rw [mixedGo_step hrem, List.getElem?_eq_getElem hlt, List.length_eraseIdx, if_pos hlt]
            rfl
          · rw [← e2, mixedGo_step hrem, List.length_eraseIdx, if_pos hlt]
      · rintro H2 ⟨F2, acc, vacc, rem, s3, q2, f2, h2, da, st2, hr, ha, e1, e2⟩
        have hr0 : rem = [] := List.length_eq_zero_iff.mp (by omega)
        subst hr0
        rw [show (mixedGo ([] : List D).length [] s3) = ([], s3) from rfl] at e1 e2
        rw [List.append_nil] at e1
        subst e1 e2
        have hF2 : Same F2 (upd F2 Dl (.lst vacc)) := same_new f2
        have hFH : Same (upd F2 Dl (.lst vacc)) H2 := fun a o z => by
          by_cases ha : a = Dl
          · rw [ha, upd_same] at z; rw [ha, ← z]; exact h2
          · rw [upd_ne ha] at z; exact st2.wk.fh a o z
        have wk2 : Wk (upd F2 Dl (.lst vacc)) O H2 := ⟨hFH, fun a z => by rw [upd_ne (fun y => z (by rw [y, hOD]))]; exact st2.wk.fo a z, st2.wk.oh⟩
        refine k (.ref Dl) (upd F2 Dl (.lst vacc)) O H2 pc (n1.sq.trans ⟨q2.ff.trans hF2, q2.unown, q2.dom, q2.src, fun a o z => ?_⟩) (PcLe.refl _) wk2 st2.src (.lst upd_same (da.mono hF2))
        by_cases ha : a = Dl
        · rw [ha]; exact .inr (.inr hD)
        · rw [upd_ne ha] at z; exact q2.new a o z
    · cases e
  · cases e
theorem mix_run (ds : List D) (s : Src) (r : D × Src) (h : mixedM ds s = some r) : runY (seqS (asgS 2 (owU (ynC listC (aCons (varY 1) aNil)))) mixG) 2 ds s = some r := by
  unfold mixedM at h
  split at h
  · rename_i xs
    split at h
    · rename_i hl
      cases h
      show outY (if xs.length < 1000 then _ else _) = _
      rw [if_pos hl]
      rfl
    · cases h
  · rename_i xs
    split at h
    · rename_i hl
      cases h
      show outY (if xs.length < 1000 then _ else _) = _
      rw [if_pos hl]
      rfl
    · cases h
  · cases h
end
end DL

set_option Elab.async false
set_option linter.all false
set_option maxRecDepth 100000
set_option maxHeartbeats 4000000
/-! DR0: repr. -/
namespace DL
open PySem PySem.Spec PyProof.Rows L2
mutual
/-- no number of more than twelve digits -/
def shortD : D → Bool
  | .int i => decide (i.natAbs < 10 ^ 12)
  | .list xs => shortAll xs
  | .tuple xs => shortAll xs
  | .dict _ => false
  | .none => true
  | .bool _ => true
  | .str _ => true
def shortAll : List D → Bool
  | [] => true
  | x :: xs => shortD x && shortAll xs
end
mutual
theorem short_ints : ∀ d : D, shortD d = true → PyData.intsShort 13 d = true ∧ PyData.showable d = true ∧ PyData.hasDict d = false
  | .int i, h => by
    unfold shortD at h
    have h2 := of_decide_eq_true h
    refine ⟨?_, ?_, by simp only [PyData.hasDict]⟩
    · simp only [PyData.intsShort, PyData.shown]
      refine decide_eq_true ?_
      have := int_text_length_le10 (a := i) (k := 12) (by decide) h2
      rw [PySem.ofString_length]
      exact this
    · simp only [PyData.showable]
      refine decide_eq_true ?_
      by_cases h0 : i.natAbs = 0
      · rw [h0]; decide
      · exact (Nat.log2_lt h0).mpr (Nat.lt_of_lt_of_le h2 (Nat.le_trans (by decide : 10 ^ 12 ≤ 2 ^ 40) (Nat.pow_le_pow_right (by decide) (by decide))))
  | .list xs, h => by
    simp only [PyData.intsShort, PyData.showable, PyData.hasDict]
    exact short_all xs (by unfold shortD at h; exact h)
  | .tuple xs, h => by
    simp only [PyData.intsShort, PyData.showable, PyData.hasDict]
    exact short_all xs (by unfold shortD at h; exact h)
  | .dict _, h => by unfold shortD at h; cases h
  | .none, _ => by simp only [PyData.intsShort, PyData.showable, PyData.hasDict]; exact ⟨trivial, trivial, trivial⟩
  | .bool _, _ => by simp only [PyData.intsShort, PyData.showable, PyData.hasDict]; exact ⟨trivial, trivial, trivial⟩
  | .str _, _ => by simp only [PyData.intsShort, PyData.showable, PyData.hasDict]; exact ⟨trivial, trivial, trivial⟩
theorem short_all : ∀ xs : List D, shortAll xs = true → PyData.intsShortAll 13 xs = true ∧ PyData.showableAll xs = true ∧ PyData.hasDictAll xs = false
  | [], _ => by simp only [PyData.intsShortAll, PyData.showableAll, PyData.hasDictAll]; exact ⟨trivial, trivial, trivial⟩
  | x :: xs, h => by
    unfold shortAll at h
    obtain ⟨h1, h2⟩ := Bool.and_eq_true_iff.mp h
    obtain ⟨a1, a2, a3⟩ := short_ints x h1
    obtain ⟨b1, b2, b3⟩ := short_all xs h2
    simp only [PyData.intsShortAll, PyData.showableAll, PyData.hasDictAll, a1, a2, a3, b1, b2, b3]
    exact ⟨rfl, rfl, rfl⟩
end
def rRepr (K : PySem.W.Frag) : List V → Hp → VK → Prop := fun xs H Q => ∃ x d, xs = [x] ∧ Dp K H x d ∧ PyData.layable0 d = true ∧ shortD d = true ∧ Q (.str d.shown) H
theorem cr_repr {X : Cx} (hg : X.A.guards = some []) (hu : X.A.units + 80 < cLine) : CallR X (.builtin "repr") (rRepr X.K) := by
  intro pins s σ H xs us Q I rs h
  obtain ⟨x, d, rfl, hd, hl, hs, q⟩ := h
  obtain ⟨u, rfl, rx⟩ := vals1 rs
  obtain ⟨as, r⟩ := Dp.reads I d x u hd rx
  obtain ⟨k1, k2, k3⟩ := short_ints d hs
  have kl := shown_le13 hl k1
  have ksz : d.shown.length ≤ sizeLine := Nat.le_trans kl (by decide)
  have kd : d.depth ≤ 64 := by
    have h1 : (PyData.canLay0 d && decide (PyData.depth d ≤ 64) && decide (PyData.weight d ≤ 2 ^ 20)) = true := hl
    simp only [Bool.and_eq_true, decide_eq_true_eq] at h1
    exact h1.1.2
  have big : ∀ a, u = .ref a → wpAny (model X.prog X.w) X.A (call (.builtin "repr") [u]) (EP X pins σ Q) X.xe s := fun a e => by
    subst e
    exact repr_of_reads' r k2 (fun z => by rw [k3] at z; cases z) hg (by omega) (fun _ _ e => e) (fun h' t tk kp => ⟨.str d.shown, H, I.kept kp, ⟨t, rfl⟩, q⟩) ksz
  cases r with
  | none =>
    refine P.repr_of_none ⟨.str _, H, I.tok _, ⟨_, rfl⟩, ?_⟩
    simp only [PyData.shown] at q
    exact q
  | bool b =>
    refine P.repr_of_bool ⟨.str _, H, I.tok _, ⟨_, rfl⟩, ?_⟩
    simp only [PyData.shown] at q
    exact q
  | int i t =>
    refine P.repr_of_int (by simpa [PyData.showable] using k2) ⟨.str _, H, I.tok _, ⟨_, rfl⟩, ?_⟩
    simp only [PyData.shown] at q
    exact q
  | str y t =>
    refine P.repr_of_str ⟨.str _, H, I.tok _, ⟨_, rfl⟩, ?_⟩ (by simpa only [PyData.shown] using ksz)
    simp only [PyData.shown] at q
    exact q
  | list => exact big _ rfl
  | tuple => exact big _ rfl
  | dict => exact big _ rfl
def reprC : List D → Option D
  | [d] => if PyData.layable0 d = true ∧ shortD d = true then some (.str d.shown) else none
  | _ => none
theorem sC_repr {K : PySem.W.Frag} : SdC K (rRepr K) reprC := by
  intro F O H xs as d w hx e Q q
  unfold reprC at e
  split at e
  · rename_i d0
    split at e
    · rename_i hc
      cases e
      obtain ⟨v, rfl, h⟩ := one_q hx
      exact ⟨v, d0, rfl, (h.mono w.fh).dp (Bool.and_eq_true_iff.mp (Bool.and_eq_true_iff.mp hc.1).1).1, hc.1, hc.2, fin0 w q (.str _)⟩
    · cases e
  · cases e
theorem room80 {A : Around} {k : Nat} (hr : Room k A) : A.units + 80 < cLine := by have := hr.un; omega
end DL

set_option Elab.async false
set_option linter.all false
set_option maxRecDepth 100000
set_option maxHeartbeats 4000000
/-! DE0: enumerate over a tuple. -/
namespace DL
open PySem PySem.Spec PyProof.Rows L2
theorem enum_new1 {v : Value} {o : Obj} {H : Heap → Prop} (B : Begins v o H) :
    Meets (Builtin.«enumerate.__new__» ⟨[.type "enumerate", v], []⟩) (fun _ R s => H s.heap ∧ R (.ok (.ret (.ref (s.heap.push o).objs.size)))
      { s with heap := (s.heap.push o).push { cls := .type "enumerate", data := .fields #[.none, .bool false, .ref s.heap.objs.size, rawInt 0, .none, .none] } }) :=
  .of_wp fun prog w A R s h => by
    obtain ⟨hp, g, d, tk, os⟩ := s
    obtain ⟨h1, h2⟩ := h
    have sub := sub_enumerate
    have it1 : ∀ {B' : Around} {E : Value → Shared → Prop} {Q : Value → Shared → Prop}, Q (.ref hp.objs.size) ⟨hp.push o, g, d, tk, os⟩ → wpAny (model prog w) B' (pyIter v) Q E ⟨hp, g, d, tk, os⟩ := fun q => B.iter prog w _ _ ⟨hp, g, d, tk, os⟩ _ h1 q
    wp_walk using it1
    refine wpAny_stack_any fun st => wpAny_pure ?_
    split
    · rename_i c _ _ _ _ _
      cases (c == Value.type "enumerate")
      · wp_walk using it1
        exact ⟨_, rfl, h2⟩
      · wp_walk using it1
        exact ⟨_, rfl, h2⟩
    · wp_walk using it1
      exact ⟨_, rfl, h2⟩
theorem call_enum1 {prog : Program} {w : World} {A : Around} {E : Value → Shared → Prop} {s : Shared} {v : Value} {o : Obj} {H : Heap → Prop} {Q : Value → Shared → Prop} (B : Begins v o H) (h1 : H s.heap)
    (h : ∀ g, IsEnum g (s.heap.objs.size + 1) s.heap.objs.size 0 .none → g.get? s.heap.objs.size = some o → (∀ b u, s.heap.get? b = some u → g.get? b = some u) → Q (.ref (s.heap.objs.size + 1)) { s with heap := g }) :
    wpAny (model prog w) A (call (.type "enumerate") [v]) Q E s := by
  refine callType_new F.called_enumerate (by decide) (F.typeCall_enumerate_1 _) (F.newCall_enumerate_1 _) (fun obj => F.args_object_init_2 obj _) F.entry_enumerate_new (enum_new1 B) ⟨h1, ?_⟩
  have z1 : (s.heap.push o).objs.size = s.heap.objs.size + 1 := Heap.size_push ..
  have he : IsEnum ((s.heap.push o).push { cls := .type "enumerate", data := .fields #[.none, .bool false, .ref s.heap.objs.size, rawInt 0, .none, .none] }) (s.heap.objs.size + 1) s.heap.objs.size 0 .none := by
    have y := Heap.get?_push_size (s.heap.push o) (o := { cls := .type "enumerate", data := .fields #[.none, .bool false, .ref s.heap.objs.size, rawInt 0, .none, .none] }) rfl
    rw [z1] at y
    exact y
  show _ ∧ _
  rw [z1]
  exact ⟨⟨_, he, rfl⟩, h _ he (Heap.get?_push_of_some _ (Heap.get?_push_size _ B.free)) fun b u x => Heap.get?_push_of_some _ (Heap.get?_push_of_some _ x)⟩
/-- the tuple at a, each item in a new pair -/
def IteT (K : PySem.W.Frag) (a : Addr) : It :=
  ⟨fun i H => ∃ (xs : List V) (x : V), SqT K H a xs ∧ xs[i]? = some x, fun i H v H' => ∃ p x, v = .ref p ∧ H p = none ∧ H' = upd H p (.tup [.int (i : Nat), x]) ∧ ∀ xs, SqT K H a xs → xs[i]? = some x, fun i H => ∃ xs : List V, SqT K H a xs ∧ xs.length = i⟩
theorem turn_enumT {P : Program} {w : World} {K : PySem.W.Frag} {elts : List Expr} {kk : Nat} {tpos : Pos} (a e it : Addr) :
    Turn P w K (.Tuple elts kk tpos) (IteT K a) [e, it] e (fun i h => (∃ old, IsEnum h e it ((i : Nat) : Int) old) ∧ h.IsTupleIter it a i ∧ e ≠ it ∧ a ≠ it ∧ e ≠ a) where
  mem := List.mem_cons_self
  obj := fun i h st b hb => by
    obtain ⟨⟨old, he⟩, ⟨o, ho, hc, hd⟩, _⟩ := st
    rcases List.mem_cons.mp hb with z | z
    · rw [z]; exact ⟨_, he, fun v q => nomatch q⟩
    · rw [List.mem_singleton.mp z]; exact ⟨o, ho, fun v q => by rw [hd] at q; cases q⟩
  keep := fun i h h' st k => by
    obtain ⟨⟨old, he⟩, hi, hn⟩ := st
    exact ⟨⟨old, k e (by simp) _ he⟩, hi.at fun o q => k it (by simp) o q, hn⟩
  item := by
    intro X hP hw hK hc i pins s σ H E I hf st hg
    subst hP hw hK
    obtain ⟨⟨old, he⟩, hit, hn1, hn2, hn3⟩ := st
    obtain ⟨xs, x, hq, hx⟩ := hg
    obtain ⟨its, rv, ht, hz⟩ := I.tuple hq
    obtain ⟨u, hu, ru⟩ := rv.get hx
    have bounds : ∀ b, b ∈ [e, it] → b < s.heap.objs.size := fun b hb => by
      rcases List.mem_cons.mp hb with z | z
      · rw [z]; exact Heap.lt_size he
      · rw [List.mem_singleton.mp z]
        obtain ⟨_, q, _⟩ := hit
        exact Heap.lt_size q
    have D := Draws.tuple (prog := X.prog) (w := X.w) (A := X.A.in1) (I.ok.hd hc) it a hn2 its.toArray
    have hil : i < its.toArray.size := by
      rw [List.size_toArray, ← rv.length]
      exact (List.getElem?_eq_some_iff.mp hx).1
    refine wpAny_pyNext_enum_itemC D he ⟨hit, ht⟩ hil hn1 (fun z => by simp at z; rcases z with z | z; exact hn1 z; exact hn3 z) fun y g tk hy ho st' hT hsz hk => ?_
    have hyu : y = u := by
      have h1 : its.toArray[i]? = some u := by simpa using hu
      rw [h1] at hy
      exact (Option.some.inj hy).symm
    subst hyu
    refine ⟨_, rfl, wpAny_letOwnedTupleGo_enum (s := { s with heap := g, toks := tk + 1 }) ho fun g2 he2 sb => ?_⟩
    have pos1 : s.heap.objs.size ≠ e := fun z => Nat.lt_irrefl _ (z ▸ bounds e List.mem_cons_self)
    have hT2 := (sb.2 _ pos1).trans hT
    have new : ObjOk X.prog X.w (upd H s.heap.objs.size (.tup [.int (i : Nat), x])) g2 s.heap.objs.size (.tup [.int (i : Nat), x]) :=
      ⟨by show 2 ≤ sizeLine; decide, [.int i tk, y], .cons ⟨_, rfl⟩ (.cons ru .nil), ⟨_, hT2, rfl, _, rfl⟩⟩
    have J : L2.Inv X pins σ (upd H s.heap.objs.size (.tup [.int (i : Nat), x])) { s with heap := g2, toks := tk + 1 } :=
      I.turnedNew (ch := [e, it]) (fun b ob hb q => (sb.2 b (fun z => hb (by simp [z]))).trans (hk b ob (fun z => hb (by simp [z])) (fun z => hb (by simp [z])) q)) hf (Nat.le_refl _) new
    refine ⟨.ref s.heap.objs.size, _, J, rfl, ⟨_, x, rfl, I.hok.fresh (Nat.le_refl _), rfl, fun ys hy => by rw [I.tuple_inj hy hq]; exact hx⟩, ⟨⟨y, ?_⟩, st'.1.at fun o q => (sb.2 it (Ne.symm hn1)).trans q, hn1, hn2, hn3⟩, fun b hb => ?_⟩
    · have e1 : ((i + 1 : Nat) : Int) = (i : Int) + 1 := by omega
      rw [e1]
      exact he2
    · rw [upd_ne (Nat.ne_of_lt (bounds b hb))]
      exact (hf b hb).1
  done := by
    intro X hP hw hK hc i pins s σ H E I hf st hg
    subst hP hw hK
    obtain ⟨⟨old, he⟩, hit, hn1, hn2, hn3⟩ := st
    obtain ⟨xs, hq, hx⟩ := hg
    obtain ⟨its, rv, ht, hz⟩ := I.tuple hq
    obtain ⟨f0, f1, f2, f3, f4, f5⟩ := hf it (by simp)
    have D := Draws.tuple (prog := X.prog) (w := X.w) (A := X.A.in1) (I.ok.hd hc) it a hn2 its.toArray
    have hsz : its.toArray.size = i := by rw [List.size_toArray, ← rv.length]; exact hx
    exact wpAny_pyNext_enum_endD D he ⟨by rw [hsz]; exact hit, ht⟩ fun g eb => ⟨rfl, I.turned (t' := s.toks) (fun b o hb q => eb b o hb q) f0 f1 f3 f4 f5⟩
  self := fun A i s Q E st h => by
    obtain ⟨⟨_, he⟩, _⟩ := st
    exact wpAny_pyIter_enum he h
def iEnumT (K : PySem.W.Frag) (ta : TA) : TI := fun σ H R => ta σ H fun vs H1 => ∃ a xs, vs = [.ref a] ∧ SqT K H1 a xs ∧ R (IteT K a) H1
theorem pi_enumT {X : Cx} {e : Expr} {ta : TA} {p pos tpos : Pos} {elts : List Expr} {kk : Nat} (hg : Gl X "enumerate") (hm : X.mg "enumerate" = none) (ha : PA X [e] ta) (hs : starEach [e] X.env = [(false, eval e X.env)] := by rfl) :
    PI X (.Tuple elts kk tpos) (.Call (.Name "enumerate" p) [e] [] pos) (iEnumT X.K ta) := by
  refine ⟨fun pins s σ H R I h => Call_ (ld_blt I hg hm boot_enumerate (PyProof.Rows.callWith_type1 (thn (ha.run pos pins s σ H _ I h) fun us s1 ⟨vs, H1, I1, r1, q1⟩ => ?_) hs rfl))⟩
  obtain ⟨a, xs, rfl, hq, q⟩ := q1
  rw [Vals.ref1 r1]
  obtain ⟨its, rv, ht, hz⟩ := I1.tuple hq
  have hlt : a < s1.heap.objs.size := by
    obtain ⟨_, z, _⟩ := id ht
    exact Heap.lt_size z
  refine call_enum1 (begins_tuple a its.toArray) ht fun g he hit hk => wpAny_pyIter_enum he ?_
  have J : L2.Inv X pins σ H1 { s1 with heap := g } := I1.kept (t' := s1.toks) hk
  refine ⟨s1.heap.objs.size + 1, [s1.heap.objs.size + 1, s1.heap.objs.size], _, _, H1, rfl, J, turn_enumT a (s1.heap.objs.size + 1) s1.heap.objs.size, ⟨⟨.none, he⟩, ⟨_, hit, rfl, rfl⟩, Nat.succ_ne_self _, Nat.ne_of_lt hlt, Nat.ne_of_gt (Nat.lt_succ_of_lt hlt)⟩, fun b hb => ?_, q⟩
  have hle : s1.heap.objs.size ≤ b := by
    rcases List.mem_cons.mp hb with z | z
    · rw [z]; exact Nat.le_succ _
    · rw [List.mem_singleton.mp z]; exact Nat.le_refl _
  exact I1.fpOk hle (I1.hok.fresh hle)
end DL

set_option Elab.async false
set_option linter.all false
set_option maxRecDepth 100000
set_option maxHeartbeats 4000000
/-! DS0: xs[lo:hi] = ys of an own list. -/
namespace DL
open PySem PySem.Spec PyProof.Rows L2
def cutSet {α : Type} (xs ys : List α) (lo hi : Option Int) : List α := xs.take (HT.sIx xs.length 0 lo) ++ ys ++ xs.drop (max (HT.sIx xs.length 0 lo) (HT.sIx xs.length xs.length hi))
section
variable {prog : Program} {w : World} {A : Around} {E : Value → Shared → Prop} {s : Shared}
theorem put_slice {l b sl : Addr} {items new : Array Value} {n n2 : Nat} {vl vu : Value} {lo hi : Option Int} {Q : Unit → Shared → Prop} (e : s.heap.get? l = some { cls := .type "list", data := .seq items n })
    (e2 : s.heap.get? b = some { cls := .type "list", data := .seq new n2 }) (hne : l ≠ b) (hs : s.heap.IsSliceOf sl vl vu .none) (pl : IsPart vl lo) (pu : IsPart vu hi) (hsz : items.size + new.size ≤ sizeLine)
    (h : Q () { s with heap := s.heap.update l (Obj.mapSeq fun xs => xs.extract 0 (HT.sIx items.size 0 lo) ++ new ++ xs.extract (max (HT.sIx items.size 0 lo) (HT.sIx items.size items.size hi)) xs.size) }) :
    wpAny (model prog w) A (setItem (.ref l) (.ref sl) (.ref b)) Q E s := by
  have isL : s.heap.IsList l items := PySem.IsL.isList e
  have isB : s.heap.IsList b new := PySem.IsL.isList e2
  obtain ⟨os, hos, hcs, hds⟩ := id hs
  have isS : s.heap.IsSliceOf sl vl vu .none := hs
  have tyS : s.TypeIs (.ref sl) "slice" := ⟨os, hos, hcs⟩
  have other : Builtin.List.listSameRef (.ref l) (.ref b) = false := beq_eq_false_iff_ne.mpr hne
  obtain ⟨b1, b2, b3⟩ := slice_bounds lo hi items.size
  have bz : ((fun xs : Array Value => xs.extract 0 (HT.sIx items.size 0 lo) ++ new ++ xs.extract (max (HT.sIx items.size 0 lo) (HT.sIx items.size items.size hi)) xs.size) items).size ≤ sizeLine + 1 := by
    simp only [Array.size_append, Array.size_extract]
    have := Nat.le_max_left (HT.sIx items.size 0 lo) (HT.sIx items.size items.size hi)
    omega
  unfold setItem
  try with_reducible refine wpAny_holding ?_
  first | refine wpAny_bind (wpAny_pure ?_) | skip
  refine wpAny_bind (wpAny_sequenceKey isL.typeIs (by decide) (wpAny_bind (wpAny_callSpecial?_slot (name := Str.ofString "__setitem__") isL.typeIs slot_list_setitem (wpAny_call_entry slot_list_setitem isL.typeIs entry_list_setitem ?_ (args_list_setitem _ _ _)))))
  show wpAny _ _ (Builtin.List.listSubscript? (.ref sl) >>= _) _ _ s
  unfold Builtin.List.listSubscript?
  refine wpAny_bind (wpAny_bind (wpAny_specialOf tyS slice_no_index ?_))
  simp only [Option.isNone_none, if_true]
  refine wpAny_pure ?_
  show wpAny _ _ (typeOf (.ref sl) >>= _) _ _ s
  refine wpAny_bind (wpAny_typeOf tyS ?_)
  first
    | rw [if_neg (by decide)]
    | refine PySem.W.KFB.if_not (by decide) ?_
  rw [listSliceParts_eq]
  refine wpAny_bind (wpAny_bind (wpAny_field hos hds (x := .none) rfl (wpAny_bind (wpAny_listPart .none ?_))))
  have st0 : ¬ ((rawPart none == rawInt 0) = true) := Bool.false_ne_true
  rw [if_neg st0]
  refine wpAny_bind (wpAny_field hos hds (x := vl) rfl (wpAny_bind (wpAny_listPart pl (wpAny_bind (wpAny_field hos hds (x := vu) rfl (wpAny_bind (wpAny_listPart pu (wpAny_pure ?_))))))))
  first
    | simp only [other, Bool.false_eq_true, if_false]
    | refine PySem.W.KFB.if_not other ?_
    | (dsimp only; rw [if_neg (by rw [other]; exact Bool.false_ne_true)])
  refine wpAny_bind (m := Builtin.List.listAllItems (.ref b) "must assign iterable to extended slice") ?_
  unfold Builtin.List.listAllItems
  refine wpAny_bind (wpAny_typeOf isB.typeIs ?_)
  first
    | refine PySem.W.KFB.if_so (by decide) ?_
    | rw [if_pos (by decide)]
    | simp only [beq_self_eq_true, Bool.true_or, if_true]
  unfold Builtin.List.listItems
  refine wpAny_bind (wpAny_seqItems e2 rfl (wpAny_pure (wpAny_bind (wpAny_bind (wpAny_seqItems e rfl (wpAny_pure ?_))))))
  have eb : sliceBounds lo hi none items.size = (((HT.sIx items.size 0 lo : Nat) : Int), ((HT.sIx items.size items.size hi : Nat) : Int), (1 : Int)) := Prod.ext b1 (Prod.ext b2 b3)
  refine wpAny_bind (wpAny_of_eq ((sliceIndices_raw lo hi none items.size (by simp)).trans (congrArg (pure : Int × Int × Int → Sem (Int × Int × Int)) eb)) ?_)
  show wpAny _ _ (if ((1 : Int) == 1) = true then _ else _) _ _ s
  rw [if_pos (by decide)]
  refine wpAny_bind (wpAny_rule ?_)
  first
    | simp only [notLongL hsz, Bool.false_eq_true, if_false]
    | refine PySem.W.KFB.if_not (notLongL hsz) ?_
  first | refine wpAny_bind (wpAny_pure ?_) | skip
  show wpAny _ _ (updateSeq l (fun xs => xs.extract 0 ((HT.sIx items.size 0 lo : Nat) : Int).toNat ++ new ++ xs.extract (max ((HT.sIx items.size 0 lo : Nat) : Int) ((HT.sIx items.size items.size hi : Nat) : Int)).toNat xs.size) >>= _) _ _ s
  have mx : (max ((HT.sIx items.size 0 lo : Nat) : Int) ((HT.sIx items.size items.size hi : Nat) : Int)).toNat = max (HT.sIx items.size 0 lo) (HT.sIx items.size items.size hi) := by omega
  rw [mx, Int.toNat_natCast]
  refine wpAny_bind (wpAny_updateSeq (hz := Nat.le_trans (Nat.le_add_right _ _) hsz) (_hz' := bz) e rfl (wpAny_bind (wpAny_letGo ?_)))
  first
    | exact wpAny_bind (wpAny_pure (wpAny_pure ⟨.none, rfl, wpAny_pure h⟩))
    | exact wpAny_pure ⟨.none, rfl, wpAny_pure h⟩
end
/-- o[lo:hi] = v, o and v two lists -/
def gSlice (to : TE) (tl th : TO) : TG := fun v σ H Q => to σ H fun x H1 => tl σ H1 fun lo H2 => th σ H2 fun hi H3 => ∃ l b xs ys, x = .ref l ∧ v = .ref b ∧ H3 l = some (.lst xs) ∧ H3 b = some (.lst ys) ∧ l ≠ b ∧ xs.length + ys.length ≤ sizeLine ∧ Q σ (upd H3 l (.lst (cutSet xs ys lo hi)))
theorem pg_slice {X : Cx} {o : Expr} {lo hi : Option Expr} {to : TE} {tl th : TO} {p2 pos : Pos} (ho : PE X o to) (hl : PO X lo tl) (hu : PO X hi th)
    (ha : ∀ v, assign (.Subscript o (.Slice lo hi none p2) pos) X.env v = (do
      let ov ← holding [v] (eval o X.env)
      let iv ← holding [v, ov] (eval (.Slice lo hi none p2) X.env)
      standAt pos
      holding [v, ov, iv] (setItem ov iv v)
      release [iv, v, ov] []) := by intro _; rfl) : PG X (.Subscript o (.Slice lo hi none p2) pos) (gSlice to tl th) := by
  refine ⟨fun pins s σ H v u Q I r h => ?_⟩
  rw [ha]
  refine wpAny_bind (wpAny_holding (thn (ho.run pins s σ H _ I h) fun ov s1 ⟨x, H1, I1, r1, q1⟩ => wpAny_bind (wpAny_holding ?_)))
  refine wpAny_Slice (thn (hl.run pins s1 σ H1 _ I1 q1) fun vl s2 ⟨l0, H2, I2, pl, q2⟩ => thn (hu.run pins s2 σ H2 _ I2 q2) fun vu s3 ⟨h0, H3, I3, pu, q3⟩ => ?_)
  obtain ⟨l, b, xs, ys, rfl, rfl, hL, hB, hne, hz, q⟩ := q3
  cases r1
  cases r
  rw [evalPart_none]
  refine wpAny_pure ?_
  have J : L2.Inv X pins σ H3 { s3 with heap := s3.heap.push { cls := .type "slice", data := .fields #[vl, vu, .none] } } := I3.kept (t' := s3.toks) fun b ob q => Heap.get?_push_of_some _ q
  obtain ⟨z1, its, n1, v1, hl1, e1⟩ := J.lstM hL
  obtain ⟨z2, its2, n2, v2, hl2, e2⟩ := J.lstM hB
  refine wpAny_bind (wpAny_standAt (wpAny_bind (wpAny_holding (put_slice e1 e2 hne (Heap.IsSliceOf.new ..) pl pu (by rw [List.size_toArray, List.size_toArray, ← v1.length, ← v2.length]; exact hz) ?_))))
  have lx : its.length = xs.length := v1.length.symm
  refine wpAny_release ⟨σ, _, J.lset (its' := its.take (HT.sIx its.length 0 l0) ++ its2 ++ its.drop (max (HT.sIx its.length 0 l0) (HT.sIx its.length its.length h0))) (t' := s3.toks) hL e1 ?_ ?_ ?_, q⟩
  · rw [List.size_toArray]
    exact splice_eq its its2 _ _
  · unfold cutSet
    rw [lx]
    exact Vals.append (Vals.append (v1.take _) v2) (v1.drop _)
  · unfold cutSet
    rw [List.length_append, List.length_append, List.length_take, List.length_drop]
    have := Nat.le_max_left (HT.sIx xs.length 0 l0) (HT.sIx xs.length xs.length h0)
    omega
end DL

set_option Elab.async false
set_option linter.all false
set_option maxRecDepth 100000
set_option maxHeartbeats 4000000
/-! DT0: enumerate, slices written, x[i] += e, lists of lists, a list of one's own or a new one. -/
namespace DL
open PySem PySem.Spec PyProof.Rows L2
section
variable {K : PySem.W.Frag} {ta tb te : TE} {ga gb ge : Y}
/-! ### enumerate -/
def enL (ds : List D) : List (D × D) := ((List.range ds.length).map fun (i : Nat) => PyData.int i).zip ds
def iEn (g : Y) : Rho → Src → Option (List (D × D) × Src) := fun ρ s => bO (g ρ s) fun x s1 => mO (itemsD x) fun ds => some (enL ds, s1)
def iEnumA (K : PySem.W.Frag) (ta : TA) : TI := fun σ H R => iEnum K ta σ H R ∨ iEnumT K ta σ H R
theorem pi_enumA {X : Cx} {e : Expr} {ta : TA} {p pos tpos : Pos} {elts : List Expr} {kk : Nat} (hg : Gl X "enumerate") (hm : X.mg "enumerate" = none) (ha : PA X [e] ta) (hs : starEach [e] X.env = [(false, eval e X.env)] := by rfl) :
    PI X (.Tuple elts kk tpos) (.Call (.Name "enumerate" p) [e] [] pos) (iEnumA X.K ta) := pi_or (pi_enum hg hm ha hs) (pi_enumT hg hm ha hs)
theorem enL_at {F : Hp} {vs : List V} {ds : List D} (h : DqAll K F vs ds) : ∀ k p x y, (enL ds)[k]? = some p → some (V.int (k : Nat)) = some x → vs[k]? = some y → Dq K F x p.1 ∧ Dq K F y p.2 := by
  intro k p x y hk hx hy
  cases hx
  unfold enL at hk
  rw [List.getElem?_zip_eq_some] at hk
  refine ⟨?_, at_data h hy hk.2⟩
  have := hk.1
  rw [List.getElem?_map] at this
  cases z : (List.range ds.length)[k]? with
  | none => rw [z] at this; cases this
  | some m =>
    rw [z] at this
    have hm : m = k := by
      have := (List.getElem?_eq_some_iff.mp z)
      obtain ⟨h1, h2⟩ := this
      rw [List.getElem_range] at h2
      exact h2.symm
    subst hm
    have e := Option.some.inj this
    rw [← e]
    exact .int _
theorem si_enum {i j : Nat} (h : SdY K te ge) : SdI K (iEnumA K (tCons te tNil)) (gTup K 2 (gNames [i, j])) (iEn ge) (bP i j) [i, j] := by
  intro F O H pc σ ρ s xs s' st e R q
  obtain ⟨x, s1, e1, e⟩ := bO_some e
  obtain ⟨ds, e2, e⟩ := mO_some e
  cases e
  have hl : ∀ (vs : List V), vs.length = ds.length → (enL ds).length = vs.length := fun vs hv => by
    unfold enL
    rw [List.length_zip, List.length_map, List.length_range, hv]
    omega
  cases x with
  | list xs =>
    cases e2
    refine .inl (h F O H pc σ ρ s _ _ st e1 _ fun v F1 H1 n1 sr1 d1 => ?_)
    obtain ⟨p, vs, rfl, h1, h2⟩ := d1.lst_inv
    refine ⟨p, vs, rfl, (n1.wk st.wk).l h1, q _ F1 H1 n1 sr1 (turn_pair (n := vs.length) (fx := fun i => some (.int (i : Nat))) (fy := fun i => vs[i]?) (hl vs h2.len) ?_ (enL_at h2))⟩
    exact walk_enum.mono (fun H e => SqL.of (e _ _ h1)) fun _ _ _ _ _ _ y => y
  | tuple xs =>
    cases e2
    refine .inr (h F O H pc σ ρ s _ _ st e1 _ fun v F1 H1 n1 sr1 d1 => ?_)
    obtain ⟨p, vs, rfl, h1, h2⟩ := d1.tup_inv
    refine ⟨p, vs, rfl, (n1.wk st.wk).t h1, q _ F1 H1 n1 sr1 (turn_pair (n := vs.length) (fx := fun i => some (.int (i : Nat))) (fy := fun i => vs[i]?) (hl vs h2.len) ?_ (enL_at h2))⟩
    refine ⟨fun i H hi z => ⟨vs, vs[i], (h1.mono z).sq, by simp [hi]⟩, fun H z => ⟨vs, (h1.mono z).sq, rfl⟩, fun i H x H' hi z y => ?_⟩
    obtain ⟨T, x1, y1, y2, y3, y4⟩ := y
    exact ⟨T, .int (i : Nat), x1, y1, y2, y3, rfl, y4 vs (h1.mono z).sq⟩
  | none => cases e2
  | bool _ => cases e2
  | int _ => cases e2
  | str _ => cases e2
  | dict _ => cases e2

/-! ### x[lo:hi] = a new list -/
def slAsgS (i : Nat) (l u : Yo) (g : Yl) : Z := fun ρ s => bO (g ρ s) fun ys s1 => bO (l ρ s1) fun lo s2 => bO (u ρ s2) fun hi s3 => match ρ[i]? with
  | some (.ow xs) => if xs.length + ys.length ≤ lim then some (.nx (ρ.set i (.ow (cutSet xs ys lo hi))), s3) else none
  | _ => none
theorem cutSet_q {F : Hp} {vs ws : List V} {ds es : List D} (h : DqAll K F vs ds) (h2 : DqAll K F ws es) (lo hi : Option Int) : DqAll K F (cutSet vs ws lo hi) (cutSet ds es lo hi) := by
  unfold cutSet
  rw [h.len]
  exact ((h.take _).append h2).append (h.drop _)
theorem ss_slAsg {i : Nat} {tl th : TO} {gl gh : Yo} {gn : Yl} (h : SdN K te gn) (hl : SdO K tl gl) (hh : SdO K th gh) : SdS K (tAsg te (gSlice (tVar i) tl th)) (slAsgS i gl gh gn) := by
  intro F O H pc σ ρ s fl s' st e Dn k
  obtain ⟨ys, s1, e1, e⟩ := bO_some e
  obtain ⟨lo, s2, e2, e⟩ := bO_some e
  obtain ⟨hi, s3, e3, e⟩ := bO_some e
  split at e
  · rename_i xs er
    split at e
    · rename_i hz
      cases e
      refine h F O H pc σ ρ s ys s1 st e1 _ fun p ws F1 H1 n1 sr1 hp hF hH d1 => ?_
      have st1 := st.ny n1 sr1
      obtain ⟨q, vs, h1, h2, h3, h4⟩ := st1.env.own_at er
      refine ⟨.ref q, h1, ?_⟩
      refine hl F1 O H1 pc σ ρ s1 lo s2 st1 e2 _ fun F2 H2 n2 sr2 => ?_
      have st2 := st1.ny n2 sr2
      refine hh F2 O H2 pc σ ρ s2 hi _ st2 e3 _ fun F3 H3 n3 sr3 => ?_
      have n23 := n2.trans n3
      have st3 := st2.ny n3 sr3
      have hOp := st.wk.nO hp
      have hq3 : H3 q = some (.lst vs) := by
        rw [n23.own q (by rw [h2]; exact fun z => nomatch z) (by rw [h2]; exact fun z => nomatch z)]
        exact h3
      have hne : q ≠ p := fun z => by rw [z, hOp] at h2; cases h2
      refine ⟨q, p, vs, ws, rfl, rfl, hq3, n23.unown _ _ hH hOp, hne, lim_le (by rw [h4.len, d1.len]; exact hz), ?_⟩
      obtain ⟨q2, st4⟩ := own_upd st3 h1 h2 (cutSet_q (h4.mono n23.ff) (d1.mono n23.ff) lo hi)
      exact k _ F3 O _ pc ((n1.trans n23).sq.trans q2) (PcLe.refl _) st4
    · cases e
  · cases e

/-! ### x[i] += e -/
def rGetL : V → V → Hp → VK → Prop := fun o i H Q => ∃ p xs k v, o = .ref p ∧ i = .int k ∧ H p = some (.lst xs) ∧ 0 ≤ k ∧ k < xs.length ∧ xs[k.toNat]? = some v ∧ Q v H
theorem get_list {X : Cx} : PGet X rGetL := by
  intro pins s σ H o i ov iv Q I ro ri h
  obtain ⟨p, xs, k, v, rfl, rfl, hp, h0, h1, hv, q⟩ := h
  cases ro
  obtain ⟨t, rfl⟩ := ri
  obtain ⟨its, r, pl, hz⟩ := I.list (SqL.of hp)
  obtain ⟨u, hu, ru⟩ := r.get hv
  exact wpAny_getItem_list pl.isList h0 (by have := line63; omega) (by simpa using hu) ⟨v, H, I, ru, q⟩
def aug1S (f : Int → Int → Int) (i : Nat) (gb ge : Y) : Z := fun ρ s => bO (gb ρ s) fun b s1 => match ρ[i]?, b with
  | some (.ow ds), .int k => if 0 ≤ k ∧ k < ds.length then (match ds[k.toNat]? with
    | some (.int z) => bO (ge ρ s1) fun d s2 => match d with
      | .int w => some (.nx (ρ.set i (.ow (ds.set k.toNat (.int (f z w))))), s2)
      | _ => none
    | _ => none) else none
  | _, _ => none
theorem ixN_toNat {n : Nat} {k : Int} (h0 : 0 ≤ k) (h1 : k < n) : ixN n k = some k.toNat := by
  unfold ixN
  rw [if_pos h0, if_pos h1]
theorem ss_aug1 {i : Nat} {f : Int → Int → Int} (hb : SdY K tb gb) (he : SdY K te ge) : SdS K (tAugS (tVar i) tb te rGetL (ipI f) rSetL) (aug1S f i gb ge) := by
  intro F O H pc σ ρ s fl s' st e Dn k
  obtain ⟨b, s1, e1, e⟩ := bO_some e
  split at e
  · rename_i ds kk er
    split at e
    · rename_i hk
      split at e
      · rename_i z ez
        obtain ⟨d, s2, e2, e⟩ := bO_some e
        split at e
        · rename_i w
          cases e
          obtain ⟨q, vs, h1, h2, h3, h4⟩ := st.env.own_at er
          refine ⟨.ref q, h1, ?_⟩
          refine hb F O H pc σ ρ s _ s1 st e1 _ fun v F1 H1 n1 sr1 d1 => ?_
          have st1 := st.ny n1 sr1
          have nn : ∀ {F' H' : Hp}, Ny O F H F' H' → H' q = some (.lst vs) := fun n => by
            rw [n.own q (by rw [h2]; exact fun z => nomatch z) (by rw [h2]; exact fun z => nomatch z)]
            exact h3
          obtain ⟨x, x1, x2⟩ := h4.get ez
          refine ⟨q, vs, kk, .int z, rfl, d1.int_inv, nn n1, hk.1, by rw [h4.len]; exact hk.2, by rw [x1, x2.int_inv], ?_⟩
          refine he F1 O H1 pc σ ρ s1 _ _ st1 e2 _ fun u F2 H2 n2 sr2 d2 => ⟨z, w, rfl, d2.int_inv, ?_⟩
          have n12 := n1.trans n2
          refine ⟨q, vs, kk, kk.toNat, rfl, d1.int_inv, nn n12, ixN_toNat hk.1 (by rw [h4.len]; exact hk.2), ?_⟩
          obtain ⟨q2, st4⟩ := own_upd (st1.ny n2 sr2) h1 h2 (DqAll.set (.int (f z w)) kk.toNat (h4.mono n12.ff))
          exact k _ F2 O _ pc (n12.sq.trans q2) (PcLe.refl _) st4
        · cases e
      · cases e
    · cases e
  · cases e
end
end DL

set_option Elab.async false
set_option linter.all false
set_option maxRecDepth 100000
set_option maxHeartbeats 4000000
/-! DT1: lists of lists of one's own. -/
namespace DL
open PySem PySem.Spec PyProof.Rows L2
section
variable {K : PySem.W.Frag} {ta tb te : TE} {ga gb ge : Y}
abbrev Ym := Rho → Src → Option (List (List D) × Src)
/-- an expression that makes a new list of new lists -/
def SdM (K : PySem.W.Frag) (t : TE) (g : Ym) : Prop := ∀ F O H pc σ ρ s dss s', Stt K F O H pc σ ρ s → g ρ s = some (dss, s') → ∀ Q : VK,
  (∀ p qs F' H', Ny O F H F' H' → SrcOk O H' pc s' → (∀ a ∈ p :: qs, H a = none ∧ F' a = none ∧ H' a ≠ none) → H' p = some (.lst (qs.map V.ref)) → p ∉ qs → qs.Nodup → All2 (fun a ds => ∃ vs, H' a = some (.lst vs) ∧ DqAll K F' vs ds) qs dss → Q (.ref p) H') → t σ H Q
def lc2Go {α : Type} (bind : α → Rho → Option Rho) (t : Yb) (e : Yl) : List α → List (List D) → Rho → Src → Option (List (List D) × Src)
  | [], acc, _, s => some (acc, s)
  | x :: xs, acc, ρ, s => mO (bind x ρ) fun ρ1 => bO (t ρ1 s) fun b s1 => if b = true then bO (e ρ1 s1) fun d s2 => if acc.length < lim then lc2Go bind t e xs (acc ++ [d]) ρ s2 else none else lc2Go bind t e xs acc ρ s1
def lc2Y {α : Type} (fi : Rho → Src → Option (List α × Src)) (bind : α → Rho → Option Rho) (t : Yb) (e : Yl) (vs : List Nat) : Ym := fun ρ s => bO (fi ρ s) fun xs s1 => lc2Go bind t e xs [] (wipeR ρ vs) s1
theorem All2.app {α β : Type} {R : α → β → Prop} : ∀ {as cs : List α} {bs ds : List β}, All2 R as bs → All2 R cs ds → All2 R (as ++ cs) (bs ++ ds)
  | _, _, _, _, .nil, h => h
  | _, _, _, _, .cons a b, h => .cons a (All2.app b h)
theorem All2.left {α β : Type} {R : α → β → Prop} : ∀ {as : List α} {bs : List β} {a : α}, All2 R as bs → a ∈ as → ∃ b, R a b
  | _, _, _, .cons x y, h => by
    rcases List.mem_cons.mp h with z | z
    · rw [z]; exact ⟨_, x⟩
    · exact All2.left y z
theorem wipe_wipe {σ : L2.St} {vs : List Nat} : wipe (wipe σ vs) vs = wipe σ vs := by
  have gen : ∀ (us : List Nat) (w : Nat), w ∈ us → (wipe σ us).set w none = wipe σ us := by
    intro us w
    induction us with
    | nil => intro z; cases z
    | cons u us ih2 =>
      intro z
      unfold wipe
      by_cases huw : u = w
      · subst huw; rw [List.set_set]
      · rw [List.set_comm _ _ huw, ih2 (by rcases List.mem_cons.mp z with z | z
                                           · exact absurd z.symm huw
                                           · exact z)]
  have all : ∀ ws : List Nat, (∀ w ∈ ws, w ∈ vs) → wipe (wipe σ vs) ws = wipe σ vs := by
    intro ws
    induction ws with
    | nil => intro _; rfl
    | cons w ws ih =>
      intro h
      show (wipe (wipe σ vs) ws).set w none = _
      rw [ih fun z hz => h z (List.mem_cons_of_mem _ hz)]
      exact gen vs w (h w List.mem_cons_self)
  exact all vs fun _ h => h
theorem sm_lc {α : Type} {wi : TI} {g : TG} {tt : TT} {vs js : List Nat} {fi : Rho → Src → Option (List α × Src)} {bind : α → Rho → Option Rho} {gt : Yb} {gn : Yl} (hi : SdI K wi g fi bind js) (hj : ∀ j ∈ js, j ∈ vs) (ht : SdT K tt gt) (he : SdN K te gn) :
    SdM K (tLc wi g tt te vs) (lc2Y fi bind gt gn vs) := by
  intro F O H pc σ ρ s dss s' st e Q q
  obtain ⟨xs, s1, e1, e⟩ := bO_some e
  refine hi F O H pc σ ρ s xs s1 st e1 _ fun J F1 H1 n1 sr1 tk => ?_
  intro Dl hD
  have st1 := st.ny n1 sr1
  have hOD : O Dl = none := st1.wk.nO hD
  have hFD : F1 Dl = none := st1.wk.nF hD
  obtain ⟨Yv, wk, step⟩ := tk
  let Pv : Nat → Hp → Prop := fun i H2 => ∃ F2 s2 acc qs, Ny O F1 H1 F2 H2 ∧ SrcOk O H2 pc s2 ∧ (∀ a ∈ Dl :: qs, H1 a = none ∧ F2 a = none) ∧ H2 Dl = some (.lst (qs.map V.ref)) ∧ Dl ∉ qs ∧ qs.Nodup ∧
    All2 (fun a ds => ∃ vs, H2 a = some (.lst vs) ∧ DqAll K F2 vs ds) qs acc ∧ lc2Go bind gt gn (xs.drop i) acc (wipeR ρ vs) s2 = some (dss, s')
  refine lc_it (vs := vs) wk Pv ?_ ?_ ?_ ?_
  · refine ⟨F1, s1, [], [], Ny.pure st1.wk (same_new hD) (Same.refl _) (st1.wk.fh.trans (same_new hD)) fun _ _ h => .inl h, sr1.same (same_new hD), fun a z => ?_, upd_same, fun z => (nomatch z), .nil, .nil, ?_⟩
    · rw [List.mem_singleton.mp z]; exact ⟨hD, hFD⟩
    · rw [List.drop_zero]
      exact e
  · rintro i H2 _ ⟨F2, s2, acc, qs, n2, _⟩
    exact n2.ff.trans n2.fh
  · rintro i x H2 H2' hlt ⟨F2, s2, acc, qs, n2, sr2, hnew, hH2, hDq, hnd, da, ego⟩ hy
    have hxi : xs[i]? = some xs[i] := List.getElem?_eq_getElem hlt
    rw [List.drop_eq_getElem_cons hlt] at ego
    unfold lc2Go at ego
    obtain ⟨ρ1, eb, ego⟩ := mO_some ego
    have st2 : Stt K F2 O H2 pc (wipe σ vs) (wipeR ρ vs) s2 := ⟨n2.wk st1.wk, wipe_env (st1.env.ny n2) vs, sr2⟩
    refine step i _ x H2 H2' F2 O pc _ _ ρ1 s2 hxi n2.ff st2 eb hy _ fun σ' F3 H3 n3 st3 hw => ⟨by rw [hw vs hj, wipe_wipe], ?_⟩
    obtain ⟨b, s3, et, ego⟩ := bO_some ego
    refine ht F3 O H3 pc σ' ρ1 s2 b s3 st3 et _ fun F4 H4 n4 sr4 => ?_
    have st4 := st3.ny n4 sr4
    have hO : ∀ a ∈ Dl :: qs, O a = none := fun a ha => st1.wk.nO (hnew a ha).1
    have hin : ∀ a ∈ Dl :: qs, H2 a ≠ none := by
      intro a ha
      rcases List.mem_cons.mp ha with z | z
      · rw [z, hH2]; exact fun z => nomatch z
      · obtain ⟨_, ws, z3, _⟩ := da.left z
        rw [z3]; exact fun z => nomatch z
    have hFn : ∀ {F' H' : Hp}, Ny O F2 H2 F' H' → ∀ a ∈ Dl :: qs, F' a = none := fun {F' H'} n a ha => by
      cases z : F' a with
      | none => rfl
      | some o =>
        rcases n.new a o z with h | h
        · rw [(hnew a ha).2] at h; cases h
        · exact absurd h (hin a ha)
    have keep : ∀ {F' H' : Hp}, Ny O F2 H2 F' H' → All2 (fun a ds => ∃ vs, H' a = some (.lst vs) ∧ DqAll K F' vs ds) qs acc := fun {F' H'} n => da.impMem fun a ds ha ⟨ws, z1, z2⟩ => ⟨ws, n.unown _ _ z1 (hO a (List.mem_cons_of_mem _ ha)), z2.mono n.ff⟩
    cases b with
    | false =>
      rw [if_neg Bool.false_ne_true] at ego ⊢
      have n34 := n3.trans n4
      exact ⟨F4, s3, acc, qs, n2.trans n34, sr4, fun a ha => ⟨(hnew a ha).1, hFn n34 a ha⟩, n34.unown _ _ hH2 hOD, hDq, hnd, keep n34, ego⟩
    | true =>
      rw [if_pos rfl] at ego ⊢
      obtain ⟨d, s4, ee, ego⟩ := bO_some ego
      split at ego
      · rename_i hz
        refine he F4 O H4 pc σ' ρ1 s3 d s4 st4 ee _ fun p ws F5 H5 n5 sr5 hp hFp hHp d5 => ?_
        have n35 := (n3.trans n4).trans n5
        have hp1 : H1 p = none := by
          cases z : H1 p with
          | none => rfl
          | some o => exact absurd hp ((n2.trans (n3.trans n4)).dom p (by rw [z]; exact fun z => nomatch z))
        have hpn : p ∉ Dl :: qs := fun z => (n3.trans n4).dom p (hin p z) hp
        have hpD : p ≠ Dl := fun z => hpn (by rw [z]; exact List.mem_cons_self)
        have hpq : p ∉ qs := fun z => hpn (List.mem_cons_of_mem _ z)
        refine ⟨qs.map V.ref, n35.unown _ _ hH2 hOD, lim_lt (by rw [List.length_map, da.len]; exact hz), F5, s4, acc ++ [d], qs ++ [p], ny_push (n2.trans n35) (hFn n35 Dl List.mem_cons_self) hOD hD, src_push sr5 hOD, fun a ha => ?_, ?_, ?_, ?_, ?_, ego⟩
        · rcases List.mem_cons.mp ha with z | z
          · rw [z]; exact ⟨hD, hFn n35 Dl List.mem_cons_self⟩
          · rcases List.mem_append.mp z with z | z
            · exact ⟨(hnew a (List.mem_cons_of_mem _ z)).1, hFn n35 a (List.mem_cons_of_mem _ z)⟩
            · rw [List.mem_singleton.mp z]; exact ⟨hp1, hFp⟩
        · rw [upd_same, List.map_append]
          rfl
        · intro z
          rcases List.mem_append.mp z with z | z
          · exact hDq z
          · exact hpD (List.mem_singleton.mp z).symm
        · refine List.nodup_append.mpr ⟨hnd, List.pairwise_singleton _ _, fun a ha b hb z => ?_⟩
          rw [List.mem_singleton.mp hb] at z
          exact hpq (by rw [← z]; exact ha)
        · exact All2.app ((keep n35).impMem fun a ds ha ⟨us, z1, z2⟩ => ⟨us, by rw [upd_ne (fun z => hDq (by rw [← z]; exact ha))]; exact z1, z2⟩) (.cons ⟨ws, by rw [upd_ne hpD]; exact hHp, d5⟩ .nil)
      · cases ego
  · rintro H2 ⟨F2, s2, acc, qs, n2, sr2, hnew, hH2, hDq, hnd, da, ego⟩
    rw [List.drop_length] at ego
    cases ego
    refine q Dl qs F2 H2 (n1.trans n2) sr2 (fun a ha => ⟨?_, (hnew a ha).2, ?_⟩) hH2 hDq hnd da
    · cases z : H a with
      | none => rfl
      | some o => exact absurd (hnew a ha).1 (n1.dom a (by rw [z]; exact fun z => nomatch z))
    · rcases List.mem_cons.mp ha with z | z
      · rw [z, hH2]; exact fun z => nomatch z
      · obtain ⟨_, ws, z3, _⟩ := da.left z
        rw [z3]; exact fun z => nomatch z
def o2U (g : Ym) : Yu := fun ρ s => bO (g ρ s) fun dss s1 => some (.o2 dss, s1)
theorem su_o2 {gm : Ym} (h : SdM K te gm) : SdU K te (o2U gm) := by
  intro F O H pc σ ρ s sl s' st e Q q
  obtain ⟨x, s1, e1, e⟩ := bO_some e
  cases e
  exact h F O H pc σ ρ s x _ st e1 _ fun p qs F1 H1 n1 sr1 hn hp hnp hnd d1 => q (.ref p) F1 H1 (p :: qs) n1 sr1 (fun a z => ⟨(hn a z).1, st.wk.nO (hn a z).1, (hn a z).2⟩) ⟨p, qs, rfl, rfl, hp, hnp, hnd, d1⟩
/-! ### x[i][j] += e -/
theorem All2.get {α β : Type} {R : α → β → Prop} : ∀ {as : List α} {bs : List β} {k : Nat} {b : β}, All2 R as bs → bs[k]? = some b → ∃ a, as[k]? = some a ∧ R a b
  | _, _, _, _, .nil, h => by simp at h
  | _, _, 0, _, .cons x y, h => by simp at h; subst h; exact ⟨_, rfl, x⟩
  | _, _, k + 1, _, .cons x y, h => by
    obtain ⟨a, h1, h2⟩ := All2.get (k := k) y (by simpa using h)
    exact ⟨a, by simpa using h1, h2⟩
def aug2S (f : Int → Int → Int) (i : Nat) (ga gb ge : Y) : Z := fun ρ s => bO (ga ρ s) fun a s1 => bO (gb ρ s1) fun b s2 => match ρ[i]?, a, b with
  | some (.o2 dss), .int k, .int m => if 0 ≤ k ∧ k < dss.length then (match dss[k.toNat]? with
    | some ds => if 0 ≤ m ∧ m < ds.length then (match ds[m.toNat]? with
      | some (.int z) => bO (ge ρ s2) fun d s3 => match d with
        | .int w => some (.nx (ρ.set i (.o2 (dss.set k.toNat (ds.set m.toNat (.int (f z w)))))), s3)
        | _ => none
      | _ => none) else none
    | none => none) else none
  | _, _, _ => none

theorem all2_set {α β : Type} {R S : α → β → Prop} : ∀ {as : List α} {bs : List β} {k : Nat} {a : α} {b : β}, All2 R as bs → as.Nodup → as[k]? = some a → (∀ x y, x ∈ as → x ≠ a → R x y → S x y) → S a b → All2 S as (bs.set k b)
  | _, _, _, _, _, .nil, _, h, _, _ => by simp at h
  | _, _, 0, _, _, .cons (a := a0) (as := as) x y, nd, h, keep, ha => by
    simp at h
    subst h
    have n1 := List.nodup_cons.mp nd
    exact .cons ha (y.impMem fun z w hz r => keep z w (List.mem_cons_of_mem _ hz) (fun e => n1.1 (by rw [← e]; exact hz)) r)
  | _, _, k + 1, a, b, .cons (a := a0) (as := as) x y, nd, h, keep, ha => by
    have n1 := List.nodup_cons.mp nd
    have h2 : as[k]? = some a := by simpa using h
    rw [List.set_cons_succ]
    exact .cons (keep _ _ List.mem_cons_self (fun e => n1.1 (by rw [e]; exact List.mem_of_getElem? h2)) x) (all2_set y n1.2 h2 (fun z w hz => keep z w (List.mem_cons_of_mem _ hz)) ha)
theorem own2_upd {F H : Hp} {O : Om} {pc : Pc} {σ : L2.St} {ρ : Rho} {s : Src} {i k : Nat} {q a : Addr} {qs : List Addr} {ws : List V} {es : List D} {dss : List (List D)} (st : Stt K F O H pc σ ρ s) (h1 : σ[i]? = some (some (.ref q))) (h2 : O q = some (.sl i))
    (h3 : H q = some (.lst (qs.map V.ref))) (h4 : q ∉ qs) (h5 : qs.Nodup) (h6 : All2 (fun a ds => O a = some (.sl i) ∧ ∃ vs, H a = some (.lst vs) ∧ DqAll K F vs ds) qs dss) (ha : qs[k]? = some a) (hd : DqAll K F ws es) :
    Sq F O H F O (upd H a (.lst ws)) ∧ Stt K F O (upd H a (.lst ws)) pc σ (ρ.set i (.o2 (dss.set k es))) s := by
  have hm : a ∈ qs := List.mem_of_getElem? ha
  have hO : O a = some (.sl i) := by
    obtain ⟨_, z, _⟩ := h6.left hm
    exact z
  have hn : O a ≠ none := by rw [hO]; exact fun z => nomatch z
  have hF := st.wk.fo a hn
  have hqa : q ≠ a := fun z => h4 (by rw [z]; exact hm)
  refine ⟨⟨Same.refl _, fun b o e1 e2 => ⟨?_, e2⟩, fun b e => ?_, fun _ e => e, fun _ _ e => .inl e⟩, ⟨⟨fun b o e => ?_, st.wk.fo, fun b e => ?_⟩, ⟨?_, fun j sl hj => ?_⟩, ?_⟩⟩
  · rw [upd_ne (fun z => hn (by rw [← z]; exact e2))]; exact e1
  · by_cases hb : b = a
    · rw [hb, upd_same]; exact fun z => nomatch z
    · rw [upd_ne hb]; exact e
  · rw [upd_ne (fun z => by rw [z, hF] at e; cases e)]; exact st.wk.fh b o e
  · by_cases hb : b = a
    · rw [hb, upd_same]; exact fun z => nomatch z
    · rw [upd_ne hb]; exact st.wk.oh b e
  · rw [List.length_set]; exact st.env.len
  · by_cases hij : i = j
    · subst hij
      by_cases hl : i < ρ.length
      · rw [List.getElem?_set_self hl] at hj
        cases hj
        refine ⟨_, h1, q, qs, rfl, h2, by rw [upd_ne hqa]; exact h3, h4, h5, all2_set h6 h5 ha (fun x y _ hx z => ?_) ⟨hO, ws, upd_same, hd⟩⟩
        obtain ⟨z1, us, z2, z3⟩ := z
        exact ⟨z1, us, by rw [upd_ne hx]; exact z2, z3⟩
      · rw [List.getElem?_eq_none (by rw [List.length_set]; omega)] at hj
        cases hj
    · rw [List.getElem?_set_ne hij] at hj
      obtain ⟨v, k1, k2⟩ := st.env.at_ j sl hj
      exact ⟨v, k1, slot_keep hO (fun z => hij z.symm) k2⟩
  · have hs := st.src
    obtain ⟨ps, al⟩ := pc
    cases ps with
    | none => exact hs
    | some pc =>
      obtain ⟨b, c⟩ := pc
      obtain ⟨k1, k2, k3, k4, k5⟩ := hs
      exact ⟨k1, k2, by rw [upd_ne (fun z => by rw [z, hO] at k1; cases k1)]; exact k3, by rw [upd_ne (fun z => by rw [z, hO] at k2; cases k2)]; exact k4, k5⟩
theorem ss_aug2 {i : Nat} {f : Int → Int → Int} (ha : SdY K ta ga) (hb : SdY K tb gb) (he : SdY K te ge) : SdS K (tAugS (tOp (rIxL K) (tVar i) ta) tb te rGetL (ipI f) rSetL) (aug2S f i ga gb ge) := by
  intro F O H pc σ ρ s fl s' st e Dn kk
  obtain ⟨a, s1, e1, e⟩ := bO_some e
  obtain ⟨b, s2, e2, e⟩ := bO_some e
  split at e
  · rename_i dss k m er _
    split at e
    · rename_i hk
      split at e
      · rename_i ds eds
        split at e
        · rename_i hm
          split at e
          · rename_i z ez
            obtain ⟨d, s3, e3, e⟩ := bO_some e
            split at e
            · rename_i w
              cases e
              obtain ⟨v0, h1, q, qs, rfl, h2, h3, h4, h5, h6⟩ := st.env.at_ i _ er
              obtain ⟨p, hp, hOp, vs, hHp, hq⟩ := h6.get eds
              have keep : ∀ {F' H' : Hp} {x : Addr}, Ny O F H F' H' → O x = some (.sl i) → H' x = H x := fun n hx => n.own _ (by rw [hx]; exact fun z => nomatch z) (by rw [hx]; exact fun z => nomatch z)
              refine ⟨.ref q, h1, ?_⟩
              refine ha F O H pc σ ρ s _ s1 st e1 _ fun v F1 H1 n1 sr1 d1 => ?_
              have st1 := st.ny n1 sr1
              refine ⟨q, qs.map V.ref, k, .ref p, rfl, d1.int_inv, SqL.of (by rw [keep n1 h2]; exact h3), ?_, ?_⟩
              · unfold atI
                rw [List.length_map, ixN_toNat hk.1 (by rw [h6.len]; exact hk.2), Option.bind_some, List.getElem?_map, hp]
                rfl
              · refine hb F1 O H1 pc σ ρ s1 _ s2 st1 e2 _ fun u F2 H2 n2 sr2 d2 => ?_
                have n12 := n1.trans n2
                obtain ⟨x, x1, x2⟩ := hq.get ez
                refine ⟨p, vs, m, .int z, rfl, d2.int_inv, by rw [keep n12 hOp]; exact hHp, hm.1, by rw [hq.len]; exact hm.2, by rw [x1, x2.int_inv], ?_⟩
                refine he F2 O H2 pc σ ρ s2 _ _ (st1.ny n2 sr2) e3 _ fun y F3 H3 n3 sr3 d3 => ⟨z, w, rfl, d3.int_inv, ?_⟩
                have n13 := n12.trans n3
                refine ⟨p, vs, m, m.toNat, rfl, d2.int_inv, by rw [keep n13 hOp]; exact hHp, ixN_toNat hm.1 (by rw [hq.len]; exact hm.2), ?_⟩
                have st3 := (st1.ny n2 sr2).ny n3 sr3
                have h6' : All2 (fun a ds => O a = some (.sl i) ∧ ∃ vs, H3 a = some (.lst vs) ∧ DqAll K F3 vs ds) qs dss := h6.imp fun a ds ⟨y1, us, y2, y3⟩ => ⟨y1, us, by rw [keep n13 y1]; exact y2, y3.mono n13.ff⟩
                obtain ⟨q2, st4⟩ := own2_upd st3 h1 h2 (by rw [keep n13 h2]; exact h3) h4 h5 h6' hp (DqAll.set (.int (f z w)) m.toNat (hq.mono n13.ff))
                exact kk _ F3 O _ pc (n13.sq.trans q2) (PcLe.refl _) st4
            · cases e
          · cases e
        · cases e
      · cases e
    · cases e
  · cases e
/-! ### x = x if c else a new list -/
/-- then: the own list of slot i stays (keep = the branch that keeps it) -/
def keepS (i : Nat) (kp : Bool) (c : Yb) (g : Yl) : Z := fun ρ s => bO (c ρ s) fun b s1 => if b = kp then (match ρ[i]? with
  | some (.ow _) => some (.nx ρ, s1)
  | _ => none) else bO (g ρ s1) fun ds s2 => some (.nx (ρ.set i (.ow ds)), s2)
theorem set_at {σ : L2.St} {i : Nat} {v : Option V} (h : σ[i]? = some v) : σ.set i v = σ := by
  obtain ⟨h1, h2⟩ := List.getElem?_eq_some_iff.mp h
  rw [← h2]
  exact List.set_getElem_self h1
theorem ss_keepT {i : Nat} {tA : TT} {gt : Yb} {gn : Yl} (hc : SdT K tA gt) (h : SdN K te gn) : SdS K (tAsg (tIf tA (tVar i) te) (gName i)) (keepS i true gt gn) := by
  intro F O H pc σ ρ s fl s' st e Dn k
  obtain ⟨b, s1, e1, e⟩ := bO_some e
  refine hc F O H pc σ ρ s b s1 st e1 _ fun F1 H1 n1 sr1 => ?_
  have st1 := st.ny n1 sr1
  cases b with
  | true =>
    rw [if_pos rfl] at e ⊢
    split at e
    · rename_i ds hi
      cases e
      obtain ⟨q, vs, h1, _⟩ := st1.env.own_at hi
      refine ⟨_, h1, ?_⟩
      show Dn.nx (σ.set i _) H1
      rw [set_at h1]
      exact k σ F1 O H1 pc n1.sq (PcLe.refl _) st1
    · cases e
  | false =>
    rw [if_neg Bool.false_ne_true] at e ⊢
    obtain ⟨ds, s2, e2, e⟩ := bO_some e
    cases e
    have z := ss_asg (i := i) (su_ow h) F1 O H1 pc σ ρ s1 (.nx (ρ.set i (.ow ds))) _ st1 (by unfold asgS owU; rw [e2]; rfl) Dn (k.after n1.sq (PcLe.refl _))
    exact z
theorem ss_keepF {i : Nat} {tA : TT} {gt : Yb} {gn : Yl} (hc : SdT K tA gt) (h : SdN K te gn) : SdS K (tAsg (tIf tA te (tVar i)) (gName i)) (keepS i false gt gn) := by
  intro F O H pc σ ρ s fl s' st e Dn k
  obtain ⟨b, s1, e1, e⟩ := bO_some e
  refine hc F O H pc σ ρ s b s1 st e1 _ fun F1 H1 n1 sr1 => ?_
  have st1 := st.ny n1 sr1
  cases b with
  | false =>
    rw [if_pos rfl] at e
    rw [if_neg Bool.false_ne_true]
    split at e
    · rename_i ds hi
      cases e
      obtain ⟨q, vs, h1, _⟩ := st1.env.own_at hi
      refine ⟨_, h1, ?_⟩
      show Dn.nx (σ.set i _) H1
      rw [set_at h1]
      exact k σ F1 O H1 pc n1.sq (PcLe.refl _) st1
    · cases e
  | true =>
    rw [if_neg (fun z => nomatch z)] at e
    rw [if_pos rfl]
    obtain ⟨ds, s2, e2, e⟩ := bO_some e
    cases e
    exact ss_asg (i := i) (su_ow h) F1 O H1 pc σ ρ s1 (.nx (ρ.set i (.ow ds))) _ st1 (by unfold asgS owU; rw [e2]; rfl) Dn (k.after n1.sq (PcLe.refl _))
/-! ### x[lo:hi] of an own list, as a new list -/
end
end DL

set_option Elab.async false
set_option linter.all false
set_option maxRecDepth 100000
set_option maxHeartbeats 4000000
/-! DX0: tuple * int, is True / is False, product and sums of more. -/
namespace DL
open PySem PySem.Spec PyProof.Rows L2
theorem tuple_mul1 (l : Addr) (items : Array Value) (n : Nat) (dd : Option Addr) (sl : Array (Option Value)) (u : Tok) :
    Meets (Builtin.«tuple.__mul__» ⟨[.ref l, .int 1 u], []⟩) (fun _ R s => s.heap.get? l = some { cls := .type "tuple", dict := dd, data := .seq items n, slots := sl } ∧ R (.ok (.ret (.ref l))) s) :=
  .of_wp fun prog w A R s h => by
    obtain ⟨hp, g, d, tk, os⟩ := s
    obtain ⟨hl, h⟩ := h
    have f1 := AutoSeq1.idx_int
    have c0 : (decide ((1 : Int) < -(2 ^ 63)) || decide ((1 : Int) ≥ 2 ^ 63)) = false := by decide
    have c1 : (items.isEmpty || (1 : Int) == 1) = true := by simp
    wp_walk using wpAny_loadPart' hl
    exact ⟨_, rfl, h⟩
/-- t * k -/
def rRep0 (K : PySem.W.Frag) : R2 := fun x y H Q => ∃ l k xs, x = .ref l ∧ y = .int k ∧ SqT K H l xs ∧ xs ≠ [] ∧ 1 ≤ k ∧ k ≤ 1000 ∧ xs.length ≤ 1000 ∧ (k = 1 → Q (.ref l) H) ∧ (k ≠ 1 → ∀ p its, H p = none → Q (.ref p) (upd H p (.frz (tup0 its) (.tup (List.replicate k.toNat xs).flatten))))
theorem op_rep0 {X : Cx} : OpR X (binaryOp .Mult) (rRep0 X.K) := by
  intro pins s σ H x y v u Q I rx ry h
  obtain ⟨l, k, xs, rfl, rfl, hT, hne, h1, h2, hz, q1, q2⟩ := h
  cases rx
  obtain ⟨t, rfl⟩ := ry
  obtain ⟨its, r, ⟨⟨cls, dd, data, sl⟩, ho, hc, n, hd⟩, hs⟩ := I.tuple hT
  simp only at hc hd
  subst hc hd
  have hle : its.length = xs.length := r.length.symm
  have road : ∀ {R : Result → Shared → Prop}, (∃ w, R (.ok (.ret w)) s) → True := fun _ => trivial
  by_cases hk : k = 1
  · subst hk
    exact wpAny_binaryOp_repeat_ref (T := "tuple") (U := "int") (by decide) ⟨_, ho, rfl⟩ (fun s' => typeIs_int s' 1 t) noFill_tuple_mul F.fills_int_mul F.slot_int_rmul repeat_tuple F.slot_int_index.lookup
      (call_meets F.slot_int_rmul (typeIs_int s 1 t) F.entry_int_rmul (F.args_int_rmul_2 _ _) (int_rmul_tuple 1 t l its.toArray n dd sl)
        ⟨ho, rfl, ⟨_, ho, rfl⟩, call_meets F.slot_tuple_mul ⟨_, ho, rfl⟩ F.entry_tuple_mul (F.args_tuple_mul_2 _ _) (tuple_mul1 l its.toArray n dd sl t) ⟨ho, ⟨.ref l, H, I, rfl, q1 rfl⟩⟩⟩)
  · have hi : its.toArray.isEmpty = false := by
      cases its with
      | nil => exact absurd (List.eq_nil_of_length_eq_zero hle.symm) hne
      | cons a b => rfl
    have hsz : its.toArray.size = xs.length := by rw [List.size_toArray, hle]
    have big : ((its.toArray.size : Nat) : Int) * k ≤ 1000000 := by
      rw [hsz]
      have a1 : ((xs.length : Nat) : Int) * k ≤ 1000 * k := Int.mul_le_mul_of_nonneg_right (by omega) (by omega)
      omega
    have low : 0 ≤ ((its.toArray.size : Nat) : Int) * k := Int.mul_nonneg (by omega) (by omega)
    have bigN : k.toNat * xs.length ≤ 1000 * 1000 := Nat.mul_le_mul (by omega) hz
    have fl : ∀ {α : Type} (ys : List α), ys.length = xs.length → (List.replicate k.toNat ys).flatten.length ≤ sizeLine := fun ys hy => by
      rw [PyProof.Rows.lm_len_rep_flat, hy, sizeLine_eq]
      omega
    have c0 : (decide (k < -(2 ^ 63)) || decide (k ≥ 2 ^ 63)) = false := by rw [decide_eq_false (show ¬ k < -(2 ^ 63) by omega), decide_eq_false (show ¬ k ≥ 2 ^ 63 by omega)]; rfl
    have c1 : (its.toArray.isEmpty || k == 1) = false := by rw [hi, Bool.false_or]; exact beq_eq_false_iff_ne.mpr hk
    have c2 : (decide (k ≤ 0) || its.toArray.isEmpty) = false := by rw [hi, Bool.or_false]; exact decide_eq_false (show ¬ k ≤ 0 by omega)
    have c4 : Builtin.Tuple.tupleTooMany (((its.toArray.size : Nat) : Int) * k) = false := by unfold Builtin.Tuple.tupleTooMany; rw [sizeLine_eq]; exact decide_eq_false (by omega)
    refine wpAny_binaryOp_repeat_ref (T := "tuple") (U := "int") (by decide) ⟨_, ho, rfl⟩ (fun s' => typeIs_int s' k t) noFill_tuple_mul F.fills_int_mul F.slot_int_rmul repeat_tuple F.slot_int_index.lookup
      (call_meets F.slot_int_rmul (typeIs_int s k t) F.entry_int_rmul (F.args_int_rmul_2 _ _) (int_rmul_tuple k t l its.toArray n dd sl)
        ⟨ho, rfl, ⟨_, ho, rfl⟩, call_meets F.slot_tuple_mul ⟨_, ho, rfl⟩ F.entry_tuple_mul (F.args_tuple_mul_2 _ _) (tuple_mulW l its.toArray n dd sl k t c0 c1 c2 (by omega) c4 (by rw [size_rep, List.size_toArray]; exact fl its hle)) ⟨ho, ?_⟩⟩)
    rw [size_rep]
    exact ⟨.ref _, _, tup_in (t' := s.toks) I (r.rep k.toNat) (fl xs rfl), rfl, q2 hk _ _ (I.hok.fresh (Nat.le_refl _))⟩
def rMulB (K : PySem.W.Frag) : R2 := fun x y H Q => rMulA x y H Q ∨ rRep0 K x y H Q
theorem op_mulB {X : Cx} : OpR X (binaryOp .Mult) (rMulB X.K) := opr_or op_mulA op_rep0
def mulB : D → D → Option D
  | .tuple a, .int k => if a ≠ [] ∧ 1 ≤ k ∧ k ≤ 1000 ∧ a.length ≤ 1000 then some (.tuple (List.replicate k.toNat a).flatten) else none
  | x, y => mulD x y
theorem s2_mulB {K : PySem.W.Frag} : Sd2 K (rMulB K) mulB := by
  intro F O H x y a b d w hx hy e Q q
  unfold mulB at e
  split at e
  · rename_i xs k
    split at e
    · rename_i hc
      cases e
      obtain ⟨p, vs, rfl, h1, h2⟩ := hx.tup_inv
      have hl := h2.len
      refine .inr ⟨p, k, vs, rfl, hy.int_inv, w.t h1, fun z => hc.1 (List.eq_nil_of_length_eq_zero (by rw [← hl, z]; rfl)), hc.2.1, hc.2.2.1, by rw [hl]; exact hc.2.2.2, fun hk => ?_, fun hk l its hl => ?_⟩
      · subst hk
        have e1 : (List.replicate (1 : Int).toNat xs).flatten = xs := by simp
        exact fin0 w q (by rw [e1]; exact .tup h1 h2)
      · exact finT w q hl (dqAll_rep h2 _)
    · cases e
  · exact .inl (s2_mul F O H x y a b d w hx hy e Q q)
def rIsB0 : R2 := fun x y H Q => ∃ c d, x = .bl c ∧ y = .bl d ∧ Q (.bl (c == d)) H
theorem op_isB0 {X : Cx} : OpR X (compareOp .Is) rIsB0 := by
  intro pins s σ H x y v u Q I rx ry h
  obtain ⟨c, d, rfl, rfl, q⟩ := h
  cases rx
  cases ry
  exact PyProof.Rows.is_bool ⟨.bl _, H, I, rfl, q⟩
def isBD : D → D → Option D
  | .bool a, .bool b => some (.bool (a == b))
  | _, _ => none
theorem s2_isB0 {K : PySem.W.Frag} : Sd2 K rIsB0 isBD := by
  intro F O H x y a b d w hx hy e Q q
  unfold isBD at e
  split at e
  · cases e
    exact ⟨_, _, hx.bl_inv, hy.bl_inv, fin0 w q (.bl _)⟩
  · cases e

/-! ### a new list made of own lists of scalars -/
def vwN (g : Yl) : Yl := fun ρ s => bO (g (viewR ρ) s) fun ds s1 => if ds.all scalD = true then some (ds, s1) else none
theorem scal_all {K : PySem.W.Frag} {F F' : Hp} : ∀ {vs : List V} {ds : List D}, DqAll K F vs ds → ds.all scalD = true → DqAll K F' vs ds
  | _, _, .nil, _ => .nil
  | _, _, .cons a b, h => by
    rw [List.all_cons, Bool.and_eq_true] at h
    exact .cons (a.scal h.1) (scal_all b h.2)
theorem sn_vw {K : PySem.W.Frag} {t : TE} {g : Yl} (h : SdN K t g) : SdN K t (vwN g) := by
  intro F O H pc σ ρ s ds s' st e Q q
  obtain ⟨x, s1, e1, e⟩ := bO_some e
  split at e
  · rename_i hs
    cases e
    refine h (upF F O H) (upO O) H pc σ _ s _ _ ⟨up_wk st.wk, up_env st.wk st.env, up_src.mpr st.src⟩ e1 Q fun p vs F' H' n sr hp hF hH d1 => ?_
    refine q p vs _ H' (up_back st.wk n) (up_src.mp sr) hp ?_ hH (scal_all d1 hs)
    show (if isSl (O p) = true then none else F' p) = none
    split
    · rfl
    · exact hF
  · cases e
end DL
namespace DL
open PySem PySem.Spec PyProof.Rows L2
/-! the written part named: under two comprehensions the frame cannot be told by unification -/
theorem opK {X : Cx} {K : PySem.W.Frag} {op : Value → Value → Sem Value} (R : PySem.W.Frag → R2) (hK : X.K = K) (h : OpR X op (R X.K)) : OpR X op (R K) := by
  subst hK
  exact h
theorem piK {X : Cx} {K : PySem.W.Frag} {tg e : Expr} (R : PySem.W.Frag → TI) (hK : X.K = K) (h : PI X tg e (R X.K)) : PI X tg e (R K) := by
  subst hK
  exact h
theorem peK {X : Cx} {K : PySem.W.Frag} {e : Expr} (R : PySem.W.Frag → TE) (hK : X.K = K) (h : PE X e (R X.K)) : PE X e (R K) := by
  subst hK
  exact h

section
variable {X : Cx} {K : PySem.W.Frag} {tg e e2 : Expr} {t te : TE} {ta : TA} {p pos tpos apos cpos : Pos} {elts : List Expr} {kk k : Nat} {p1 p2 p3 : Pos}
theorem pi_seqK (hK : X.K = K) (h : PE X e t) : PI X tg e (iSeq K t) := by subst hK; exact pi_seq h
theorem pi_enumK (hK : X.K = K) (hg : Gl X "enumerate") (hm : X.mg "enumerate" = none) (ha : PA X [e] ta) (hs : starEach [e] X.env = [(false, eval e X.env)] := by rfl) : PI X (.Tuple elts kk tpos) (.Call (.Name "enumerate" p) [e] [] pos) (iEnumA K ta) := by subst hK; exact pi_enumA hg hm ha hs
theorem ixK (R : PySem.W.Frag → R2) (hK : X.K = K) (h : IxR X (R X.K)) : IxR X (R K) := by subst hK; exact h
theorem slK (R : PySem.W.Frag → V → Option Int → Option Int → Hp → VK → Prop) (hK : X.K = K) (h : SlR X (R X.K)) : SlR X (R K) := by subst hK; exact h
theorem crK {f : Value} (R : PySem.W.Frag → List V → Hp → VK → Prop) (hK : X.K = K) (h : CallR X f (R X.K)) : CallR X f (R K) := by subst hK; exact h
theorem pe_revAK (hK : X.K = K) (he : PE X e te) : PE X (.Subscript e (.Slice none none (some (.UnaryOp .USub (.Constant (.int 1) k p1) p2)) p3) pos) (tRevA K te) := by subst hK; exact pe_revA he
end
end DL

set_option Elab.async false
set_option linter.all false
set_option maxRecDepth 100000
set_option maxHeartbeats 4000000
/-! DY0: sums of lists, factorials, lists of one's own lists that grow, products. -/
namespace DL
open PySem PySem.Spec PyProof.Rows L2
section
variable {prog : Program} {w : World} {A : Around} {R : Result → Shared → Prop} {E : Value → Shared → Prop}
theorem sub_list_bytes : isSubtype (.type "list") (.type "bytes") = pure false := by rw [isSubtype_type]; kernel_rfl
theorem sub_list_bytearray : isSubtype (.type "list") (.type "bytearray") = pure false := by rw [isSubtype_type]; kernel_rfl
theorem args_sum2 (a b : Value) : argsOk "sum" ⟨[a, b], []⟩ := by unfold argsOk; kernel_rfl
theorem loop_lists {I l S : Addr} {items : Array Value} (hh : A.handled = none) (hIl : l ≠ I) (hSI : S ≠ I) (hSl : S ≠ l) (val : Nat → List Value) (ad : Nat → Addr) (tot : Nat → List Value) (htot : ∀ i, tot (i + 1) = tot i ++ val i)
    (hval : ∀ (i : Nat) (v : Value), items[i]? = some v → v = Value.ref (ad i)) (hz : ∀ i, i ≤ items.size → (tot i).length ≤ sizeLine) :
    ∀ (k i : Nat) (s : Shared) (T : Addr) (c m : Nat), items.size - i = k → i ≤ items.size → s.heap.IsListIter I l i → s.heap.IsList l items → s.heap.get? S = some { cls := .type "list", dict := none, data := .seq #[.ref T] c, slots := #[] } →
    IsL s.heap T (tot i).toArray m → T ≠ S → T ≠ I → (∀ j, i ≤ j → j < items.size → ad j ≠ S ∧ ad j ≠ I ∧ ∃ c, IsL s.heap (ad j) (val j).toArray c) →
    (∀ h' tk p c', (∀ b o, b ≠ I → b ≠ S → s.heap.get? b = some o → h'.get? b = some o) → IsL h' p (tot items.size).toArray c' → (p = T ∧ i = items.size ∨ S < p) → R (.ok (.ret (.ref p))) { s with heap := h', toks := tk }) →
    codeAny (model prog w) A (.builtin "sum.loop" ⟨[.ref I, .ref S, rawInt 2, rawInt 0], []⟩) R s := by
  have W := Walks.list (prog := prog) (w := w) (A := A.in1) hh I l hIl items
  intro k
  induction k with
  | zero =>
    intro i s T c m hk hi hst hli hS hT hTS hTI hL hR
    have hin : i = items.size := by omega
    subst hin
    refine codeAny_builtin PySem.F.entry_sum_loop ?_
    rw [Around.under_plainId PySem.F.plain_sum_loop _]
    show wpAny _ A.in1 (seqItems? (.ref S) >>= _) _ _ s
    refine wpAny_bind (wpAny_seqItems hS rfl ?_)
    show wpAny _ A.in1 (tryCatch (pyNext (.ref I)) _ >>= _) _ _ s
    refine wpAny_bind (wpAny_tryCatch (W.done s _ _ ⟨hst, hli⟩ fun h' tk hk' => ?_))
    have keep : ∀ b o, b ≠ I → s.heap.get? b = some o → h'.get? b = some o := fun b o hb e => hk' b o (by simp [hb]) e
    exact wpAny_pure (hR h' tk T m (fun b o h1 _ e => keep b o h1 e) (keep T _ hTI hT) (.inl ⟨rfl, rfl⟩))
  | succ k ih =>
    intro i s T c m hk hi hst hli hS hT hTS hTI hL hR
    have hlt : i < items.size := by omega
    refine codeAny_builtin PySem.F.entry_sum_loop ?_
    rw [Around.under_plainId PySem.F.plain_sum_loop _]
    show wpAny _ A.in1 (seqItems? (.ref S) >>= _) _ _ s
    refine wpAny_bind (wpAny_seqItems hS rfl ?_)
    show wpAny _ A.in1 (tryCatch (pyNext (.ref I)) _ >>= _) _ _ s
    refine wpAny_bind (wpAny_tryCatch (W.item i s _ _ hlt ⟨hst, hli⟩ fun v h' tk hP hst' hk' => ?_))
    obtain rfl := hval i v hP
    have keep : ∀ b o, b ≠ I → s.heap.get? b = some o → h'.get? b = some o := fun b o hb e => hk' b o (by simp [hb]) e
    have hS' := keep S _ hSI hS
    have hT' := keep T _ hTI hT
    obtain ⟨a1, a2, ci, a3⟩ := hL i (Nat.le_refl _) hlt
    have hA' := keep _ _ a2 a3
    have hsz : (tot i).toArray.size + (val i).toArray.size ≤ sizeLine := by
      have := hz (i + 1) hlt
      rw [htot, List.length_append] at this
      rw [List.size_toArray, List.size_toArray]
      exact this
    show wpAny _ A.in1 ((holding [Value.ref (ad i)] (binaryOp .Add (.ref T) (.ref (ad i)))).attempt >>= _) _ _ _
    refine wpAny_bind (wpAny_attempt (wpAny_holding (PySem.P.add_list hT' hA' ?_ hsz)))
    show wpAny _ A.in1 (updateSeq S (fun _ => #[.ref h'.objs.size]) >>= _) _ _ _
    have hS1 := Heap.get?_push_of_some { cls := .type "list", data := .seq ((tot i).toArray ++ (val i).toArray) } hS'
    refine wpAny_bind ?_
    refine wpAny_updateSeq hS1 rfl ?_
    have hS2 := Heap.get?_update_self (Obj.mapSeq fun _ => #[Value.ref h'.objs.size]) hS1 rfl
    refine wpAny_bind (wpAny_letGo ?_)
    refine wpAny_bind ?_
    have hSlt : S < h'.objs.size := Heap.lt_size hS'
    have hIlt : I < h'.objs.size := by
      obtain ⟨o, e, _⟩ := hst'.1
      exact Heap.lt_size e
    have up : ∀ {b : Addr} {o : Obj}, b ≠ S → h'.get? b = some o → ((((h'.push { cls := .type "list", data := .seq ((tot i).toArray ++ (val i).toArray) }).update S (Obj.mapSeq fun _ => #[Value.ref h'.objs.size])).update S (Obj.mapSeq fun _ => #[Value.ref h'.objs.size])).get? b = some o) := fun hb e =>
      (Heap.get?_update_other _ _ (Ne.symm hb)).trans ((Heap.get?_update_other _ _ (Ne.symm hb)).trans (Heap.get?_push_of_some _ e))
    have fr := W.frame _ _ ((((h'.push { cls := .type "list", data := .seq ((tot i).toArray ++ (val i).toArray) }).update S (Obj.mapSeq fun _ => #[Value.ref h'.objs.size])).update S (Obj.mapSeq fun _ => #[Value.ref h'.objs.size]))) hst' fun b hb o e => up (fun z => by
      rw [z] at hb
      rcases List.mem_cons.mp hb with y | y
      · exact hSI y
      · exact hSl (List.mem_singleton.mp y)) e
    refine wpAny_updateSeq hS2 rfl (wpAny_pure ⟨plainId_quiet PySem.F.plain_sum_loop _, ih (i + 1) _ h'.objs.size _ 0 (by omega) hlt fr.1 fr.2 (Heap.get?_update_self _ hS2 rfl) ?_ (Nat.ne_of_gt hSlt) (Nat.ne_of_gt hIlt) (fun j h1 h2 => ?_) fun h'' tk'' p c' hk'' hp hpp => ?_⟩)
    · have e : (tot (i + 1)).toArray = (tot i).toArray ++ (val i).toArray := by rw [htot]; simp
      rw [e]
      exact (Heap.get?_update_other _ _ (Nat.ne_of_lt hSlt)).trans ((Heap.get?_update_other _ _ (Nat.ne_of_lt hSlt)).trans (Heap.get?_push_size _ rfl))
    · obtain ⟨b1, b2, cj, b3⟩ := hL j (by omega) h2
      exact ⟨b1, b2, cj, up b1 (keep _ _ b2 b3)⟩
    · refine hR h'' tk'' p c' (fun b o h1 h2 e => hk'' b o h1 h2 (up h2 (keep b o h1 e))) hp (.inr ?_)
      rcases hpp with ⟨z, _⟩ | z
      · rw [z]; exact hSlt
      · exact z
theorem call_sum_lists {s : Shared} {l b : Addr} {items : Array Value} {zs : List Value} {mb : Nat} {Q : Value → Shared → Prop} (hh : A.handled = none) (hl : s.heap.IsList l items) (hb : IsL s.heap b zs.toArray mb) (val : Nat → List Value) (ad : Nat → Addr) (tot : Nat → List Value) (h0 : tot 0 = zs) (htot : ∀ i, tot (i + 1) = tot i ++ val i)
    (hval : ∀ (i : Nat) (v : Value), items[i]? = some v → v = Value.ref (ad i)) (hz : ∀ i, i ≤ items.size → (tot i).length ≤ sizeLine) (hL : ∀ j, j < items.size → ∃ c, IsL s.heap (ad j) (val j).toArray c)
    (h : ∀ h' tk p c', (∀ b o, s.heap.get? b = some o → h'.get? b = some o) → IsL h' p (tot items.size).toArray c' → (p = b ∧ items.size = 0 ∨ s.heap.objs.size ≤ p) → Q (.ref p) { s with heap := h', toks := tk }) :
    wpAny (model prog w) A (call (.builtin "sum") [.ref l, .ref b]) Q E s := by
  refine call_function_tree PySem.F.kind_sum PySem.F.plain_sum PySem.F.entry_sum (args_sum2 _ _) ?_
  unfold Builtin.«sum»
  simp only [List.length_cons, List.length_nil]
  rw [if_neg (by decide)]
  refine wpAny_bind (wpAny_of_eq (show Builtin.Builtins.bindParams "sum" ["start"] 0 ⟨[.ref b], []⟩ = pure [some (.ref b)] from rfl) ?_)
  refine wpAny_bind (wpAny_pyIter_list hl ?_)
  refine wpAny_bind (wpAny_pure ?_)
  have hb1 := Heap.get?_push_of_some { cls := .type "list_iterator", data := .fields #[.ref l, .int 0 0] } hb
  simp only [List.forIn_cons, List.forIn_nil]
  refine wpAny_bind (wpAny_bind (wpAny_bind (wpAny_isInstance (T := "list") (b := false) ⟨_, hb1, rfl⟩ PySem.F.sub_list_str ?_)))
  simp only [Bool.false_eq_true, if_false]
  refine wpAny_pure (wpAny_bind (wpAny_bind (wpAny_isInstance (T := "list") (b := false) ⟨_, hb1, rfl⟩ sub_list_bytes ?_)))
  simp only [Bool.false_eq_true, if_false]
  refine wpAny_pure (wpAny_bind (wpAny_bind (wpAny_isInstance (T := "list") (b := false) ⟨_, hb1, rfl⟩ sub_list_bytearray ?_)))
  simp only [Bool.false_eq_true, if_false]
  refine wpAny_pure (wpAny_pure ?_)
  refine wpAny_bind (wpAny_newObj_type ?_)
  have e1 : (s.heap.push { cls := .type "list_iterator", data := .fields #[Value.ref l, Value.int 0 0] }).objs.size = s.heap.objs.size + 1 := Heap.size_push _ _
  have hlt : l < s.heap.objs.size := by obtain ⟨_, e, _⟩ := hl; exact Heap.lt_size e
  have hbt : b < s.heap.objs.size := Heap.lt_size hb
  have up : ∀ {c : Addr} {o : Obj}, s.heap.get? c = some o → ((s.heap.push { cls := .type "list_iterator", data := .fields #[Value.ref l, Value.int 0 0] }).push { cls := .type "list", data := .seq #[Value.ref b] }).get? c = some o := fun e => Heap.get?_push_of_some _ (Heap.get?_push_of_some _ e)
  refine wpAny_pure ⟨plainId_quiet PySem.F.plain_sum_loop _, loop_lists hh (Nat.ne_of_lt hlt) (by rw [e1]; exact Nat.succ_ne_self _) (by rw [e1]; exact Nat.ne_of_gt (Nat.lt_succ_of_lt hlt)) val ad tot htot hval hz items.size 0 _ b 0 mb rfl (Nat.zero_le _)
    ⟨_, Heap.get?_push_of_some _ (Heap.get?_push_size _ rfl), rfl, rfl⟩ ((hl.push _).push _) (Heap.get?_push_size _ rfl) (by rw [h0]; exact up hb) (by rw [e1]; exact Nat.ne_of_lt (Nat.lt_succ_of_lt hbt)) (Nat.ne_of_lt hbt) (fun j _ hj => ?_) fun h' tk p c' hk hp hpp => ?_⟩
  · obtain ⟨c, hc⟩ := hL j hj
    have hcl := Heap.lt_size hc
    exact ⟨by rw [e1]; exact Nat.ne_of_lt (Nat.lt_succ_of_lt hcl), Nat.ne_of_lt hcl, c, up hc⟩
  · refine h h' tk p c' (fun c o e => ?_) hp ?_
    · have hcl := Heap.lt_size e
      exact hk c o (Nat.ne_of_lt hcl) (by rw [e1]; exact Nat.ne_of_lt (Nat.lt_succ_of_lt hcl)) (up e)
    · rcases hpp with ⟨z1, z2⟩ | z
      · exact .inl ⟨z1, z2.symm⟩
      · rw [e1] at z
        exact .inr (Nat.le_of_lt (Nat.lt_of_succ_lt z))
end
section
variable {X : Cx}
/-- sum(lists, list) -/
def rSumL (K : PySem.W.Frag) : List V → Hp → VK → Prop := fun xs H Q => ∃ (a b : Addr) (qs : List Addr) (yss : List (List V)) (zs : List V), xs = [.ref a, .ref b] ∧ SqL K H a (qs.map V.ref) ∧ H b = some (.lst zs) ∧ All2 (fun q ys => H q = some (.lst ys)) qs yss ∧ qs ≠ [] ∧ zs.length + yss.flatten.length ≤ sizeLine ∧
  ∀ p, H p = none → Q (.ref p) (upd H p (.lst (zs ++ yss.flatten)))
theorem lists_at {pins : List (Addr × Obj)} {σ : L2.St} {H : Hp} {s : Shared} (I : Inv X pins σ H s) : ∀ {qs : List Addr} {yss : List (List V)}, All2 (fun q ys => H q = some (.lst ys)) qs yss →
    ∃ iss : List (List Value), Vals yss.flatten iss.flatten ∧ iss.length = qs.length ∧ ∀ j, j < qs.length → ∃ c, IsL s.heap ((qs[j]?).getD 0) ((iss[j]?).getD []).toArray c
  | _, _, .nil => ⟨[], .nil, rfl, fun j h => (nomatch h)⟩
  | q :: qs, ys :: yss, .cons h r => by
    obtain ⟨iss, h1, h2, h3⟩ := lists_at I r
    obtain ⟨z, its, n, hr, hl, e⟩ := I.lstM h
    refine ⟨its :: iss, ?_, by rw [List.length_cons, List.length_cons, h2], fun j hj => ?_⟩
    · rw [List.flatten_cons, List.flatten_cons]
      exact hr.append h1
    · cases j with
      | zero => exact ⟨n, e⟩
      | succ j => exact h3 j (by simpa using hj)
theorem cr_sumL (hc : X.calm = true) : CallR X (.builtin "sum") (rSumL X.K) := by
  intro pins s σ H xs us Q I r h
  obtain ⟨a, b, qs, yss, zs, rfl, hq, hb, hall, hne, hz, q⟩ := h
  cases r with
  | cons r1 r =>
  cases r with
  | cons r2 r =>
  cases r
  cases r1
  cases r2
  obtain ⟨its, r', pl, _⟩ := I.list hq
  have hi := refs_at r'
  subst hi
  obtain ⟨z, zits, mb, zr, zl, ze⟩ := I.lstM hb
  obtain ⟨iss, h1, h2, h3⟩ := lists_at I hall
  have lf := h1.length
  have lz := zr.length
  have hsz : (qs.map Value.ref).toArray.size = qs.length := by simp
  refine call_sum_lists (I.ok.hd hc) pl.isList ze (fun j => (iss[j]?).getD []) (fun j => (qs[j]?).getD 0) (fun i => zits ++ (iss.take i).flatten) (by simp) (fun i => ?_) (fun i v hv => ?_) (fun i hi => ?_) (fun j hj => h3 j (by rw [← hsz]; exact hj)) (fun h' tk p c' hk hp hpp => ?_)
  · show zits ++ (iss.take (i + 1)).flatten = (zits ++ (iss.take i).flatten) ++ (iss[i]?).getD []
    rw [List.append_assoc, List.take_succ, List.flatten_append]
    congr 2
    cases iss[i]? <;> simp
  · simp only [List.getElem?_toArray, List.getElem?_map] at hv
    cases e : qs[i]? with
    | none => rw [e] at hv; cases hv
    | some w =>
      rw [e] at hv
      cases hv
      rfl
  · have e1 : iss.flatten.length = (iss.take i).flatten.length + (iss.drop i).flatten.length := by rw [← List.length_append, ← List.flatten_append, List.take_append_drop]
    show (zits ++ (iss.take i).flatten).length ≤ sizeLine
    rw [List.length_append]
    omega
  · rw [hsz] at hp hpp
    have hnq : qs.length ≠ 0 := fun z => hne (List.eq_nil_of_length_eq_zero z)
    have hle : s.heap.objs.size ≤ p := hpp.resolve_left fun z => hnq z.2
    rw [← h2, List.take_length] at hp
    refine ⟨.ref p, _, I.laid (a := p) (o := .lst (zs ++ yss.flatten)) (t' := tk) hk hle ⟨by rw [List.length_append]; exact hz, zits ++ iss.flatten, c', zr.append h1, hp⟩, rfl, q p (I.hok.fresh hle)⟩
end
/-! the mirror -/
def lists? : List D → Option (List D)
  | [] => some []
  | .list ds :: r => match lists? r with
    | some es => some (ds ++ es)
    | none => none
  | _ :: _ => none
def sumLC : List D → Option D
  | [.list xs, .list ys] => match lists? xs with
    | some es => if xs ≠ [] ∧ ys.length + es.length ≤ lim then some (.list (ys ++ es)) else none
    | none => none
  | _ => none
theorem lists_q {K : PySem.W.Frag} {F H : Hp} (fh : Same F H) : ∀ {vs : List V} {ds es : List D}, DqAll K F vs ds → lists? ds = some es → ∃ (qs : List Addr) (yss : List (List V)), vs = qs.map V.ref ∧ All2 (fun q ys => H q = some (.lst ys)) qs yss ∧ DqAll K F yss.flatten es
  | _, _, _, .nil, e => by
    cases e
    exact ⟨[], [], rfl, .nil, .nil⟩
  | _, _, es, .cons (d := d) hv r, e => by
    cases d with
    | list ds =>
      unfold lists? at e
      split at e
      · rename_i es' e'
        cases e
        obtain ⟨qs, yss, h1, h2, h3⟩ := lists_q fh r e'
        obtain ⟨a, vs, rfl, h4, h5⟩ := hv.lst_inv
        refine ⟨a :: qs, vs :: yss, by rw [List.map_cons, h1], .cons (fh _ _ h4) h2, ?_⟩
        rw [List.flatten_cons]
        exact h5.append h3
      · cases e
    | none => cases e
    | bool _ => cases e
    | int _ => cases e
    | str _ => cases e
    | tuple _ => cases e
    | dict _ => cases e
theorem sC_sumL {K : PySem.W.Frag} : SdC K (rSumL K) sumLC := by
  intro F O H xs as d w hx e Q q
  unfold sumLC at e
  split at e
  · rename_i xs' ys
    split at e
    · rename_i es he
      split at e
      · rename_i hc
        cases e
        cases hx with
        | cons ha hx =>
        cases hx with
        | cons hb hx =>
        cases hx
        obtain ⟨a, vs, rfl, h1, h2⟩ := ha.lst_inv
        obtain ⟨b, ws, rfl, h3, h4⟩ := hb.lst_inv
        obtain ⟨qs, yss, h5, h6, h7⟩ := lists_q w.fh h2 he
        subst h5
        refine ⟨a, b, qs, yss, ws, rfl, w.l h1, w.fh _ _ h3, h6, fun z => hc.1 ?_, lim_le (by rw [h7.len, h4.len]; exact hc.2), fun p hp => finL w q hp (h4.append h7)⟩
        have := h2.len
        rw [z] at this
        exact List.eq_nil_of_length_eq_zero this.symm
      · cases e
    · cases e
  · cases e
end DL

namespace DL
open PySem PySem.Spec PyProof.Rows L2
/-! ### sorted(x, reverse=b) -/
theorem sortedR_one : ∀ {a b : List Int}, a.Perm b → a.Pairwise (· ≥ ·) → b.Pairwise (· ≥ ·) → a = b := fun p h1 h2 => p.eq_of_pairwise (le := (· ≥ ·)) (fun x y _ _ h3 h4 => Int.le_antisymm h4 h3) h1 h2
def sortKC (b : Bool) : List D → List D → Option (List D)
  | [.list ds], [.bool c] => if c = b then mO (intsD ds) fun is => some ((if b = true then (sortI is).reverse else sortI is).map .int) else none
  | _, _ => none
/-- a call with keywords that makes a new list -/
def SdCK (K : PySem.W.Frag) (r : List V → List V → Hp → VK → Prop) (f : List D → List D → Option (List D)) : Prop := ∀ F O H xs ys as bs ds, Wk F O H → DqAll K F xs as → DqAll K F ys bs → f as bs = some ds → ∀ Q : VK,
  (∀ p vs, H p = none → DqAll K F vs ds → Q (.ref p) (upd H p (.lst vs))) → r xs ys H Q
def ynCK (f : List D → List D → Option (List D)) (a b : Yl) : Yl := fun ρ s => bO (a ρ s) fun xs s1 => bO (b ρ s1) fun ys s2 => mO (f xs ys) fun d => some (d, s2)
theorem sn_CK {K : PySem.W.Frag} {r : List V → List V → Hp → VK → Prop} {f : List D → List D → Option (List D)} {t tk : TA} {g gk : Yl} (hr : SdCK K r f) (ha : SdA K t g) (hk : SdA K tk gk) : SdN K (tCKw r t tk) (ynCK f g gk) := by
  intro F O H pc σ ρ s d s' st h Q q
  obtain ⟨x, s1, e1, h⟩ := bO_some h
  obtain ⟨y, s2, e2, h⟩ := bO_some h
  obtain ⟨z, e3, h⟩ := mO_some h
  cases h
  refine ha F O H pc σ ρ s x s1 st e1 _ fun v F1 H1 n1 sr1 d1 => ?_
  have st1 := st.ny n1 sr1
  refine hk F1 O H1 pc σ ρ s1 y _ st1 e2 _ fun u F2 H2 n2 sr2 d2 => ?_
  have w2 := n2.wk st1.wk
  refine hr F2 O H2 v u x y d w2 (d1.mono n2.ff) d2 e3 Q fun p vs hp d3 => ?_
  have hF : F2 p = none := w2.nF hp
  have n12 := n1.trans n2
  refine q p vs F2 (upd H2 p (.lst vs)) (n12.trans (Ny.pure w2 (same_new hp) (Same.refl _) (w2.fh.trans (same_new hp)) fun _ _ h => .inl h)) (sr2.same (same_new hp)) ?_ hF upd_same d3
  cases z : H p with
  | none => rfl
  | some u => exact absurd hp (n12.dom p (by rw [z]; exact fun z => nomatch z))
theorem sCK_sorted {K : PySem.W.Frag} {b : Bool} : SdCK K (rSortedKw K b [.bl b]) (sortKC b) := by
  intro F O H xs ys as bs ds w hx hy e Q q
  unfold sortKC at e
  split at e
  · split at e
    · rename_i hc
      subst hc
      obtain ⟨is, e1, e⟩ := mO_some e
      cases e
      obtain ⟨v, rfl, h⟩ := one_q hx
      obtain ⟨u, rfl, hu⟩ := one_q hy
      obtain ⟨p, vs, rfl, h1, h2⟩ := h.lst_inv
      have := ints_q h2 e1
      subst this
      refine ⟨p, is, rfl, by rw [hu.bl_inv], w.l h1, fun ns' p' pm sr hp => ?_⟩
      rename_i c
      have e : ns' = (if c = true then (sortI is).reverse else sortI is) := by
        unfold OrdB at sr
        cases c with
        | true =>
          rw [if_pos rfl] at sr
          exact sortedR_one (pm.trans ((sortI_perm is).symm.trans (List.reverse_perm _).symm)) sr (List.pairwise_reverse.mpr ((sortI_sorted is).imp fun h => h))
        | false =>
          rw [if_neg Bool.false_ne_true] at sr
          exact sorted_one (pm.trans (sortI_perm is).symm) sr (sortI_sorted is)
      rw [e]
      exact q p' _ hp (dqAll_ints _)
    · cases e
  · cases e
/-! ### factorial -/
def facN (n : Nat) : Nat := Builtin.Math.factorialNat n
def rFact : List V → Hp → VK → Prop := fun vs H Q => ∃ a : Int, vs = [.int a] ∧ 0 ≤ a ∧ a ≤ 20000 ∧ Q (.int (facN a.toNat : Nat)) H
theorem cr_fact {X : Cx} : CallR X (.builtin "math.factorial") rFact := by
  intro pins s σ H vs us Q I r h
  obtain ⟨a, rfl, h0, h1, q⟩ := h
  obtain ⟨u, rfl, e1⟩ := vals1 r
  obtain ⟨t, rfl⟩ := e1
  exact PySem.W.mc_factorial h0 h1 fun _ => ⟨.int _, H, I.tok _, ⟨_, rfl⟩, q⟩
def factC : List D → Option D
  | [.int a] => if 0 ≤ a ∧ a ≤ 20000 then some (.int (facN a.toNat : Nat)) else none
  | _ => none
theorem sC_fact {K : PySem.W.Frag} : SdC K rFact factC := by
  intro F O H xs as d w hx e Q q
  unfold factC at e
  split at e
  · split at e
    · rename_i hc
      cases e
      obtain ⟨v, rfl, h⟩ := one_q hx
      exact ⟨_, by rw [h.int_inv], hc.1, hc.2, fin0 w q (.int _)⟩
    · cases e
  · cases e
/-! ### x *= e, // of great ints -/
def augCS (c : Int → Int → Bool) (f : Int → Int → Int) (i : Nat) (g : Y) : Z := fun ρ s => match ρ[i]? with
  | some (.fz (.int a)) => bO (g ρ s) fun d s1 => match d with
    | .int b => if c a b = true then some (.nx (ρ.set i (.fz (.int (f a b)))), s1) else none
    | _ => none
  | _ => none
theorem ip_mul {X : Cx} : PIp X .Mult (rI CMul fun i j => .int (i * j)) := iop_mul
def mulOk (i j : Int) : Bool := (decide (-(2 ^ 64) < i) && decide (i < 2 ^ 64)) || (decide (-(2 ^ 64) < j) && decide (j < 2 ^ 64))
def fdivWD : D → D → Option D := i2D (fun _ j => decide (0 < j) && decide (j.natAbs.log2 < 9000)) fun i j => i / j
theorem s2_fdivW {K : PySem.W.Frag} : Sd2 K (rI CDivW fun i j => .int (i / j)) fdivWD := s2_I fun i j h => by
  simp only [Bool.and_eq_true, decide_eq_true_eq] at h
  exact h

section
variable {K : PySem.W.Frag} {ta tb te : TE} {ga gb ge : Y}
theorem ss_augC {C : Int → Int → Prop} {c : Int → Int → Bool} (hc : ∀ i j, c i j = true → C i j) {f : Int → Int → Int} {i : Nat} (h : SdY K te ge) : SdS K (tAug i te (rI C fun i j => .int (f i j))) (augCS c f i ge) := by
  intro F O H pc σ ρ s fl s' st e Dn k
  unfold augCS at e
  split at e
  · rename_i a hi
    obtain ⟨x, s1, e1, e⟩ := bO_some e
    split at e
    · split at e
      · rename_i hcc
        cases e
        obtain ⟨v, h1, w, rfl, h2⟩ := st.env.at_ i _ hi
        refine ⟨w, h1, ?_⟩
        refine h F O H pc σ ρ s _ _ st e1 _ fun u F1 H1 n1 sr1 d1 => ⟨_, _, h2.int_inv, d1.int_inv, hc _ _ hcc, ?_⟩
        exact k _ F1 O H1 pc n1.sq (PcLe.refl _) ((st.ny n1 sr1).set (.int _))
      · cases e
    · cases e
  · cases e
theorem mulOk_C (i j : Int) (h : mulOk i j = true) : CMul i j := by
  unfold mulOk at h
  simp only [Bool.or_eq_true, Bool.and_eq_true, decide_eq_true_eq] at h
  exact h
/-! ### x[i] += a list, x a list of one's own lists -/
def augXS (i : Nat) (gb ge : Y) : Z := fun ρ s => bO (gb ρ s) fun b s1 => bO (ge ρ s1) fun d s2 => match ρ[i]?, b, d with
  | some (.o2 dss), .int k, .list ws => if 0 ≤ k ∧ k < dss.length then (match dss[k.toNat]? with
    | some ds => if ds.length + ws.length ≤ lim then some (.nx (ρ.set i (.o2 (dss.set k.toNat (ds ++ ws)))), s2) else none
    | none => none) else none
  | _, _, _ => none
theorem ip_ext {X : Cx} : PIp X .Add rExt2 := iop_ext
theorem upd_id {H : Hp} {p : Addr} {o : HO} (h : H p = some o) : upd H p o = H := by
  funext a
  by_cases e : a = p
  · subst e
    rw [upd_same, h]
  · rw [upd_ne e]
theorem ss_augX {i : Nat} (hb : SdY K tb gb) (he : SdY K te ge) : SdS K (tAugS (tVar i) tb te rGetL rExt2 rSetL) (augXS i gb ge) := by
  intro F O H pc σ ρ s fl s' st e Dn kk
  obtain ⟨b, s1, e1, e⟩ := bO_some e
  obtain ⟨d, s2, e2, e⟩ := bO_some e
  split at e
  · rename_i dss k ws er _
    split at e
    · rename_i hk
      split at e
      · rename_i ds eds
        split at e
        · rename_i hl
          cases e
          obtain ⟨v0, h1, q, qs, rfl, h2, h3, h4, h5, h6⟩ := st.env.at_ i _ er
          obtain ⟨p, hp, hOp, vs, hHp, hq⟩ := h6.get eds
          have keep : ∀ {F' H' : Hp} {x : Addr}, Ny O F H F' H' → O x = some (.sl i) → H' x = H x := fun n hx => n.own _ (by rw [hx]; exact fun z => nomatch z) (by rw [hx]; exact fun z => nomatch z)
          refine ⟨.ref q, h1, ?_⟩
          refine hb F O H pc σ ρ s _ s1 st e1 _ fun v F1 H1 n1 sr1 d1 => ?_
          have st1 := st.ny n1 sr1
          have hpm : p ∈ qs := List.mem_of_getElem? hp
          have hqp : q ≠ p := fun z => h4 (by rw [z]; exact hpm)
          have hkl : k < ((qs.map V.ref).length : Nat) := by rw [List.length_map, h6.len]; exact hk.2
          have hget : (qs.map V.ref)[k.toNat]? = some (V.ref p) := by rw [List.getElem?_map, hp]; rfl
          refine ⟨q, qs.map V.ref, k, .ref p, rfl, d1.int_inv, by rw [keep n1 h2]; exact h3, hk.1, hkl, hget, ?_⟩
          refine he F1 O H1 pc σ ρ s1 _ _ st1 e2 _ fun u F2 H2 n2 sr2 d2 => ?_
          have n12 := n1.trans n2
          have st2 := st1.ny n2 sr2
          obtain ⟨c, us, rfl, c1, c2⟩ := d2.lst_inv
          have hHp2 : H2 p = some (.lst vs) := by rw [keep n12 hOp]; exact hHp
          have hHq2 : H2 q = some (.lst (qs.map V.ref)) := by rw [keep n12 h2]; exact h3
          refine ⟨p, c, vs, us, rfl, rfl, hHp2, n2.fh _ _ c1, lim_le (by rw [hq.len, c2.len]; exact hl), ?_⟩
          have h6' : All2 (fun a ds => O a = some (.sl i) ∧ ∃ vs, H2 a = some (.lst vs) ∧ DqAll K F2 vs ds) qs dss := h6.imp fun a ds ⟨y1, us, y2, y3⟩ => ⟨y1, us, by rw [keep n12 y1]; exact y2, y3.mono n12.ff⟩
          obtain ⟨q2, st4⟩ := own2_upd st2 h1 h2 hHq2 h4 h5 h6' hp ((hq.mono n12.ff).append c2)
          have hset : (qs.map V.ref).set k.toNat (V.ref p) = qs.map V.ref := by
            obtain ⟨z1, z2⟩ := List.getElem?_eq_some_iff.mp hget
            rw [← z2]
            exact List.set_getElem_self z1
          have hHq3 : (upd H2 p (.lst (vs ++ us))) q = some (.lst (qs.map V.ref)) := by rw [upd_ne hqp]; exact hHq2
          refine ⟨q, qs.map V.ref, k, k.toNat, rfl, d1.int_inv, hHq3, ixN_toNat hk.1 hkl, ?_⟩
          rw [hset, upd_id hHq3]
          exact kk _ F2 O _ pc (n12.sq.trans q2) (PcLe.refl _) st4
        · cases e
      · cases e
    · cases e
  · cases e
end
theorem crKK {X : Cx} {K : PySem.W.Frag} {f : Value} {ks : List Str} (R : PySem.W.Frag → List V → List V → Hp → VK → Prop) (hK : X.K = K) (h : CallRK X f ks (R X.K)) : CallRK X f ks (R K) := by
  subst hK
  exact h
end DL

set_option Elab.async false
set_option linter.all false
set_option maxRecDepth 100000
set_option maxHeartbeats 4000000
/-! DY1: sorted lists of pairs of ints; xs += ys. -/
namespace DL
open PySem PySem.Spec PyProof.Rows L2
theorem isPair_one {h : Heap} {v : Value} {x y x' y' : Int} (a : Srt.IsPair h v x y) (b : Srt.IsPair h v x' y') : x = x' ∧ y = y' := by
  obtain ⟨p, o, t, u, n, e, ho, _, hd⟩ := a
  obtain ⟨p', o', t', u', n', e', ho', _, hd'⟩ := b
  rw [e] at e'
  cases e'
  rw [ho] at ho'
  cases ho'
  rw [hd] at hd'
  cases hd'
  exact ⟨rfl, rfl⟩
noncomputable def pairOf (h : Heap) (v : Value) : Int × Int := by
  classical
  exact if c : ∃ p : Int × Int, Srt.IsPair h v p.1 p.2 then c.choose else (0, 0)
theorem pairOf_is {h : Heap} {v : Value} {p : Int × Int} (c : Srt.IsPair h v p.1 p.2) : pairOf h v = p := by
  have hx : ∃ p : Int × Int, Srt.IsPair h v p.1 p.2 := ⟨p, c⟩
  unfold pairOf
  rw [dif_pos hx]
  obtain ⟨a, b⟩ := isPair_one hx.choose_spec c
  exact Prod.ext a b
def rSortedPD (K : PySem.W.Frag) : List V → Hp → VK → Prop := fun vs H Q => ∃ (a : Addr) (xs : List V) (ps : List (Int × Int)), vs = [V.ref a] ∧ SqL K H a xs ∧ xs.length = ps.length ∧ (∀ z ∈ xs.zip ps, ∃ t, z.1 = V.ref t ∧ SqT K H t [.int z.2.1, .int z.2.2]) ∧
  ∀ (zs : List (V × (Int × Int))) p, zs.Perm (xs.zip ps) → (zs.map (·.2)).Pairwise (fun p q => SrtO.lexB q p = false) → H p = none → Q (.ref p) (upd H p (.lst (zs.map (·.1))))
theorem cr_sortedPD {X : Cx} : CallR X (.builtin "sorted") (rSortedPD X.K) := by
  intro pins s σ H vs us Q I r h
  obtain ⟨a, xs, ps, rfl, hs, hlen, hx, q⟩ := h
  obtain ⟨its, rv, hl, hz⟩ := I.list hs
  obtain ⟨u, rfl, ru⟩ := vals1 r
  obtain rfl : u = Value.ref a := ru
  have hx1 : ∀ x ∈ xs, ∃ p : Int × Int, (x, p) ∈ xs.zip ps := fun x hm => by
    obtain ⟨i, hi⟩ := List.getElem?_of_mem hm
    have hl2 := (List.getElem?_eq_some_iff.mp hi).1
    refine ⟨ps[i]'(by omega), List.mem_of_getElem? (i := i) ?_⟩
    rw [List.getElem?_zip_eq_some]
    exact ⟨hi, List.getElem?_eq_getElem _⟩
  obtain ⟨e1, e2⟩ := refs_back rv fun x m => by
    obtain ⟨p, hp⟩ := hx1 x m
    obtain ⟨t, e, _⟩ := hx _ hp
    exact ⟨t, e⟩
  let kv : V → Int × Int := fun v => match v with
    | .ref t => pairOf s.heap (.ref t)
    | _ => (0, 0)
  have isP : ∀ z ∈ xs.zip ps, kv z.1 = z.2 ∧ ∃ t, z.1 = V.ref t ∧ Srt.IsPair s.heap (.ref t) z.2.1 z.2.2 := fun z hz' => by
    obtain ⟨t, e, ht⟩ := hx z hz'
    obtain ⟨its2, r2, ⟨⟨cls, dd, dt, sl⟩, ho, hc, n, hd⟩, _⟩ := I.tuple ht
    simp only at hc hd
    subst hc
    subst hd
    obtain ⟨u1, u2, rfl, ri, rj⟩ := vals2 r2
    obtain ⟨t1, rfl⟩ := ri
    obtain ⟨t2, rfl⟩ := rj
    have ip : Srt.IsPair s.heap (.ref t) z.2.1 z.2.2 := ⟨t, _, t1, t2, n, rfl, ho, rfl, rfl⟩
    refine ⟨?_, t, e, ip⟩
    rw [e]
    exact pairOf_is ip
  refine SrtO.sorted_pairsO (k := fun u => kv (backV u)) hl.isList (by rw [← rv.length]; exact hz) (fun v hv => ?_) fun h' d out h1 h2 kp hd hn => ?_
  · obtain ⟨t, rfl⟩ := e2 v hv
    have hm : V.ref t ∈ xs := by rw [e1]; exact List.mem_map.mpr ⟨_, hv, rfl⟩
    obtain ⟨p, hp⟩ := hx1 _ hm
    obtain ⟨k1, t', e, ip⟩ := isP _ hp
    cases e
    have e3 : kv (backV (.ref t)) = p := k1
    rw [e3]
    exact ip
  · have h3 : ∀ u ∈ out, ∃ a, u = Value.ref a := fun u hu => e2 u (h2.perm.mem_iff.mp hu)
    obtain ⟨n, hn⟩ := hn
    have hb : SrtO.Stb (ltP kv) (out.map backV) xs := by
      rw [e1]
      exact SrtO.Stb.map (ltP_swo kv) backV h2
    have hzip : xs.map (fun x => (x, kv x)) = xs.zip ps := by
      refine List.ext_getElem (by rw [List.length_map, List.length_zip]; omega) fun i g1 g2 => ?_
      have hm := isP _ (List.getElem_mem g2)
      have e3 : (xs.zip ps)[i] = (xs[i]'(by simpa using g1), ps[i]'(by rw [List.length_map] at g1; omega)) := List.getElem_zip
      rw [e3] at hm
      rw [List.getElem_map, e3, hm.1]
    refine ⟨.ref d, upd H d (.lst (out.map backV)), I.laid (t' := s.toks) kp hd ⟨?_, out, n, vals_back h3, hn⟩, rfl, ?_⟩
    · rw [hb.len]
      exact hz
    · have q' := q ((out.map backV).map fun x => (x, kv x)) d (by rw [← hzip]; exact hb.perm.map _) (by
        rw [List.map_map]
        have h4 : SrtO.Srtd (ltP kv) (out.map backV) := SrtO.srtd_map h1
        exact List.pairwise_map.mpr h4) (I.hok.fresh hd)
      rw [List.map_map, show ((fun z : V × (Int × Int) => z.1) ∘ fun x => (x, kv x)) = id from rfl, List.map_id] at q'
      exact q'
/-! the mirror -/
def pairs? : List D → Option (List (Int × Int))
  | [] => some []
  | .tuple [.int i, .int j] :: r => match pairs? r with
    | some ps => some ((i, j) :: ps)
    | none => none
  | _ :: _ => none
def pD (p : Int × Int) : D := .tuple [.int p.1, .int p.2]
def insP (p : Int × Int) : List (Int × Int) → List (Int × Int)
  | [] => [p]
  | q :: r => if SrtO.lexB q p = true then q :: insP p r else p :: q :: r
def sortP : List (Int × Int) → List (Int × Int)
  | [] => []
  | p :: r => insP p (sortP r)
theorem insP_perm (p : Int × Int) : ∀ l, (insP p l).Perm (p :: l)
  | [] => .refl _
  | q :: r => by
    unfold insP
    split
    · exact ((insP_perm p r).cons q).trans (.swap p q r)
    · exact .refl _
theorem sortP_perm : ∀ l, (sortP l).Perm l
  | [] => .refl _
  | p :: r => (insP_perm p (sortP r)).trans ((sortP_perm r).cons p)
def leP (p q : Int × Int) : Prop := SrtO.lexB q p = false
theorem leP_tr {p q r : Int × Int} (h1 : leP p q) (h2 : leP q r) : leP p r := by
  have a := SrtO.lexB_no.mp h1
  have b := SrtO.lexB_no.mp h2
  refine SrtO.lexB_no.mpr ?_
  omega
theorem leP_anti {p q : Int × Int} (h1 : leP p q) (h2 : leP q p) : p = q := by
  have a := SrtO.lexB_no.mp h1
  have b := SrtO.lexB_no.mp h2
  exact Prod.ext (by omega) (by omega)
theorem insP_sorted (p : Int × Int) : ∀ {l}, l.Pairwise leP → (insP p l).Pairwise leP
  | [], _ => List.pairwise_singleton _ _
  | q :: r, h => by
    have h1 := List.pairwise_cons.mp h
    unfold insP
    split
    · rename_i c
      refine List.pairwise_cons.mpr ⟨fun x hx => ?_, insP_sorted p h1.2⟩
      rcases List.mem_cons.mp ((insP_perm p r).mem_iff.mp hx) with rfl | hx
      · have := SrtO.lexB_iff.mp c
        refine SrtO.lexB_no.mpr ?_
        omega
      · exact h1.1 x hx
    · rename_i c
      have c' : leP p q := by
        unfold leP
        cases z : SrtO.lexB q p with
        | true => exact absurd z c
        | false => rfl
      refine List.pairwise_cons.mpr ⟨fun x hx => ?_, h⟩
      rcases List.mem_cons.mp hx with rfl | hx
      · exact c'
      · exact leP_tr c' (h1.1 x hx)
theorem sortP_sorted : ∀ l, (sortP l).Pairwise leP
  | [] => .nil
  | p :: r => insP_sorted p (sortP_sorted r)
def sortPC : List D → Option (List D)
  | [.list ds] => mO (pairs? ds) fun ps => some ((sortP ps).map pD)
  | _ => none
theorem Dq.pair_inv {K : PySem.W.Frag} {F : Hp} {v : V} {p : Int × Int} (h : Dq K F v (pD p)) : ∃ t, v = .ref t ∧ TD K F t [.int p.1, .int p.2] := by
  obtain ⟨t, vs, rfl, h1, h2⟩ := h.tup_inv
  cases h2 with
  | cons a h2 =>
  cases h2 with
  | cons b h2 =>
  cases h2
  cases a
  cases b
  exact ⟨t, rfl, h1⟩
theorem pairs_all {K : PySem.W.Frag} {F : Hp} : ∀ {vs : List V} {ds : List D} {ps : List (Int × Int)}, DqAll K F vs ds → pairs? ds = some ps → vs.length = ps.length ∧ ∀ z ∈ vs.zip ps, Dq K F z.1 (pD z.2)
  | _, _, _, .nil, e => by
    cases e
    exact ⟨rfl, fun z hz => nomatch hz⟩
  | _, _, _, .cons (d := d) (ds := ds) a r, e => by
    unfold pairs? at e
    split at e
    · rename_i heq
      cases heq
    · rename_i i j r' heq
      injection heq with e1 e2
      subst e1
      subst e2
      split at e
      · rename_i ps' e'
        cases e
        obtain ⟨h1, h2⟩ := pairs_all r e'
        refine ⟨by rw [List.length_cons, List.length_cons, h1], fun z hz => ?_⟩
        rw [List.zip_cons_cons] at hz
        rcases List.mem_cons.mp hz with rfl | hz
        · exact a
        · exact h2 z hz
      · cases e
    · cases e
theorem dqAll_zip {K : PySem.W.Frag} {F : Hp} : ∀ {zs : List (V × (Int × Int))}, (∀ z ∈ zs, Dq K F z.1 (pD z.2)) → DqAll K F (zs.map (·.1)) ((zs.map (·.2)).map pD)
  | [], _ => .nil
  | z :: zs, h => .cons (h z List.mem_cons_self) (dqAll_zip fun y hy => h y (List.mem_cons_of_mem _ hy))
theorem sCN_sortedPD {K : PySem.W.Frag} : SdCN K (rSortedPD K) sortPC := by
  intro F O H xs as ds w hx e Q q
  unfold sortPC at e
  split at e
  · obtain ⟨ps, e1, e⟩ := mO_some e
    cases e
    obtain ⟨v, rfl, h⟩ := one_q hx
    obtain ⟨a, vs, rfl, h1, h2⟩ := h.lst_inv
    obtain ⟨h3, h4⟩ := pairs_all h2 e1
    refine ⟨a, vs, ps, rfl, w.l h1, h3, fun z hz => ?_, fun zs p hp hs hn => ?_⟩
    · obtain ⟨t, e, ht⟩ := (h4 z hz).pair_inv
      exact ⟨t, e, w.t ht⟩
    · have e5 : zs.map (·.2) = sortP ps := by
        have hp2 : (zs.map (·.2)).Perm ps := by
          have := hp.map (·.2)
          rw [List.map_snd_zip (by omega)] at this
          exact this
        exact (hp2.trans (sortP_perm ps).symm).eq_of_pairwise (le := leP) (fun a b _ _ h1 h2 => leP_anti h1 h2) hs (sortP_sorted ps)
      have := dqAll_zip (K := K) (F := F) (zs := zs) fun z hz => h4 z (hp.mem_iff.mp hz)
      rw [e5] at this
      exact q p _ hn this
  · cases e
/-- sorted: ints or pairs of ints -/
def rSortedB (K : PySem.W.Frag) : List V → Hp → VK → Prop := fun xs H Q => rSortedA K xs H Q ∨ rSortedPD K xs H Q
theorem cr_sortedB {X : Cx} : CallR X (.builtin "sorted") (rSortedB X.K) := CallR.or cr_sortedA cr_sortedPD
def sortBC (xs : List D) : Option (List D) := match sortC xs with
  | some ds => some ds
  | none => sortPC xs
theorem sCN_sortedB {K : PySem.W.Frag} : SdCN K (rSortedB K) sortBC := by
  intro F O H xs as ds w hx e Q q
  unfold sortBC at e
  split at e
  · rename_i e1
    cases e
    exact .inl (sCN_sorted F O H xs as _ w hx e1 Q q)
  · exact .inr (sCN_sortedPD F O H xs as ds w hx e Q q)
/-! ### x += ys, x one's own list -/
def extS (i : Nat) (g : Y) : Z := fun ρ s => bO (g ρ s) fun d s1 => match ρ[i]?, d with
  | some (.ow ds), .list es => if ds.length + es.length ≤ lim then some (.nx (ρ.set i (.ow (ds ++ es))), s1) else none
  | _, _ => none
theorem ss_ext {K : PySem.W.Frag} {te : TE} {ge : Y} {i : Nat} (h : SdY K te ge) : SdS K (tAug i te rExt2) (extS i ge) := by
  intro F O H pc σ ρ s fl s' st e Dn k
  obtain ⟨d, s1, e1, e⟩ := bO_some e
  split at e
  · rename_i ds es er
    split at e
    · rename_i hl
      cases e
      obtain ⟨q, vs, h1, h2, h3, h4⟩ := st.env.own_at er
      refine ⟨.ref q, h1, ?_⟩
      refine h F O H pc σ ρ s _ _ st e1 _ fun v F1 H1 n1 sr1 d1 => ?_
      have st1 := st.ny n1 sr1
      obtain ⟨c, us, rfl, c1, c2⟩ := d1.lst_inv
      have hq1 : H1 q = some (.lst vs) := by
        rw [n1.own q (by rw [h2]; exact fun z => nomatch z) (by rw [h2]; exact fun z => nomatch z)]
        exact h3
      refine ⟨q, c, vs, us, rfl, rfl, hq1, n1.fh _ _ c1, lim_le (by rw [h4.len, c2.len]; exact hl), ?_⟩
      obtain ⟨q2, st4⟩ := own_upd st1 h1 h2 ((h4.mono n1.ff).append c2)
      have := k (σ.set i (some (.ref q))) F1 O _ pc (n1.sq.trans q2) (PcLe.refl _)
      rw [set_at h1] at this ⊢
      exact this st4
    · cases e
  · cases e
end DL

set_option Elab.async false
set_option linter.all false
set_option maxRecDepth 100000
set_option maxHeartbeats 4000000
/-! DK1: dicts whose keys are ints, or tuples: get, put, in. -/
namespace DL
open PySem PySem.Spec PyProof.Rows L2

def DAt (K : PySem.W.Frag) (H : Hp) (a : Addr) (ts : List Tr) : Prop := ∃ o, H a = some (xO a o) ∧ DFc a o ts ∧ DqAll K H (ts.map (·.2.1)) (ts.map (·.1))
def tfind (ts : List Tr) (k : D) : Option V := (ts.find? fun t => PyData.eqv t.1 k).map (·.2.2)
def tput (ts : List Tr) (k : D) (y v : V) : List Tr := if ts.any (fun t => PyData.eqv t.1 k) = true then ts.map (fun t => if PyData.eqv t.1 k = true then (t.1, t.2.1, v) else t) else ts ++ [(k, y, v)]
def kOk (ks : List D) (k : D) : Bool := (isI k && ks.all isI) || (isTk k && ks.all isTk)

theorem isTk_inv {d : D} (h : isTk d = true) : (∃ ds, d = .tuple ds) ∧ keyD 6 d = true := by
  cases d with
  | tuple ds => exact ⟨⟨ds, rfl⟩, h⟩
  | _ => simp [isTk] at h
theorem isI_inv {d : D} (h : isI d = true) : ∃ i, d = .int i := by
  cases d with
  | int i => exact ⟨i, rfl⟩
  | _ => simp [isI] at h

section
variable {X : Cx} {pins : List (Addr × Obj)} {σ : L2.St} {H : Hp} {s : Shared}
mutual
theorem Dq.kis (I : Inv X pins σ H s) : ∀ {n : Nat} {d : D} {v : V} {u : Value}, keyD n d = true → Dq X.K H v d → RelV v u → KIs s.heap d u
  | n, .int i, v, u, _, h, r => by
    rw [h.int_inv] at r
    obtain ⟨t, rfl⟩ := r
    exact .int i t
  | 0, .tuple ds, _, _, h, _, _ => by simp [keyD] at h
  | n + 1, .tuple ds, v, u, hk, h, r => by
    obtain ⟨a, vs, rfl, td, al⟩ := h.tup_inv
    cases r
    obtain ⟨its, rv, ⟨o, ho, hc, m, hd⟩, _⟩ := I.tuple td.sq
    exact .tup ho hc hd (DqAll.kis I (n := n) (by simpa [keyD] using hk) al rv)
  | n, .none, _, _, h, _, _ => by cases n <;> simp [keyD] at h
  | n, .bool _, _, _, h, _, _ => by cases n <;> simp [keyD] at h
  | n, .str _, _, _, h, _, _ => by cases n <;> simp [keyD] at h
  | n, .list _, _, _, h, _, _ => by cases n <;> simp [keyD] at h
  | n, .dict _, _, _, h, _, _ => by cases n <;> simp [keyD] at h
theorem DqAll.kis (I : Inv X pins σ H s) : ∀ {n : Nat} {ds : List D} {vs : List V} {us : List Value}, keyDs n ds = true → DqAll X.K H vs ds → Vals vs us → KAll s.heap ds us
  | n, [], vs, us, _, h, r => by
    cases h
    cases r
    exact .nil
  | n, d :: ds, vs, us, hk, h, r => by
    cases h with
    | cons a b =>
      cases r with
      | cons r1 r2 =>
        simp only [keyDs, Bool.and_eq_true] at hk
        exact .cons (Dq.kis I hk.1 a r1) (DqAll.kis I hk.2 b r2)
end

theorem DAt.obj {a : Addr} {ts : List Tr} (I : Inv X pins σ H s) (h : DAt X.K H a ts) : ∃ o, s.heap.get? a = some o ∧ DFc a o ts := by
  obtain ⟨o, h1, h2, _⟩ := h
  exact ⟨o, (I.hok a _ h1).1, h2⟩
theorem DAt.typeIs {a : Addr} {ts : List Tr} (I : Inv X pins σ H s) (h : DAt X.K H a ts) : s.TypeIs (.ref a) "dict" ∧ (∀ b, Value.ref a = .ref b → ∃ ob, s.heap.get? b = some ob ∧ ob.dict = none) ∧ (a == sysModules) = false := by
  obtain ⟨o, h1, h2⟩ := h.obj I
  exact ⟨⟨o, h1, h2.ex.1⟩, fun b q => by cases q; exact ⟨o, h1, h2.ex.2.1⟩, h2.ns⟩

/-! keys that are tuples -/
abbrev RT : Tr → D × Addr × Value → Prop := fun t x => t.1 = x.1 ∧ t.2.1 = V.ref x.2.1 ∧ RelV t.2.2 x.2.2 ∧ isTk t.1 = true
theorem DAt.toH {a : Addr} {ts : List Tr} (I : Inv X pins σ H s) (h : DAt X.K H a ts) (hk : (ts.map (·.1)).all isTk = true) :
    ∃ xs : List (D × Addr × Value), s.heap.DictOfH (deepKind X.prog X.w) a xs ∧ Paired RT ts xs := by
  obtain ⟨o, h1, h2, h3⟩ := h
  obtain ⟨es, ep, hd, hp⟩ := h2.dat
  have key : ∀ {ts : List Tr} {es : List DictEntry}, Paired (fun (t : Tr) (e : DictEntry) => e.hash = hashD t.1 ∧ RelV t.2.1 e.key ∧ RelV t.2.2 e.val) ts es → (ts.map (·.1)).all isTk = true → DqAll X.K H (ts.map (·.2.1)) (ts.map (·.1)) →
      ∃ xs : List (D × Addr × Value), es = xs.map (entryOfKey (deepKind X.prog X.w)) ∧ (∀ x ∈ xs, (deepKind X.prog X.w).is s.heap x.1 x.2.1) ∧ Paired RT ts xs := by
    intro ts es p
    induction p with
    | nil => intro _ _; exact ⟨[], rfl, fun _ h => (nomatch h), .nil⟩
    | @cons t e ts es r p ih =>
      intro hk hq
      rw [List.map_cons, List.all_cons, Bool.and_eq_true] at hk
      rw [List.map_cons, List.map_cons] at hq
      cases hq with
      | cons q1 q2 =>
        obtain ⟨xs, e1, e2, e3⟩ := ih hk.2 q2
        obtain ⟨⟨ds, hds⟩, hkd⟩ := isTk_inv hk.1
        obtain ⟨r1, r2, r3⟩ := r
        rw [hds] at q1
        obtain ⟨b, vs, hb, td, al⟩ := q1.tup_inv
        rw [hb] at r2
        have r2' : e.key = Value.ref b := r2
        refine ⟨(t.1, b, e.val) :: xs, ?_, fun x hx => ?_, .cons ⟨rfl, hb, r3, hk.1⟩ e3⟩
        · rw [List.map_cons, ← e1]
          congr 1
          obtain ⟨eh, ek, ev⟩ := e
          simp only at r1 r2'
          subst r1 r2'
          rfl
        · rcases List.mem_cons.mp hx with rfl | hx
          · refine ⟨?_, hkd⟩
            show KIs s.heap t.1 (.ref b)
            have q1' : Dq X.K H (.ref b) t.1 := by rw [hds]; rw [hb] at q1; exact q1
            exact Dq.kis I hkd q1' rfl
          · exact e2 x hx
  obtain ⟨xs, e1, e2, e3⟩ := key hp hk h3
  refine ⟨xs, ⟨o, es, ep, (I.hok a _ h1).1, h2.ex, hd, e1, e2, ?_⟩, e3⟩
  have : xs.map (·.1) = ts.map (·.1) := by
    clear e1 e2 hp h2 h3 hk
    induction e3 with
    | nil => rfl
    | cons r _ ih => rw [List.map_cons, List.map_cons, ih, r.1]
  rw [this]
  exact h2.nd
theorem RT.keys {ts : List Tr} {xs : List (D × Addr × Value)} (p : Paired RT ts xs) : ts.map (·.1) = xs.map (·.1) ∧ (ts.map (·.1)).all isTk = true := by
  induction p with
  | nil => exact ⟨rfl, rfl⟩
  | cons r _ ih => rw [List.map_cons, List.map_cons, ih.1, r.1]; exact ⟨rfl, by rw [List.all_cons, ← ih.1, ih.2, ← r.1, r.2.2.2]; rfl⟩
theorem of_H {h' : Heap} {a : Addr} {ts : List Tr} {xs : List (D × Addr × Value)} {P : Program} {w : World} (dd : h'.DictOfH (deepKind P w) a xs) (p : Paired RT ts xs) (ns : (a == sysModules) = false) (z : ts.length ≤ sizeLine) :
    ∃ o, h'.get? a = some o ∧ DFc a o ts := by
  obtain ⟨o, es, ep, h1, h2, h3, h4, h5, h6⟩ := dd
  refine ⟨o, h1, ns, h2, ⟨es, ep, h3, ?_⟩, z, by rw [(RT.keys p).1]; exact h6, .inr (RT.keys p).2⟩
  rw [h4]
  clear h4 h5 h6 z
  induction p with
  | nil => exact .nil
  | @cons t x ts xs r p ih =>
    rw [List.map_cons]
    obtain ⟨r1, r2, r3, r4⟩ := r
    refine .cons ⟨?_, ?_, r3⟩ ih
    · show hashD x.1 = hashD t.1
      rw [r1]
    · rw [r2]; rfl
theorem eqv_dec {a b : D} (ha : isTk a = true) (hb : isTk b = true) : PyData.eqv a b = decide (a = b) := by
  rw [Bool.eq_iff_iff, eqv_iff (isTk_inv ha).2 (isTk_inv hb).2, decide_eq_true_iff]
theorem RT.find {ts : List Tr} {xs : List (D × Addr × Value)} {k : D} (hk : isTk k = true) (p : Paired RT ts xs) : RelO (tfind ts k) ((atKey xs k).map (·.2)) := by
  induction p with
  | nil => exact True.intro
  | @cons t x ts xs r p ih =>
    obtain ⟨r1, r2, r3, r4⟩ := r
    have e := eqv_dec r4 hk
    unfold tfind atKey at ih ⊢
    rw [List.find?_cons, List.find?_cons, e, r1]
    by_cases c : x.1 = k
    · rw [decide_eq_true c]; exact r3
    · rw [decide_eq_false c]; exact ih
theorem RT.any {ts : List Tr} {xs : List (D × Addr × Value)} {k : D} (hk : isTk k = true) (p : Paired RT ts xs) : (ts.any fun t => PyData.eqv t.1 k) = (atKey xs k).isSome := by
  induction p with
  | nil => rfl
  | @cons t x ts xs r p ih =>
    obtain ⟨r1, r2, r3, r4⟩ := r
    have e := eqv_dec r4 hk
    unfold atKey at ih ⊢
    rw [List.any_cons, List.find?_cons, e, r1]
    by_cases c : x.1 = k
    · rw [decide_eq_true c]; rfl
    · rw [decide_eq_false c]; exact ih
theorem RT.put {ts : List Tr} {xs : List (D × Addr × Value)} {k : D} {b : Addr} {v : V} {u : Value} (hk : isTk k = true) (p : Paired RT ts xs) (r : RelV v u) : Paired RT (tput ts k (.ref b) v) (storedH xs k b u) := by
  unfold tput storedH
  rw [RT.any hk p]
  by_cases c : (atKey xs k).isSome = true
  · rw [if_pos c, if_pos c]
    clear c
    induction p with
    | nil => exact .nil
    | @cons t x ts xs q p ih =>
      obtain ⟨r1, r2, r3, r4⟩ := q
      have e := eqv_dec r4 hk
      rw [List.map_cons, List.map_cons]
      refine .cons ?_ ih
      unfold putAt
      rw [e, r1]
      by_cases d : x.1 = k
      · rw [if_pos d, if_pos (decide_eq_true d)]; exact ⟨rfl, r2, r, r1 ▸ r4⟩
      · rw [if_neg d, if_neg (by rw [decide_eq_false d]; exact Bool.false_ne_true)]; exact ⟨r1, r2, r3, r4⟩
  · rw [if_neg c, if_neg c]
    exact Paired.snoc p ⟨rfl, rfl, r, hk⟩

/-! keys that are ints -/
abbrev RI : Tr → Key × Value → Prop := fun t x => ∃ i, t.1 = .int i ∧ t.2.1 = V.int i ∧ x.1 = .inl i ∧ RelV t.2.2 x.2
theorem DAt.toK {a : Addr} {ts : List Tr} (I : Inv X pins σ H s) (h : DAt X.K H a ts) (hk : (ts.map (·.1)).all isI = true) :
    ∃ xs : List (Key × Value), s.heap.DictOf (mixKind X.prog X.w) a xs ∧ Paired RI ts xs := by
  obtain ⟨o, h1, h2, h3⟩ := h
  obtain ⟨es, ep, hd, hp⟩ := h2.dat
  have key : ∀ {ts : List Tr} {es : List DictEntry}, Paired (fun (t : Tr) (e : DictEntry) => e.hash = hashD t.1 ∧ RelV t.2.1 e.key ∧ RelV t.2.2 e.val) ts es → (ts.map (·.1)).all isI = true → DqAll X.K H (ts.map (·.2.1)) (ts.map (·.1)) →
      ∃ xs : List (Key × Value), Pairs (mixKind X.prog X.w) es xs ∧ (∀ e ∈ es, ∃ k, (mixKind X.prog X.w).is k e.key = true ∧ e.hash = (mixKind X.prog X.w).hash k) ∧ Paired RI ts xs := by
    intro ts es p
    induction p with
    | nil => intro _ _; exact ⟨[], .nil, fun _ h => (nomatch h), .nil⟩
    | @cons t e ts es r p ih =>
      intro hk hq
      rw [List.map_cons, List.all_cons, Bool.and_eq_true] at hk
      rw [List.map_cons, List.map_cons] at hq
      cases hq with
      | cons q1 q2 =>
        obtain ⟨xs, e1, e2, e3⟩ := ih hk.2 q2
        obtain ⟨i, hi⟩ := isI_inv hk.1
        obtain ⟨r1, r2, r3⟩ := r
        rw [hi] at q1 r1
        rw [q1.int_inv] at r2
        obtain ⟨tk, r2⟩ := r2
        have his : (mixKind X.prog X.w).is (.inl i) e.key = true := by rw [r2]; exact mixKind_int X.prog X.w i tk
        refine ⟨(.inl i, e.val) :: xs, .cons his rfl e1, fun x hx => ?_, .cons ⟨i, hi, q1.int_inv, rfl, r3⟩ e3⟩
        rcases List.mem_cons.mp hx with rfl | hx
        · exact ⟨.inl i, his, r1⟩
        · exact e2 x hx
  obtain ⟨xs, e1, e2, e3⟩ := key hp hk h3
  refine ⟨xs, ⟨o, es, ep, (I.hok a _ h1).1, h2.ex, hd, fun e he => e2 e (by simpa using he), e1, ?_⟩, e3⟩
  have nd := h2.nd
  clear e1 e2 hp h2 h3 hk hd h1
  induction e3 with
  | nil => exact List.nodup_nil
  | @cons t x ts xs r p ih =>
    rw [List.map_cons, List.nodup_cons] at nd ⊢
    refine ⟨fun hm => nd.1 ?_, ih nd.2⟩
    obtain ⟨i, r1, r2, r3, r4⟩ := r
    rw [r3] at hm
    rw [r1]
    clear ih nd r1 r2 r3 r4
    induction p with
    | nil => exact (nomatch hm)
    | @cons t' x' ts' xs' r' p' ih' =>
      rw [List.map_cons] at hm ⊢
      obtain ⟨j, s1, s2, s3, s4⟩ := r'
      rcases List.mem_cons.mp hm with hm | hm
      · rw [s3] at hm
        cases hm
        rw [s1]
        exact List.mem_cons_self
      · exact List.mem_cons_of_mem _ (ih' hm)
theorem RI.keys {ts : List Tr} {xs : List (Key × Value)} (p : Paired RI ts xs) : (ts.map (·.1)).all isI = true ∧ ((xs.map (·.1)).Nodup → (ts.map (·.1)).Nodup) := by
  induction p with
  | nil => exact ⟨rfl, fun _ => List.nodup_nil⟩
  | @cons t x ts xs r p ih =>
    obtain ⟨i, r1, r2, r3, r4⟩ := r
    rw [List.map_cons, List.map_cons, List.all_cons, ih.1, r1, r3]
    refine ⟨rfl, fun h => ?_⟩
    rw [List.nodup_cons] at h ⊢
    refine ⟨fun hm => h.1 ?_, ih.2 h.2⟩
    clear ih h r1 r2 r3 r4
    induction p with
    | nil => exact (nomatch hm)
    | @cons t' x' ts' xs' r' p' ih' =>
      rw [List.map_cons] at hm ⊢
      obtain ⟨j, s1, s2, s3, s4⟩ := r'
      rcases List.mem_cons.mp hm with hm | hm
      · rw [s1] at hm
        cases hm
        rw [s3]
        exact List.mem_cons_self
      · exact List.mem_cons_of_mem _ (ih' hm)
theorem of_K {h' : Heap} {a : Addr} {ts : List Tr} {xs : List (Key × Value)} {P : Program} {w : World} (dd : h'.DictOf (mixKind P w) a xs) (p : Paired RI ts xs) (ns : (a == sysModules) = false) (z : ts.length ≤ sizeLine) :
    ∃ o, h'.get? a = some o ∧ DFc a o ts := by
  obtain ⟨o, es, ep, h1, h2, h3, h4, h5, h6⟩ := dd
  refine ⟨o, h1, ns, h2, ⟨es, ep, h3, ?_⟩, z, (RI.keys p).2 h6, .inl (RI.keys p).1⟩
  have h4' : ∀ e ∈ es.toList, ∃ k, (mixKind P w).is k e.key = true ∧ e.hash = (mixKind P w).hash k := fun e he => h4 e (by simpa using he)
  clear h4 h6 z h1 h2 h3
  generalize es.toList = el at h4' h5
  induction p generalizing el with
  | nil =>
    cases h5
    exact .nil
  | @cons t x ts xs r p ih =>
    cases h5 with
    | @cons e _ es' _ g1 g2 g3 =>
      obtain ⟨i, r1, r2, r3, r4⟩ := r
      refine .cons ⟨?_, ?_, ?_⟩ (ih _ (fun e he => h4' e (List.mem_cons_of_mem _ he)) g3)
      · obtain ⟨k, q1, q2⟩ := h4' e List.mem_cons_self
        rw [q2, (mixKind P w).inj _ _ _ q1 g1, r1, r3]
        rfl
      · rw [r2]
        rw [r3] at g1
        rcases keyIs_shape (k := .inl i) g1 with ⟨j, tk, e1, e2⟩ | ⟨y, tk, e1, e2⟩
        · cases e1
          exact ⟨tk, e2⟩
        · cases e1
      · rw [g2]; exact r4
theorem RI.find {ts : List Tr} {xs : List (Key × Value)} {k : Int} (p : Paired RI ts xs) : RelO (tfind ts (.int k)) (valueAt xs (.inl k)) := by
  induction p with
  | nil => exact True.intro
  | @cons t x ts xs r p ih =>
    obtain ⟨i, r1, r2, r3, r4⟩ := r
    unfold tfind valueAt at ih ⊢
    rw [List.find?_cons, List.find?_cons, r1, r3]
    simp only [PyData.eqv]
    by_cases c : i = k
    · subst c
      rw [beq_self_eq_true, decide_eq_true rfl]; exact r4
    · rw [beq_eq_false_iff_ne.mpr c, decide_eq_false (fun z => c (Sum.inl.inj z))]; exact ih
theorem RI.any {ts : List Tr} {xs : List (Key × Value)} {k : Int} (p : Paired RI ts xs) : (ts.any fun t => PyData.eqv t.1 (.int k)) = xs.any fun kv => decide (kv.1 = .inl k) := by
  induction p with
  | nil => rfl
  | @cons t x ts xs r p ih =>
    obtain ⟨i, r1, r2, r3, r4⟩ := r
    rw [List.any_cons, List.any_cons, r1, r3, ih]
    congr 1
    simp only [PyData.eqv]
    by_cases c : i = k
    · subst c
      rw [beq_self_eq_true, decide_eq_true rfl]
    · rw [beq_eq_false_iff_ne.mpr c, decide_eq_false (fun z => c (Sum.inl.inj z))]
theorem RI.put {ts : List Tr} {xs : List (Key × Value)} {k : Int} {v : V} {u : Value} (p : Paired RI ts xs) (r : RelV v u) : Paired RI (tput ts (.int k) (.int k) v) (stored xs (.inl k) u) := by
  unfold tput stored
  rw [RI.any p]
  by_cases c : (xs.any fun kv => decide (kv.1 = .inl k)) = true
  · rw [if_pos c, if_pos c]
    clear c
    induction p with
    | nil => exact .nil
    | @cons t x ts xs q p ih =>
      obtain ⟨i, r1, r2, r3, r4⟩ := q
      rw [List.map_cons, List.map_cons]
      refine .cons ?_ ih
      have e : PyData.eqv (.int i) (.int k) = (i == k) := by simp only [PyData.eqv]
      rw [r1, r3]
      by_cases d : i = k
      · rw [if_pos (e.trans (beq_iff_eq.mpr d)), if_pos (by rw [d])]; exact ⟨i, rfl, r2, rfl, r⟩
      · rw [if_neg (fun z => d (beq_iff_eq.mp (e.symm.trans z))), if_neg (fun z => d (Sum.inl.inj z))]; exact ⟨i, r1, r2, r3, r4⟩
  · rw [if_neg c, if_neg c]
    exact Paired.snoc p ⟨k, rfl, rfl, rfl, r⟩

/-! ### what is asked of a dict, what is put into one -/
theorem kOk_cases {ts : List Tr} {k : D} (h : kOk (ts.map (·.1)) k = true) : (∃ i, k = .int i ∧ (ts.map (·.1)).all isI = true) ∨ (isTk k = true ∧ (ts.map (·.1)).all isTk = true) := by
  unfold kOk at h
  rw [Bool.or_eq_true, Bool.and_eq_true, Bool.and_eq_true] at h
  rcases h with ⟨h1, h2⟩ | h
  · obtain ⟨i, rfl⟩ := isI_inv h1
    exact .inl ⟨i, rfl, h2⟩
  · exact .inr h
theorem tup_ref {y : V} {k : D} {u : Value} (hk : isTk k = true) (h : Dq X.K H y k) (r : RelV y u) : ∃ b, y = .ref b ∧ u = .ref b := by
  obtain ⟨⟨ds, rfl⟩, _⟩ := isTk_inv hk
  obtain ⟨b, vs, rfl, _⟩ := h.tup_inv
  exact ⟨b, rfl, r⟩
variable {a : Addr} {ts : List Tr} {y v : V} {k : D} {u r : Value} {A : Around} {E : Value → Shared → Prop}
theorem x_getItem {Q : Value → Shared → Prop} (hu : A.units + 20 < cLine) (I : Inv X pins σ H s) (g : DAt X.K H a ts) (hk : kOk (ts.map (·.1)) k = true) (dq : Dq X.K H y k) (ry : RelV y u) (hf : tfind ts k = some v)
    (h : ∀ w' s', Inv X pins σ H s' → RelV v w' → Q w' s') : wpAny (model X.prog X.w) A (getItem (.ref a) u) Q E s := by
  rcases kOk_cases hk with ⟨i, rfl, hki⟩ | ⟨hk1, hk2⟩
  · obtain ⟨xs, dd, p⟩ := g.toK I hki
    rw [dq.int_inv] at ry
    obtain ⟨t, rfl⟩ := ry
    obtain ⟨w', hw, rw'⟩ := RelO.some_of (v := v) (o := valueAt xs (.inl i)) (by rw [← hf]; exact RI.find p)
    exact wpAny_getItem_of (mixKind_int X.prog X.w i t) dd.mapOf hw (h w' _ (I.tok _) rw')
  · obtain ⟨xs, dd, p⟩ := g.toH I hk2
    obtain ⟨b, rfl, rfl⟩ := tup_ref hk1 dq ry
    obtain ⟨w', hw, rw'⟩ := RelO.some_of (v := v) (o := (atKey xs k).map (·.2)) (by rw [← hf]; exact RT.find hk1 p)
    obtain ⟨q, hp, hp2⟩ := Option.map_eq_some_iff.mp hw
    refine wpAny_getItem_heap (show A.in1.units + 10 < cLine by show A.units + 1 + 10 < cLine; omega) (show (deepKind X.prog X.w).is s.heap k b from ⟨Dq.kis I (isTk_inv hk1).2 dq rfl, (isTk_inv hk1).2⟩) dd hp ?_
    rw [hp2]
    exact h w' _ (I.tok _) rw'
theorem x_in {Q : Value → Shared → Prop} (hu : A.units + 20 < cLine) (I : Inv X pins σ H s) (g : DAt X.K H a ts) (hk : kOk (ts.map (·.1)) k = true) (dq : Dq X.K H y k) (ry : RelV y u)
    (h : ∀ s', Inv X pins σ H s' → Q (.bool (ts.any fun t => PyData.eqv t.1 k)) s') : wpAny (model X.prog X.w) A (compareOp .In u (.ref a)) Q E s := by
  obtain ⟨_, _, hd⟩ := g.typeIs I
  rcases kOk_cases hk with ⟨i, rfl, hki⟩ | ⟨hk1, hk2⟩
  · obtain ⟨xs, dd, p⟩ := g.toK I hki
    rw [dq.int_inv] at ry
    obtain ⟨t, rfl⟩ := ry
    refine wpAny_in_of (mixKind_int X.prog X.w i t) hd dd.mapOf ?_
    have e : (valueAt xs (.inl i)).isSome = (ts.any fun t => PyData.eqv t.1 (.int i)) := by
      rw [RI.any p]
      clear h dd p hk hki g
      induction xs with
      | nil => rfl
      | cons x xs ih =>
        unfold valueAt at ih ⊢
        rw [List.any_cons, List.find?_cons]
        by_cases c : x.1 = .inl i
        · rw [decide_eq_true c]; rfl
        · rw [decide_eq_false c]; exact ih
    rw [e]
    exact h _ (I.tok _)
  · obtain ⟨xs, dd, p⟩ := g.toH I hk2
    obtain ⟨b, rfl, rfl⟩ := tup_ref hk1 dq ry
    refine wpAny_in_heap (show A.in1.units + 10 < cLine by show A.units + 1 + 10 < cLine; omega) (show (deepKind X.prog X.w).is s.heap k b from ⟨Dq.kis I (isTk_inv hk1).2 dq rfl, (isTk_inv hk1).2⟩) hd dd ?_
    rw [← RT.any hk1 p]
    exact h _ (I.tok _)
theorem x_notIn {Q : Value → Shared → Prop} (hu : A.units + 20 < cLine) (I : Inv X pins σ H s) (g : DAt X.K H a ts) (hk : kOk (ts.map (·.1)) k = true) (dq : Dq X.K H y k) (ry : RelV y u)
    (h : ∀ s', Inv X pins σ H s' → Q (.bool (!ts.any fun t => PyData.eqv t.1 k)) s') : wpAny (model X.prog X.w) A (compareOp .NotIn u (.ref a)) Q E s := by
  obtain ⟨_, _, hd⟩ := g.typeIs I
  rcases kOk_cases hk with ⟨i, rfl, hki⟩ | ⟨hk1, hk2⟩
  · obtain ⟨xs, dd, p⟩ := g.toK I hki
    rw [dq.int_inv] at ry
    obtain ⟨t, rfl⟩ := ry
    refine wpAny_notIn_of (mixKind_int X.prog X.w i t) hd dd.mapOf ?_
    have e : (valueAt xs (.inl i)).isSome = (ts.any fun t => PyData.eqv t.1 (.int i)) := by
      rw [RI.any p]
      clear h dd p hk hki g
      induction xs with
      | nil => rfl
      | cons x xs ih =>
        unfold valueAt at ih ⊢
        rw [List.any_cons, List.find?_cons]
        by_cases c : x.1 = .inl i
        · rw [decide_eq_true c]; rfl
        · rw [decide_eq_false c]; exact ih
    rw [e]
    exact h _ (I.tok _)
  · obtain ⟨xs, dd, p⟩ := g.toH I hk2
    obtain ⟨b, rfl, rfl⟩ := tup_ref hk1 dq ry
    refine wpAny_notIn_heap (show A.in1.units + 10 < cLine by show A.units + 1 + 10 < cLine; omega) (show (deepKind X.prog X.w).is s.heap k b from ⟨Dq.kis I (isTk_inv hk1).2 dq rfl, (isTk_inv hk1).2⟩) hd dd ?_
    rw [← RT.any hk1 p]
    exact h _ (I.tok _)
theorem x_get1 {Q : Value → Shared → Prop} (hu : A.units + 20 < cLine) (I : Inv X pins σ H s) (g : DAt X.K H a ts) (hk : kOk (ts.map (·.1)) k = true) (dq : Dq X.K H y k) (ry : RelV y u)
    (h : ∀ w' s', Inv X pins σ H s' → RelV ((tfind ts k).getD .non) w' → Q w' s') : wpAny (model X.prog X.w) A (call (.builtin "dict.get") [.ref a, u]) Q E s := by
  obtain ⟨_, _, hd⟩ := g.typeIs I
  rcases kOk_cases hk with ⟨i, rfl, hki⟩ | ⟨hk1, hk2⟩
  · obtain ⟨xs, dd, p⟩ := g.toK I hki
    rw [dq.int_inv] at ry
    obtain ⟨t, rfl⟩ := ry
    exact call_meetsIn PySem.F.slot_dict_get dd.typeIs PySem.F.entry_dict_get (PySem.F.args_dict_get_2 _ _) (meets_dict_get (mixKind X.prog X.w) a (mixKind_int X.prog X.w i t) hd) ⟨_, dd.mapOf, h _ _ (I.tok _) ((RI.find p).getD rfl)⟩
  · obtain ⟨xs, dd, p⟩ := g.toH I hk2
    obtain ⟨b, rfl, rfl⟩ := tup_ref hk1 dq ry
    exact call_meetsIn PySem.F.slot_dict_get dd.typeIs PySem.F.entry_dict_get (PySem.F.args_dict_get_2 _ _) (meetsH_dict_get (deepKind X.prog X.w) a b hd)
      ⟨show A.in1.units + 10 < cLine by show A.units + 1 + 10 < cLine; omega, k, xs, (show (deepKind X.prog X.w).is s.heap k b from ⟨Dq.kis I (isTk_inv hk1).2 dq rfl, (isTk_inv hk1).2⟩), dd, h _ _ (I.tok _) ((RT.find hk1 p).getD rfl)⟩
theorem x_get2 {Q : Value → Shared → Prop} (hu : A.units + 20 < cLine) (I : Inv X pins σ H s) (g : DAt X.K H a ts) (hk : kOk (ts.map (·.1)) k = true) (dq : Dq X.K H y k) (ry : RelV y u) (rd : RelV v r)
    (h : ∀ w' s', Inv X pins σ H s' → RelV ((tfind ts k).getD v) w' → Q w' s') : wpAny (model X.prog X.w) A (call (.builtin "dict.get") [.ref a, u, r]) Q E s := by
  obtain ⟨_, _, hd⟩ := g.typeIs I
  rcases kOk_cases hk with ⟨i, rfl, hki⟩ | ⟨hk1, hk2⟩
  · obtain ⟨xs, dd, p⟩ := g.toK I hki
    rw [dq.int_inv] at ry
    obtain ⟨t, rfl⟩ := ry
    exact call_meetsIn PySem.F.slot_dict_get dd.typeIs PySem.F.entry_dict_get (PySem.F.args_dict_get_3 _ _ _) (meets_dict_get_default (mixKind X.prog X.w) a (mixKind_int X.prog X.w i t) hd r) ⟨_, dd.mapOf, h _ _ (I.tok _) ((RI.find p).getD rd)⟩
  · obtain ⟨xs, dd, p⟩ := g.toH I hk2
    obtain ⟨b, rfl, rfl⟩ := tup_ref hk1 dq ry
    exact call_meetsIn PySem.F.slot_dict_get dd.typeIs PySem.F.entry_dict_get (PySem.F.args_dict_get_3 _ _ _) (meetsH_dict_get_default (deepKind X.prog X.w) a b hd r)
      ⟨show A.in1.units + 10 < cLine by show A.units + 1 + 10 < cLine; omega, k, xs, (show (deepKind X.prog X.w).is s.heap k b from ⟨Dq.kis I (isTk_inv hk1).2 dq rfl, (isTk_inv hk1).2⟩), dd, h _ _ (I.tok _) ((RT.find hk1 p).getD rd)⟩
theorem length_tput (ts : List Tr) (k : D) (y v : V) : (tput ts k y v).length ≤ ts.length + 1 := by
  unfold tput
  split
  · rw [List.length_map]; omega
  · rw [List.length_append, List.length_cons, List.length_nil]; omega
theorem xO_ok {P : Program} {w : World} {H' : Hp} {h' : Heap} {o : Obj} (e : h'.get? a = some o) : ObjOk P w H' h' a (xO a o) := ⟨e, ⟨o, e⟩, fun _ _ e1 k => k o e1⟩
theorem x_setItem {Q : Unit → Shared → Prop} (hu : A.units + 20 < cLine) (I : Inv X pins σ H s) (g : DAt X.K H a ts) (hk : kOk (ts.map (·.1)) k = true) (hl : ts.length < sizeLine) (dq : Dq X.K H y k) (ry : RelV y u) (rv : RelV v r)
    (h : ∀ o s', DFc a o (tput ts k y v) → Inv X pins σ (upd H a (xO a o)) s' → Q () s') : wpAny (model X.prog X.w) A (setItem (.ref a) u r) Q E s := by
  obtain ⟨o0, hH, _, _⟩ := id g
  obtain ⟨_, _, hd⟩ := g.typeIs I
  have hz := length_tput ts k y v
  have mu : Mut (H a) := by rw [hH]; exact True.intro
  rcases kOk_cases hk with ⟨i, rfl, hki⟩ | ⟨hk1, hk2⟩
  · obtain ⟨xs, dd, p⟩ := g.toK I hki
    obtain rfl := dq.int_inv
    obtain ⟨t, rfl⟩ := ry
    refine wpAny_setItem_pairs (hsz := by rw [← Paired.length p]; omega) (mixKind_int X.prog X.w i t) dd fun h' dd' hs => ?_
    obtain ⟨o, e1, e2⟩ := of_K dd' (RI.put p rv) hd (by omega)
    exact h o _ e2 (d_write I mu hs ⟨o, e1⟩ (xO_ok e1))
  · obtain ⟨xs, dd, p⟩ := g.toH I hk2
    obtain ⟨b, rfl, rfl⟩ := tup_ref hk1 dq ry
    refine wpAny_setItem_heap (hsz := by rw [← Paired.length p]; omega) (show A.in1.units + 10 < cLine by show A.units + 1 + 10 < cLine; omega) (show (deepKind X.prog X.w).is s.heap k b from ⟨Dq.kis I (isTk_inv hk1).2 dq rfl, (isTk_inv hk1).2⟩) dd fun h' dd' hs => ?_
    obtain ⟨o, e1, e2⟩ := of_H dd' (RT.put hk1 p rv) hd (by omega)
    exact h o _ e2 (d_write I mu hs ⟨o, e1⟩ (xO_ok e1))
end
end DL

set_option Elab.async false
set_option linter.all false
set_option maxRecDepth 100000
set_option maxHeartbeats 4000000
/-! DK2: sorted lists of data of any depth. -/
namespace DL
open PySem PySem.Spec PyProof.Rows L2

abbrev leX : D → D → Bool := PySem.W.dataLe false fun d => d
theorem leX_total : PySem.W.TotalLe leX := PySem.W.sortLe_total _ _ _
theorem leX_lt (x y : D) : leX x y = !PySem.W.dataLt y x := rfl
/-- before the first that is not less -/
def insX (x : D) : List D → List D
  | [] => [x]
  | y :: ys => if PySem.W.dataLt y x = true then y :: insX x ys else x :: y :: ys
def sortX : List D → List D
  | [] => []
  | x :: xs => insX x (sortX xs)
theorem insX_perm (x : D) : ∀ l, (insX x l).Perm (x :: l)
  | [] => List.Perm.refl _
  | y :: ys => by
    unfold insX
    split
    · exact ((insX_perm x ys).cons y).trans (List.Perm.swap x y ys)
    · exact List.Perm.refl _
theorem sortX_perm : ∀ l, (sortX l).Perm l
  | [] => List.Perm.refl _
  | x :: xs => (insX_perm x _).trans ((sortX_perm xs).cons x)
theorem insX_sorted (x : D) : ∀ {l : List D}, l.Pairwise (fun a b => leX a b = true) → (insX x l).Pairwise (fun a b => leX a b = true)
  | [], _ => List.pairwise_singleton _ _
  | y :: ys, h => by
    obtain ⟨h1, h2⟩ := List.pairwise_cons.mp h
    unfold insX
    split
    · rename_i c
      refine List.pairwise_cons.mpr ⟨fun z hz => ?_, insX_sorted x h2⟩
      rcases List.mem_cons.mp ((insX_perm x ys).mem_iff.mp hz) with rfl | hz
      · rcases leX_total.total y z with q | q
        · exact q
        · rw [leX_lt, c] at q; cases q
      · exact h1 z hz
    · rename_i c
      have le : leX x y = true := by rw [leX_lt]; simpa using c
      refine List.pairwise_cons.mpr ⟨fun z hz => ?_, h⟩
      rcases List.mem_cons.mp hz with rfl | hz
      · exact le
      · exact leX_total.trans _ _ _ le (h1 z hz)
theorem sortX_sorted : ∀ l, (sortX l).Pairwise (fun a b => leX a b = true)
  | [] => List.Pairwise.nil
  | x :: xs => insX_sorted x (sortX_sorted xs)
theorem insX_filter (x c : D) : ∀ l : List D, (insX x l).filter (PySem.W.sameRank leX c) = (x :: l).filter (PySem.W.sameRank leX c)
  | [] => rfl
  | y :: ys => by
    unfold insX
    split
    · rename_i lt
      rw [List.filter_cons, insX_filter x c ys]
      by_cases hx : PySem.W.sameRank leX c x = true
      · have hy : ¬ PySem.W.sameRank leX c y = true := fun hy => by
          unfold PySem.W.sameRank at hx hy
          rw [Bool.and_eq_true] at hx hy
          have : leX x y = true := leX_total.trans _ _ _ hx.2 hy.1
          rw [leX_lt, lt] at this
          cases this
        rw [if_neg hy, List.filter_cons_of_pos hx, List.filter_cons_of_pos hx, List.filter_cons_of_neg hy]
      · rw [List.filter_cons_of_neg hx, List.filter_cons_of_neg hx, List.filter_cons]
    · rfl
theorem sortX_filter (c : D) : ∀ l : List D, (sortX l).filter (PySem.W.sameRank leX c) = l.filter (PySem.W.sameRank leX c)
  | [] => rfl
  | x :: xs => by
    unfold sortX
    rw [insX_filter, List.filter_cons, List.filter_cons, sortX_filter c xs]
theorem sortX_merge (l : List D) : sortX l = l.mergeSort leX := PySem.W.sort_unique leX_total (sortX_sorted l) fun c => sortX_filter c l

/-- every two alike; all tuples with an item at least, or none a tuple, none None -/
def alikeB (ds : List D) : Bool := ds.all fun d => ds.all fun e => PySem.W.alike d e
def someTup : D → Bool
  | .tuple (_ :: _) => true
  | _ => false
def noTup : D → Bool
  | .tuple _ => false
  | .none => false
  | _ => true
def sortOk (ds : List D) : Bool := SeqAt.shaped (.list ds) && alikeB ds && (ds.all someTup || ds.all noTup) && decide (ds.length ≤ lim)
theorem sortOk_ok {ds : List D} (h : sortOk ds = true) : SeqAt.shaped (.list ds) = true ∧ PySem.W.AllAlike ds ∧ PySem.W.Sortable ds ∧ ds.length ≤ lim := by
  unfold sortOk at h
  simp only [Bool.and_eq_true, decide_eq_true_eq] at h
  obtain ⟨⟨⟨h1, h2⟩, h3⟩, h4⟩ := h
  refine ⟨h1, fun d hd e he => List.all_eq_true.mp (List.all_eq_true.mp h2 d hd) e he, ?_, h4⟩
  rw [Bool.or_eq_true] at h3
  rcases h3 with h3 | h3
  · refine .inl fun d hd => ?_
    have := List.all_eq_true.mp h3 d hd
    cases d with
    | tuple xs =>
      cases xs with
      | nil => cases this
      | cons x r => exact ⟨x, r, rfl⟩
    | _ => cases this
  · refine .inr fun d hd => ?_
    have := List.all_eq_true.mp h3 d hd
    cases d with
    | tuple xs => cases this
    | none => cases this
    | _ => exact ⟨fun z => (nomatch z), fun _ z => (nomatch z)⟩
def rSortX (K : PySem.W.Frag) : List V → Hp → VK → Prop := fun xs H Q => ∃ a vs ds, xs = [.ref a] ∧ SqL K H a vs ∧ DpAll K H vs ds ∧ sortOk ds = true ∧
  ∀ ps : List (V × D), ps = (vs.zip ds).mergeSort (PySem.W.dataLe false fun p => p.2) → ∀ p, H p = none → Q (.ref p) (upd H p (.lst (ps.map (·.1))))
theorem eachX {X : Cx} {pins : List (Addr × Obj)} {σ : L2.St} {H : Hp} {s : Shared} (I : Inv X pins σ H s) : ∀ {vs : List V} {ds : List D} {its : List Value}, DpAll X.K H vs ds → Vals vs its → vs.length = ds.length ∧
      PySem.W.EachIs (fun (v : Value) (b : V × D) => RelV b.1 v) its (vs.zip ds) ∧ PySem.W.EachIs (fun (v : Value) (b : V × D) => ∃ as, Reads s.heap v b.2 as) its (vs.zip ds)
  | _, _, _, .nil, rv => by cases rv; exact ⟨rfl, .nil, .nil⟩
  | _, _, _, .cons a b, rv => by
    cases rv with
    | cons r1 r2 =>
      obtain ⟨e0, e1, e2⟩ := eachX I b r2
      exact ⟨by simp [e0], .cons r1 e1, .cons (Dp.reads I _ _ _ a r1) e2⟩
theorem cr_sortX {X : Cx} (hu : X.A.units + 80 < cLine) : CallR X (.builtin "sorted") (rSortX X.K) := by
  intro pins s σ H xs us Q I r h
  obtain ⟨a, vs, ds, rfl, hs, hd, ok, q⟩ := h
  obtain ⟨u, rfl, ru⟩ := vals1 r
  obtain rfl : u = Value.ref a := ru
  obtain ⟨its, rv, hl, hz⟩ := I.list hs
  obtain ⟨h1, h2, h3, h4⟩ := sortOk_ok ok
  obtain ⟨e0, e1, e2⟩ := eachX I hd rv
  have em : (vs.zip ds).map (fun p => p.2) = ds := List.map_snd_zip (by omega)
  have hlen : (vs.zip ds).length = ds.length := by rw [List.length_zip]; omega
  refine PySem.W.sorted_data (enc := fun p : V × D => p.2) (R := fun (v : Value) (b : V × D) => RelV b.1 v) hl.isList e1 e2 (by rw [em]; exact h2) (by rw [em]; exact h3) (by rw [hlen]; exact lim_le h4) (fun b hb => ?_) fun out ho he => ?_
  · have hb2 : b.2 ∈ ds := (List.of_mem_zip hb).2
    have hdep : PyData.depth (.list ds) ≤ 64 := SeqAt.depth_of_shaped h1
    have : b.2.depth ≤ PyData.depthAll ds := by
      clear h1 h2 h3 h4 ok hd e1 e2 em hlen hdep e0 q hb
      induction ds with
      | nil => exact (nomatch hb2)
      | cons x xs ih =>
        rw [PyData.depthAll]
        rcases List.mem_cons.mp hb2 with e | e
        · rw [e]; exact Nat.le_max_left _ _
        · exact Nat.le_trans (ih e) (Nat.le_max_right _ _)
    rw [PyData.depth] at hdep
    omega
  · obtain ⟨c, hc⟩ := sortedAll_at s.heap its out.toArray
    have hv : Vals (((vs.zip ds).mergeSort (PySem.W.dataLe false fun p => p.2)).map (·.1)) out := by
      generalize (vs.zip ds).mergeSort (PySem.W.dataLe false fun p => p.2) = ps at he
      clear ho hc
      induction he with
      | nil => exact .nil
      | cons r _ ih => exact .cons r ih
    refine ⟨.ref (s.heap.objs.size + 1), upd H (s.heap.objs.size + 1) (.lst (((vs.zip ds).mergeSort (PySem.W.dataLe false fun p => p.2)).map (·.1))), I.laid (t' := s.toks) (fun _ _ => sortedAll_old) (Nat.le_succ _) ⟨?_, out, c, hv, hc⟩, rfl, q _ rfl _ (I.hok.fresh (Nat.le_succ _))⟩
    rw [List.length_map, List.length_mergeSort, hlen]
    exact lim_le h4
/-! the mirror -/
def sortXC : List D → Option (List D)
  | [.list ds] => if sortOk ds = true then some (sortX ds) else none
  | _ => none
theorem dqAll_zipX {K : PySem.W.Frag} {F : Hp} : ∀ {vs : List V} {es : List D}, DqAll K F vs es → ∀ p ∈ vs.zip es, Dq K F p.1 p.2
  | _, _, .nil, p, hp => (nomatch hp)
  | _, _, .cons a b, p, hp => by
    rw [List.zip_cons_cons] at hp
    rcases List.mem_cons.mp hp with rfl | hp
    · exact a
    · exact dqAll_zipX b p hp
theorem sCN_sortX {K : PySem.W.Frag} : SdCN K (rSortX K) sortXC := by
  intro F O H xs as ds w hx e Q q
  unfold sortXC at e
  split at e
  · rename_i es
    split at e
    · rename_i ok
      cases e
      obtain ⟨v, rfl, h⟩ := one_q hx
      obtain ⟨p, vs, rfl, h1, h2⟩ := h.lst_inv
      obtain ⟨k1, k2, k3, k4⟩ := sortOk_ok ok
      have kl : PyData.canLayAll0 es = true := by simpa [PyData.canLay0] using SeqAt.canLay_of_shaped k1
      refine ⟨p, vs, es, rfl, w.l h1, DqAll.dp kl (h2.mono w.fh), ok, fun ps hps l hl => q l _ hl ?_⟩
      have key : ∀ ps : List (V × D), (∀ p ∈ ps, Dq K F p.1 p.2) → DqAll K F (ps.map (·.1)) (ps.map (·.2)) := fun ps => by
        induction ps with
        | nil => intro _; exact .nil
        | cons x xs ih => intro h; exact .cons (h x List.mem_cons_self) (ih fun p hp => h p (List.mem_cons_of_mem _ hp))
      have hz : ∀ p ∈ vs.zip es, Dq K F p.1 p.2 := dqAll_zipX h2
      have e2 : ps.map (·.2) = sortX es := by
        rw [hps, sortX_merge, PySem.W.sort_maps (r := PySem.W.dataLe false fun p : V × D => p.2) (s := leX) (fun p : V × D => p.2) (fun _ _ _ _ => rfl), List.map_snd_zip (by rw [h2.len]; exact Nat.le_refl _)]
      rw [← e2]
      refine key ps fun p hp => hz p ?_
      rw [hps] at hp
      exact (List.mergeSort_perm _ _).mem_iff.mp hp
    · cases e
  · cases e
end DL

set_option Elab.async false
set_option linter.all false
set_option maxRecDepth 100000
set_option maxHeartbeats 4000000
/-! DK3: dicts in expressions and statements. -/
namespace DL
open PySem PySem.Spec PyProof.Rows L2

/-! ### the data of a dict -/
def dfind (kvs : List (D × D)) (k : D) : Option D := (kvs.find? fun p => PyData.eqv p.1 k).map (·.2)
def dput (kvs : List (D × D)) (k v : D) : List (D × D) := if kvs.any (fun p => PyData.eqv p.1 k) = true then kvs.map (fun p => if PyData.eqv p.1 k = true then (p.1, v) else p) else kvs ++ [(k, v)]
section
variable {K : PySem.W.Frag} {F : Hp}
theorem find_q {k : D} : ∀ {ts : List Tr} {kvs : List (D × D)}, ts.map (·.1) = kvs.map (·.1) → DqAll K F (ts.map (·.2.2)) (kvs.map (·.2)) → (∀ d, dfind kvs k = some d → ∃ v, tfind ts k = some v ∧ Dq K F v d) ∧ (dfind kvs k = none → tfind ts k = none)
  | [], [], _, _ => ⟨fun d h => (nomatch h), fun _ => rfl⟩
  | [], _ :: _, h, _ => by cases h
  | _ :: _, [], h, _ => by cases h
  | t :: ts, p :: kvs, h, q => by
    rw [List.map_cons, List.map_cons] at h q
    injection h with h1 h2
    cases q with
    | cons q1 q2 =>
      have ih := find_q (k := k) h2 q2
      unfold dfind tfind at ih ⊢
      rw [List.find?_cons, List.find?_cons, h1]
      cases c : PyData.eqv p.1 k with
      | true => exact ⟨fun d e => ⟨_, rfl, by cases e; exact q1⟩, fun e => by cases e⟩
      | false => exact ih
theorem any_q {k : D} : ∀ {ts : List Tr} {kvs : List (D × D)}, ts.map (·.1) = kvs.map (·.1) → (ts.any fun t => PyData.eqv t.1 k) = kvs.any fun p => PyData.eqv p.1 k
  | [], [], _ => rfl
  | [], _ :: _, h => by cases h
  | _ :: _, [], h => by cases h
  | t :: ts, p :: kvs, h => by
    rw [List.map_cons, List.map_cons] at h
    injection h with h1 h2
    rw [List.any_cons, List.any_cons, h1, any_q h2]
theorem put_q {k d : D} {y v : V} (hk : Dq K F y k) (hv : Dq K F v d) : ∀ {ts : List Tr} {kvs : List (D × D)}, ts.map (·.1) = kvs.map (·.1) → DqAll K F (ts.map (·.2.1)) (kvs.map (·.1)) → DqAll K F (ts.map (·.2.2)) (kvs.map (·.2)) →
    (tput ts k y v).map (·.1) = (dput kvs k d).map (·.1) ∧ DqAll K F ((tput ts k y v).map (·.2.1)) ((dput kvs k d).map (·.1)) ∧ DqAll K F ((tput ts k y v).map (·.2.2)) ((dput kvs k d).map (·.2)) := by
  intro ts kvs h1 h2 h3
  unfold tput dput
  rw [any_q h1]
  split
  · have key : ∀ {ts : List Tr} {kvs : List (D × D)}, ts.map (·.1) = kvs.map (·.1) → DqAll K F (ts.map (·.2.1)) (kvs.map (·.1)) → DqAll K F (ts.map (·.2.2)) (kvs.map (·.2)) →
      (ts.map fun t => if PyData.eqv t.1 k = true then (t.1, t.2.1, v) else t).map (·.1) = (kvs.map fun p => if PyData.eqv p.1 k = true then (p.1, d) else p).map (·.1) ∧
      DqAll K F ((ts.map fun t => if PyData.eqv t.1 k = true then (t.1, t.2.1, v) else t).map (·.2.1)) ((kvs.map fun p => if PyData.eqv p.1 k = true then (p.1, d) else p).map (·.1)) ∧
      DqAll K F ((ts.map fun t => if PyData.eqv t.1 k = true then (t.1, t.2.1, v) else t).map (·.2.2)) ((kvs.map fun p => if PyData.eqv p.1 k = true then (p.1, d) else p).map (·.2)) := by
      intro ts
      induction ts with
      | nil =>
        intro kvs h1 h2 h3
        cases kvs with
        | nil => exact ⟨rfl, .nil, .nil⟩
        | cons _ _ => cases h1
      | cons t ts ih =>
        intro kvs h1 h2 h3
        cases kvs with
        | nil => cases h1
        | cons p kvs =>
          simp only [List.map_cons] at h1 h2 h3
          injection h1 with e1 e2
          cases h2 with
          | cons a1 a2 =>
            cases h3 with
            | cons b1 b2 =>
              obtain ⟨i1, i2, i3⟩ := ih e2 a2 b2
              simp only [List.map_cons]
              rw [i1]
              rw [e1]
              cases c : PyData.eqv p.1 k with
              | true =>
                refine ⟨?_, .cons a1 i2, .cons hv i3⟩
                simp [e1]
              | false =>
                refine ⟨?_, .cons a1 i2, .cons b1 i3⟩
                simp [e1]
    exact key h1 h2 h3
  · rw [List.map_append, List.map_append, List.map_append, List.map_append, List.map_append, h1]
    exact ⟨rfl, h2.append (.cons hk .nil), h3.append (.cons hv .nil)⟩
theorem dct_at {F H : Hp} {O : Om} {x : V} {kvs : List (D × D)} (w : Wk F O H) (h : Dq K F x (.dict kvs)) : ∃ a o ts, x = .ref a ∧ F a = some (xO a o) ∧ DFc a o ts ∧ DAt K H a ts ∧ ts.map (·.1) = kvs.map (·.1) ∧ DqAll K F (ts.map (·.2.1)) (kvs.map (·.1)) ∧ DqAll K F (ts.map (·.2.2)) (kvs.map (·.2)) := by
  obtain ⟨a, o, ts, rfl, h1, h2, h3, h4, h5⟩ := h.dct_inv
  exact ⟨a, o, ts, rfl, h1, h2, ⟨o, w.fh _ _ h1, h2, by rw [h3]; exact h4.mono w.fh⟩, h3, h4, h5⟩
end
theorem EnvOk.dc_at {K : PySem.W.Frag} {F H : Hp} {O : Om} {pc : Pc} {σ : L2.St} {ρ : Rho} {i : Nat} {kvs : List (D × D)} (w : Wk F O H) (e : EnvOk K F O H pc σ ρ) (h : ρ[i]? = some (.dc kvs)) :
    ∃ a o ts, σ[i]? = some (some (.ref a)) ∧ O a = some (.sl i) ∧ H a = some (xO a o) ∧ DFc a o ts ∧ DAt K H a ts ∧ ts.map (·.1) = kvs.map (·.1) ∧ DqAll K F (ts.map (·.2.1)) (kvs.map (·.1)) ∧ DqAll K F (ts.map (·.2.2)) (kvs.map (·.2)) := by
  obtain ⟨v, h1, a, o, ts, rfl, h2, h3, h4, h5, h6, h7⟩ := e.at_ i _ h
  exact ⟨a, o, ts, h1, h2, h3, h4, ⟨o, h3, h4, by rw [h5]; exact h6.mono w.fh⟩, h5, h6, h7⟩

section
variable {X : Cx}
/-! ### d[k] -/
def rXGet (K : PySem.W.Frag) : R2 := fun x y H Q => ∃ a ts k v, x = .ref a ∧ DAt K H a ts ∧ kOk (ts.map (·.1)) k = true ∧ Dq K H y k ∧ tfind ts k = some v ∧ Q v H
theorem tail_builtin {prog : Program} {w : World} {A : Around} {E : Value → Shared → Prop} {s : Shared} {value slice : Expr} {o i : Value} {T id : String} {Q : Value → Shared → Prop} (hT : s.TypeIs o T)
    (hl : typeLookup (.type T) "__getitem__" = pure (some (.builtin id))) (h : wpAny (model prog w) A (getItem o i) Q E s)
    (hs : subscripted slice false o i = operate [o, i] (getItem o i)) : wpAny (model prog w) A (subscriptTail value slice o i) Q E s := by
  unfold subscriptTail
  refine wpAny_bind ?_
  rw [getitemInPython_of_ne hT.not_modules]
  refine wpAny_bind (wpAny_specialOf hT hl ?_)
  have fin : wpAny (model prog w) A (subscripted slice false o i) (fun r s₃ => wpAny (model prog w) A (letTemporaryGo value o r >>= fun _ => pure r) Q E s₃) E s := by
    rw [hs]
    exact wpAny_operating (wpAny_mono h (fun r s₃ h₃ => wpAny_bind (wpAny_letTemporaryGo (wpAny_pure h₃))) fun _ _ x => x)
  first
    | exact wpAny_pure (wpAny_bind fin)
    | exact wpAny_bind (wpAny_pure (wpAny_bind fin))
    | exact wpAny_bind fin
theorem ix_dict (hu : X.A.units + 20 < cLine) : IxR X (rXGet X.K) := by
  intro value slice pins s σ H x y v u Q I rx ry h hs
  obtain ⟨a, ts, k, z, rfl, g, ok, dq, hf, q⟩ := h
  cases rx
  exact tail_builtin (g.typeIs I).1 PySem.F.slot_dict_getitem.lookup (x_getItem hu I g ok dq ry hf fun w' s' I' r' => ⟨z, H, I', r', q⟩) hs
def rIxA (K : PySem.W.Frag) : R2 := fun x y H Q => rIx K x y H Q ∨ rXGet K x y H Q
theorem ix_any (hu : X.A.units + 20 < cLine) : IxR X (rIxA X.K) := ix_seq.or (ix_dict hu)
def ixX (x y : D) : Option D := match x with
  | .dict kvs => if kOk (kvs.map (·.1)) y = true then dfind kvs y else none
  | _ => ixD x y
theorem s2_ixX {K : PySem.W.Frag} : Sd2 K (rIxA K) ixX := by
  intro F O H x y a b d w hx hy e Q q
  unfold ixX at e
  split at e
  · split at e
    · rename_i ok
      obtain ⟨a, o, ts, rfl, h1, h2, h3, h4, h5, h6⟩ := dct_at w hx
      obtain ⟨v, e1, e2⟩ := (find_q h4 h6).1 d e
      exact .inr ⟨a, ts, b, v, rfl, h3, by rw [h4]; exact ok, hy.mono w.fh, e1, fin0 w q e2⟩
    · cases e
  · exact .inl (s2_ix F O H x y _ b d w hx hy e Q q)
/-- d[k], d one's own -/
def odgY (i : Nat) (e : Y) : Y := fun ρ s => bO (e ρ s) fun k s1 => match ρ[i]? with
  | some (.dc kvs) => if kOk (kvs.map (·.1)) k = true then mO (dfind kvs k) fun d => some (d, s1) else none
  | _ => none
theorem sd_odg {K : PySem.W.Frag} {te : TE} {ge : Y} {i : Nat} (h : SdY K te ge) : SdY K (tOp (rIxA K) (tVar i) te) (odgY i ge) := by
  intro F O H pc σ ρ s d s' st e Q q
  obtain ⟨k, s1, e1, e⟩ := bO_some e
  split at e
  · rename_i kvs hi
    split at e
    · rename_i ok
      obtain ⟨z, e2, e⟩ := mO_some e
      cases e
      obtain ⟨a, o, ts, h1, _⟩ := st.env.dc_at st.wk hi
      refine ⟨.ref a, h1, h F O H pc σ ρ s k _ st e1 _ fun v F1 H1 n1 sr1 d1 => ?_⟩
      have w1 := n1.wk st.wk
      obtain ⟨a', o', ts', g1, g2, g3, g4, g5, g6, g7, g8⟩ := (st.ny n1 sr1).env.dc_at w1 hi
      rw [h1] at g1
      cases g1
      obtain ⟨v', e3, e4⟩ := (find_q g6 g8).1 d e2
      exact .inr ⟨a, ts', k, v', rfl, g5, by rw [g6]; exact ok, d1.mono w1.fh, e3, q v' F1 H1 n1 sr1 e4⟩
    · cases e
  · cases e

/-! ### k in d, k not in d -/
def rXIn (K : PySem.W.Frag) (neg : Bool) : R2 := fun y x H Q => ∃ a ts k, x = .ref a ∧ DAt K H a ts ∧ kOk (ts.map (·.1)) k = true ∧ Dq K H y k ∧ Q (.bl (if neg then !ts.any fun t => PyData.eqv t.1 k else ts.any fun t => PyData.eqv t.1 k)) H
def rInX (K : PySem.W.Frag) (neg : Bool) : R2 := fun x y H Q => rInA K neg x y H Q ∨ rXIn K neg x y H Q
theorem op_inX (hu : X.A.units + 65 < cLine) : OpR X (compareOp .In) (rInX X.K false) := opr_or (op_inA hu) (by
  intro pins s σ H x y v u Q I rx ry h
  obtain ⟨a, ts, k, rfl, g, ok, dq, q⟩ := h
  cases ry
  exact x_in (by omega) I g ok dq rx fun s' I' => ⟨.bl _, H, I', rfl, q⟩)
theorem op_notInX (hu : X.A.units + 65 < cLine) : OpR X (compareOp .NotIn) (rInX X.K true) := opr_or (op_notInA hu) (by
  intro pins s σ H x y v u Q I rx ry h
  obtain ⟨a, ts, k, rfl, g, ok, dq, q⟩ := h
  cases ry
  exact x_notIn (by omega) I g ok dq rx fun s' I' => ⟨.bl _, H, I', rfl, q⟩)
def inX (neg : Bool) (x y : D) : Option D := match y with
  | .dict kvs => if kOk (kvs.map (·.1)) x = true then some (.bool (if neg then !kvs.any fun p => PyData.eqv p.1 x else kvs.any fun p => PyData.eqv p.1 x)) else none
  | _ => inD neg x y
theorem s2_inX {K : PySem.W.Frag} {neg : Bool} : Sd2 K (rInX K neg) (inX neg) := by
  intro F O H x y a b d w hx hy e Q q
  unfold inX at e
  split at e
  · split at e
    · rename_i ok
      cases e
      obtain ⟨a', o, ts, rfl, h1, h2, h3, h4, h5, h6⟩ := dct_at w hy
      refine .inr ⟨a', ts, a, rfl, h3, by rw [h4]; exact ok, hx.mono w.fh, ?_⟩
      rw [any_q h4]
      exact fin0 w q (.bl _)
    · cases e
  · exact .inl (s2_in F O H x y a _ d w hx hy e Q q)

/-! ### d.get(k), d.get(k, x) -/
def tXGet1 (K : PySem.W.Frag) (td ty : TE) : TE := fun σ H Q => td σ H fun x H1 => ∃ a, x = .ref a ∧ (∃ ts, DAt K H1 a ts) ∧ ty σ H1 fun y H2 => ∃ ts k, DAt K H2 a ts ∧ kOk (ts.map (·.1)) k = true ∧ Dq K H2 y k ∧ Q ((tfind ts k).getD .non) H2
def tXGet2 (K : PySem.W.Frag) (td ty tx : TE) : TE := fun σ H Q => td σ H fun x H1 => ∃ a, x = .ref a ∧ (∃ ts, DAt K H1 a ts) ∧ ty σ H1 fun y H2 => tx σ H2 fun z H3 => ∃ ts k, DAt K H3 a ts ∧ kOk (ts.map (·.1)) k = true ∧ Dq K H3 y k ∧ Q ((tfind ts k).getD z) H3
variable {o e f : Expr} {apos cpos : Pos} {td ty tx : TE}
theorem pe_xget1 (hu : X.A.units + 20 < cLine) (ho : PE X o td) (he : PE X e ty) (m : M1 X o "get" apos e cpos) : PE X (.Call (.Attribute o "get" apos) [e] [] cpos) (tXGet1 X.K td ty) := by
  refine ⟨fun pins s σ H Q I h => ?_⟩
  refine wpAny_Call_method m.base m.few m.line PySem.F.plainAttrs_dict PySem.F.slot_dict_get PySem.F.type_dict_get (thn (ho.run pins s σ H _ I h) fun u s1 ⟨x, H1, I1, rx, a, ex, ⟨ts0, g0⟩, q1⟩ => ?_)
  subst ex
  obtain rfl : u = Value.ref a := rx
  obtain ⟨t1, t2, _⟩ := g0.typeIs I1
  refine ⟨t1, t2, ?_⟩
  rw [m.trees]
  refine Calls.callWith_builtin rfl (Calls.evalArgs_plain (Calls.spliced_cons (thn (he.run pins s1 σ H1 _ I1 q1) fun iv s2 ⟨y, H2, I2, ry, ts, k, g, ok, dq, q2⟩ => Calls.spliced_nil ?_)))
  exact x_get1 hu I2 g ok dq ry fun w' s3 I3 rw' => ⟨_, H2, I3, rw', q2⟩
theorem pe_xget2 (hu : X.A.units + 20 < cLine) (ho : PE X o td) (he : PE X e ty) (hf : PE X f tx) (m : M2 X o "get" apos e f cpos) : PE X (.Call (.Attribute o "get" apos) [e, f] [] cpos) (tXGet2 X.K td ty tx) := by
  refine ⟨fun pins s σ H Q I h => ?_⟩
  refine wpAny_Call_method m.base m.few m.line PySem.F.plainAttrs_dict PySem.F.slot_dict_get PySem.F.type_dict_get (thn (ho.run pins s σ H _ I h) fun u s1 ⟨x, H1, I1, rx, a, ex, ⟨ts0, g0⟩, q1⟩ => ?_)
  subst ex
  obtain rfl : u = Value.ref a := rx
  obtain ⟨t1, t2, _⟩ := g0.typeIs I1
  refine ⟨t1, t2, ?_⟩
  rw [m.trees]
  refine Calls.callWith_builtin rfl (Calls.evalArgs_plain (Calls.spliced_cons (thn (he.run pins s1 σ H1 _ I1 q1) fun iv s2 ⟨y, H2, I2, ry, q2⟩ =>
    Calls.spliced_cons (thn (hf.run pins s2 σ H2 _ I2 q2) fun fv s3 ⟨z, H3, I3, rz, ts, k, g, ok, dq, q3⟩ => Calls.spliced_nil ?_))))
  exact x_get2 hu I3 g ok dq ry rz fun w' s4 I4 rw' => ⟨_, H3, I4, rw', q3⟩
def get1X (x k : D) : Option D := match x with
  | .dict kvs => if kOk (kvs.map (·.1)) k = true then some ((dfind kvs k).getD .none) else none
  | _ => none
theorem getD_q {K : PySem.W.Frag} {F : Hp} {ts : List Tr} {kvs : List (D × D)} {k d : D} {v : V} (h1 : ts.map (·.1) = kvs.map (·.1)) (h2 : DqAll K F (ts.map (·.2.2)) (kvs.map (·.2))) (hv : Dq K F v d) : Dq K F ((tfind ts k).getD v) ((dfind kvs k).getD d) := by
  cases c : dfind kvs k with
  | none => rw [(find_q h1 h2).2 c]; exact hv
  | some z =>
    obtain ⟨v', e1, e2⟩ := (find_q h1 h2).1 z c
    rw [e1]
    exact e2
variable {K : PySem.W.Frag} {ta tb tc : TE} {ga gb gc : Y}
theorem sd_get1 (ha : SdY K ta ga) (hb : SdY K tb gb) : SdY K (tXGet1 K ta tb) (y2 get1X ga gb) := by
  intro F O H pc σ ρ s d s' st h Q q
  obtain ⟨x, s1, e1, h⟩ := bO_some h
  obtain ⟨y, s2, e2, h⟩ := bO_some h
  obtain ⟨z, e3, h⟩ := mO_some h
  cases h
  refine ha F O H pc σ ρ s x s1 st e1 _ fun v F1 H1 n1 sr1 d1 => ?_
  unfold get1X at e3
  split at e3
  · split at e3
    · rename_i ok
      cases e3
      have w1 := n1.wk st.wk
      obtain ⟨a, o, ts, rfl, h1, h2, h3, h4, h5, h6⟩ := dct_at w1 d1
      refine ⟨a, rfl, ⟨ts, h3⟩, hb F1 O H1 pc σ ρ s1 y _ (st.ny n1 sr1) e2 _ fun u F2 H2 n2 sr2 d2 => ?_⟩
      have w2 := n2.wk w1
      obtain ⟨a', o', ts', ea, g1, g2, g3, g4, g5, g6⟩ := dct_at w2 (d1.mono n2.ff)
      cases ea
      exact ⟨ts', y, g3, by rw [g4]; exact ok, d2.mono w2.fh, q _ F2 H2 (n1.trans n2) sr2 (getD_q g4 g6 .non)⟩
    · cases e3
  · cases e3
/-- d.get(k, x) -/
def get2Y (a b c : Y) : Y := fun ρ s => bO (a ρ s) fun x s1 => bO (b ρ s1) fun k s2 => bO (c ρ s2) fun z s3 => match x with
  | .dict kvs => if kOk (kvs.map (·.1)) k = true then some ((dfind kvs k).getD z, s3) else none
  | _ => none
theorem sd_get2 (ha : SdY K ta ga) (hb : SdY K tb gb) (hc : SdY K tc gc) : SdY K (tXGet2 K ta tb tc) (get2Y ga gb gc) := by
  intro F O H pc σ ρ s d s' st h Q q
  obtain ⟨x, s1, e1, h⟩ := bO_some h
  obtain ⟨y, s2, e2, h⟩ := bO_some h
  obtain ⟨z, s3, e3, h⟩ := bO_some h
  refine ha F O H pc σ ρ s x s1 st e1 _ fun v F1 H1 n1 sr1 d1 => ?_
  split at h
  · split at h
    · rename_i ok
      cases h
      have w1 := n1.wk st.wk
      obtain ⟨a, o, ts, rfl, h1, h2, h3, h4, h5, h6⟩ := dct_at w1 d1
      refine ⟨a, rfl, ⟨ts, h3⟩, hb F1 O H1 pc σ ρ s1 y _ (st.ny n1 sr1) e2 _ fun u F2 H2 n2 sr2 d2 => ?_⟩
      have w2 := n2.wk w1
      refine hc F2 O H2 pc σ ρ s2 z _ ((st.ny n1 sr1).ny n2 sr2) e3 _ fun u3 F3 H3 n3 sr3 d3 => ?_
      have w3 := n3.wk w2
      obtain ⟨a', o', ts', ea, g1, g2, g3, g4, g5, g6⟩ := dct_at w3 ((d1.mono n2.ff).mono n3.ff)
      cases ea
      exact ⟨ts', y, g3, by rw [g4]; exact ok, (d2.mono n3.ff).mono w3.fh, q _ F3 H3 ((n1.trans n2).trans n3) sr3 (getD_q g4 g6 d3)⟩
    · cases h
  · cases h
/-- d.get(k, x), d one's own -/
def oget2Y (i : Nat) (b c : Y) : Y := fun ρ s => bO (b ρ s) fun k s2 => bO (c ρ s2) fun z s3 => match ρ[i]? with
  | some (.dc kvs) => if kOk (kvs.map (·.1)) k = true then some ((dfind kvs k).getD z, s3) else none
  | _ => none
theorem sd_oget2 {i : Nat} (hb : SdY K tb gb) (hc : SdY K tc gc) : SdY K (tXGet2 K (tVar i) tb tc) (oget2Y i gb gc) := by
  intro F O H pc σ ρ s d s' st h Q q
  obtain ⟨y, s2, e2, h⟩ := bO_some h
  obtain ⟨z, s3, e3, h⟩ := bO_some h
  split at h
  · rename_i kvs hi
    split at h
    · rename_i ok
      cases h
      obtain ⟨a, o, ts, h1, h2, h3, h4, h5, h6, h7, h8⟩ := st.env.dc_at st.wk hi
      refine ⟨.ref a, h1, a, rfl, ⟨ts, h5⟩, hb F O H pc σ ρ s y _ st e2 _ fun u F2 H2 n2 sr2 d2 => ?_⟩
      have w2 := n2.wk st.wk
      refine hc F2 O H2 pc σ ρ s2 z _ (st.ny n2 sr2) e3 _ fun u3 F3 H3 n3 sr3 d3 => ?_
      have w3 := n3.wk w2
      obtain ⟨a', o', ts', g1, g2, g3, g4, g5, g6, g7, g8⟩ := ((st.ny n2 sr2).ny n3 sr3).env.dc_at w3 hi
      rw [h1] at g1
      cases g1
      exact ⟨ts', y, g5, by rw [g6]; exact ok, (d2.mono n3.ff).mono w3.fh, q _ F3 H3 (n2.trans n3) sr3 (getD_q g6 g8 d3)⟩
    · cases h
  · cases h
end
end DL

set_option Elab.async false
set_option linter.all false
set_option maxRecDepth 100000
set_option maxHeartbeats 4000000
/-! DK4: new dicts, stores, walks over dicts. -/
namespace DL
open PySem PySem.Spec PyProof.Rows L2

/-! ### {} -/
def tXNew : TE := fun _ H Q => ∀ p o, H p = none → DFc p o [] → Q (.ref p) (upd H p (xO p o))
theorem new_dfc {p : Addr} (h : (p == sysModules) = false) : DFc p { cls := .type "dict", data := .dict #[] } [] :=
  ⟨h, ⟨rfl, rfl, rfl⟩, ⟨#[], 0, rfl, .nil⟩, Nat.zero_le _, List.nodup_nil, .inl rfl⟩
section
variable {X : Cx} {pos : Pos}
theorem pe_xnew : PE X (.Dict [] [] pos) tXNew := ⟨fun pins s σ H Q I h => by
  have hn : (s.heap.objs.size == sysModules) = false := beq_eq_false_iff_ne.mpr (Nat.ne_of_gt I.big)
  exact wpAny_Dict_empty ⟨.ref s.heap.objs.size, _, I.laid (a := s.heap.objs.size) (o := xO s.heap.objs.size { cls := .type "dict", data := .dict #[] }) (t' := s.toks) (fun _ _ q => Heap.get?_push_of_some _ q) (Nat.le_refl _) (xO_ok (Heap.get?_push_size _ rfl)), rfl,
    h _ _ (I.hok.fresh (Nat.le_refl _)) (new_dfc hn)⟩⟩
end
/-- an expression that makes a new dict -/
abbrev Yd := Rho → Src → Option (List (D × D) × Src)
def SdD (K : PySem.W.Frag) (t : TE) (g : Yd) : Prop := ∀ F O H pc σ ρ s kvs s', Stt K F O H pc σ ρ s → g ρ s = some (kvs, s') → ∀ Q : VK,
  (∀ p o ts F' H', Ny O F H F' H' → SrcOk O H' pc s' → H p = none → F' p = none → H' p = some (xO p o) → DFc p o ts → ts.map (·.1) = kvs.map (·.1) → DqAll K F' (ts.map (·.2.1)) (kvs.map (·.1)) → DqAll K F' (ts.map (·.2.2)) (kvs.map (·.2)) → Q (.ref p) H') → t σ H Q
def newD : Yd := fun _ s => some ([], s)
section
variable {K : PySem.W.Frag} {te : TE}
theorem dd_new : SdD K tXNew newD := by
  intro F O H pc σ ρ s kvs s' st e Q q p o hp dc
  cases e
  have hF := st.wk.nF hp
  exact q p o [] F _ (Ny.pure st.wk (same_new hp) (Same.refl _) (st.wk.fh.trans (same_new hp)) fun _ _ h => .inl h) (st.src.same (same_new hp)) hp hF upd_same dc rfl .nil .nil
def dcU (g : Yd) : Yu := fun ρ s => bO (g ρ s) fun kvs s1 => some (.dc kvs, s1)
theorem su_dc {g : Yd} (h : SdD K te g) : SdU K te (dcU g) := by
  intro F O H pc σ ρ s sl s' st e Q q
  obtain ⟨x, s1, e1, e⟩ := bO_some e
  cases e
  refine h F O H pc σ ρ s x _ st e1 _ fun p o ts F1 H1 n1 sr1 hp hF hH h1 h2 h3 h4 => q (.ref p) F1 H1 [p] n1 sr1 (fun a z => ?_) ⟨p, o, ts, rfl, rfl, hH, h1, h2, h3, h4⟩
  rw [List.mem_singleton.mp z]
  exact ⟨hp, st.wk.nO hp, hF, by rw [hH]; exact fun z => nomatch z⟩
/-- a new dict as a value that no one changes -/
def frD (g : Yd) : Y := fun ρ s => bO (g ρ s) fun kvs s1 => some (.dict kvs, s1)
theorem sd_frD {g : Yd} (ha : SdD K te g) : SdY K te (frD g) := by
  intro F O H pc σ ρ s d s' st h Q q
  obtain ⟨x, s1, e1, h⟩ := bO_some h
  cases h
  refine ha F O H pc σ ρ s x _ st e1 _ fun p o ts F1 H1 n1 sr1 hp hF hH h1 h2 h3 h4 => ?_
  have e : Same F1 (upd F1 p (xO p o)) := same_new hF
  refine q (.ref p) (upd F1 p (xO p o)) H1 ⟨n1.ff.trans e, fun a o z => ?_, n1.own, n1.unown, n1.dom, fun a o z => ?_⟩ sr1 (.dct upd_same h1 h2 (h3.mono e) (h4.mono e))
  · by_cases ha : a = p
    · subst ha; rw [upd_same] at z; cases z; exact hH
    · rw [upd_ne ha] at z; exact n1.fh _ _ z
  · by_cases ha : a = p
    · subst ha; exact .inr hp
    · rw [upd_ne ha] at z; exact n1.new _ _ z
end

/-! ### d[k] = v -/
def rSetX (K : PySem.W.Frag) : TSet := fun o y v H Q => ∃ a ts k, o = .ref a ∧ DAt K H a ts ∧ kOk (ts.map (·.1)) k = true ∧ ts.length < sizeLine ∧ Dq K H y k ∧ ∀ ob, DFc a ob (tput ts k y v) → Q (upd H a (xO a ob))
theorem set_dict {X : Cx} (hu : X.A.units + 20 < cLine) : PSet X (rSetX X.K) := by
  intro pins s σ H o y v ov iv u Q I ro ri rv h
  obtain ⟨a, ts, k, rfl, g, ok, hl, dq, q⟩ := h
  cases ro
  exact x_setItem hu I g ok hl dq ri rv fun ob s' dc I' => ⟨_, I', q ob dc⟩
section
variable {K : PySem.W.Frag} {te : TE} {ge : Y}
theorem own_updD {F H : Hp} {O : Om} {pc : Pc} {σ : L2.St} {ρ : Rho} {s : Src} {i : Nat} {q : Addr} {o : Obj} {ts : List Tr} {kvs : List (D × D)} (st : Stt K F O H pc σ ρ s) (h1 : σ[i]? = some (some (.ref q))) (h2 : O q = some (.sl i))
    (h4 : DFc q o ts) (h5 : ts.map (·.1) = kvs.map (·.1)) (h6 : DqAll K F (ts.map (·.2.1)) (kvs.map (·.1))) (h7 : DqAll K F (ts.map (·.2.2)) (kvs.map (·.2))) :
    Sq F O H F O (upd H q (xO q o)) ∧ Stt K F O (upd H q (xO q o)) pc σ (ρ.set i (.dc kvs)) s := by
  have hn : O q ≠ none := by rw [h2]; exact fun z => nomatch z
  have hF := st.wk.fo q hn
  refine ⟨⟨Same.refl _, fun a o e1 e2 => ⟨?_, e2⟩, fun a e => ?_, fun _ e => e, fun _ _ e => .inl e⟩, ⟨⟨fun a o e => ?_, st.wk.fo, fun a e => ?_⟩, ⟨?_, fun j sl hj => ?_⟩, ?_⟩⟩
  · rw [upd_ne (fun z => hn (by rw [← z]; exact e2))]; exact e1
  · by_cases ha : a = q
    · rw [ha, upd_same]; exact fun z => nomatch z
    · rw [upd_ne ha]; exact e
  · rw [upd_ne (fun z => by rw [z, hF] at e; cases e)]; exact st.wk.fh a o e
  · by_cases ha : a = q
    · rw [ha, upd_same]; exact fun z => nomatch z
    · rw [upd_ne ha]; exact st.wk.oh a e
  · rw [List.length_set]; exact st.env.len
  · by_cases hij : i = j
    · subst hij
      by_cases hl : i < ρ.length
      · rw [List.getElem?_set_self hl] at hj
        cases hj
        exact ⟨_, h1, q, o, ts, rfl, h2, upd_same, h4, h5, h6, h7⟩
      · rw [List.getElem?_eq_none (by rw [List.length_set]; omega)] at hj
        cases hj
    · rw [List.getElem?_set_ne hij] at hj
      obtain ⟨v, k1, k2⟩ := st.env.at_ j sl hj
      exact ⟨v, k1, slot_keep h2 (fun z => hij z.symm) k2⟩
  · have hs := st.src
    obtain ⟨ps, al⟩ := pc
    cases ps with
    | none => exact hs
    | some pc =>
      obtain ⟨a, c⟩ := pc
      obtain ⟨k1, k2, k3, k4, k5⟩ := hs
      exact ⟨k1, k2, by rw [upd_ne (fun z => by rw [z, h2] at k1; cases k1)]; exact k3, by rw [upd_ne (fun z => by rw [z, h2] at k2; cases k2)]; exact k4, k5⟩
def subX (i : Nat) (g : Y) : Tg := fun d ρ s => bO (g ρ s) fun k s1 => match ρ[i]? with
  | some (.dc kvs) => if kOk (kvs.map (·.1)) k = true ∧ kvs.length < lim then some (ρ.set i (.dc (dput kvs k d)), s1) else none
  | _ => none
theorem sg_subX {i : Nat} (h : SdY K te ge) : SdG K (gSub (tVar i) te (rSetX K)) (subX i ge) := by
  intro F O H pc σ ρ s d v ρ' s' st hd e Q q
  obtain ⟨k, s1, e1, e⟩ := bO_some e
  split at e
  · rename_i kvs hi
    split at e
    · rename_i ok
      cases e
      obtain ⟨a, o, ts, h1, _⟩ := st.env.dc_at st.wk hi
      refine ⟨.ref a, h1, h F O H pc σ ρ s k _ st e1 _ fun y F1 H1 n1 sr1 d1 => ?_⟩
      have st1 := st.ny n1 sr1
      have w1 := n1.wk st.wk
      obtain ⟨a', o', ts', g1, g2, g3, g4, g5, g6, g7, g8⟩ := st1.env.dc_at w1 hi
      rw [h1] at g1
      cases g1
      have hlen : ts'.length = kvs.length := by
        have := congrArg List.length g6
        rwa [List.length_map, List.length_map] at this
      refine ⟨a, ts', k, rfl, g5, by rw [g6]; exact ok.1, lim_lt (by rw [hlen]; exact ok.2), d1.mono w1.fh, fun ob dc => ?_⟩
      obtain ⟨p1, p2, p3⟩ := put_q d1 (hd.mono n1.ff) g6 g7 g8
      obtain ⟨q2, st2⟩ := own_updD st1 h1 g2 dc p1 p2 p3
      exact q _ F1 O _ (n1.sq.trans q2) st2
    · cases e
  · cases e
/-! d[k] op= e, ints -/
def rGetX (K : PySem.W.Frag) : V → V → Hp → VK → Prop := fun x y H Q => ∃ a ts k v, x = .ref a ∧ DAt K H a ts ∧ kOk (ts.map (·.1)) k = true ∧ Dq K H y k ∧ tfind ts k = some v ∧ Q v H
theorem get_dict {X : Cx} (hu : X.A.units + 20 < cLine) : PGet X (rGetX X.K) := by
  intro pins s σ H o y ov iv Q I ro ri h
  obtain ⟨a, ts, k, z, rfl, g, ok, dq, hf, q⟩ := h
  cases ro
  exact x_getItem hu I g ok dq ri hf fun w' s' I' r' => ⟨z, H, I', r', q⟩
def augXD (f : Int → Int → Int) (i : Nat) (gb ge : Y) : Z := fun ρ s => bO (gb ρ s) fun k s1 => match ρ[i]? with
  | some (.dc kvs) => if kOk (kvs.map (·.1)) k = true ∧ kvs.length < lim then (match dfind kvs k with
    | some (.int a) => bO (ge ρ s1) fun d s2 => match d with
      | .int b => some (.nx (ρ.set i (.dc (dput kvs k (.int (f a b))))), s2)
      | _ => none
    | _ => none) else none
  | _ => none
theorem ss_augXD {i : Nat} {f : Int → Int → Int} {tb : TE} {gb : Y} (hb : SdY K tb gb) (he : SdY K te ge) : SdS K (tAugS (tVar i) tb te (rGetX K) (ipI f) (rSetX K)) (augXD f i gb ge) := by
  intro F O H pc σ ρ s fl s' st e Dn kk
  obtain ⟨k, s1, e1, e⟩ := bO_some e
  split at e
  · rename_i kvs hi
    split at e
    · rename_i ok
      split at e
      · rename_i av hf
        obtain ⟨d, s2, e2, e⟩ := bO_some e
        split at e
        · rename_i bv
          cases e
          obtain ⟨a, o, ts, h1, _⟩ := st.env.dc_at st.wk hi
          refine ⟨.ref a, h1, hb F O H pc σ ρ s k _ st e1 _ fun y F1 H1 n1 sr1 d1 => ?_⟩
          have st1 := st.ny n1 sr1
          have w1 := n1.wk st.wk
          obtain ⟨a', o', ts', g1, g2, g3, g4, g5, g6, g7, g8⟩ := st1.env.dc_at w1 hi
          rw [h1] at g1
          cases g1
          obtain ⟨v', e3, e4⟩ := (find_q g6 g8).1 _ hf
          refine ⟨a, ts', k, v', rfl, g5, by rw [g6]; exact ok.1, d1.mono w1.fh, e3, ?_⟩
          refine he F1 O H1 pc σ ρ s1 _ _ st1 e2 _ fun u F2 H2 n2 sr2 d2 => ?_
          have st2 := st1.ny n2 sr2
          have w2 := n2.wk w1
          obtain ⟨a', o', ts2, g1, g2, g3, g4, g5, g6, g7, g8⟩ := st2.env.dc_at w2 hi
          rw [h1] at g1
          cases g1
          have hlen : ts2.length = kvs.length := by
            have := congrArg List.length g6
            rwa [List.length_map, List.length_map] at this
          refine ⟨av, bv, e4.int_inv, d2.int_inv, a, ts2, k, rfl, g5, by rw [g6]; exact ok.1, lim_lt (by rw [hlen]; exact ok.2), (d1.mono n2.ff).mono w2.fh, fun ob dc => ?_⟩
          obtain ⟨p1, p2, p3⟩ := put_q (d1.mono n2.ff) (.int (f av bv)) g6 g7 g8
          obtain ⟨q2, st3⟩ := own_updD st2 h1 g2 dc p1 p2 p3
          exact kk _ F2 O _ pc ((n1.sq.trans n2.sq).trans q2) (PcLe.refl _) st3
        · cases e
      · cases e
    · cases e
  · cases e
end

/-! ### walks -/
theorem DFc.raw {h : Heap} {a : Addr} {o : Obj} {ts : List Tr} (d : DFc a o ts) (e : h.get? a = some o) : ∃ es ep, o.data = .dict es ep ∧ h.DictRaw a es ep ∧ es.size = ts.length ∧
    ∀ (i : Nat) (hi : i < es.size), ∃ t, ts[i]? = some t ∧ RelV t.2.1 es[i].key ∧ RelV t.2.2 es[i].val := by
  obtain ⟨es, ep, hd, hp⟩ := d.dat
  have hl : ts.length = es.size := by rw [Paired.length hp, Array.length_toList]
  refine ⟨es, ep, hd, ⟨o, e, d.ex, hd⟩, hl.symm, fun i hi => ?_⟩
  have key : ∀ {ts : List Tr} {el : List DictEntry}, Paired (fun (t : Tr) (e : DictEntry) => e.hash = hashD t.1 ∧ RelV t.2.1 e.key ∧ RelV t.2.2 e.val) ts el → ∀ (i : Nat) (en : DictEntry), el[i]? = some en → ∃ t : Tr, ts[i]? = some t ∧ RelV t.2.1 en.key ∧ RelV t.2.2 en.val := by
    intro ts el p
    induction p with
    | nil => intro i en h; simp at h
    | cons r _ ih =>
      intro i en h
      cases i with
      | zero =>
        simp only [List.getElem?_cons_zero, Option.some.injEq] at h
        subst h
        exact ⟨_, rfl, r.2.1, r.2.2⟩
      | succ i => exact ih i en (by simpa using h)
  exact key hp i es[i] (by rw [Array.getElem?_toList]; exact Array.getElem?_eq_getElem hi)
def ItXk (a : Addr) (o : Obj) (ts : List Tr) : It :=
  ⟨fun i H => H a = some (xO a o) ∧ i < ts.length, fun i H x H' => H' = H ∧ (ts.map (·.2.1))[i]? = some x, fun i H => H a = some (xO a o) ∧ ts.length ≤ i⟩
def ItXv (a : Addr) (o : Obj) (ts : List Tr) : It :=
  ⟨fun i H => H a = some (xO a o) ∧ i < ts.length, fun i H x H' => H' = H ∧ (ts.map (·.2.2))[i]? = some x, fun i H => H a = some (xO a o) ∧ ts.length ≤ i⟩
def ItXi (a : Addr) (o : Obj) (ts : List Tr) : It :=
  ⟨fun i H => H a = some (xO a o) ∧ i < ts.length, fun i H x H' => ∃ T k v, (ts.map (·.2.1))[i]? = some k ∧ (ts.map (·.2.2))[i]? = some v ∧ x = .ref T ∧ H T = none ∧ H' = upd H T (.tup [k, v]), fun i H => H a = some (xO a o) ∧ ts.length ≤ i⟩
section
variable {P : Program} {w : World} {K : PySem.W.Frag} {tg : Expr} {a : Addr} {o : Obj} {es : Array DictEntry} {ep : Nat} {ts : List Tr}
theorem turn_keysX (it : Addr) (dc : DFc a o ts) (hod : o.data = .dict es ep) : Turn P w K tg (ItXk a o ts) [it] it (fun i h => h.IsKeyIter it a i es.size ep) where
  mem := by simp
  obj := fun i h st b hb => by
    have e : b = it := by simpa using hb
    subst e
    obtain ⟨oi, e, c, dd⟩ := st
    exact ⟨oi, e, fun v z => by rw [dd] at z; cases z⟩
  keep := fun i h h' st k => st.at fun oi e => k it (by simp) oi e
  item := by
    intro X hP hw hK hc i pins s σ H E I hf st hg
    subst hP hw hK
    obtain ⟨hd, hi⟩ := hg
    obtain ⟨f0, f1, f2, f3, f4, f5⟩ := hf it (by simp)
    obtain ⟨es', ep', hdt, raw, hsz, ent⟩ := dc.raw (I.hok a _ hd).1
    obtain ⟨rfl, rfl⟩ := dict_ep hdt hod
    have hlt : i < es.size := by rw [hsz]; exact hi
    obtain ⟨t, ht, r1, r2⟩ := ent i hlt
    refine wpAny_pyNext_keys_item_raw st raw hlt fun h' st' sb => ?_
    have I1 : Inv X pins σ H { s with heap := h' } := I.turned (t' := s.toks) (fun b ob hb e => (sb.2 b hb).trans e) f0 f1 f3 f4 f5
    obtain ⟨oi, e, c, dd⟩ := id st'
    exact ⟨_, rfl, go_of (s := { s with heap := h' }) e c dd (by decide) ⟨t.2.1, H, I1, r1, ⟨rfl, by rw [List.getElem?_map, ht]; rfl⟩, st', fun b hb => (hf b hb).1⟩⟩
  done := by
    intro X hP hw hK hc i pins s σ H E I hf st hg
    subst hP hw hK
    obtain ⟨hd, hi⟩ := hg
    obtain ⟨f0, f1, f2, f3, f4, f5⟩ := hf it (by simp)
    obtain ⟨es', ep', hdt, raw, hsz, ent⟩ := dc.raw (I.hok a _ hd).1
    obtain ⟨rfl, rfl⟩ := dict_ep hdt hod
    exact wpAny_pyNext_keys_end_raw (I.ok.hd hc) st raw (by rw [hsz]; exact hi) fun h' eb => ⟨rfl, I.turned (t' := s.toks) (fun b ob hb e => eb b ob hb e) f0 f1 f3 f4 f5⟩
  self := fun A i s Q E st h => by
    refine wpAny_pyIter_slot st.typeIs F.slot_dict_keyiterator_iter (wpAny_call_entry F.slot_dict_keyiterator_iter st.typeIs F.entry_dict_keyiterator_iter ?_ (F.args_dict_keyiterator_iter_1 _))
    show wpAny _ _ (ret (.ref it)) _ _ s
    exact wpAny_pure ⟨_, rfl, "dict_keyiterator", _, st.typeIs, F.slot_dict_keyiterator_next.lookup, h⟩
theorem turn_valsX (it : Addr) (dc : DFc a o ts) (hod : o.data = .dict es ep) : Turn P w K tg (ItXv a o ts) [it] it (fun i h => h.IsValIter it a i es.size ep) where
  mem := by simp
  obj := fun i h st b hb => by
    have e : b = it := by simpa using hb
    subst e
    obtain ⟨oi, e, c, dd⟩ := st
    exact ⟨oi, e, fun v z => by rw [dd] at z; cases z⟩
  keep := fun i h h' st k => st.at fun oi e => k it (by simp) oi e
  item := by
    intro X hP hw hK hc i pins s σ H E I hf st hg
    subst hP hw hK
    obtain ⟨hd, hi⟩ := hg
    obtain ⟨f0, f1, f2, f3, f4, f5⟩ := hf it (by simp)
    obtain ⟨es', ep', hdt, raw, hsz, ent⟩ := dc.raw (I.hok a _ hd).1
    obtain ⟨rfl, rfl⟩ := dict_ep hdt hod
    have hlt : i < es.size := by rw [hsz]; exact hi
    obtain ⟨t, ht, r1, r2⟩ := ent i hlt
    refine wpAny_pyNext_values_item_raw st raw hlt fun h' st' sb => ?_
    have I1 : Inv X pins σ H { s with heap := h' } := I.turned (t' := s.toks) (fun b ob hb e => (sb.2 b hb).trans e) f0 f1 f3 f4 f5
    obtain ⟨oi, e, c, dd⟩ := id st'
    exact ⟨_, rfl, go_of (s := { s with heap := h' }) e c dd (by decide) ⟨t.2.2, H, I1, r2, ⟨rfl, by rw [List.getElem?_map, ht]; rfl⟩, st', fun b hb => (hf b hb).1⟩⟩
  done := by
    intro X hP hw hK hc i pins s σ H E I hf st hg
    subst hP hw hK
    obtain ⟨hd, hi⟩ := hg
    obtain ⟨f0, f1, f2, f3, f4, f5⟩ := hf it (by simp)
    obtain ⟨es', ep', hdt, raw, hsz, ent⟩ := dc.raw (I.hok a _ hd).1
    obtain ⟨rfl, rfl⟩ := dict_ep hdt hod
    exact wpAny_pyNext_values_end_raw (I.ok.hd hc) st raw (by rw [hsz]; exact hi) fun h' eb => ⟨rfl, I.turned (t' := s.toks) (fun b ob hb e => eb b ob hb e) f0 f1 f3 f4 f5⟩
  self := fun A i s Q E st h => wpAny_pyIter_valiter st h
theorem turn_itemsX {elts : List Expr} {kk : Nat} {tpos : Pos} (it : Addr) (dc : DFc a o ts) (hod : o.data = .dict es ep) : Turn P w K (.Tuple elts kk tpos) (ItXi a o ts) [it] it (fun i h => ∃ ok ov, IsItemIter h it a i es.size ep ok ov) where
  mem := by simp
  obj := fun i h st b hb => by
    have e : b = it := by simpa using hb
    subst e
    obtain ⟨ok, ov, e⟩ := st
    exact ⟨_, e, fun v z => nomatch z⟩
  keep := fun i h h' st k => let ⟨ok, ov, e⟩ := st; ⟨ok, ov, k it (by simp) _ e⟩
  item := by
    intro X hP hw hK hc i pins s σ H E I hf st hg
    subst hP hw hK
    obtain ⟨hd, hi⟩ := hg
    obtain ⟨es', ep', hdt, raw, hsz, ent⟩ := dc.raw (I.hok a _ hd).1
    obtain ⟨rfl, rfl⟩ := dict_ep hdt hod
    have hlt0 : i < es.size := by rw [hsz]; exact hi
    obtain ⟨t, ht, r1, r2⟩ := ent i hlt0
    obtain ⟨ok, ov, he⟩ := st
    have hlt : it < s.heap.objs.size := Heap.lt_size he
    refine wpAny_pyNext_items_item_raw he raw hlt0 fun h' ho hT hz hk => ?_
    refine ⟨_, rfl, wpAny_letOwnedTupleGo_items (s := { s with heap := h' }) ho fun h'' he' sb => ?_⟩
    have hT2 : h''.get? s.heap.objs.size = some { cls := .type "tuple", data := .seq #[es[i].key, es[i].val] } := (sb.2 _ (Nat.ne_of_gt hlt)).trans hT
    have new : ObjOk X.prog X.w (upd H s.heap.objs.size (.tup [t.2.1, t.2.2])) h'' s.heap.objs.size (.tup [t.2.1, t.2.2]) :=
      ⟨by show 2 ≤ sizeLine; decide, [es[i].key, es[i].val], .cons r1 (.cons r2 .nil), ⟨_, hT2, rfl, _, rfl⟩⟩
    have I1 : Inv X pins σ (upd H s.heap.objs.size (.tup [t.2.1, t.2.2])) { s with heap := h'' } :=
      I.turnedNew (t' := s.toks) (ch := [it]) (fun b ob hb e => (sb.2 b (by simpa using hb)).trans (hk b ob (by simpa using hb) e)) hf (Nat.le_refl _) new
    refine ⟨.ref s.heap.objs.size, _, I1, rfl, ⟨_, t.2.1, t.2.2, by rw [List.getElem?_map, ht]; rfl, by rw [List.getElem?_map, ht]; rfl, rfl, I.hok.fresh (Nat.le_refl _), rfl⟩, ⟨_, _, he'⟩, fun b hb => ?_⟩
    have e : b = it := by simpa using hb
    rw [e, upd_ne (Nat.ne_of_lt hlt)]
    exact (hf it (by simp)).1
  done := by
    intro X hP hw hK hc i pins s σ H E I hf st hg
    subst hP hw hK
    obtain ⟨hd, hi⟩ := hg
    obtain ⟨f0, f1, f2, f3, f4, f5⟩ := hf it (by simp)
    obtain ⟨es', ep', hdt, raw, hsz, ent⟩ := dc.raw (I.hok a _ hd).1
    obtain ⟨rfl, rfl⟩ := dict_ep hdt hod
    obtain ⟨ok, ov, he⟩ := st
    exact wpAny_pyNext_items_end_raw (I.ok.hd hc) he raw (by rw [hsz]; exact hi) fun h' eb => ⟨rfl, I.turned (t' := s.toks) (fun b ob hb e => eb b ob hb e) f0 f1 f3 f4 f5⟩
  self := fun A i s Q E st h => let ⟨_, _, e⟩ := st; PySem.W.kcp_self e h
end
def iXk (td : TE) : TI := fun σ H R => td σ H fun x H1 => ∃ a o ts, x = .ref a ∧ H1 a = some (xO a o) ∧ DFc a o ts ∧ R (ItXk a o ts) H1
def iXv (td : TE) : TI := fun σ H R => td σ H fun x H1 => ∃ a o ts, x = .ref a ∧ H1 a = some (xO a o) ∧ DFc a o ts ∧ R (ItXv a o ts) H1
def iXi (td : TE) : TI := fun σ H R => td σ H fun x H1 => ∃ a o ts, x = .ref a ∧ H1 a = some (xO a o) ∧ DFc a o ts ∧ R (ItXi a o ts) H1
section
variable {X : Cx} {tg e : Expr} {td : TE} {apos cpos : Pos}
theorem pi_keysX (he : PE X e td) : PI X tg e (iXk td) := by
  refine ⟨fun pins s σ H R I h => ?_⟩
  refine thn (he.run pins s σ H _ I h) fun u s1 ⟨x, H1, I1, rx, a, o, ts, ex, hH, dc, q⟩ => ?_
  subst ex
  obtain rfl : u = Value.ref a := rx
  obtain ⟨es, ep, hdt, raw, hsz, _⟩ := dc.raw (I1.hok a _ hH).1
  exact wpAny_pyIter_dict_raw dc.ns raw (pi_one (tk := s1.toks) I1 _ (turn_keysX _ dc hdt) ⟨_, Heap.get?_push_size _ rfl, rfl, rfl⟩ q)
theorem pi_valsX (he : PE X e td) (hbase : attributeBase e "values" X.env (eval e X.env) = eval e X.env := by rfl) (hline : (apos.endLine == cpos.line) = true := by rfl) : PI X tg (.Call (.Attribute e "values" apos) [] [] cpos) (iXv td) := by
  refine ⟨fun pins s σ H R I h => ?_⟩
  refine wpAny_Call_method (T := "dict") (id := "dict.values") hbase rfl hline F.plainAttrs_dict F.slot_dict_values F.type_dict_values (thn (he.run pins s σ H _ I h) fun u s1 ⟨x, H1, I1, rx, a, o, ts, ex, hH, dc, q⟩ => ?_)
  subst ex
  obtain rfl : u = Value.ref a := rx
  obtain ⟨es, ep, hdt, raw, hsz, _⟩ := dc.raw (I1.hok a _ hH).1
  refine ⟨raw.typeIs, fun b q => by cases q; exact ⟨o, (I1.hok a _ hH).1, dc.ex.2.1⟩, ?_⟩
  have I2 : Inv X pins σ H1 { s1 with heap := s1.heap.push { cls := .type "dict_values", data := .fields #[.ref a] } } := I1.kept (t' := s1.toks) fun b ob q => Heap.get?_push_of_some _ q
  have fin : wpAny (model X.prog X.w) X.A (pyIter (.ref s1.heap.objs.size)) (PIE X pins σ tg R) X.xe { s1 with heap := s1.heap.push { cls := .type "dict_values", data := .fields #[.ref a] } } :=
    wpAny_pyIter_values_raw ⟨_, Heap.get?_push_size _ rfl, rfl, rfl⟩ (raw.push _) (pi_one (tk := s1.toks) I2 _ (turn_valsX _ dc hdt) ⟨_, Heap.get?_push_size _ rfl, rfl, rfl⟩ q)
  show wpAny _ _ (callWith cpos (.builtin "dict.values") [.ref a] [] []) _ X.xe s1
  exact method_meetsIn F.slot_dict_values F.entry_dict_values rfl (PySem.evalArgs_none ⟨rfl, raw.typeIs, F.args_dict_values_1 _, _, meets_dict_values_raw a dc.ns, ⟨es, ep, raw⟩, fin⟩)
theorem pi_itemsX {elts : List Expr} {kk : Nat} {tpos : Pos} (he : PE X e td) (hbase : attributeBase e "items" X.env (eval e X.env) = eval e X.env := by rfl) (hline : (apos.endLine == cpos.line) = true := by rfl) : PI X (.Tuple elts kk tpos) (.Call (.Attribute e "items" apos) [] [] cpos) (iXi td) := by
  refine ⟨fun pins s σ H R I h => ?_⟩
  refine wpAny_Call_method (T := "dict") (id := "dict.items") hbase rfl hline F.plainAttrs_dict F.slot_dict_items F.type_dict_items (thn (he.run pins s σ H _ I h) fun u s1 ⟨x, H1, I1, rx, a, o, ts, ex, hH, dc, q⟩ => ?_)
  subst ex
  obtain rfl : u = Value.ref a := rx
  obtain ⟨es, ep, hdt, raw, hsz, _⟩ := dc.raw (I1.hok a _ hH).1
  refine ⟨raw.typeIs, fun b q => by cases q; exact ⟨o, (I1.hok a _ hH).1, dc.ex.2.1⟩, ?_⟩
  have I2 : Inv X pins σ H1 { s1 with heap := s1.heap.push { cls := .type "dict_items", data := .fields #[.ref a] } } := I1.kept (t' := s1.toks) fun b ob q => Heap.get?_push_of_some _ q
  have fin : wpAny (model X.prog X.w) X.A (pyIter (.ref s1.heap.objs.size)) (PIE X pins σ (.Tuple elts kk tpos) R) X.xe { s1 with heap := s1.heap.push { cls := .type "dict_items", data := .fields #[.ref a] } } :=
    wpAny_pyIter_items_raw ⟨_, Heap.get?_push_size _ rfl, rfl, rfl⟩ (raw.push _) (pi_one (tk := s1.toks) I2 _ (turn_itemsX _ dc hdt) ⟨.none, .none, Heap.get?_push_size _ rfl⟩ q)
  show wpAny _ _ (callWith cpos (.builtin "dict.items") [.ref a] [] []) _ X.xe s1
  exact method_meetsIn F.slot_dict_items F.entry_dict_items rfl (PySem.evalArgs_none ⟨rfl, raw.typeIs, F.args_dict_items_1 _, _, meets_dict_items_raw a dc.ns, ⟨es, ep, raw⟩, fin⟩)
end
end DL

set_option Elab.async false
set_option linter.all false
set_option maxRecDepth 100000
set_option maxHeartbeats 4000000
/-! DK5: walks over dicts, list(d), dict(pairs). -/
namespace DL
open PySem PySem.Spec PyProof.Rows L2
section
variable {K : PySem.W.Frag} {te : TE} {ge : Y}
/-! ### for over a list, a tuple, a dict -/
def itemsX : D → Option (List D)
  | .dict kvs => some (kvs.map (·.1))
  | d => itemsD d
def iYX (g : Y) : Yl := fun ρ s => bO (g ρ s) fun x s1 => mO (itemsX x) fun ds => some (ds, s1)
def iSeqX (K : PySem.W.Frag) (tl : TE) : TI := fun σ H R => iSeq K tl σ H R ∨ iXk tl σ H R
theorem pi_seqX {X : Cx} {tg e : Expr} {t : TE} (h : PE X e t) : PI X tg e (iSeqX X.K t) := pi_or (pi_seq h) (pi_keysX h)
theorem pi_seqXK {X : Cx} {tg e : Expr} {t : TE} (hK : X.K = K) (h : PE X e t) : PI X tg e (iSeqX K t) := by subst hK; exact pi_seqX h
theorem walk_k {a : Addr} {o : Obj} {ts : List Tr} : Walk (ItXk a o ts) ts.length (fun H => H a = some (xO a o)) (YAt (ts.map (·.2.1))) :=
  ⟨fun _ _ hi h => ⟨h, hi⟩, fun _ h => ⟨h, Nat.le_refl _⟩, fun _ _ _ _ _ _ y => y⟩
theorem walk_v {a : Addr} {o : Obj} {ts : List Tr} : Walk (ItXv a o ts) ts.length (fun H => H a = some (xO a o)) (YAt (ts.map (·.2.2))) :=
  ⟨fun _ _ hi h => ⟨h, hi⟩, fun _ h => ⟨h, Nat.le_refl _⟩, fun _ _ _ _ _ _ y => y⟩
theorem walk_i {a : Addr} {o : Obj} {ts : List Tr} : Walk (ItXi a o ts) ts.length (fun H => H a = some (xO a o)) (YPair (fun i => (ts.map (·.2.1))[i]?) fun i => (ts.map (·.2.2))[i]?) :=
  ⟨fun _ _ hi h => ⟨h, hi⟩, fun _ h => ⟨h, Nat.le_refl _⟩, fun _ _ _ _ _ _ ⟨T, k, v, h1, h2, h3, h4, h5⟩ => ⟨T, k, v, h3, h4, h5, h1, h2⟩⟩
theorem len_eq {ts : List Tr} {kvs : List (D × D)} (h : ts.map (·.1) = kvs.map (·.1)) : ts.length = kvs.length := by
  have := congrArg List.length h
  rwa [List.length_map, List.length_map] at this
theorem si_seqX {tl : TE} {gl : Y} {g : TG} {bind : D → Rho → Option Rho} {js : List Nat} (h : SdY K tl gl) (hg : TgOk K g bind js) : SdI K (iSeqX K tl) g (iYX gl) bind js := by
  intro F O H pc σ ρ s xs s' st e R q
  obtain ⟨x, s1, e1, e⟩ := bO_some e
  obtain ⟨z, e2, e⟩ := mO_some e
  cases e
  unfold itemsX at e2
  split at e2
  · rename_i kvs
    cases e2
    refine .inr (h F O H pc σ ρ s _ _ st e1 _ fun v F1 H1 n1 sr1 d1 => ?_)
    obtain ⟨a, o, ts, rfl, h1, h2, h3, h4, h5, h6⟩ := dct_at (n1.wk st.wk) d1
    refine ⟨a, o, ts, rfl, (n1.wk st.wk).fh _ _ h1, h2, q _ F1 H1 n1 sr1 ⟨YAt (ts.map (·.2.1)), ?_, ?_⟩⟩
    · rw [List.length_map, ← len_eq h4]
      exact walk_k.mono (fun H e => e _ _ h1) fun _ _ _ _ _ _ y => y
    · intro i a x H H' Fc O pc σ ρ ρ' s ha hF st2 hb hy Q k
      obtain ⟨rfl, hx⟩ := hy
      exact hg Fc O H' pc σ ρ ρ' s x a st2 (at_data (h5.mono hF) hx ha) hb Q fun σ' st3 w => k σ' Fc H' (Ny.refl st2.wk) st3 w
  · refine .inl (si_seq h hg F O H pc σ ρ s _ _ st ?_ R q)
    unfold iY
    rw [e1]
    show mO (itemsD x) _ = _
    rw [e2]
    rfl
def valsX : D → Option (List D)
  | .dict kvs => some (kvs.map (·.2))
  | _ => none
def iVX (g : Y) : Yl := fun ρ s => bO (g ρ s) fun x s1 => mO (valsX x) fun ds => some (ds, s1)
theorem si_valsX {tl : TE} {gl : Y} {g : TG} {bind : D → Rho → Option Rho} {js : List Nat} (h : SdY K tl gl) (hg : TgOk K g bind js) : SdI K (iXv tl) g (iVX gl) bind js := by
  intro F O H pc σ ρ s xs s' st e R q
  obtain ⟨x, s1, e1, e⟩ := bO_some e
  obtain ⟨z, e2, e⟩ := mO_some e
  cases e
  unfold valsX at e2
  split at e2
  · rename_i kvs
    cases e2
    refine h F O H pc σ ρ s _ _ st e1 _ fun v F1 H1 n1 sr1 d1 => ?_
    obtain ⟨a, o, ts, rfl, h1, h2, h3, h4, h5, h6⟩ := dct_at (n1.wk st.wk) d1
    refine ⟨a, o, ts, rfl, (n1.wk st.wk).fh _ _ h1, h2, q _ F1 H1 n1 sr1 ⟨YAt (ts.map (·.2.2)), ?_, ?_⟩⟩
    · rw [List.length_map, ← len_eq h4]
      exact walk_v.mono (fun H e => e _ _ h1) fun _ _ _ _ _ _ y => y
    · intro i a x H H' Fc O pc σ ρ ρ' s ha hF st2 hb hy Q k
      obtain ⟨rfl, hx⟩ := hy
      exact hg Fc O H' pc σ ρ ρ' s x a st2 (at_data (h6.mono hF) hx ha) hb Q fun σ' st3 w => k σ' Fc H' (Ny.refl st2.wk) st3 w
  · cases e2
def pairsX : D → Option (List (D × D))
  | .dict kvs => some kvs
  | _ => none
def iIX (g : Y) : Rho → Src → Option (List (D × D) × Src) := fun ρ s => bO (g ρ s) fun x s1 => mO (pairsX x) fun ds => some (ds, s1)
theorem si_itemsX {tl : TE} {gl : Y} {i j : Nat} (h : SdY K tl gl) : SdI K (iXi tl) (gTup K 2 (gNames [i, j])) (iIX gl) (bP i j) [i, j] := by
  intro F O H pc σ ρ s xs s' st e R q
  obtain ⟨x, s1, e1, e⟩ := bO_some e
  obtain ⟨z, e2, e⟩ := mO_some e
  cases e
  unfold pairsX at e2
  split at e2
  · rename_i kvs
    cases e2
    refine h F O H pc σ ρ s _ _ st e1 _ fun v F1 H1 n1 sr1 d1 => ?_
    obtain ⟨a, o, ts, rfl, h1, h2, h3, h4, h5, h6⟩ := dct_at (n1.wk st.wk) d1
    refine ⟨a, o, ts, rfl, (n1.wk st.wk).fh _ _ h1, h2, q _ F1 H1 n1 sr1 (turn_pair (n := ts.length) (fx := fun i => (ts.map (·.2.1))[i]?) (fy := fun i => (ts.map (·.2.2))[i]?) (len_eq h4).symm ?_ ?_)⟩
    · exact walk_i.mono (fun H e => e _ _ h1) fun _ _ _ _ _ _ y => y
    · intro k p x y hk hx hy
      exact ⟨at_data h5 hx (by rw [List.getElem?_map, hk]; rfl), at_data h6 hy (by rw [List.getElem?_map, hk]; rfl)⟩
  · cases e2

/-! ### list(d), len(d) -/
def rListX (K : PySem.W.Frag) : List V → Hp → VK → Prop := fun xs H Q => rListA K xs H Q ∨ ∃ a o ts, xs = [.ref a] ∧ H a = some (xO a o) ∧ DFc a o ts ∧ ∀ p, H p = none → Q (.ref p) (upd H p (.lst (ts.map (·.2.1))))
theorem vals_of_get : ∀ {vs : List V} {us : List Value}, us.length = vs.length → (∀ (j : Nat) (u : Value), us[j]? = some u → ∃ v, vs[j]? = some v ∧ RelV v u) → Vals vs us
  | [], [], _, _ => .nil
  | [], _ :: _, h, _ => by simp at h
  | _ :: _, [], h, _ => by simp at h
  | v :: vs, u :: us, h, q => by
    obtain ⟨v', e, r⟩ := q 0 u rfl
    simp only [List.getElem?_cons_zero, Option.some.injEq] at e
    subst e
    exact .cons r (vals_of_get (by simpa using h) fun j u hu => by simpa using q (j + 1) u (by simpa using hu))
theorem call_listX {X : Cx} (hc : X.calm = true) : CallR X (.type "list") (rListX X.K) := CallR.or call_list_of (by
  intro pins s σ H xs us Q I r h
  obtain ⟨a, o, ts, rfl, hH, dc, q⟩ := h
  obtain ⟨u, rfl, ru⟩ := vals1 r
  obtain rfl : u = Value.ref a := ru
  obtain ⟨es, ep, hdt, raw, hsz, ent⟩ := dc.raw (I.hok a _ hH).1
  refine PySem.W.kdl_call (KdlSrc.rawDict dc.ns) (I.ok.hd hc) raw (by rw [hsz]; exact dc.few) fun h' tk acc c' hk hD hacc => ?_
  have hv : Vals (ts.map (·.2.1)) acc.toList := vals_of_get (by rw [Array.length_toList, List.length_map, hacc.1, hsz]) fun j v e => by
    obtain ⟨hi, e2⟩ := hacc.2 j v (by rw [← Array.getElem?_toList]; exact e)
    obtain ⟨t, ht, r1, r2⟩ := ent j hi
    exact ⟨t.2.1, by rw [List.getElem?_map, ht]; rfl, by rw [e2]; exact r1⟩
  refine ⟨.ref s.heap.objs.size, upd H s.heap.objs.size (.lst (ts.map (·.2.1))), I.laid (t' := tk) hk (Nat.le_refl _)
    (show ObjOk X.prog X.w _ _ _ (.lst (ts.map (·.2.1))) from ⟨by rw [List.length_map]; exact dc.few, acc.toList, c', hv, by rw [Array.toArray_toList]; exact hD⟩), rfl, q _ (I.hok.fresh (Nat.le_refl _))⟩)
def listX : List D → Option (List D)
  | [.dict kvs] => some (kvs.map (·.1))
  | xs => listC xs
theorem sCN_listX : SdCN K (rListX K) listX := by
  intro F O H xs as ds w hx e Q q
  unfold listX at e
  split at e
  · rename_i kvs
    cases e
    obtain ⟨v, rfl, h⟩ := one_q hx
    obtain ⟨a, o, ts, rfl, h1, h2, h3, h4, h5, h6⟩ := dct_at w h
    exact .inr ⟨a, o, ts, rfl, w.fh _ _ h1, h2, fun p hp => q p _ hp h5⟩
  · exact .inl (sCN_list F O H xs as ds w hx e Q q)

/-! ### dict(pairs) -/
def putT (ts us : List Tr) : List Tr := us.foldl (fun acc t => tput acc t.1 t.2.1 t.2.2) ts
def putD (kvs us : List (D × D)) : List (D × D) := us.foldl (fun acc p => dput acc p.1 p.2) kvs
theorem putT_len : ∀ (us ts : List Tr), (putT ts us).length ≤ ts.length + us.length
  | [], ts => by show ts.length ≤ ts.length + 0; omega
  | u :: us, ts => by
    have h1 := putT_len us (tput ts u.1 u.2.1 u.2.2)
    have h2 := length_tput ts u.1 u.2.1 u.2.2
    show (putT (tput ts u.1 u.2.1 u.2.2) us).length ≤ _
    rw [List.length_cons]; omega
abbrev AT := Addr × Tr
def rXDict (K : PySem.W.Frag) : List V → Hp → VK → Prop := fun xs H Q => ∃ (a : Addr) (us : List AT), xs = [.ref a] ∧ (SqL K H a (us.map fun p => V.ref p.1) ∨ TD K H a (us.map fun p => V.ref p.1)) ∧ (∀ p ∈ us, SqT K H p.1 [p.2.2.1, p.2.2.2] ∧ Dq K H p.2.2.1 p.2.1) ∧
  ((us.map fun p => p.2.1).all isI = true ∨ (us.map fun p => p.2.1).all isTk = true) ∧ us.length ≤ sizeLine ∧ ∀ q o, H q = none → DFc q o (putT [] (us.map (·.2))) → Q (.ref q) (upd H q (xO q o))
theorem call_dictX {X : Cx} (hc : X.calm = true) (hu : X.A.units + 80 < cLine) : CallR X (.type "dict") (rXDict X.K) := by
  intro pins s σ H xs vus Q I r h
  obtain ⟨a, us, rfl, hsq, hus, hkind, hlen, q⟩ := h
  obtain ⟨u, rfl, ru⟩ := vals1 r
  obtain rfl : u = Value.ref a := ru
  have key : ∀ us : List AT, (∀ p ∈ us, SqT X.K H p.1 [p.2.2.1, p.2.2.2] ∧ Dq X.K H p.2.2.1 p.2.1) → ∃ ps : List (Value × Value), Paired (fun (p : AT) (q : Value × Value) => IsTup s.heap p.1 #[q.1, q.2] ∧ RelV p.2.2.1 q.1 ∧ RelV p.2.2.2 q.2) us ps := by
    intro us
    induction us with
    | nil => intro _; exact ⟨[], .nil⟩
    | cons p us ih =>
      intro h
      obtain ⟨ps, hps⟩ := ih fun x hx => h x (List.mem_cons_of_mem _ hx)
      obtain ⟨its, r2, ht, _⟩ := I.tuple (h p List.mem_cons_self).1
      obtain ⟨k, v, rfl, rk, rv⟩ := vals2 r2
      exact ⟨(k, v) :: ps, .cons ⟨ht, rk, rv⟩ hps⟩
  obtain ⟨ps, hps⟩ := key us hus
  have hpl : us.length = ps.length := Paired.length hps
  have at_ : ∀ {us : List AT} {ps : List (Value × Value)}, Paired (fun (p : AT) (q : Value × Value) => IsTup s.heap p.1 #[q.1, q.2] ∧ RelV p.2.2.1 q.1 ∧ RelV p.2.2.2 q.2) us ps → ∀ (j : Nat) (q : Value × Value), ps[j]? = some q → ∃ p : AT, us[j]? = some p ∧ IsTup s.heap p.1 #[q.1, q.2] ∧ RelV p.2.2.1 q.1 ∧ RelV p.2.2.2 q.2 := by
    intro us ps p
    induction p with
    | nil => intro j q h; simp at h
    | cons r _ ih =>
      intro j q h
      cases j with
      | zero =>
        simp only [List.getElem?_cons_zero, Option.some.injEq] at h
        subst h
        exact ⟨_, rfl, r⟩
      | succ j => exact ih j q (by simpa using h)
  let Ts : Nat → Addr := fun j => ((us[j]?).map (·.1)).getD 0
  have hitems : ∀ its : List Value, Vals (us.map fun p => V.ref p.1) its → PairItems s.heap its.toArray Ts ps := by
    intro its rv
    have e : its = (us.map (·.1)).map Value.ref := refs_at (by rw [List.map_map]; exact rv)
    refine ⟨by rw [List.size_toArray, e, List.length_map, List.length_map, hpl], fun j k v hj => ?_⟩
    obtain ⟨p, hp, h1, h2, h3⟩ := at_ hps j (k, v) hj
    have hT : Ts j = p.1 := by show ((us[j]?).map (·.1)).getD 0 = _; rw [hp]; rfl
    rw [hT]
    refine ⟨?_, .inl h1⟩
    rw [List.getElem?_toArray, e, List.getElem?_map, List.getElem?_map, hp]
    rfl
  have hns : (s.heap.objs.size == sysModules) = false := beq_eq_false_iff_ne.mpr (Nat.ne_of_gt I.big)
  have hz := putT_len (us.map (·.2)) []
  rw [List.length_nil, List.length_map] at hz
  have fin : ∀ (h' : Heap) (tk : Nat) (o : Obj), h'.get? s.heap.objs.size = some o → DFc s.heap.objs.size o (putT [] (us.map (·.2))) → (∀ b o, s.heap.get? b = some o → h'.get? b = some o) →
      EP X pins σ Q (.ref s.heap.objs.size) { s with heap := h', toks := tk } := fun h' tk o e dc hk =>
    ⟨.ref s.heap.objs.size, upd H s.heap.objs.size (xO s.heap.objs.size o), I.laid (t' := tk) hk (Nat.le_refl _) (xO_ok e), rfl, q _ o (I.hok.fresh (Nat.le_refl _)) dc⟩
  have run : ∀ (T : String) (OK : Heap → Prop), PairArg X.prog X.w T a (a :: (List.range ps.length).map Ts) [] ps.length (PairRel ps) OK → OK s.heap → wpAny (model X.prog X.w) X.A (call (.type "dict") [.ref a]) (EP X pins σ Q) X.xe s := by
    intro T OK P ok
    rcases hkind with hk | hk
    · have kv : ∀ {us : List AT} {ps : List (Value × Value)}, Paired (fun (p : AT) (q : Value × Value) => IsTup s.heap p.1 #[q.1, q.2] ∧ RelV p.2.2.1 q.1 ∧ RelV p.2.2.2 q.2) us ps → (us.map fun p => p.2.1).all isI = true → (∀ p ∈ us, SqT X.K H p.1 [p.2.2.1, p.2.2.2] ∧ Dq X.K H p.2.2.1 p.2.1) →
          ∃ xs : List (Key × Value), xs.length = ps.length ∧ Paired RI (us.map (·.2)) xs ∧ ∀ (i : Nat) (q : Value × Value), ps[i]? = some q → ∃ k, xs[i]? = some (k, q.2) ∧ (mixKind X.prog X.w).is k q.1 = true := by
        intro us ps p
        induction p with
        | nil => intro _ _; exact ⟨[], rfl, .nil, fun i q h => by simp at h⟩
        | @cons p q us ps r _ ih =>
          intro hk hus
          rw [List.map_cons, List.all_cons, Bool.and_eq_true] at hk
          obtain ⟨xs, h1, h2, h3⟩ := ih hk.2 fun x hx => hus x (List.mem_cons_of_mem _ hx)
          obtain ⟨i, hi⟩ := isI_inv hk.1
          have hd := (hus p List.mem_cons_self).2
          rw [hi] at hd
          obtain ⟨r1, r2, r3⟩ := r
          rw [hd.int_inv] at r2
          obtain ⟨t, r2⟩ := r2
          refine ⟨(.inl i, q.2) :: xs, by simp [h1], .cons ⟨i, hi, hd.int_inv, rfl, r3⟩ h2, fun j z hz => ?_⟩
          cases j with
          | zero =>
            simp only [List.getElem?_cons_zero, Option.some.injEq] at hz
            subst hz
            exact ⟨.inl i, rfl, by rw [r2]; exact mixKind_int X.prog X.w i t⟩
          | succ j => simpa using h3 j z (by simpa using hz)
      obtain ⟨xs, x1, x2, x3⟩ := kv hps hk hus
      refine call_dict_pairs (knd := mixKind X.prog X.w) (kvs := xs) P (I.ok.hd hc) ok ⟨x1, fun i key v hrel => x3 i (key, v) hrel⟩ (by rw [← hpl]; exact hlen) fun h' tk dd hk' => ?_
      have pr : ∀ {vs : List Tr} {xs : List (Key × Value)}, Paired RI vs xs → ∀ {ts : List Tr} {ys : List (Key × Value)}, Paired RI ts ys → Paired RI (putT ts vs) (merged ys xs) := by
        intro vs xs p
        induction p with
        | nil => intro ts ys h; exact h
        | @cons t x _ _ r _ ih =>
          intro ts ys h
          obtain ⟨i, r1, r2, r3, r4⟩ := r
          refine ih ?_
          show Paired RI (tput ts t.1 t.2.1 t.2.2) (stored ys x.1 x.2)
          rw [r1, r2, r3]
          exact RI.put h r4
      obtain ⟨o, e1, e2⟩ := of_K dd (pr x2 .nil) hns (by omega)
      exact fin h' tk o e1 e2 fun b o e => hk' b o (fun z => nomatch z) e
    · have kv : ∀ {us : List AT} {ps : List (Value × Value)}, Paired (fun (p : AT) (q : Value × Value) => IsTup s.heap p.1 #[q.1, q.2] ∧ RelV p.2.2.1 q.1 ∧ RelV p.2.2.2 q.2) us ps → (us.map fun p => p.2.1).all isTk = true → (∀ p ∈ us, SqT X.K H p.1 [p.2.2.1, p.2.2.2] ∧ Dq X.K H p.2.2.1 p.2.1) →
          ∃ xs : List (D × Addr × Value), xs.length = ps.length ∧ Paired RT (us.map (·.2)) xs ∧ (∀ (i : Nat) (q : Value × Value), ps[i]? = some q → ∃ k b, xs[i]? = some (k, b, q.2) ∧ q.1 = .ref b) ∧ ∀ x ∈ xs, (deepKind X.prog X.w).is s.heap x.1 x.2.1 := by
        intro us ps p
        induction p with
        | nil => intro _ _; exact ⟨[], rfl, .nil, (fun i q h => by simp at h), fun _ h => (nomatch h)⟩
        | @cons p q us ps r _ ih =>
          intro hk hus
          rw [List.map_cons, List.all_cons, Bool.and_eq_true] at hk
          obtain ⟨xs, h1, h2, h3, h4⟩ := ih hk.2 fun x hx => hus x (List.mem_cons_of_mem _ hx)
          have hd := (hus p List.mem_cons_self).2
          obtain ⟨r1, r2, r3⟩ := r
          obtain ⟨b, hb, hb2⟩ := tup_ref hk.1 hd r2
          refine ⟨(p.2.1, b, q.2) :: xs, by simp [h1], .cons ⟨rfl, hb, r3, hk.1⟩ h2, fun j z hz => ?_, fun x hx => ?_⟩
          · cases j with
            | zero =>
              simp only [List.getElem?_cons_zero, Option.some.injEq] at hz
              subst hz
              exact ⟨p.2.1, b, rfl, hb2⟩
            | succ j => simpa using h3 j z (by simpa using hz)
          · rcases List.mem_cons.mp hx with rfl | hx
            · rw [hb] at hd
              exact ⟨Dq.kis I (isTk_inv hk.1).2 hd rfl, (isTk_inv hk.1).2⟩
            · exact h4 x hx
      obtain ⟨xs, x1, x2, x3, x4⟩ := kv hps hk hus
      refine call_dict_pairsH (knd := deepKind X.prog X.w) (ps := xs) P (I.ok.hd hc) (show X.A.in1.in1.units + 10 < cLine by show X.A.units + 1 + 1 + 10 < cLine; omega) ok ⟨x1, fun i key v hrel => x3 i (key, v) hrel⟩
        (fun h' hk' x hx => ⟨(x4 x hx).1.stay fun b ob its n hb _ => hk' b ob (Nat.ne_of_lt (Heap.lt_size hb)) (fun z => nomatch z) hb, (x4 x hx).2⟩) (by rw [← hpl]; exact hlen) fun h' tk dd hk' => ?_
      have pr : ∀ {vs : List Tr} {xs : List (D × Addr × Value)}, Paired RT vs xs → ∀ {ts : List Tr} {ys : List (D × Addr × Value)}, Paired RT ts ys → Paired RT (putT ts vs) (storedAllH ys xs) := by
        intro vs xs p
        induction p with
        | nil => intro ts ys h; exact h
        | @cons t x _ _ r _ ih =>
          intro ts ys h
          obtain ⟨r1, r2, r3, r4⟩ := r
          refine ih ?_
          show Paired RT (tput ts t.1 t.2.1 t.2.2) (storedH ys x.1 x.2.1 x.2.2)
          rw [r2, ← r1]
          exact RT.put r4 h r3
      obtain ⟨o, e1, e2⟩ := of_H dd (pr x2 .nil) hns (by omega)
      exact fin h' tk o e1 e2 fun b o e => hk' b o (fun z => nomatch z) e
  rcases hsq with hsq | hsq
  · obtain ⟨its, rv, ⟨o, n, ho, hcl, hdi, hdat⟩, _⟩ := I.list hsq
    exact run _ _ (PairArg.list a its.toArray Ts ps) ⟨⟨o, n, ho, hcl, hdi, hdat⟩, hitems its rv⟩
  · obtain ⟨its, rv, ⟨o, ho, hcl, n, hdat⟩, _⟩ := I.tuple hsq.sq
    obtain ⟨o', ho', hdi⟩ := TD.obj I hsq
    rw [ho] at ho'
    cases ho'
    exact run _ _ (PairArg.tuple a its.toArray Ts ps) ⟨⟨o, n, ho, hcl, hdi, hdat⟩, hitems its rv⟩
/-! the mirror -/
def pairs2 : List D → Option (List (D × D))
  | [] => some []
  | .tuple [a, b] :: r => match pairs2 r with
    | some ps => some ((a, b) :: ps)
    | none => none
  | _ => none
def dictC : List D → Option (List (D × D))
  | [x] => mO (itemsD x) fun ds => mO (pairs2 ds) fun ps => if ((ps.map (·.1)).all isI = true ∨ (ps.map (·.1)).all isTk = true) ∧ ps.length ≤ lim then some (putD [] ps) else none
  | _ => none
theorem pairs2_q {F : Hp} : ∀ {vs : List V} {ds : List D} {ps : List (D × D)}, DqAll K F vs ds → pairs2 ds = some ps → ∃ us : List AT, vs = us.map (fun p => V.ref p.1) ∧ us.map (fun p => p.2.1) = ps.map (·.1) ∧ (∀ p ∈ us, TD K F p.1 [p.2.2.1, p.2.2.2] ∧ Dq K F p.2.2.1 p.2.1) ∧
    DqAll K F (us.map fun p => p.2.2.1) (ps.map (·.1)) ∧ DqAll K F (us.map fun p => p.2.2.2) (ps.map (·.2))
  | _, _, _, .nil, e => by
    cases e
    exact ⟨[], rfl, rfl, (fun _ h => (nomatch h)), .nil, .nil⟩
  | _, _, ps, .cons (d := d) (ds := r) a b, e => by
    unfold pairs2 at e
    split at e
    · cases ‹_ :: _ = []›
    · rename_i x y r' heq
      injection heq with e1 e2
      subst e1 e2
      split at e
      · rename_i ps' e3
        cases e
        obtain ⟨us, h1, h2, h3, h4, h5⟩ := pairs2_q b e3
        obtain ⟨t, vs, rfl, td, al⟩ := a.tup_inv
        obtain ⟨v, u, rfl, d1, d2⟩ := two_q al
        refine ⟨(t, x, v, u) :: us, by rw [h1]; rfl, by rw [List.map_cons, List.map_cons, h2], fun p hp => ?_, .cons d1 h4, .cons d2 h5⟩
        rcases List.mem_cons.mp hp with rfl | hp
        · exact ⟨td, d1⟩
        · exact h3 p hp
      · cases e
    · cases e
theorem put_all {F : Hp} : ∀ {us : List Tr} {ps : List (D × D)}, us.map (·.1) = ps.map (·.1) → DqAll K F (us.map (·.2.1)) (ps.map (·.1)) → DqAll K F (us.map (·.2.2)) (ps.map (·.2)) → ∀ {ts : List Tr} {kvs : List (D × D)}, ts.map (·.1) = kvs.map (·.1) → DqAll K F (ts.map (·.2.1)) (kvs.map (·.1)) → DqAll K F (ts.map (·.2.2)) (kvs.map (·.2)) →
    (putT ts us).map (·.1) = (putD kvs ps).map (·.1) ∧ DqAll K F ((putT ts us).map (·.2.1)) ((putD kvs ps).map (·.1)) ∧ DqAll K F ((putT ts us).map (·.2.2)) ((putD kvs ps).map (·.2))
  | [], [], _, _, _, _, _, h1, h2, h3 => ⟨h1, h2, h3⟩
  | [], _ :: _, h, _, _, _, _, _, _, _ => by cases h
  | _ :: _, [], h, _, _, _, _, _, _, _ => by cases h
  | u :: us, p :: ps, g1, g2, g3, ts, kvs, h1, h2, h3 => by
    rw [List.map_cons, List.map_cons] at g1 g2 g3
    injection g1 with e1 e2
    cases g2 with
    | cons a1 a2 =>
      cases g3 with
      | cons b1 b2 =>
        obtain ⟨p1, p2, p3⟩ := put_q (k := p.1) a1 b1 h1 h2 h3
        have := put_all (ts := tput ts u.1 u.2.1 u.2.2) (kvs := dput kvs p.1 p.2) e2 a2 b2 (by rw [e1]; exact p1) (by rw [e1]; exact p2) (by rw [e1]; exact p3)
        exact this
def dC (f : List D → Option (List (D × D))) (g : Yl) : Yd := fun ρ s => bO (g ρ s) fun xs s1 => mO (f xs) fun kvs => some (kvs, s1)
theorem dd_dict {t : TA} {g : Yl} (ha : SdA K t g) : SdD K (tCB (rXDict K) t) (dC dictC g) := by
  intro F O H pc σ ρ s kvs s' st h Q q
  obtain ⟨xs, s1, e1, h⟩ := bO_some h
  obtain ⟨z, e2, h⟩ := mO_some h
  cases h
  refine ha F O H pc σ ρ s xs _ st e1 _ fun vs F1 H1 n1 sr1 d1 => ?_
  unfold dictC at e2
  split at e2
  · rename_i x
    obtain ⟨ds, e3, e2⟩ := mO_some e2
    obtain ⟨ps, e4, e2⟩ := mO_some e2
    split at e2
    · rename_i ok
      cases e2
      have w1 := n1.wk st.wk
      obtain ⟨v, rfl, h⟩ := one_q d1
      have fin : ∀ (a : Addr) (us : List AT), v = .ref a → (SqL K H1 a (us.map fun p => V.ref p.1) ∨ TD K H1 a (us.map fun p => V.ref p.1)) → us.map (fun p => p.2.1) = ps.map (·.1) → (∀ p ∈ us, TD K F1 p.1 [p.2.2.1, p.2.2.2] ∧ Dq K F1 p.2.2.1 p.2.1) →
          DqAll K F1 (us.map fun p => p.2.2.1) (ps.map (·.1)) → DqAll K F1 (us.map fun p => p.2.2.2) (ps.map (·.2)) → rXDict K [v] H1 Q := by
        intro a us ev hsq h2 h3 h4 h5
        have hl : us.length = ps.length := by
          have := congrArg List.length h2
          rwa [List.length_map, List.length_map] at this
        refine ⟨a, us, by rw [ev], hsq, fun p hp => ⟨w1.t (h3 p hp).1, (h3 p hp).2.mono w1.fh⟩, by rw [h2]; exact ok.1, lim_le (by rw [hl]; exact ok.2), fun p o hp dc => ?_⟩
        have hF := w1.nF hp
        obtain ⟨p1, p2, p3⟩ := put_all (us := us.map (·.2)) (ps := ps) (by rw [List.map_map]; exact h2) (by rw [List.map_map]; exact h4) (by rw [List.map_map]; exact h5) (ts := []) (kvs := []) rfl .nil .nil
        refine q p o _ F1 _ (n1.trans (Ny.pure w1 (same_new hp) (Same.refl _) (w1.fh.trans (same_new hp)) fun _ _ h => .inl h)) (sr1.same (same_new hp)) ?_ hF upd_same dc p1 p2 p3
        cases z : H p with
        | none => rfl
        | some u => exact absurd hp (n1.dom p (by rw [z]; exact fun z => nomatch z))
      unfold itemsD at e3
      split at e3
      · cases e3
        obtain ⟨a, vs, rfl, g1, g2⟩ := h.lst_inv
        obtain ⟨us, rfl, h2, h3, h4, h5⟩ := pairs2_q g2 e4
        exact fin a us rfl (.inl (w1.l g1)) h2 h3 h4 h5
      · cases e3
        obtain ⟨a, vs, rfl, g1, g2⟩ := h.tup_inv
        obtain ⟨us, rfl, h2, h3, h4, h5⟩ := pairs2_q g2 e4
        exact fin a us rfl (.inr (g1.mono w1.fh)) h2 h3 h4 h5
      · cases e3
    · cases e2
  · cases e2
end
end DL

set_option Elab.async false
set_option linter.all false
set_option maxRecDepth 100000
set_option maxHeartbeats 4000000
/-! DK6: names of a list, x.pop(), x.extend(e), sorted of anything. -/
namespace DL
open PySem PySem.Spec PyProof.Rows L2
theorem room20 {A : Around} {k : Nat} (hr : Room k A) : A.units + 20 < cLine := by have := hr.un; omega
section
variable {X : Cx} {K : PySem.W.Frag} {te : TE} {ge : Y}
/-! ### a, b = a tuple or a list -/
def gSq (K : PySem.W.Frag) (n : Nat) (t : TGs) : TG := fun v σ H Q => gTup K n t v σ H Q ∨ gLst K n t v σ H Q
theorem pg_sq {es : List Expr} {k : Nat} {t : TGs} {n : Nat} {pos : Pos} (hc : X.calm = true) (h : PGs X es t)
    (hn : (assignEach es X.env).length = n := by rfl) (hst : (assignEach es X.env).findIdx? (·.1) = none := by rfl) : PG X (.Tuple es k pos) (gSq X.K n t) :=
  ⟨fun pins s σ H v u Q I r hw => hw.elim ((pg_tup hc h hn hst).run pins s σ H v u Q I r) ((pg_lst hc h hn hst).run pins s σ H v u Q I r)⟩
def sqG (n : Nat) (b : List D → Rho → Src → Option (Rho × Src)) : Tg := fun d ρ s => match d with
  | .tuple ds => if ds.length = n then b ds ρ s else none
  | .list ds => if ds.length = n then b ds ρ s else none
  | _ => none
theorem sg_sq {n : Nat} {gs : TGs} {bs : List D → Rho → Src → Option (Rho × Src)} (h : SdGs K gs bs) : SdG K (gSq K n gs) (sqG n bs) := by
  intro F O H pc σ ρ s d v ρ' s' st hd e Q q
  unfold sqG at e
  split at e
  · split at e
    · rename_i hl
      obtain ⟨p, vs, rfl, h1, h2⟩ := hd.tup_inv
      exact .inl ⟨p, vs, rfl, st.wk.t h1, by rw [h2.len]; exact hl, h F O H pc σ ρ s _ vs ρ' s' st h2 e Q q⟩
    · cases e
  · split at e
    · rename_i hl
      obtain ⟨p, vs, rfl, h1, h2⟩ := hd.lst_inv
      exact .inr ⟨p, vs, rfl, st.wk.l h1, by rw [h2.len]; exact hl, h F O H pc σ ρ s _ vs ρ' s' st h2 e Q q⟩
    · cases e
  · cases e
/-! ### x.pop() -/
def popS (i : Nat) : Z := fun ρ s => match ρ[i]? with
  | some (.ow ds) => if ds = [] then none else some (.nx (ρ.set i (.ow ds.dropLast)), s)
  | _ => none
theorem DqAll.dropLast {F : Hp} : ∀ {vs : List V} {ds : List D}, DqAll K F vs ds → DqAll K F vs.dropLast ds.dropLast
  | _, _, .nil => .nil
  | _, _, .cons a .nil => .nil
  | _, _, .cons a (.cons b c) => .cons a (DqAll.dropLast (.cons b c))
theorem last_at {F : Hp} {vs : List V} {ds : List D} (h : DqAll K F vs ds) (hne : ds ≠ []) : ∃ y, vs[vs.length - 1]? = some y ∧ ∃ d, ds.getLast? = some d ∧ Dq K F y d := by
  have hl := h.len
  have hpos : 0 < ds.length := List.length_pos_iff.mpr hne
  obtain ⟨y, h1, h2⟩ := h.get (i := ds.length - 1) (List.getElem?_eq_getElem (by omega))
  exact ⟨y, by rw [hl]; exact h1, _, by rw [List.getLast?_eq_getElem?]; exact List.getElem?_eq_getElem (by omega), h2⟩
theorem ss_pop {i : Nat} : SdS K (tDrop (tBM0 K "list" rPop (tVar i))) (popS i) := by
  intro F O H pc σ ρ s fl s' st e Dn kk
  unfold popS at e
  split at e
  · rename_i ds hi
    split at e
    · cases e
    · rename_i hne
      cases e
      obtain ⟨q, vs, h1, h2, h3, h4⟩ := st.env.own_at hi
      obtain ⟨y, hy, _⟩ := last_at h4 hne
      obtain ⟨q2, st2⟩ := own_upd st h1 h2 h4.dropLast
      exact ⟨.ref q, h1, .inl ⟨rfl, vs, SqL.of h3⟩, q, vs, y, rfl, rfl, h3, hy, kk _ F O _ pc q2 (PcLe.refl _) st2⟩
  · cases e
/-- y = x.pop(), x one's own, y another name -/
def popAS (j i : Nat) : Z := fun ρ s => match ρ[i]? with
  | some (.ow ds) => match ds.getLast? with
    | some d => if i ≠ j then some (.nx ((ρ.set i (.ow ds.dropLast)).set j (.fz d)), s) else none
    | none => none
  | _ => none
theorem ss_popA {i j : Nat} : SdS K (tAsg (tBM0 K "list" rPop (tVar i)) (gName j)) (popAS j i) := by
  intro F O H pc σ ρ s fl s' st e Dn kk
  unfold popAS at e
  split at e
  · rename_i ds hi
    split at e
    · rename_i d hd
      split at e
      · cases e
        obtain ⟨q, vs, h1, h2, h3, h4⟩ := st.env.own_at hi
        have hne : ds ≠ [] := fun z => by rw [z] at hd; cases hd
        obtain ⟨y, hy, d', hd', dq⟩ := last_at h4 hne
        rw [hd] at hd'
        cases hd'
        obtain ⟨q2, st2⟩ := own_upd st h1 h2 h4.dropLast
        refine ⟨.ref q, h1, .inl ⟨rfl, vs, SqL.of h3⟩, q, vs, y, rfl, rfl, h3, hy, ?_⟩
        exact kk _ F O _ pc q2 (PcLe.refl _) (st2.set dq)
      · cases e
    · cases e
  · cases e
/-! ### x.extend(e) -/
def extMS (i : Nat) (g : Y) : Z := fun ρ s => bO (g ρ s) fun d s1 => match ρ[i]?, d with
  | some (.ow ds), .list es => if ds.length + es.length ≤ lim then some (.nx (ρ.set i (.ow (ds ++ es))), s1) else none
  | _, _ => none
theorem ss_extM {i : Nat} (h : SdY K te ge) : SdS K (tDrop (tBM K "list" rExtend (tVar i) (tCons te tNil))) (extMS i ge) := by
  intro F O H pc σ ρ s fl s' st e Dn k
  obtain ⟨x, s1, e1, e⟩ := bO_some e
  split at e
  · rename_i ds es hi
    split at e
    · rename_i hz
      cases e
      obtain ⟨q, vs, h1, h2, h3, h4⟩ := st.env.own_at hi
      refine ⟨.ref q, h1, .inl ⟨rfl, vs, SqL.of h3⟩, ?_⟩
      refine h F O H pc σ ρ s _ _ st e1 _ fun v F1 H1 n1 sr1 d1 => ?_
      have st1 := st.ny n1 sr1
      obtain ⟨b, ws, rfl, g1, g2⟩ := d1.lst_inv
      have hH1 : H1 q = some (.lst vs) := by
        rw [n1.own q (by rw [h2]; exact fun z => nomatch z) (by rw [h2]; exact fun z => nomatch z)]
        exact h3
      refine ⟨q, b, vs, ws, rfl, rfl, hH1, (n1.wk st.wk).fh _ _ g1, lim_le (by rw [h4.len, g2.len]; exact hz), ?_⟩
      obtain ⟨q2, st2⟩ := own_upd st1 h1 h2 ((h4.mono n1.ff).append g2)
      exact k _ F1 O _ pc (n1.sq.trans q2) (PcLe.refl _) st2
    · cases e
  · cases e
/-! ### sorted -/
def rSortZ (K : PySem.W.Frag) : List V → Hp → VK → Prop := fun xs H Q => rSortedA K xs H Q ∨ rSortX K xs H Q
theorem cr_sortZ (hu : X.A.units + 80 < cLine) : CallR X (.builtin "sorted") (rSortZ X.K) := CallR.or cr_sortedA (cr_sortX hu)
def sortZC (xs : List D) : Option (List D) := match sortC xs with
  | some ds => some ds
  | none => sortXC xs
theorem sCN_sortZ : SdCN K (rSortZ K) sortZC := by
  intro F O H xs as ds w hx e Q q
  unfold sortZC at e
  split at e
  · rename_i e1
    cases e
    exact .inl (sCN_sorted F O H xs as _ w hx e1 Q q)
  · exact .inr (sCN_sortX F O H xs as ds w hx e Q q)
end
end DL

set_option Elab.async false
set_option linter.all false
set_option maxRecDepth 100000
set_option maxHeartbeats 4000000
/-! DF0: what is never reached, expression statements, numbers of the module, isinstance, all, starred things, x.append([..]), x[i].append(e). -/
namespace DL
open PySem PySem.Spec PyProof.Rows L2
section
variable {K : PySem.W.Frag} {te tb ta : TE} {ge gb ga : Y}
/-! ### never reached -/
def tNo : TS := fun _ _ _ => False
def noS : Z := fun _ _ => none
theorem ps_no {X : Cx} {st : Stmt} : PS X st tNo := ⟨fun _ _ _ _ _ _ h => h.elim⟩
theorem ss_no : SdS K tNo noS := fun _ _ _ _ _ _ _ _ _ _ e => nomatch e
/-! ### isinstance of one class -/
def tyN : D → Option String
  | .none => some "NoneType"
  | .bool _ => some "bool"
  | .int _ => some "int"
  | .str _ => some "str"
  | .list _ => some "list"
  | .tuple _ => some "tuple"
  | .dict _ => none
def isiD (T : String) (d : D) : Option D := mO (tyN d) fun t => mO (kitB t T) fun b => some (.bool b)
theorem sd_isi {T : String} (h : SdY K te ge) : SdY K (tCB (rIsi K) (tCons te (tCons (tC (.ty T)) tNil))) (y1 (isiD T) ge) := by
  intro F O H pc σ ρ s d s' st e Q q
  obtain ⟨x, s1, e1, e⟩ := bO_some e
  obtain ⟨z, e2, e⟩ := mO_some e
  cases e
  obtain ⟨t, e3, e2⟩ := mO_some e2
  obtain ⟨b, e4, e2⟩ := mO_some e2
  cases e2
  refine h F O H pc σ ρ s x _ st e1 _ fun v F1 H1 n1 sr1 d1 => ?_
  refine ⟨v, .ty T, .type t, .type T, b, rfl, .ty T, ?_, kit_ty e4, q _ F1 H1 n1 sr1 (.bl b)⟩
  have w1 := n1.wk st.wk
  cases d1 with
  | non => cases e3; exact .base .non
  | bl y => cases e3; exact .base (.bl y)
  | int i => cases e3; exact .base (.int i)
  | str y => cases e3; exact .base (.str y)
  | lst a1 a2 => cases e3; exact .base (.lst (w1.fh _ _ a1))
  | tup a1 a2 =>
    cases e3
    rcases a1 with ⟨its, z⟩ | ⟨o, its, n, z1, z2, _⟩
    · exact .fTuple (w1.fh _ _ z)
    · exact .kTuple z1 z2
  | dct _ _ _ _ _ => cases e3
/-! ### all([..]) -/
def boolsD : List D → Option (List Bool)
  | [] => some []
  | .bool b :: ds => mO (boolsD ds) fun bs => some (b :: bs)
  | _ :: _ => none
def allC : List D → Option D
  | [.list ds] => mO (boolsD ds) fun bs => some (.bool (bs.all id))
  | _ => none
theorem bools_q {F : Hp} : ∀ {vs : List V} {ds : List D} {bs : List Bool}, DqAll K F vs ds → boolsD ds = some bs → vs = bs.map V.bl
  | _, _, _, .nil, e => by cases e; rfl
  | _, _, bs, .cons (d := d) a b, e => by
    cases d with
    | bool y =>
      obtain ⟨cs, e1, e⟩ := mO_some e
      cases e
      rw [bools_q b e1]
      cases a
      rfl
    | _ => cases e
theorem sC_all : SdC K (rAll K) allC := by
  intro F O H xs as d w hx e Q q
  unfold allC at e
  split at e
  · obtain ⟨bs, e1, e⟩ := mO_some e
    cases e
    obtain ⟨v, rfl, h⟩ := one_q hx
    obtain ⟨p, vs, rfl, h1, h2⟩ := h.lst_inv
    have := bools_q h2 e1
    subst this
    exact ⟨p, bs, rfl, w.l h1, fin0 w q (.bl _)⟩
  · cases e
/-! ### starred things -/
def aStar (g : Y) (r : Yl) : Yl := fun ρ s => bO (g ρ s) fun d s1 => match d with
  | .list xs => bO (r ρ s1) fun ys s2 => some (xs ++ ys, s2)
  | .tuple xs => bO (r ρ s1) fun ys s2 => some (xs ++ ys, s2)
  | _ => none
theorem sa_star {t : TA} {r : Yl} (h : SdY K te ge) (hr : SdA K t r) : SdA K (StX.tStar K te t) (aStar ge r) := by
  intro F O H pc σ ρ s ds s' st e Q q
  obtain ⟨x, s1, e1, e⟩ := bO_some e
  refine h F O H pc σ ρ s x _ st e1 _ fun v F1 H1 n1 sr1 d1 => ?_
  have w1 := n1.wk st.wk
  have st1 := st.ny n1 sr1
  split at e
  · obtain ⟨ys, s2, e2, e⟩ := bO_some e
    cases e
    obtain ⟨p, vs, rfl, h1, h2⟩ := d1.lst_inv
    exact ⟨p, vs, rfl, .inr (w1.l h1), hr F1 O H1 pc σ ρ s1 _ _ st1 e2 _ fun ws F2 H2 n2 sr2 d2 => q _ F2 H2 (n1.trans n2) sr2 ((h2.mono n2.ff).append d2)⟩
  · obtain ⟨ys, s2, e2, e⟩ := bO_some e
    cases e
    obtain ⟨p, vs, rfl, h1, h2⟩ := d1.tup_inv
    exact ⟨p, vs, rfl, .inl (w1.t h1), hr F1 O H1 pc σ ρ s1 _ _ st1 e2 _ fun ws F2 H2 n2 sr2 d2 => q _ F2 H2 (n1.trans n2) sr2 ((h2.mono n2.ff).append d2)⟩
  · cases e
/-! ### x[i].append(e), x a list of lists of one's own -/
def appXS (i : Nat) (gb ge : Y) : Z := fun ρ s => bO (gb ρ s) fun b s1 => bO (ge ρ s1) fun d s2 => match ρ[i]?, b with
  | some (.o2 dss), .int k => if 0 ≤ k ∧ k < dss.length then (match dss[k.toNat]? with
    | some ds => if ds.length < lim then some (.nx (ρ.set i (.o2 (dss.set k.toNat (ds ++ [d])))), s2) else none
    | none => none) else none
  | _, _ => none
theorem atI_nat {α : Type} {xs : List α} {k : Int} {x : α} (h0 : 0 ≤ k) (h1 : k < xs.length) (h : xs[k.toNat]? = some x) : atI xs k = some x := by
  rw [← h]
  unfold atI
  rw [ixN_toNat h0 h1]
  rfl
theorem ss_appX {i : Nat} (hb : SdY K tb gb) (he : SdY K te ge) : SdS K (tDrop (tBM K "list" rAppend (tOp (rIxL K) (tVar i) tb) (tCons te tNil))) (appXS i gb ge) := by
  intro F O H pc σ ρ s fl s' st e Dn kk
  obtain ⟨b, s1, e1, e⟩ := bO_some e
  obtain ⟨d, s2, e2, e⟩ := bO_some e
  split at e
  · rename_i dss k er _
    split at e
    · rename_i hk
      split at e
      · rename_i ds eds
        split at e
        · rename_i hl
          cases e
          obtain ⟨v0, h1, q, qs, rfl, h2, h3, h4, h5, h6⟩ := st.env.at_ i _ er
          obtain ⟨p, hp, hOp, vs, hHp, hq⟩ := h6.get eds
          have keep : ∀ {F' H' : Hp} {x : Addr}, Ny O F H F' H' → O x = some (.sl i) → H' x = H x := fun n hx => n.own _ (by rw [hx]; exact fun z => nomatch z) (by rw [hx]; exact fun z => nomatch z)
          refine ⟨.ref q, h1, ?_⟩
          refine hb F O H pc σ ρ s _ s1 st e1 _ fun v F1 H1 n1 sr1 d1 => ?_
          have st1 := st.ny n1 sr1
          have hpm : p ∈ qs := List.mem_of_getElem? hp
          have hkl : k < ((qs.map V.ref).length : Nat) := by rw [List.length_map, h6.len]; exact hk.2
          have hget : (qs.map V.ref)[k.toNat]? = some (V.ref p) := by rw [List.getElem?_map, hp]; rfl
          refine ⟨q, qs.map V.ref, k, .ref p, rfl, d1.int_inv, SqL.of (by rw [keep n1 h2]; exact h3), atI_nat hk.1 hkl hget, ?_⟩
          refine ⟨.inl ⟨rfl, vs, SqL.of (by rw [keep n1 hOp]; exact hHp)⟩, ?_⟩
          refine he F1 O H1 pc σ ρ s1 _ _ st1 e2 _ fun u F2 H2 n2 sr2 d2 => ?_
          have n12 := n1.trans n2
          have st2 := st1.ny n2 sr2
          have hHp2 : H2 p = some (.lst vs) := by rw [keep n12 hOp]; exact hHp
          have hHq2 : H2 q = some (.lst (qs.map V.ref)) := by rw [keep n12 h2]; exact h3
          refine ⟨p, vs, u, rfl, rfl, hHp2, lim_lt (by rw [hq.len]; exact hl), ?_⟩
          have h6' : All2 (fun a ds => O a = some (.sl i) ∧ ∃ vs, H2 a = some (.lst vs) ∧ DqAll K F2 vs ds) qs dss := h6.imp fun a ds ⟨y1, us, y2, y3⟩ => ⟨y1, us, by rw [keep n12 y1]; exact y2, y3.mono n12.ff⟩
          obtain ⟨q2, st4⟩ := own2_upd st2 h1 h2 hHq2 h4 h5 h6' hp ((hq.mono n12.ff).append (.cons d2 .nil))
          exact kk _ F2 O _ pc (n12.sq.trans q2) (PcLe.refl _) st4
        · cases e
      · cases e
    · cases e
  · cases e
end
end DL

set_option Elab.async false
set_option linter.all false
set_option maxRecDepth 100000
set_option maxHeartbeats 4000000
/-! DF1: a loop over a list of lists of one's own that changes the lists by the loop's name; x.append([..]). -/
namespace DL
open PySem PySem.Spec PyProof.Rows L2
section
variable {K : PySem.W.Frag} {F H : Hp} {O : Om} {pc : Pc} {σ : L2.St} {ρ : Rho} {s : Src}
/-- a cell of slot i is written -/
theorem cell_upd {i : Nat} {q : Addr} {o : HO} {v : Option V} {sl : Sl} (st : Stt K F O H pc σ ρ s) (h1 : σ[i]? = some v) (h2 : O q = some (.sl i)) (hs : SlOk K F O (upd H q o) pc i v sl) :
    Sq F O H F O (upd H q o) ∧ Stt K F O (upd H q o) pc σ (ρ.set i sl) s := by
  have hn : O q ≠ none := by rw [h2]; exact fun z => nomatch z
  have hF := st.wk.fo q hn
  refine ⟨⟨Same.refl _, fun a o e1 e2 => ⟨?_, e2⟩, fun a e => ?_, fun _ e => e, fun _ _ e => .inl e⟩, ⟨⟨fun a o e => ?_, st.wk.fo, fun a e => ?_⟩, ⟨?_, fun j sl hj => ?_⟩, ?_⟩⟩
  · rw [upd_ne (fun z => hn (by rw [← z]; exact e2))]; exact e1
  · by_cases ha : a = q
    · rw [ha, upd_same]; exact fun z => nomatch z
    · rw [upd_ne ha]; exact e
  · rw [upd_ne (fun z => by rw [z, hF] at e; cases e)]; exact st.wk.fh a o e
  · by_cases ha : a = q
    · rw [ha, upd_same]; exact fun z => nomatch z
    · rw [upd_ne ha]; exact st.wk.oh a e
  · rw [List.length_set]; exact st.env.len
  · by_cases hij : i = j
    · subst hij
      by_cases hl : i < ρ.length
      · rw [List.getElem?_set_self hl] at hj
        cases hj
        exact ⟨_, h1, hs⟩
      · rw [List.getElem?_eq_none (by rw [List.length_set]; omega)] at hj
        cases hj
    · rw [List.getElem?_set_ne hij] at hj
      obtain ⟨v, k1, k2⟩ := st.env.at_ j sl hj
      exact ⟨v, k1, slot_keep h2 (fun z => hij z.symm) k2⟩
  · have hs := st.src
    obtain ⟨ps, al⟩ := pc
    cases ps with
    | none => exact hs
    | some pc =>
      obtain ⟨a, c⟩ := pc
      obtain ⟨k1, k2, k3, k4, k5⟩ := hs
      exact ⟨k1, k2, by rw [upd_ne (fun z => by rw [z, h2] at k1; cases k1)]; exact k3, by rw [upd_ne (fun z => by rw [z, h2] at k2; cases k2)]; exact k4, k5⟩
/-- other slots with the same names -/
theorem EnvOk.re {ρ' : Rho} (e : EnvOk K F O H pc σ ρ) (hl : ρ'.length = ρ.length) (h : ∀ i sl', ρ'[i]? = some sl' → ∀ sl v, ρ[i]? = some sl → SlOk K F O H pc i v sl → σ[i]? = some v → SlOk K F O H pc i v sl') : EnvOk K F O H pc σ ρ' := by
  refine ⟨e.len.trans hl.symm, fun i sl' hi => ?_⟩
  have hlt : i < ρ.length := by
    rw [← hl]
    exact (List.getElem?_eq_some_iff.mp hi).1
  obtain ⟨v, h1, h2⟩ := e.at_ i _ (List.getElem?_eq_getElem hlt)
  exact ⟨v, h1, h i sl' hi _ v (List.getElem?_eq_getElem hlt) h2 h1⟩
def noAl : Sl → Bool
  | .oh _ => false
  | .al _ _ => false
  | _ => true
theorem SrcOk.al {ps : Option (Addr × Addr)} {a a' : Option (Addr × List Addr)} (h : SrcOk O H ⟨ps, a⟩ s) : SrcOk O H ⟨ps, a'⟩ s := by
  cases ps with
  | none => exact h
  | some p => exact h
theorem SlOk.ghost {ps : Option (Addr × Addr)} {a a' : Option (Addr × List Addr)} {i : Nat} {v : Option V} {sl : Sl} (hn : noAl sl = true) (h : SlOk K F O H ⟨ps, a⟩ i v sl) : SlOk K F O H ⟨ps, a'⟩ i v sl := by
  cases sl with
  | oh _ => cases hn
  | al _ _ => cases hn
  | _ => exact h
theorem Stt.ghost {ps : Option (Addr × Addr)} {a a' : Option (Addr × List Addr)} (hn : ρ.all noAl = true) (st : Stt K F O H ⟨ps, a⟩ σ ρ s) : Stt K F O H ⟨ps, a'⟩ σ ρ s :=
  ⟨st.wk, ⟨st.env.len, fun i sl hi => let ⟨v, h1, h2⟩ := st.env.at_ i sl hi; ⟨v, h1, h2.ghost (List.all_eq_true.mp hn sl (List.mem_of_getElem? hi))⟩⟩, st.src.al⟩
def isOh : Option Sl → Bool
  | some (.oh _) => true
  | _ => false
def unA : Sl → Sl
  | .al _ _ => .un
  | x => x
/-- behind the loop -/
def endA (r : Nat) (ρ : Rho) : Option Rho := match ρ[r]? with
  | some (.oh dss) => if ((ρ.set r (.o2 dss)).map unA).all noAl = true then some ((ρ.set r (.o2 dss)).map unA) else none
  | _ => none
theorem endA_st {r : Nat} {ρ' : Rho} (st : Stt K F O H pc σ ρ s) (e : endA r ρ = some ρ') (a' : Option (Addr × List Addr)) : Stt K F O H ⟨pc.src, a'⟩ σ ρ' s := by
  unfold endA at e
  split at e
  · rename_i dss hr
    split at e
    · rename_i hn
      cases e
      obtain ⟨ps, a⟩ := pc
      refine Stt.ghost hn ⟨st.wk, st.env.re (by rw [List.length_map, List.length_set]) fun i sl' hi sl v g1 g2 g3 => ?_, st.src⟩
      rw [List.getElem?_map] at hi
      by_cases hir : r = i
      · subst hir
        rw [List.getElem?_set_self (List.getElem?_eq_some_iff.mp hr).1] at hi
        cases hi
        rw [hr] at g1
        cases g1
        obtain ⟨q, qs, h1, h2, h3, h4, h5, h6, _⟩ := g2
        exact ⟨q, qs, h1, h2, h3, h4, h5, h6⟩
      · rw [List.getElem?_set_ne hir, g1] at hi
        cases hi
        cases sl with
        | al _ _ => trivial
        | _ => exact g2
    · cases e
  · cases e
def forAGo (r jk jr : Nat) (G : Z) : Nat → Nat → Rho → Src → Option (Fl × Src)
  | 0, _, ρ, s => mO (endA r ρ) fun ρ' => some (.nx ρ', s)
  | n + 1, i, ρ, s => bO (G ((ρ.set jk (.fz (.int i))).set jr (.al r i)) s) fun fl s1 => match fl with
    | .nx ρ2 => if isOh ρ2[r]? = true then forAGo r jk jr G n (i + 1) ρ2 s1 else none
    | .ct ρ2 => if isOh ρ2[r]? = true then forAGo r jk jr G n (i + 1) ρ2 s1 else none
    | .bk ρ2 => mO (endA r ρ2) fun ρ' => some (.nx ρ', s1)
    | .rt d => some (.rt d, s1)
def forAS (r jk jr : Nat) (G : Z) : Z := fun ρ s => match ρ[r]? with
  | some (.o2 dss) => if ρ.all noAl = true then forAGo r jk jr G dss.length 0 (ρ.set r (.oh dss)) s else none
  | _ => none
theorem PcLe.back {pc pc2 : Pc} {a : Option (Addr × List Addr)} (h : PcLe ⟨pc.src, a⟩ pc2) : PcLe pc ⟨pc2.src, pc.al⟩ := ⟨h.1, rfl⟩
theorem ss_forA {r jk jr : Nat} {tb : TS} {G : Z} (h : SdS K tb G) : SdS K (tFor (iEnumA K (tCons (tVar r) tNil)) (gTup K 2 (gNames [jk, jr])) tb) (forAS r jk jr G) := by
  intro F O H pc σ ρ s fl s' st e Dn k
  unfold forAS at e
  split at e
  · rename_i dss hr
    split at e
    · rename_i hn
      obtain ⟨v, hv, q, qs, rfl, h2, h3, h4, h5, h6⟩ := st.env.at_ r _ hr
      obtain ⟨ps, al0⟩ := pc
      have st0 : Stt K F O H ⟨ps, some (q, qs)⟩ σ (ρ.set r (.oh dss)) s := by
        have st1 := Stt.ghost (a' := some (q, qs)) hn st
        refine ⟨st1.wk, st1.env.re (by rw [List.length_set]) fun i sl' hi sl v g1 g2 g3 => ?_, st1.src⟩
        by_cases hir : r = i
        · subst hir
          rw [List.getElem?_set_self (List.getElem?_eq_some_iff.mp hr).1] at hi
          cases hi
          rw [hv] at g3
          cases g3
          exact ⟨q, qs, rfl, h2, h3, h4, h5, h6, rfl⟩
        · rw [List.getElem?_set_ne hir, g1] at hi
          cases hi
          exact g2
      refine .inl ⟨.ref q, hv, q, qs.map V.ref, rfl, SqL.of h3, ?_⟩
      let Pv : Nat → L2.St → Hp → Prop := fun i σ2 H2 => ∃ F2 O2 pc2 ρ2 s2, Sq F O H F2 O2 H2 ∧ PcLe ⟨ps, some (q, qs)⟩ pc2 ∧ Stt K F2 O2 H2 pc2 σ2 ρ2 s2 ∧ isOh ρ2[r]? = true ∧ forAGo r jk jr G (qs.length - i) i ρ2 s2 = some (fl, s')
      refine for_it (walk_enum (xs := qs.map V.ref)) Pv ⟨F, O, _, _, s, Sq.refl _ _ _, PcLe.refl _, st0, by rw [List.getElem?_set_self (List.getElem?_eq_some_iff.mp hr).1]; rfl, by rw [Nat.sub_zero, h6.len]; exact e⟩ ?_ ?_ ?_
      · rintro i σ2 H2 _ ⟨F2, O2, pc2, ρ2, s2, q2, p2, st2, ho, _⟩
        cases z : ρ2[r]? with
        | none => rw [z] at ho; cases ho
        | some sl =>
          rw [z] at ho
          cases sl with
          | oh dss2 =>
            obtain ⟨v2, g1, q', qs', g2, g3, g4, g5, g6, g7, g8⟩ := st2.env.at_ r _ z
            rw [p2.2] at g8
            cases g8
            exact SqL.of g4
          | _ => cases ho
      · rintro i x σ2 H2 H2' hlt ⟨F2, O2, pc2, ρ2, s2, q2, p2, st2, ho, ego⟩ hy
        obtain ⟨T, u, w, rfl, hT, rfl, e1, e2⟩ := hy
        cases e1
        rw [List.length_map] at hlt
        dsimp only at e2
        rw [List.getElem?_map, List.getElem?_eq_getElem hlt] at e2
        cases e2
        have hsub : qs.length - i = (qs.length - (i + 1)) + 1 := by omega
        rw [hsub] at ego
        unfold forAGo at ego
        have n : Ny O2 F2 H2 F2 (upd H2 T (.tup [.int (i : Nat), .ref qs[i]])) := Ny.pure st2.wk (same_new hT) (Same.refl _) (st2.wk.fh.trans (same_new hT)) fun _ _ h => .inl h
        have st3 := st2.ny n (st2.src.same (same_new hT))
        refine ⟨T, [.int (i : Nat), .ref qs[i]], rfl, SqT.of upd_same, rfl, .int (i : Nat), [.ref qs[i]], rfl, .ref qs[i], [], rfl, rfl, ?_⟩
        have st4 := st3.set (i := jk) (.int (i : Nat))
        have st5 : Stt K F2 O2 (upd H2 T (.tup [.int (i : Nat), .ref qs[i]])) pc2 ((σ2.set jk (some (.int (i : Nat)))).set jr (some (.ref qs[i]))) ((ρ2.set jk (.fz (.int (i : Nat)))).set jr (.al r i)) s2 :=
          ⟨st4.wk, set_slot st4.env ⟨q, qs, qs[i], p2.2, List.getElem?_eq_getElem hlt, rfl⟩, st4.src⟩
        obtain ⟨f4, s4, eg, ego⟩ := bO_some ego
        have q3 := q2.trans n.sq
        refine h F2 O2 _ pc2 _ _ s2 f4 s4 st5 eg _ ?_
        cases f4 with
        | nx ρ4 =>
          intro σ' F' O' H' pc' q' p' st'
          dsimp only at ego
          split at ego
          · rename_i ho4
            exact ⟨F', O', pc', ρ4, s4, q3.trans q', p2.trans p', st', ho4, ego⟩
          · cases ego
        | ct ρ4 =>
          intro σ' F' O' H' pc' q' p' st'
          dsimp only at ego
          split at ego
          · rename_i ho4
            exact ⟨F', O', pc', ρ4, s4, q3.trans q', p2.trans p', st', ho4, ego⟩
          · cases ego
        | bk ρ4 =>
          intro σ' F' O' H' pc' q' p' st'
          obtain ⟨ρ5, e5, ego⟩ := mO_some ego
          cases ego
          exact k σ' F' O' H' ⟨pc'.src, al0⟩ (q3.trans q') ((p2.trans p').back (pc := ⟨ps, al0⟩)) (endA_st st' e5 al0)
        | rt d =>
          cases ego
          intro v F' O' H' pc' q' p' wk' sr' dq'
          exact k v F' O' H' ⟨pc'.src, al0⟩ (q3.trans q') ((p2.trans p').back (pc := ⟨ps, al0⟩)) wk' sr'.al dq'
      · rintro σ2 H2 ⟨F2, O2, pc2, ρ2, s2, q2, p2, st2, ho, ego⟩
        rw [List.length_map, Nat.sub_self] at ego
        unfold forAGo at ego
        obtain ⟨ρ5, e5, ego⟩ := mO_some ego
        cases ego
        exact k σ2 F2 O2 H2 ⟨pc2.src, al0⟩ q2 (p2.back (pc := ⟨ps, al0⟩)) (endA_st st2 e5 al0)
    · cases e
  · cases e
/-! ### by the loop's name -/
variable {te : TE} {ge : Y}
theorem al_at {i r k : Nat} {dss : List (List D)} {ds : List D} (st : Stt K F O H pc σ ρ s) (hi : ρ[i]? = some (.al r k)) (hr : ρ[r]? = some (.oh dss)) (hd : dss[k]? = some ds) :
    ∃ q qs a vs, σ[i]? = some (some (.ref a)) ∧ σ[r]? = some (some (.ref q)) ∧ O q = some (.sl r) ∧ H q = some (.lst (qs.map V.ref)) ∧ q ∉ qs ∧ qs.Nodup ∧ All2 (fun a ds => O a = some (.sl r) ∧ ∃ vs, H a = some (.lst vs) ∧ DqAll K F vs ds) qs dss ∧ pc.al = some (q, qs) ∧
      qs[k]? = some a ∧ O a = some (.sl r) ∧ H a = some (.lst vs) ∧ DqAll K F vs ds := by
  obtain ⟨v, h1, q, qs, a, h2, h3, rfl⟩ := st.env.at_ i _ hi
  obtain ⟨v2, g1, q2, qs2, rfl, g2, g3, g4, g5, g6, g7⟩ := st.env.at_ r _ hr
  rw [h2] at g7
  cases g7
  obtain ⟨a2, k1, k2, vs, k3, k4⟩ := g6.get hd
  rw [h3] at k1
  cases k1
  exact ⟨q, qs, a, vs, h1, g1, g2, g3, g4, g5, g6, h2, h3, k2, k3, k4⟩
theorem al_upd {r k : Nat} {q a : Addr} {qs : List Addr} {ws : List V} {es : List D} {dss : List (List D)} (st : Stt K F O H pc σ ρ s) (h1 : σ[r]? = some (some (.ref q))) (h2 : O q = some (.sl r))
    (h3 : H q = some (.lst (qs.map V.ref))) (h4 : q ∉ qs) (h5 : qs.Nodup) (h6 : All2 (fun a ds => O a = some (.sl r) ∧ ∃ vs, H a = some (.lst vs) ∧ DqAll K F vs ds) qs dss) (h7 : pc.al = some (q, qs)) (ha : qs[k]? = some a) (hO : O a = some (.sl r)) (hd : DqAll K F ws es) :
    Sq F O H F O (upd H a (.lst ws)) ∧ Stt K F O (upd H a (.lst ws)) pc σ (ρ.set r (.oh (dss.set k es))) s := by
  have hqa : q ≠ a := fun z => h4 (by rw [z]; exact List.mem_of_getElem? ha)
  refine cell_upd st h1 hO ⟨q, qs, rfl, h2, by rw [upd_ne hqa]; exact h3, h4, h5, all2_set h6 h5 ha (fun x ds hx hne ⟨z1, vs, z2, z3⟩ => ⟨z1, vs, by rw [upd_ne hne]; exact z2, z3⟩) ⟨hO, ws, upd_same, hd⟩, h7⟩
theorem ny_sl {F' H' : Hp} {a : Addr} {i : Nat} (n : Ny O F H F' H') (h : O a = some (.sl i)) : H' a = H a := n.own a (by rw [h]; exact fun z => nomatch z) (by rw [h]; exact fun z => nomatch z)
/-- x.append(e), x a loop's name -/
def appAS (i : Nat) (g : Y) : Z := fun ρ s => bO (g ρ s) fun d s1 => match ρ[i]? with
  | some (.al r k) => (match ρ[r]? with
    | some (.oh dss) => (match dss[k]? with
      | some ds => if ds.length < lim then some (.nx (ρ.set r (.oh (dss.set k (ds ++ [d])))), s1) else none
      | none => none)
    | _ => none)
  | _ => none
theorem ss_appA {i : Nat} (h : SdY K te ge) : SdS K (tDrop (tBM K "list" rAppend (tVar i) (tCons te tNil))) (appAS i ge) := by
  intro F O H pc σ ρ s fl s' st e Dn kk
  obtain ⟨x, s1, e1, e⟩ := bO_some e
  split at e
  · rename_i r k hi
    split at e
    · rename_i dss hr
      split at e
      · rename_i ds hd
        split at e
        · rename_i hz
          cases e
          obtain ⟨q, qs, a, vs, g1, g2, g3, g4, g5, g6, g7, g8, g9, g10, g11, g12⟩ := al_at st hi hr hd
          refine ⟨.ref a, g1, .inl ⟨rfl, vs, SqL.of g11⟩, ?_⟩
          refine h F O H pc σ ρ s x _ st e1 _ fun v F1 H1 n1 sr1 d1 => ?_
          have st1 := st.ny n1 sr1
          refine ⟨a, vs, v, rfl, rfl, by rw [ny_sl n1 g10]; exact g11, lim_lt (by rw [g12.len]; exact hz), ?_⟩
          obtain ⟨q2, st2⟩ := al_upd st1 g2 g3 (by rw [ny_sl n1 g3]; exact g4) g5 g6 (g7.imp fun b ds ⟨z1, us, z2, z3⟩ => ⟨z1, us, by rw [ny_sl n1 z1]; exact z2, z3.mono n1.ff⟩) g8 g9 g10 ((g12.mono n1.ff).append (.cons d1 .nil))
          exact kk _ F1 O _ pc (n1.sq.trans q2) (PcLe.refl _) st2
        · cases e
      · cases e
    · cases e
  · cases e
/-- x[e] = .., x a loop's name -/
def subAG (i : Nat) (g : Y) : Tg := fun d ρ s => bO (g ρ s) fun x s1 => match ρ[i]?, x with
  | some (.al r k), .int n => (match ρ[r]? with
    | some (.oh dss) => (match dss[k]? with
      | some ds => mO (ixN ds.length n) fun j => some (ρ.set r (.oh (dss.set k (ds.set j d))), s1)
      | none => none)
    | _ => none)
  | _, _ => none
theorem sg_subA {i : Nat} (h : SdY K te ge) : SdG K (gSub (tVar i) te rSetL) (subAG i ge) := by
  intro F O H pc σ ρ s d v ρ' s' st hd e Q q
  obtain ⟨x, s1, e1, e⟩ := bO_some e
  split at e
  · rename_i r k n hi
    split at e
    · rename_i dss hr
      split at e
      · rename_i ds hds
        obtain ⟨j, e2, e⟩ := mO_some e
        cases e
        obtain ⟨p, qs, a, vs, g1, g2, g3, g4, g5, g6, g7, g8, g9, g10, g11, g12⟩ := al_at st hi hr hds
        refine ⟨.ref a, g1, ?_⟩
        refine h F O H pc σ ρ s _ _ st e1 _ fun u F1 H1 n1 sr1 d1 => ?_
        have st1 := st.ny n1 sr1
        refine ⟨a, vs, n, j, rfl, d1.int_inv, by rw [ny_sl n1 g10]; exact g11, by rw [g12.len]; exact e2, ?_⟩
        obtain ⟨q2, st2⟩ := al_upd st1 g2 g3 (by rw [ny_sl n1 g3]; exact g4) g5 g6 (g7.imp fun b ds ⟨z1, us, z2, z3⟩ => ⟨z1, us, by rw [ny_sl n1 z1]; exact z2, z3.mono n1.ff⟩) g8 g9 g10 (DqAll.set (hd.mono n1.ff) j (g12.mono n1.ff))
        exact q _ F1 O _ (n1.sq.trans q2) st2
      · cases e
    · cases e
  · cases e
/-- the walked lists and the loop's name are frozen -/
def reA (r : Nat) (dss : List (List D)) : Sl → Sl
  | .al r' k => if r' = r then (match dss[k]? with
    | some ds => .fz (.list ds)
    | none => .un) else .un
  | x => x
def frzAR (r : Nat) (ρ : Rho) : Rho := match ρ[r]? with
  | some (.oh dss) => (ρ.set r (.fz (.list (dss.map .list)))).map (reA r dss)
  | _ => ρ
theorem frzA_st (r : Nat) (st : Stt K F O H pc σ ρ s) : ∃ F' O', Sq F O H F' O' H ∧ Stt K F' O' H pc σ (frzAR r ρ) s := by
  unfold frzAR
  split
  · rename_i dss hr
    obtain ⟨v, h1, q, qs, rfl, h2, h3, h4, h5, h6, h7⟩ := st.env.at_ r _ hr
    have hq : ∀ a ∈ qs, O a = some (.sl r) := fun a ha => by
      obtain ⟨_, z, _⟩ := h6.left ha
      exact z
    have fz : ∃ F' O', Sq F O H F' O' H ∧ Stt K F' O' H pc σ (ρ.set r (.fz (.list (dss.map .list)))) s := by
      refine freeze (S := q :: qs) st (fun a h => ?_) h1 fun F' e hF => .lst (vs := qs.map V.ref) ?_ ?_
      · rcases List.mem_cons.mp h with h | h
        · rw [h]; exact h2
        · exact hq a h
      · rw [hF q List.mem_cons_self]
        exact h3
      · have hF' : ∀ a ∈ qs, F' a = H a := fun a h => hF a (List.mem_cons_of_mem _ h)
        clear hr h3 h4 h5 hq hF h7
        induction h6 with
        | nil => exact .nil
        | cons a b ih =>
          obtain ⟨z1, vs, z2, z3⟩ := a
          refine .cons (.lst (vs := vs) ?_ (z3.mono e)) (ih fun a h => hF' a (List.mem_cons_of_mem _ h))
          rw [hF' _ List.mem_cons_self]
          exact z2
    obtain ⟨F', O', q', st'⟩ := fz
    refine ⟨F', O', q', ⟨st'.wk, st'.env.re (by rw [List.length_map]) fun i sl' hi sl v g1 g2 g3 => ?_, st'.src⟩⟩
    rw [List.getElem?_map, g1] at hi
    cases hi
    cases sl with
    | al r' k =>
      show SlOk K F' O' H pc i v (if r' = r then (match dss[k]? with
        | some ds => .fz (.list ds)
        | none => .un) else .un)
      split
      · split
        · rename_i ds hd
          obtain ⟨p, ps, a, k1, k2, rfl⟩ := g2
          rw [h7] at k1
          cases k1
          obtain ⟨w, m1, x, rfl, m2⟩ := st'.env.at_ r _ (List.getElem?_set_self (List.getElem?_eq_some_iff.mp hr).1)
          rw [h1] at m1
          cases m1
          obtain ⟨b, us, e1, e2, e3⟩ := m2.lst_inv
          cases e1
          have e4 := st'.wk.fh _ _ e2
          rw [h3] at e4
          cases e4
          obtain ⟨d', f1, f2⟩ := e3.get' (i := k) (v := V.ref a) (by rw [List.getElem?_map, k2]; rfl)
          rw [List.getElem?_map, hd] at f1
          cases f1
          exact ⟨_, rfl, f2⟩
        · trivial
      · trivial
    | _ => exact g2
  · exact ⟨F, O, Sq.refl _ _ _, st⟩
def frzAS (r : Nat) (G : Z) : Z := fun ρ s => G (frzAR r ρ) s
theorem ss_frzA {t : TS} {G : Z} (r : Nat) (h : SdS K t G) : SdS K t (frzAS r G) := by
  intro F O H pc σ ρ s fl s' st e Dn k
  obtain ⟨F', O', q, st'⟩ := frzA_st r st
  exact h F' O' H pc σ _ s fl s' st' e Dn (k.after q (PcLe.refl _))
/-! ### x.append([..]), x a list of lists -/
def app2S (i : Nat) (g : Yl) : Z := fun ρ s => bO (g ρ s) fun ds s1 => match ρ[i]? with
  | some (.o2 dss) => if dss.length < lim then some (.nx (ρ.set i (.o2 (dss ++ [ds]))), s1) else none
  | _ => none
theorem ss_app2 {i : Nat} {gl : Yl} (h : SdN K te gl) : SdS K (tDrop (tBM K "list" rAppend (tVar i) (tCons te tNil))) (app2S i gl) := by
  intro F O H pc σ ρ s fl s' st e Dn kk
  obtain ⟨ds, s1, e1, e⟩ := bO_some e
  split at e
  · rename_i dss hi
    split at e
    · rename_i hz
      cases e
      obtain ⟨v, h1, q, qs, rfl, h2, h3, h4, h5, h6⟩ := st.env.at_ i _ hi
      refine ⟨.ref q, h1, .inl ⟨rfl, _, SqL.of h3⟩, ?_⟩
      refine h F O H pc σ ρ s ds _ st e1 _ fun p vs F1 H1 n1 sr1 hp hF hH d1 => ?_
      have st1 := st.ny n1 sr1
      have hH1 : H1 q = some (.lst (qs.map V.ref)) := by rw [ny_sl n1 h2]; exact h3
      refine ⟨q, _, .ref p, rfl, rfl, hH1, lim_lt (by rw [List.length_map, h6.len]; exact hz), ?_⟩
      have hOp : O p = none := st.wk.nO hp
      have hpq : p ≠ q := fun z => by rw [z, h2] at hOp; cases hOp
      have hpn : p ∉ qs := fun z => by
        obtain ⟨_, y, _⟩ := h6.left z
        rw [hOp] at y
        cases y
      have hS : NewS O H F1 H1 [p] := fun a z => by
        rw [List.mem_singleton.mp z]
        exact ⟨hp, hOp, hF, by rw [hH]; exact fun z => nomatch z⟩
      -- the new list is owned by slot i
      have keep : ∀ a, O a ≠ none → nO O i [p] a = O a := fun a ha => nO_ne (fun z => ha (hS a z).2.1)
      have q1 : Sq F O H F1 (nO O i [p]) H1 := by
        have n := n1.sq
        refine ⟨n.ff, fun a o e1 e2 => ?_, n.dom, fun a e => ?_, n.new⟩
        · obtain ⟨e3, e4⟩ := n.unown a o e1 e2
          exact ⟨e3, by rw [nO_ne (fun z => by rw [(hS a z).1] at e1; cases e1)]; exact e4⟩
        · rw [keep a (by rw [e]; exact fun z => nomatch z)]
          exact e
      have st2 : Stt K F1 (nO O i [p]) H1 pc σ ρ s' := by
        refine ⟨⟨st1.wk.fh, fun a e => ?_, fun a e => ?_⟩, ⟨st1.env.len, fun j sl' hj => let ⟨v', k1, k2⟩ := st1.env.at_ j sl' hj; ⟨v', k1, k2.own fun a e => ?_⟩⟩, ?_⟩
        · by_cases ha : a ∈ [p]
          · exact (hS a ha).2.2.1
          · rw [nO_ne ha] at e; exact st1.wk.fo a e
        · by_cases ha : a ∈ [p]
          · exact (hS a ha).2.2.2
          · rw [nO_ne ha] at e; exact st1.wk.oh a e
        · rw [keep a (by rw [e]; exact fun z => nomatch z)]
          exact e
        · have hs := st1.src
          obtain ⟨ps, al⟩ := pc
          cases ps with
          | none =>
            intro a e
            by_cases ha : a ∈ [p]
            · rw [nO_in ha] at e; cases e
            · rw [nO_ne ha] at e; exact hs a e
          | some pc =>
            obtain ⟨a, c⟩ := pc
            obtain ⟨k1, k2, k3, k4, k5⟩ := hs
            refine ⟨?_, ?_, k3, k4, fun b e => ?_⟩
            · rw [keep a (by rw [k1]; exact fun z => nomatch z)]; exact k1
            · rw [keep c (by rw [k2]; exact fun z => nomatch z)]; exact k2
            · by_cases ha : b ∈ [p]
              · rw [nO_in ha] at e; cases e
              · rw [nO_ne ha] at e; exact k5 b e
      have hOq : nO O i [p] q = some (.sl i) := by rw [keep q (by rw [h2]; exact fun z => nomatch z)]; exact h2
      obtain ⟨q3, st3⟩ := cell_upd (sl := .o2 (dss ++ [ds])) (o := .lst (qs.map V.ref ++ [.ref p])) st2 h1 hOq ⟨q, qs ++ [p], rfl, hOq, by rw [upd_same, List.map_append]; rfl, fun z => (List.mem_append.mp z).elim h4 fun z => hpq (List.mem_singleton.mp z).symm,
        List.nodup_append.mpr ⟨h5, List.pairwise_singleton _ _, fun a ha b hb z => hpn (by rw [← List.mem_singleton.mp hb, ← z]; exact ha)⟩,
        All2.app (h6.impMem fun a es ha ⟨z1, us, z2, z3⟩ => ⟨by rw [keep a (by rw [z1]; exact fun z => nomatch z)]; exact z1, us, by rw [upd_ne (fun z => h4 (by rw [← z]; exact ha)), ny_sl n1 z1]; exact z2, z3.mono n1.ff⟩) (.cons ⟨nO_in (List.mem_singleton.mpr rfl), vs, by rw [upd_ne hpq]; exact hH, d1⟩ .nil)⟩
      exact kk _ F1 _ _ pc (q1.trans q3) (PcLe.refl _) st3
    · cases e
  · cases e
end
end DL

set_option Elab.async false
set_option linter.all false
set_option maxRecDepth 100000
set_option maxHeartbeats 4000000
/-! DF2: {k: v, ..}. -/
namespace DL
open PySem PySem.Spec PyProof.Rows L2
def flat2 : List Tr → List V
  | [] => []
  | t :: ts => t.2.1 :: t.2.2 :: flat2 ts
def RVs (xs : List V) (vs : List (Value × Value)) : Prop := Vals xs (vs.flatMap fun p => [p.1, p.2])
/-- the pairs of a display -/
structure PD (X : Cx) (pos : Pos) (kvs : List (Expr × Expr)) (t : TA) : Prop where
  run : ∀ (pins : List (Addr × Obj)) (s : Shared) (σ : L2.St) (H : Hp) (Q : List V → Hp → Prop), Inv X pins σ H s → t σ H Q →
    wpAny (model X.prog X.w) X.A (evalPairs (kvs.map fun p => (eval p.1 X.env, (do let x ← eval p.2 X.env; standAt pos; pure x)))) (fun vs s' => ∃ xs H', Inv X pins σ H' s' ∧ RVs xs vs ∧ Q xs H') X.xe s
section
variable {X : Cx} {pos : Pos} {kvs : List (Expr × Expr)} {ek ev : Expr} {tk tv : TE} {t : TA}
theorem pd_nil : PD X pos [] tNil := ⟨fun pins s σ H Q I h => evalPairs_nil ⟨[], H, I, .nil, h⟩⟩
theorem pd_cons (hk : PE X ek tk) (hv : PE X ev tv) (hr : PD X pos kvs t) : PD X pos ((ek, ev) :: kvs) (tCons tk (tCons tv t)) := by
  refine ⟨fun pins s σ H Q I h => ?_⟩
  refine evalPairs_cons (thn (hk.run pins s σ H _ I h) fun kv s1 ⟨x, H1, I1, r1, q1⟩ => ?_)
  refine wpAny_bind (thn (hv.run pins s1 σ H1 _ I1 q1) fun vv s2 ⟨y, H2, I2, r2, q2⟩ => wpAny_bind (wpAny_standAt (wpAny_pure ?_)))
  exact thn (hr.run pins s2 σ H2 _ I2 q2) fun vs s3 ⟨xs, H3, I3, r3, q3⟩ => ⟨x :: y :: xs, H3, I3, .cons r1 (.cons r2 r3), q3⟩
def tXDisp (K : PySem.W.Frag) (t : TA) : TE := fun σ H Q => ∀ p o0, H p = none → DFc p o0 [] → t σ (upd H p (xO p o0)) fun xs H1 => H1 p = some (xO p o0) ∧ ∃ us : List Tr, xs = flat2 us ∧
  ((us.map (·.1)).all isI = true ∨ (us.map (·.1)).all isTk = true) ∧ DqAll K H1 (us.map (·.2.1)) (us.map (·.1)) ∧ ∀ o, DFc p o (putT [] us) → Q (.ref p) (upd H1 p (xO p o))
theorem kv_I {P : Program} {w : World} {K : PySem.W.Frag} {H : Hp} : ∀ {us : List Tr} {vs : List (Value × Value)}, (us.map (·.1)).all isI = true → DqAll K H (us.map (·.2.1)) (us.map (·.1)) → RVs (flat2 us) vs → ∃ xs : List (Key × Value), Carries (mixKind P w) vs xs ∧ Paired RI us xs
  | [], vs, _, _, r => by
    cases vs with
    | nil => exact ⟨[], trivial, .nil⟩
    | cons v vs => cases r
  | u :: us, vs, hk, hd, r => by
    rw [List.map_cons, List.all_cons, Bool.and_eq_true] at hk
    rw [List.map_cons, List.map_cons] at hd
    cases hd with
    | cons d1 d2 =>
      cases vs with
      | nil => cases r
      | cons v vs =>
        cases r with
        | cons r1 r =>
          cases r with
          | cons r2 r3 =>
            obtain ⟨xs, h1, h2⟩ := kv_I (P := P) (w := w) hk.2 d2 r3
            obtain ⟨i, hi⟩ := isI_inv hk.1
            rw [hi] at d1
            have e1 := d1.int_inv
            rw [e1] at r1
            obtain ⟨tk, e2⟩ := r1
            exact ⟨(.inl i, v.2) :: xs, ⟨by rw [e2]; exact mixKind_int P w i tk, rfl, h1⟩, .cons ⟨i, hi, e1, rfl, r2⟩ h2⟩
theorem kv_H {pins : List (Addr × Obj)} {σ : L2.St} {H : Hp} {s : Shared} (I : Inv X pins σ H s) : ∀ {us : List Tr} {vs : List (Value × Value)}, (us.map (·.1)).all isTk = true → DqAll X.K H (us.map (·.2.1)) (us.map (·.1)) → RVs (flat2 us) vs →
    ∃ xs : List (D × Addr × Value), CarriesH (deepKind X.prog X.w) s.heap vs xs ∧ Paired RT us xs
  | [], vs, _, _, r => by
    cases vs with
    | nil => exact ⟨[], trivial, .nil⟩
    | cons v vs => cases r
  | u :: us, vs, hk, hd, r => by
    rw [List.map_cons, List.all_cons, Bool.and_eq_true] at hk
    rw [List.map_cons, List.map_cons] at hd
    cases hd with
    | cons d1 d2 =>
      cases vs with
      | nil => cases r
      | cons v vs =>
        cases r with
        | cons r1 r =>
          cases r with
          | cons r2 r3 =>
            obtain ⟨xs, h1, h2⟩ := kv_H I hk.2 d2 r3
            obtain ⟨b, hb, hb2⟩ := tup_ref hk.1 d1 r1
            refine ⟨(u.1, b, v.2) :: xs, ⟨hb2, rfl, ⟨?_, (isTk_inv hk.1).2⟩, h1⟩, .cons ⟨rfl, hb, r2, hk.1⟩ h2⟩
            rw [hb] at d1
            exact Dq.kis I (isTk_inv hk.1).2 d1 rfl
theorem pr_I : ∀ {vs : List Tr} {xs : List (Key × Value)}, Paired RI vs xs → ∀ {ts : List Tr} {ys : List (Key × Value)}, Paired RI ts ys → Paired RI (putT ts vs) (merged ys xs) := by
  intro vs xs p
  induction p with
  | nil => intro ts ys h; exact h
  | @cons t x _ _ r _ ih =>
    intro ts ys h
    obtain ⟨i, r1, r2, r3, r4⟩ := r
    refine ih ?_
    show Paired RI (tput ts t.1 t.2.1 t.2.2) (stored ys x.1 x.2)
    rw [r1, r2, r3]
    exact RI.put h r4
theorem pr_H : ∀ {vs : List Tr} {xs : List (D × Addr × Value)}, Paired RT vs xs → ∀ {ts : List Tr} {ys : List (D × Addr × Value)}, Paired RT ts ys → Paired RT (putT ts vs) (storedAllH ys xs) := by
  intro vs xs p
  induction p with
  | nil => intro ts ys h; exact h
  | @cons t x _ _ r _ ih =>
    intro ts ys h
    obtain ⟨r1, r2, r3, r4⟩ := r
    refine ih ?_
    show Paired RT (tput ts t.1 t.2.1 t.2.2) (storedH ys x.1 x.2.1 x.2.2)
    rw [r2, ← r1]
    exact RT.put r4 h r3
theorem rvs_len : ∀ {us : List Tr} {vs : List (Value × Value)}, RVs (flat2 us) vs → us.length = vs.length
  | [], [], _ => rfl
  | [], _ :: _, r => nomatch r
  | _ :: _, [], r => nomatch r
  | u :: us, v :: vs, r => by
    cases r with
    | cons _ r =>
      cases r with
      | cons _ r => rw [List.length_cons, List.length_cons, rvs_len (us := us) (vs := vs) r]
theorem pe_xdisp {keys : List (Option Expr)} {vals : List Expr} (hu : X.A.units + 80 < cLine) (hp : PD X pos kvs t)
    (hsh : (evalEachOpt keys X.env).zip ((evalEach vals X.env).map fun v => do let x ← v; standAt pos; pure x) = (kvs.map fun p => (eval p.1 X.env, (do let x ← eval p.2 X.env; standAt pos; pure x))).map fun p => (some p.1, p.2) := by rfl)
    (h0 : kvs ≠ [] := by exact fun z => nomatch z) (hl : kvs.length ≤ 15 := by decide) : PE X (.Dict keys vals pos) (tXDisp X.K t) := ⟨fun pins s σ H Q I h => by
  have hn : (s.heap.objs.size == sysModules) = false := beq_eq_false_iff_ne.mpr (Nat.ne_of_gt I.big)
  have hml : (kvs.map fun p => ((eval p.1 X.env, (do let x ← eval p.2 X.env; standAt pos; pure x)) : Sem Value × Sem Value)).length = kvs.length := List.length_map _
  rw [arm_eval_Dict, hsh, dictDisplay_pairs _ (fun z => h0 (List.map_eq_nil_iff.mp z)) (by rw [hml]; omega)]
  refine wpAny_bind (wpAny_standAt (wpAny_bind ?_))
  unfold subDict
  refine wpAny_bind (wpAny_alloc ?_)
  refine wpAny_bind (wpAny_holding ?_)
  rw [if_pos (by rw [hml]; exact hl)]
  have I1 := I.laid (a := s.heap.objs.size) (o := xO s.heap.objs.size { cls := .type "dict", data := .dict #[] }) (t' := s.toks) (fun _ _ q => Heap.get?_push_of_some _ q) (Nat.le_refl _) (xO_ok (Heap.get?_push_size _ rfl))
  refine wpAny_bind (thn (wpAny_evalPairs_len (hp.run pins _ σ _ _ I1 (h _ _ (I.hok.fresh (Nat.le_refl _)) (new_dfc hn)))) fun vs s1 ⟨hvl, xs, H1, I2, r, hH, us, hx, hkind, hq, q⟩ => ?_)
  subst hx
  rw [hml] at hvl
  have hul : us.length = vs.length := rvs_len r
  have hz := putT_len us []
  rw [List.length_nil] at hz
  have hsl : us.length ≤ sizeLine := by
    have : (15 : Nat) ≤ sizeLine := by decide
    omega
  have mu : Mut (H1 s.heap.objs.size) := by rw [hH]; exact True.intro
  have dat : DAt X.K H1 s.heap.objs.size [] := ⟨_, hH, new_dfc hn, .nil⟩
  have fin : ∀ (h' : Heap) (tk : Nat) (o : Obj), h'.get? s.heap.objs.size = some o → DFc s.heap.objs.size o (putT [] us) → Heap.SameBut s.heap.objs.size s1.heap h' → EP X pins σ Q (.ref s.heap.objs.size) { s1 with heap := h', toks := tk } := fun h' tk o e1 e2 hs =>
    ⟨.ref s.heap.objs.size, _, d_write I2 mu hs ⟨o, e1⟩ (xO_ok e1), rfl, q o e2⟩
  refine wpAny_holding ?_
  rcases hkind with hk | hk
  · obtain ⟨xs, c, p⟩ := kv_I (P := X.prog) (w := X.w) hk hq r
    obtain ⟨ys, dd, p0⟩ := dat.toK I2 rfl
    cases p0
    refine wpAny_bind (wpAny_storeAll (knd := mixKind X.prog X.w) vs xs [] s1 _ c dd (by rw [← Paired.length p, List.length_nil]; omega) fun h' dd' hs => wpAny_pure (wpAny_pure ?_))
    obtain ⟨o, e1, e2⟩ := of_K dd' (pr_I p .nil) hn (by omega)
    exact wpAny_pure (fin h' _ o e1 e2 hs)
  · obtain ⟨xs, c, p⟩ := kv_H I2 hk hq r
    obtain ⟨ys, dd, p0⟩ := dat.toH I2 rfl
    cases p0
    refine wpAny_bind (wpAny_storeAllH (knd := deepKind X.prog X.w) (show X.A.units + 10 < cLine by omega) vs xs [] s1 _ c dd (by rw [← Paired.length p, List.length_nil]; omega) fun h' tk dd' hs => wpAny_pure (wpAny_pure ?_))
    obtain ⟨o, e1, e2⟩ := of_H dd' (pr_H p .nil) hn (by omega)
    exact wpAny_pure (fin h' _ o e1 e2 hs)⟩
/-! the mirror -/
theorem ny_put {F H F' H' : Hp} {O : Om} {Dl : Addr} {o : HO} (n : Ny O F H F' H') (hF : F' Dl = none) (hO : O Dl = none) (hH : H Dl = none) : Ny O F H F' (upd H' Dl o) where
  ff := n.ff
  fh := fun a o e => by
    by_cases ha : a = Dl
    · rw [ha, hF] at e; cases e
    · rw [upd_ne ha]; exact n.fh a o e
  own := fun a h1 h2 => by
    rw [upd_ne (fun z => h1 (by rw [z, hO]))]
    exact n.own a h1 h2
  unown := fun a o h1 h2 => by
    rw [upd_ne (fun z => by rw [z, hH] at h1; cases h1)]
    exact n.unown a o h1 h2
  dom := fun a h => by
    by_cases ha : a = Dl
    · rw [ha, upd_same]; exact fun z => nomatch z
    · rw [upd_ne ha]; exact n.dom a h
  new := n.new
def pairFl : List D → Option (List (D × D))
  | [] => some []
  | a :: b :: r => mO (pairFl r) fun ps => some ((a, b) :: ps)
  | _ => none
def dispD (g : Yl) : Yd := fun ρ s => bO (g ρ s) fun xs s1 => mO (pairFl xs) fun ps => if (ps.map (·.1)).all isI = true ∨ (ps.map (·.1)).all isTk = true then some (putD [] ps, s1) else none
theorem pairFl_q {K : PySem.W.Frag} {F : Hp} : ∀ {vs : List V} {ds : List D} {ps : List (D × D)}, DqAll K F vs ds → pairFl ds = some ps → ∃ us : List Tr, vs = flat2 us ∧ us.map (·.1) = ps.map (·.1) ∧ DqAll K F (us.map (·.2.1)) (ps.map (·.1)) ∧ DqAll K F (us.map (·.2.2)) (ps.map (·.2))
  | _, _, _, .nil, e => by
    cases e
    exact ⟨[], rfl, rfl, .nil, .nil⟩
  | _, _, _, .cons a .nil, e => by cases e
  | _, _, ps, .cons (v := v) (d := d) a (.cons (v := u) (d := c) b r), e => by
    obtain ⟨qs, e1, e⟩ := mO_some e
    cases e
    obtain ⟨us, h1, h2, h3, h4⟩ := pairFl_q r e1
    exact ⟨(d, v, u) :: us, by rw [h1]; rfl, by rw [List.map_cons, List.map_cons, h2], .cons a h3, .cons b h4⟩
theorem dd_disp {K : PySem.W.Frag} {t : TA} {g : Yl} (ha : SdA K t g) : SdD K (tXDisp K t) (dispD g) := by
  intro F O H pc σ ρ s kvs s' st e Q q p o0 hp dc
  obtain ⟨xs, s1, e1, e⟩ := bO_some e
  obtain ⟨ps, e2, e⟩ := mO_some e
  split at e
  · rename_i hk
    cases e
    have hF := st.wk.nF hp
    have hO := st.wk.nO hp
    have n0 : Ny O F H F (upd H p (xO p o0)) := Ny.pure st.wk (same_new hp) (Same.refl _) (st.wk.fh.trans (same_new hp)) fun _ _ h => .inl h
    refine ha F O _ pc σ ρ s xs _ (st.ny n0 (st.src.same (same_new hp))) e1 _ fun vs F1 H1 n1 sr1 d1 => ?_
    have hH1 : H1 p = some (xO p o0) := n1.unown _ _ upd_same hO
    have hF1 : F1 p = none := by
      cases z : F1 p with
      | none => rfl
      | some x =>
        rcases n1.new p x z with y | y
        · rw [hF] at y; cases y
        · rw [upd_same] at y; cases y
    obtain ⟨us, h1, h2, h3, h4⟩ := pairFl_q d1 e2
    have w1 := n1.wk (n0.wk st.wk)
    refine ⟨hH1, us, h1, by rw [h2]; exact hk, by rw [h2]; exact h3.mono w1.fh, fun o dc' => ?_⟩
    obtain ⟨g1, g2, g3⟩ := put_all (ts := []) (kvs := []) h2 h3 h4 rfl .nil .nil
    exact q p o (putT [] us) F1 _ (ny_put (n0.trans n1) hF1 hO hp) (src_push sr1 hO) hp hF1 upd_same dc' g1 g2 g3
  · cases e
end
/-- no lists yet -/
def emY : Ym := fun _ s => some ([], s)
theorem sm_nil {K : PySem.W.Frag} : SdM K (tLst tNil) emY := by
  intro F O H pc σ ρ s dss s' st e Q q
  cases e
  refine ⟨lim_le (Nat.zero_le _), fun p hp => ?_⟩
  refine q p [] F _ (Ny.pure st.wk (same_new hp) (Same.refl _) (st.wk.fh.trans (same_new hp)) fun _ _ h => .inl h) (st.src.same (same_new hp)) (fun a z => ?_) upd_same (fun z => nomatch z) .nil .nil
  rw [List.mem_singleton.mp z]
  exact ⟨hp, st.wk.nF hp, by rw [upd_same]; exact fun z => nomatch z⟩
end DL

set_option Elab.async false
set_option linter.all false
set_option maxRecDepth 100000
set_option maxHeartbeats 4000000
/-! DF3: sorted of what has one thing at most, sorted of dicts. -/
namespace DL
open PySem PySem.Spec PyProof.Rows L2
open PySem.W (SortsAt dataKind AllAlike Sortable EachIs sortingHeap sortVals dataLe)
section
variable {prog : Program} {w : World} {A : Around} {E : Value → Shared → Prop} {s : Shared}
def Few (ds : List D) : Prop := ds.length ≤ 1 ∧ ∀ d, d ∈ ds → d ≠ .none
theorem sorts_few {vs : List Value} {ds : List PyData} (e : EachIs (fun v d => ∃ as, Reads s.heap v d as) vs ds) (hal : AllAlike ds) (hf : Few ds) (hu : ∀ d, d ∈ ds → A.units + d.depth < cLine) : SortsAt prog w A s (dataKind s.heap ds) vs := by
  refine ⟨fun v hv => ?_, ?_⟩
  · obtain ⟨d, hd, as, r⟩ := e.left v hv
    exact ⟨_, PySem.W.dataKind_some hal hd r⟩
  · refine ⟨general', ?_, fun h2 => absurd h2 (by rw [e.length]; have := hf.1; omega)⟩
    intro E x y a b Q ha hb hq
    obtain ⟨d, as, hd, ra, rfl⟩ := PySem.W.dataKind_inv ha
    obtain ⟨d', as', hd', rb, rfl⟩ := PySem.W.dataKind_inv hb
    show wpAny _ _ (oneLt' false x y) _ _ _
    exact PySem.W.oneLt_alike (f := false) (fun z => nomatch z) ra rb (hal d hd d' hd') (hf.2 d hd) (Nat.lt_of_le_of_lt (Nat.add_le_add_left (Nat.min_le_left _ _) _) (hu d hd)) hq
theorem sorts_any {vs : List Value} {ds : List PyData} (e : EachIs (fun v d => ∃ as, Reads s.heap v d as) vs ds) (hal : AllAlike ds) (hf : Sortable ds ∨ Few ds) (hu : ∀ d, d ∈ ds → A.units + d.depth < cLine) : SortsAt prog w A s (dataKind s.heap ds) vs := by
  rcases hf with h | h
  · exact SortsAt.data e hal h hu
  · exact sorts_few e hal h hu
/-- sorted(r), by what is collected from r -/
theorem sorted_by {r : Addr} {vs : List Value} {β : Type} {R : Value → β → Prop} {enc : β → PyData} {bs : List β} {Q : Value → Shared → Prop}
    (hc : ∀ (E' : Value → Shared → Prop) (Q' : List Value → Shared → Prop), (∀ (h' : Heap) (tk : Nat), (∀ b o, s.heap.get? b = some o → h'.get? b = some o) → Q' vs { s with heap := h', toks := tk }) → wpAny (model prog w) A.in1 (collect (.ref r)) Q' E' s)
    (e : EachIs R vs bs) (er : EachIs (fun v b => ∃ as, Reads s.heap v (enc b) as) vs bs) (hal : AllAlike (bs.map enc)) (hk : Sortable (bs.map enc) ∨ Few (bs.map enc)) (hL : bs.length ≤ sizeLine) (hu : ∀ b, b ∈ bs → A.units + 2 + (enc b).depth < cLine)
    (h : ∀ (h1 h' : Heap) (tk : Nat) (out : List Value) (c : Nat), (∀ b o, s.heap.get? b = some o → h1.get? b = some o) → (∀ b o, h1.get? b = some o → h'.get? b = some o) → h'.get? h1.objs.size = some (seqObj "list" out.toArray c) → out.length = bs.length → EachIs R out (bs.mergeSort (dataLe false enc)) →
      Q (.ref h1.objs.size) { s with heap := h', toks := tk }) : wpAny (model prog w) A (call (.builtin "sorted") [.ref r]) Q E s := by
  have hvl : vs.length ≤ sizeLine := by rw [e.length]; exact hL
  refine call_function_entry_kw kind_sorted plain_sorted entry_sorted (args_sorted1 _) ?_
  unfold Builtin.«sorted»
  refine wpAny_bind (m := checkCount "sorted" 1 1 _) (wpAny_pure ?_)
  refine wpAny_bind (hc _ _ fun h1 tk1 k1 => ?_)
  refine wpAny_bind (wpAny_newList ?_ hvl)
  have kp : ∀ b o, s.heap.get? b = some o → (h1.push (seqObj "list" vs.toArray 0)).get? b = some o := fun b o x => Heap.get?_push_of_some _ (k1 b o x)
  have hat : (h1.push (seqObj "list" vs.toArray 0)).get? h1.objs.size = some (seqObj "list" vs.toArray 0) := Heap.get?_push_size _ rfl
  have kS : ∀ b o, s.heap.get? b = some o → (sortingHeap (h1.push (seqObj "list" vs.toArray 0)) h1.objs.size vs).get? b = some o := fun b o x =>
    PySem.W.sortingHeap_old (Nat.ne_of_lt (Heap.lt_size (k1 b o x))) (kp b o x)
  have er' : EachIs (fun v b => ∃ as, Reads (sortingHeap (h1.push (seqObj "list" vs.toArray 0)) h1.objs.size vs) v (enc b) as) vs bs := er.mono fun _ _ ⟨as, rd⟩ => ⟨as, PyProof.Rows.Reads.keeps kS rd⟩
  refine wpAny_bind (wpAny_holding (wpAny_call_entry_kw slot_list_sort ⟨_, hat, rfl⟩ entry_list_sort ?body (args_list_sort _)))
  case body =>
    have SA : SortsAt prog w A.in1.in1 { s with heap := sortingHeap (h1.push (seqObj "list" vs.toArray 0)) h1.objs.size vs, toks := tk1 } (dataKind (sortingHeap (h1.push (seqObj "list" vs.toArray 0)) h1.objs.size vs) (bs.map enc)) vs :=
      sorts_any (s := { s with heap := sortingHeap (h1.push (seqObj "list" vs.toArray 0)) h1.objs.size vs, toks := tk1 }) (PySem.W.each_map (R := fun v d => ∃ as, Reads (sortingHeap (h1.push (seqObj "list" vs.toArray 0)) h1.objs.size vs) v d as) enc er') hal hk (PySem.W.bound_map hu)
    refine wpAny_mono (PySem.W.list_sort_vals (s := { s with heap := h1.push (seqObj "list" vs.toArray 0), toks := tk1 }) (P := fun f s' => f = .done (.ret .none) ∧ Q (.ref h1.objs.size) s') hat SA hvl ⟨rfl, ?_⟩) (fun f s' hf => ?_) fun _ _ e => e
    · obtain ⟨c, hc2⟩ := sortedHeap_at (h := h1.push (seqObj "list" vs.toArray 0)) (a := h1.objs.size) (vs := vs) (out := (sortVals (dataKind (sortingHeap (h1.push (seqObj "list" vs.toArray 0)) h1.objs.size vs) (bs.map enc)) false vs vs).toArray) hat
      refine h h1 _ tk1 _ c k1 (fun b o x => ?_) hc2 (by rw [PySem.W.sortVals_length false rfl]; exact e.length) (PySem.W.sortVals_data false e er' hal)
      have kx : (h1.push (seqObj "list" vs.toArray 0)).get? b = some o := Heap.get?_push_of_some _ x
      rw [sortedHeap_old (Nat.ne_of_lt (Heap.lt_size x)) (Heap.lt_size kx)]
      exact kx
    · obtain ⟨rfl, hq⟩ := hf
      exact ⟨_, rfl, wpAny_pure ⟨_, rfl, hq⟩⟩
end
/-! ### the rule -/
def notNon : D → Bool
  | .none => false
  | _ => true
def sortOkF (ds : List D) : Bool := SeqAt.shaped (.list ds) && alikeB ds && (ds.all someTup || ds.all noTup || (decide (ds.length ≤ 1) && ds.all notNon)) && decide (ds.length ≤ lim)
theorem sortOkF_ok {ds : List D} (h : sortOkF ds = true) : SeqAt.shaped (.list ds) = true ∧ PySem.W.AllAlike ds ∧ (PySem.W.Sortable ds ∨ Few ds) ∧ ds.length ≤ lim := by
  unfold sortOkF at h
  simp only [Bool.and_eq_true, decide_eq_true_eq] at h
  obtain ⟨⟨⟨h1, h2⟩, h3⟩, h4⟩ := h
  refine ⟨h1, fun d hd e he => List.all_eq_true.mp (List.all_eq_true.mp h2 d hd) e he, ?_, h4⟩
  rw [Bool.or_eq_true] at h3
  rcases h3 with h3 | h3
  · refine .inl (sortOk_ok (ds := ds) ?_).2.2.1
    unfold sortOk
    simp only [Bool.and_eq_true, decide_eq_true_eq]
    exact ⟨⟨⟨h1, h2⟩, h3⟩, h4⟩
  · rw [Bool.and_eq_true, decide_eq_true_eq] at h3
    refine .inr ⟨h3.1, fun d hd z => ?_⟩
    have := List.all_eq_true.mp h3.2 d hd
    rw [z] at this
    cases this
def rSortF (K : PySem.W.Frag) : List V → Hp → VK → Prop := fun xs H Q => ∃ a vs ds, xs = [.ref a] ∧ (SqL K H a vs ∨ ∃ o ts, H a = some (xO a o) ∧ DFc a o ts ∧ vs = ts.map (·.2.1)) ∧ DpAll K H vs ds ∧ sortOkF ds = true ∧
  ∀ ps : List (V × D), ps = (vs.zip ds).mergeSort (PySem.W.dataLe false fun p => p.2) → ∀ p, H p = none → Q (.ref p) (upd H p (.lst (ps.map (·.1))))
theorem depth_mem {ds : List D} {d : D} (h : d ∈ ds) : d.depth ≤ PyData.depthAll ds := by
  induction ds with
  | nil => exact (nomatch h)
  | cons x xs ih =>
    rw [PyData.depthAll]
    rcases List.mem_cons.mp h with e | e
    · rw [e]; exact Nat.le_max_left _ _
    · exact Nat.le_trans (ih e) (Nat.le_max_right _ _)
theorem dp_len {K : PySem.W.Frag} {H : Hp} : ∀ {vs : List V} {ds : List D}, DpAll K H vs ds → vs.length = ds.length
  | _, _, .nil => rfl
  | _, _, .cons _ b => by rw [List.length_cons, List.length_cons, dp_len b]
theorem cr_sortF {X : Cx} (hc : X.calm = true) (hu : X.A.units + 80 < cLine) : CallR X (.builtin "sorted") (rSortF X.K) := by
  intro pins s σ H xs us Q I r h
  obtain ⟨a, vs, ds, rfl, hs, hd, ok, q⟩ := h
  obtain ⟨u, rfl, ru⟩ := vals1 r
  obtain rfl : u = Value.ref a := ru
  obtain ⟨h1, h2, h3, h4⟩ := sortOkF_ok ok
  have hdl : vs.length = ds.length := dp_len hd
  have em : (vs.zip ds).map (fun p => p.2) = ds := List.map_snd_zip (by omega)
  have hlen : (vs.zip ds).length = ds.length := by rw [List.length_zip]; omega
  have main : ∀ its : List Value, Vals vs its → (∀ (E' : Value → Shared → Prop) (Q' : List Value → Shared → Prop), (∀ (h' : Heap) (tk : Nat), (∀ b o, s.heap.get? b = some o → h'.get? b = some o) → Q' its { s with heap := h', toks := tk }) → wpAny (model X.prog X.w) X.A.in1 (collect (.ref a)) Q' E' s) →
      wpAny (model X.prog X.w) X.A (call (.builtin "sorted") [.ref a]) (EP X pins σ Q) X.xe s := by
    intro its rv hcol
    obtain ⟨e0, e1, e2⟩ := eachX I hd rv
    refine sorted_by (enc := fun p : V × D => p.2) (R := fun (v : Value) (b : V × D) => RelV b.1 v) hcol e1 e2 (by rw [em]; exact h2) (by rw [em]; exact h3) (by rw [hlen]; exact lim_le h4) (fun b hb => ?_) fun hm h' tk out c k1 k2 hS ho he => ?_
    · have hb2 : b.2 ∈ ds := (List.of_mem_zip hb).2
      have hdep : PyData.depth (.list ds) ≤ 64 := SeqAt.depth_of_shaped h1
      have := depth_mem hb2
      rw [PyData.depth] at hdep
      omega
    · have hv : Vals (((vs.zip ds).mergeSort (PySem.W.dataLe false fun p => p.2)).map (·.1)) out := by
        generalize (vs.zip ds).mergeSort (PySem.W.dataLe false fun p => p.2) = ps at he
        clear ho hS
        induction he with
        | nil => exact .nil
        | cons r _ ih => exact .cons r ih
      have I1 : Inv X pins σ H { s with heap := hm } := I.kept (t' := s.toks) k1
      have I2 := I1.laid (a := hm.objs.size) (o := .lst (((vs.zip ds).mergeSort (PySem.W.dataLe false fun p => p.2)).map (·.1))) (h' := h') (t' := tk) k2 (Nat.le_refl _)
        ⟨by rw [List.length_map, List.length_mergeSort, hlen]; exact lim_le h4, out, c, hv, hS⟩
      exact ⟨.ref hm.objs.size, _, I2, rfl, q _ rfl _ (I1.hok.fresh (Nat.le_refl _))⟩
  rcases hs with hs | ⟨o, ts, hH, dc, rfl⟩
  · obtain ⟨its, rv, hl, hz⟩ := I.list hs
    refine main its rv fun E' Q' hq => ?_
    refine collect_list hl.isList (hq _ s.toks fun b o e => ?_) (by rw [← rv.length]; exact hz)
    rw [Heap.get?_update_ne _ _ _ _ (Nat.ne_of_lt (Heap.lt_size e))]
    exact Heap.get?_push_of_some _ e
  · obtain ⟨es, ep, hdt, raw, hsz, ent⟩ := dc.raw (I.hok a _ hH).1
    have hv : Vals (ts.map (·.2.1)) (es.toList.map (·.key)) := vals_of_get (by rw [List.length_map, List.length_map, Array.length_toList, hsz]) fun j v e => by
      rw [List.getElem?_map] at e
      obtain ⟨x, hx, rfl⟩ := Option.map_eq_some_iff.mp e
      rw [Array.getElem?_toList] at hx
      obtain ⟨hi, hx2⟩ := Array.getElem?_eq_some_iff.mp hx
      obtain ⟨t, ht, r1, r2⟩ := ent j hi
      exact ⟨t.2.1, by rw [List.getElem?_map, ht]; rfl, by rw [← hx2]; exact r1⟩
    refine main _ hv fun E' Q' hq => ?_
    refine PySem.W.kdu_collect (KdlSrc.rawDict dc.ns) (I.ok.hd hc) raw (by rw [hsz]; exact dc.few) fun h' tk acc hk hacc => ?_
    have e : acc.toList = es.toList.map (·.key) := by
      apply List.ext_getElem?
      intro j
      by_cases hj : j < acc.toList.length
      · obtain ⟨hi, e2⟩ := hacc.2 j acc.toList[j] (by rw [← Array.getElem?_toList]; exact List.getElem?_eq_getElem hj)
        rw [List.getElem?_eq_getElem hj, e2, List.getElem?_map, Array.getElem?_toList, Array.getElem?_eq_getElem hi]
        rfl
      · rw [List.getElem?_eq_none (by omega), List.getElem?_eq_none]
        rw [List.length_map, Array.length_toList]
        rw [Array.length_toList, hacc.1] at hj
        omega
    rw [e]
    exact hq h' tk hk
/-! the mirror -/
def keysD : D → Option (List D)
  | .list ds => some ds
  | .dict kvs => some (kvs.map (·.1))
  | _ => none
def sortFC : List D → Option (List D)
  | [x] => mO (keysD x) fun ds => if sortOkF ds = true then some (sortX ds) else none
  | _ => none
theorem sCN_sortF {K : PySem.W.Frag} : SdCN K (rSortF K) sortFC := by
  intro F O H xs as ds w hx e Q q
  unfold sortFC at e
  split at e
  · obtain ⟨es, ek, e⟩ := mO_some e
    split at e
    · rename_i ok
      cases e
      obtain ⟨v, rfl, h⟩ := one_q hx
      have fin : ∀ (p : Addr) (vs : List V), DqAll K F vs es → (SqL K H p vs ∨ ∃ o ts, H p = some (xO p o) ∧ DFc p o ts ∧ vs = ts.map (·.2.1)) → rSortF K [.ref p] H Q := by
        intro p vs h2 hsq
        obtain ⟨k1, k2, k3, k4⟩ := sortOkF_ok ok
        have kl : PyData.canLayAll0 es = true := by simpa [PyData.canLay0] using SeqAt.canLay_of_shaped k1
        refine ⟨p, vs, es, rfl, hsq, DqAll.dp kl (h2.mono w.fh), ok, fun ps hps l hl => q l _ hl ?_⟩
        have key : ∀ ps : List (V × D), (∀ p ∈ ps, Dq K F p.1 p.2) → DqAll K F (ps.map (·.1)) (ps.map (·.2)) := fun ps => by
          induction ps with
          | nil => intro _; exact .nil
          | cons x xs ih => intro h; exact .cons (h x List.mem_cons_self) (ih fun p hp => h p (List.mem_cons_of_mem _ hp))
        have hz : ∀ p ∈ vs.zip es, Dq K F p.1 p.2 := dqAll_zipX h2
        have e2 : ps.map (·.2) = sortX es := by
          rw [hps, sortX_merge, PySem.W.sort_maps (r := PySem.W.dataLe false fun p : V × D => p.2) (s := leX) (fun p : V × D => p.2) (fun _ _ _ _ => rfl), List.map_snd_zip (by rw [h2.len]; exact Nat.le_refl _)]
        rw [← e2]
        refine key ps fun p hp => hz p ?_
        rw [hps] at hp
        exact (List.mergeSort_perm _ _).mem_iff.mp hp
      unfold keysD at ek
      split at ek
      · cases ek
        obtain ⟨p, vs, rfl, h1, h2⟩ := h.lst_inv
        exact fin p vs h2 (.inl (w.l h1))
      · cases ek
        obtain ⟨a, o, ts, rfl, h1, h2, h3, h4, h5, h6⟩ := dct_at w h
        exact fin a _ h5 (.inr ⟨o, ts, w.fh _ _ h1, h2, rfl⟩)
      · cases ek
    · cases e
  · cases e
/-- sorted of ints, lists of rows as before, else by the general order -/
def rSortG (K : PySem.W.Frag) : List V → Hp → VK → Prop := fun xs H Q => rSortedA K xs H Q ∨ rSortF K xs H Q
theorem cr_sortG {X : Cx} (hc : X.calm = true) (hu : X.A.units + 80 < cLine) : CallR X (.builtin "sorted") (rSortG X.K) := CallR.or cr_sortedA (cr_sortF hc hu)
def sortGC (xs : List D) : Option (List D) := match sortC xs with
  | some ds => some ds
  | none => sortFC xs
theorem sCN_sortG {K : PySem.W.Frag} : SdCN K (rSortG K) sortGC := by
  intro F O H xs as ds w hx e Q q
  unfold sortGC at e
  split at e
  · rename_i e1
    cases e
    exact .inl (sCN_sorted F O H xs as _ w hx e1 Q q)
  · exact .inr (sCN_sortF F O H xs as ds w hx e Q q)
end DL

set_option Elab.async false
set_option linter.all false
set_option maxRecDepth 100000
set_option maxHeartbeats 4000000
/-! DF4: dicts compared with the empty one. -/
namespace DL
open PySem PySem.Spec PyProof.Rows L2
section
variable {prog : Program} {w : World} {A : Around} {E : Value → Shared → Prop} {s : Shared}
theorem same_emp {nm : String} {a b : Addr} {oa ob : Obj} {es es' : Array DictEntry} {ep ep' : Nat} {Q : Bool → Shared → Prop} (ha : (a == sysModules) = false) (hb : (b == sysModules) = false)
    (hoa : s.heap.get? a = some oa) (hda : oa.data = .dict es ep) (hob : s.heap.get? b = some ob) (hdb : ob.data = .dict es' ep') (hz : es.size = 0 ∨ es'.size = 0) (h : Q (es.size == es'.size) s) :
    wpAny (model prog w) A (Builtin.Dict.samePairs nm a b) Q E s := by
  unfold Builtin.Dict.samePairs Builtin.Dict.showsAll
  rw [if_neg (show ¬ (a == sysModules) = true by rw [ha]; exact Bool.false_ne_true), if_neg (show ¬ (b == sysModules) = true by rw [hb]; exact Bool.false_ne_true)]
  refine wpAny_bind (wpAny_pure (wpAny_bind (wpAny_pure ?_)))
  refine wpAny_bind (wpAny_dictEntries hoa hda ?_)
  dsimp only
  refine wpAny_bind (wpAny_dictEntries hob hdb ?_)
  by_cases hsz : es.size = es'.size
  case neg =>
    rw [if_pos (by simpa using hsz)]
    have hbf : (es.size == es'.size) = false := by simpa using hsz
    rw [hbf] at h
    exact wpAny_bind (wpAny_rule (wpAny_pure h))
  case pos =>
    have h' : Q true s := by simpa [hsz] using h
    have h0 : es.size = 0 := by omega
    rw [if_neg (by rw [hsz]; simp)]
    refine wpAny_bind (wpAny_dictEpoch hoa hda ?_)
    refine wpAny_bind ?_
    rw [Std.Legacy.Range.forIn_eq_forIn_range']
    simp only [Std.Legacy.Range.size, Nat.sub_zero, Nat.add_sub_cancel, Nat.div_one, h0, List.range'_zero, List.forIn_nil]
    exact wpAny_pure (wpAny_pure h')
end
def rEqX (K : PySem.W.Frag) (neg : Bool) : R2 := fun x y H Q => ∃ a b ts us, x = .ref a ∧ y = .ref b ∧ DAt K H a ts ∧ DAt K H b us ∧ (ts = [] ∨ us = []) ∧ Q (.bl (if neg then !(ts.length == us.length) else ts.length == us.length)) H
section
variable {X : Cx}
theorem op_eqX (hu : X.A.units < cLine) : OpR X (compareOp .Eq) (rEqX X.K false) := by
  intro pins s σ H x y v u Q I rx ry h
  obtain ⟨a, b, ts, us, rfl, rfl, da, db, hz, q⟩ := h
  cases rx
  cases ry
  obtain ⟨ta, _, na⟩ := DAt.typeIs I da
  obtain ⟨tb, _, nb⟩ := DAt.typeIs I db
  obtain ⟨oa, h1, d1, _⟩ := da
  obtain ⟨ob, h2, d2, _⟩ := db
  obtain ⟨es, ep, e1, raw, z1, _⟩ := d1.raw (I.hok a _ h1).1
  obtain ⟨es', ep', e2, raw', z2, _⟩ := d2.raw (I.hok b _ h2).1
  refine wpAny_richCompare_same_room (op := .Eq) ta tb PySem.F.slot_dict_eq (wpAny_call_entry PySem.F.slot_dict_eq ta PySem.F.entry_dict_eq ?_ (PySem.F.args_dict_eq_2 _ _)) hu
  show wpAny _ _ (Builtin.Dict.dictSlotArgs "__eq__" ⟨[.ref a, .ref b], []⟩ >>= _) _ _ s
  refine wpAny_bind ?_
  unfold Builtin.Dict.dictSlotArgs
  refine wpAny_bind (wpAny_notOrdered_dict ta ?_)
  show wpAny _ _ (pure (Value.ref a, Value.ref b)) _ _ s
  refine wpAny_pure ?_
  refine wpAny_bind (wpAny_isInstance (T := "dict") tb PySem.F.sub_dict_dict ?_)
  simp only [Bool.not_true, Bool.false_eq_true, if_false]
  refine wpAny_bind (wpAny_pure (wpAny_bind (wpAny_pure ?_)))
  refine wpAny_bind (same_emp na nb (I.hok a _ h1).1 e1 (I.hok b _ h2).1 e2 (by rw [z1, z2]; rcases hz with rfl | rfl <;> simp) ?_)
  refine wpAny_pure ⟨_, rfl, (fun x => nomatch x), ?_⟩
  rw [z1, z2]
  refine ⟨.bl _, H, I, rfl, ?_⟩
  simpa using q
theorem op_neX (hu : X.A.units < cLine) : OpR X (compareOp .NotEq) (rEqX X.K true) := by
  intro pins s σ H x y v u Q I rx ry h
  obtain ⟨a, b, ts, us, rfl, rfl, da, db, hz, q⟩ := h
  cases rx
  cases ry
  obtain ⟨ta, _, na⟩ := DAt.typeIs I da
  obtain ⟨tb, _, nb⟩ := DAt.typeIs I db
  obtain ⟨oa, h1, d1, _⟩ := da
  obtain ⟨ob, h2, d2, _⟩ := db
  obtain ⟨es, ep, e1, raw, z1, _⟩ := d1.raw (I.hok a _ h1).1
  obtain ⟨es', ep', e2, raw', z2, _⟩ := d2.raw (I.hok b _ h2).1
  refine wpAny_richCompare_same_room (op := .NotEq) ta tb PySem.F.slot_dict_ne (wpAny_call_entry PySem.F.slot_dict_ne ta PySem.F.entry_dict_ne ?_ (PySem.F.args_dict_ne_2 _ _)) hu
  show wpAny _ _ (Builtin.Dict.dictSlotArgs "__ne__" ⟨[.ref a, .ref b], []⟩ >>= _) _ _ s
  refine wpAny_bind ?_
  unfold Builtin.Dict.dictSlotArgs
  refine wpAny_bind (wpAny_notOrdered_dict ta ?_)
  show wpAny _ _ (pure (Value.ref a, Value.ref b)) _ _ s
  refine wpAny_pure ?_
  refine wpAny_bind (wpAny_isInstance (T := "dict") tb PySem.F.sub_dict_dict ?_)
  simp only [Bool.not_true, Bool.false_eq_true, if_false]
  refine wpAny_bind (wpAny_pure (wpAny_bind (wpAny_pure ?_)))
  refine wpAny_bind (same_emp na nb (I.hok a _ h1).1 e1 (I.hok b _ h2).1 e2 (by rw [z1, z2]; rcases hz with rfl | rfl <;> simp) ?_)
  refine wpAny_pure ⟨_, rfl, (fun x => nomatch x), ?_⟩
  rw [z1, z2]
  refine ⟨.bl _, H, I, rfl, ?_⟩
  simpa using q
end
/-- x == y, x != y, of dicts too, if one is empty -/
def rEqB (K : PySem.W.Frag) : R2 := fun x y H Q => rEqA K x y H Q ∨ rEqX K false x y H Q
def rNeB (K : PySem.W.Frag) : R2 := fun x y H Q => rNeA K x y H Q ∨ rEqX K true x y H Q
theorem op_eqB {X : Cx} (hu : X.A.units + 64 < cLine) : OpR X (compareOp .Eq) (rEqB X.K) := opr_or (op_eqA hu) (op_eqX (by omega))
theorem op_neB {X : Cx} (hu : X.A.units + 64 < cLine) : OpR X (compareOp .NotEq) (rNeB X.K) := opr_or (op_neA hu) (op_neX (by omega))
def emptyD (x y : D) : Option Bool := match x, y with
  | .dict [], .dict ys => some (ys.isEmpty)
  | .dict (_ :: _), .dict [] => some false
  | _, _ => none
def eqB (x y : D) : Option D := match emptyD x y with
  | some b => some (.bool b)
  | none => eqD x y
def neB (x y : D) : Option D := match emptyD x y with
  | some b => some (.bool !b)
  | none => neD x y
theorem empty_q {K : PySem.W.Frag} {F H : Hp} {O : Om} {x y : V} {a b : D} {r : Bool} (w : Wk F O H) (hx : Dq K F x a) (hy : Dq K F y b) (e : emptyD a b = some r) : ∃ p q ts us, x = .ref p ∧ y = .ref q ∧ DAt K H p ts ∧ DAt K H q us ∧ (ts = [] ∨ us = []) ∧ (ts.length == us.length) = r := by
  unfold emptyD at e
  split at e
  · rename_i ys
    cases e
    obtain ⟨p, o, ts, rfl, h1, h2, h3, h4, h5, h6⟩ := dct_at w hx
    obtain ⟨q, o', us, rfl, g1, g2, g3, g4, g5, g6⟩ := dct_at w hy
    have et : ts = [] := by
      have := congrArg List.length h4
      rw [List.length_map] at this
      exact List.length_eq_zero_iff.mp this
    have eu : us.length = ys.length := by
      have := congrArg List.length g4
      rw [List.length_map, List.length_map] at this
      exact this
    refine ⟨p, q, ts, us, rfl, rfl, h3, g3, .inl et, ?_⟩
    rw [et, eu]
    cases ys <;> rfl
  · rename_i z zs
    cases e
    obtain ⟨p, o, ts, rfl, h1, h2, h3, h4, h5, h6⟩ := dct_at w hx
    obtain ⟨q, o', us, rfl, g1, g2, g3, g4, g5, g6⟩ := dct_at w hy
    have eu : us = [] := by
      have := congrArg List.length g4
      rw [List.length_map] at this
      exact List.length_eq_zero_iff.mp this
    have et : ts.length = (z :: zs).length := by
      have := congrArg List.length h4
      rw [List.length_map, List.length_map] at this
      exact this
    refine ⟨p, q, ts, us, rfl, rfl, h3, g3, .inr eu, ?_⟩
    rw [eu, et]
    rfl
  · cases e
theorem s2_eqB {K : PySem.W.Frag} : Sd2 K (rEqB K) eqB := by
  intro F O H x y a b d w hx hy e Q q
  unfold eqB at e
  split at e
  · rename_i r er
    cases e
    obtain ⟨p, p', ts, us, rfl, rfl, h1, h2, h3, h4⟩ := empty_q w hx hy er
    refine .inr ⟨p, p', ts, us, rfl, rfl, h1, h2, h3, ?_⟩
    rw [h4]
    exact fin0 w q (.bl _)
  · exact .inl (s2_eq F O H x y a b d w hx hy e Q q)
theorem s2_neB {K : PySem.W.Frag} : Sd2 K (rNeB K) neB := by
  intro F O H x y a b d w hx hy e Q q
  unfold neB at e
  split at e
  · rename_i r er
    cases e
    obtain ⟨p, p', ts, us, rfl, rfl, h1, h2, h3, h4⟩ := empty_q w hx hy er
    refine .inr ⟨p, p', ts, us, rfl, rfl, h1, h2, h3, ?_⟩
    rw [h4]
    exact fin0 w q (.bl _)
  · exact .inl (s2_ne F O H x y a b d w hx hy e Q q)
end DL

set_option Elab.async false
set_option linter.all false
set_option maxRecDepth 100000
set_option maxHeartbeats 4000000
namespace W79
open PySem PySem.Spec PyProof.Rows L2 DL
def topS (i : Nat) : Stmt := PySem.Challenge.pw_leastlattices_k79_whole_one_table_or_mor.main.body.getD i (.Pass ⟨0, 0, 0, 0⟩)
abbrev s_put_in : Stmt := topS 4
abbrev s_fill : Stmt := topS 5
abbrev s_crossed_places : Stmt := topS 7
abbrev s_leads_of : Stmt := topS 8
abbrev s_leads_shape : Stmt := topS 9
abbrev s_last_swaps : Stmt := topS 12
abbrev s_some_word : Stmt := topS 13
abbrev s_rows_begun : Stmt := topS 14
abbrev s_tables_of_row : Stmt := topS 15
abbrev s__law_source : Stmt := topS 17
abbrev s__law_pick : Stmt := topS 18
abbrev s__law_mixed : Stmt := topS 19
abbrev s__law_swapped : Stmt := topS 20
abbrev s__law_length : Stmt := topS 21
abbrev s__law_drops : Stmt := topS 22
abbrev s__law_row : Stmt := topS 23
abbrev s__law_words : Stmt := topS 24
abbrev s__law_put : Stmt := topS 25
abbrev s__law_fill : Stmt := topS 26
abbrev s__law_shape : Stmt := topS 27
abbrev s__law_crossed : Stmt := topS 28
abbrev s__law_leads : Stmt := topS 29
abbrev s__law_tables : Stmt := topS 30
abbrev s_law : Stmt := topS 31
abbrev NM_put_in : List Str := ["table", "number", "rows", "k", "row", "great", "late", "j", "one"]
theorem sc_put_in : FnScope NM_put_in ["table", "number"] (defScope s_put_in) := ⟨rfl, rfl, rfl, by decide +kernel, rfl, by decide +kernel, by decide +kernel⟩
abbrev NM_crossed_places : List Str := ["row", "places", "i", "j", "k", "some", "one"]
theorem sc_crossed_places : FnScope NM_crossed_places ["row"] (defScope s_crossed_places) := ⟨rfl, rfl, rfl, by decide +kernel, rfl, by decide +kernel, by decide +kernel⟩
abbrev NM_leads_of : List Str := ["row", "thing", "one"]
theorem sc_leads_of : FnScope NM_leads_of ["row"] (defScope s_leads_of) := ⟨rfl, rfl, rfl, by decide +kernel, rfl, by decide +kernel, by decide +kernel⟩
abbrev NM_last_swaps : List Str := ["row", "found", "k"]
theorem sc_last_swaps : FnScope NM_last_swaps ["row"] (defScope s_last_swaps) := ⟨rfl, rfl, rfl, by decide +kernel, rfl, by decide +kernel, by decide +kernel⟩
abbrev NM__law_source : List Str := ["script", "mixed", "cell"]
theorem sc__law_source : FnScope NM__law_source ["script"] (defScope s__law_source) := ⟨rfl, rfl, rfl, by decide +kernel, rfl, by decide +kernel, by decide +kernel⟩
abbrev NM__law_pick : List Str := ["source", "many", "left", "mixed"]
theorem sc__law_pick : FnScope NM__law_pick ["source", "many"] (defScope s__law_pick) := ⟨rfl, rfl, rfl, by decide +kernel, rfl, by decide +kernel, by decide +kernel⟩
abbrev NM__law_swapped : List Str := ["row", "k"]
theorem sc__law_swapped : FnScope NM__law_swapped ["row", "k"] (defScope s__law_swapped) := ⟨rfl, rfl, rfl, by decide +kernel, rfl, by decide +kernel, by decide +kernel⟩
abbrev NM__law_length : List Str := ["row", "k", "thing", "one"]
theorem sc__law_length : FnScope NM__law_length ["row"] (defScope s__law_length) := ⟨rfl, rfl, rfl, by decide +kernel, rfl, by decide +kernel, by decide +kernel⟩
abbrev NM__law_drops : List Str := ["row", "k"]
theorem sc__law_drops : FnScope NM__law_drops ["row"] (defScope s__law_drops) := ⟨rfl, rfl, rfl, by decide +kernel, rfl, by decide +kernel, by decide +kernel⟩
abbrev NM__law_put : List Str := ["table", "number", "found", "i", "some", "more", "one"]
theorem sc__law_put : FnScope NM__law_put ["table", "number"] (defScope s__law_put) := ⟨rfl, rfl, rfl, by decide +kernel, rfl, by decide +kernel, by decide +kernel⟩
abbrev NM__law_shape : List Str := ["table", "some"]
theorem sc__law_shape : FnScope NM__law_shape ["table"] (defScope s__law_shape) := ⟨rfl, rfl, rfl, by decide +kernel, rfl, by decide +kernel, by decide +kernel⟩
abbrev NM__law_crossed : List Str := ["row", "found", "n", "i", "j", "k", "m"]
theorem sc__law_crossed : FnScope NM__law_crossed ["row"] (defScope s__law_crossed) := ⟨rfl, rfl, rfl, by decide +kernel, rfl, by decide +kernel, by decide +kernel⟩
abbrev NM__law_leads : List Str := ["row", "found", "thing", "one"]
theorem sc__law_leads : FnScope NM__law_leads ["row"] (defScope s__law_leads) := ⟨rfl, rfl, rfl, by decide +kernel, rfl, by decide +kernel, by decide +kernel⟩
abbrev NM_fill : List Str := ["word", "table", "numbers", "k", "swap", "place", "row"]
theorem sc_fill : FnScope NM_fill ["word"] (defScope s_fill) := ⟨rfl, rfl, rfl, by decide +kernel, rfl, by decide +kernel, by decide +kernel⟩
abbrev NM_leads_shape : List Str := ["row", "one"]
theorem sc_leads_shape : FnScope NM_leads_shape ["row"] (defScope s_leads_shape) := ⟨rfl, rfl, rfl, by decide +kernel, rfl, by decide +kernel, by decide +kernel⟩
abbrev NM_some_word : List Str := ["row", "found", "some"]
theorem sc_some_word : FnScope NM_some_word ["row"] (defScope s_some_word) := ⟨rfl, rfl, rfl, by decide +kernel, rfl, by decide +kernel, by decide +kernel⟩
abbrev NM_rows_begun : List Str := ["row", "known", "found", "place", "_swap", "late"]
theorem sc_rows_begun : FnScope NM_rows_begun ["row"] (defScope s_rows_begun) := ⟨rfl, rfl, rfl, by decide +kernel, rfl, by decide +kernel, by decide +kernel⟩
abbrev NM__law_mixed : List Str := ["source", "things", "rest", "lap"]
theorem sc__law_mixed : FnScope NM__law_mixed ["source", "things"] (defScope s__law_mixed) := ⟨rfl, rfl, rfl, by decide +kernel, rfl, by decide +kernel, by decide +kernel⟩
abbrev NM__law_words : List Str := ["row", "most", "found", "lap", "late", "word", "here", "k"]
theorem sc__law_words : FnScope NM__law_words ["row", "most"] (defScope s__law_words) := ⟨rfl, rfl, rfl, by decide +kernel, rfl, by decide +kernel, by decide +kernel⟩
abbrev NM__law_fill : List Str := ["word", "table", "numbering", "k", "number", "place"]
theorem sc__law_fill : FnScope NM__law_fill ["word"] (defScope s__law_fill) := ⟨rfl, rfl, rfl, by decide +kernel, rfl, by decide +kernel, by decide +kernel⟩
abbrev NM_tables_of_row : List Str := ["row", "tables", "one", "found", "swap", "late", "table"]
theorem sc_tables_of_row : FnScope NM_tables_of_row ["row"] (defScope s_tables_of_row) := ⟨rfl, rfl, rfl, by decide +kernel, rfl, by decide +kernel, by decide +kernel⟩
abbrev NM__law_row : List Str := ["source", "n", "way", "found", "lap"]
theorem sc__law_row : FnScope NM__law_row ["source", "n"] (defScope s__law_row) := ⟨rfl, rfl, rfl, by decide +kernel, rfl, by decide +kernel, by decide +kernel⟩
abbrev NM__law_tables : List Str := ["row", "most", "words", "word"]
theorem sc__law_tables : FnScope NM__law_tables ["row", "most"] (defScope s__law_tables) := ⟨rfl, rfl, rfl, by decide +kernel, rfl, by decide +kernel, by decide +kernel⟩
abbrev NM_law : List Str := ["script", "source", "lap", "row", "some", "leads", "kept", "shape", "told", "due", "one"]
theorem sc_law : FnScope NM_law ["script"] (defScope s_law) := ⟨rfl, rfl, rfl, by decide +kernel, rfl, by decide +kernel, by decide +kernel⟩
/-! the mirrors -/
def G_put_in : Z :=
      (seqS (asgS 2 (o2U (lc2Y (iY (varY 0)) (bN 4) yesT (ynC listC (aCons (varY 4) aNil)) [4])))
      (seqS (forAS 2 3 4
        (seqS (asgS 5 (fzU (frY (vwN (lcY (iEn (varY 4)) (bP 7 8) (bT (y2 gtD (varY 8) (varY 1))) (varY 7) [7, 8])))))
      (seqS (ifS (bT (y2 eqD (varY 5) (frY (lstY aNil))))
        (seqS (appAS 4 (varY 1))
      (frzAS 2 (retS (tupY (aCons (yC tupleC (aCons (frY (lcY (iY (varY 2)) (bN 8) yesT (yC tupleC (aCons (varY 8) aNil)) [8])) aNil)) (aCons (tupY (aCons (varY 3) (aCons (y2 subD (yC lenC (aCons (varY 4) aNil)) (cY (.int 1))) aNil))) aNil))))))
        nxS)
      (seqS (asgS 6 (fzU (vwY (y2 ixD (varY 4) (y2 ixD (varY 5) (cY (.int 0)))))))
      (seqS (ifS (orT (bT (y2 neD (varY 6) (y2 addD (varY 1) (cY (.int 1))))) (bT (vwY (y2 (inD true) (varY 1) (varY 4)))))
        (asgGS (varY 1) (subAG 4 (y2 ixD (varY 5) (cY (.int 0)))))
        nxS)
      (asgS 1 (fzU (varY 6))))))))
      (frzS 2 (retS (tupY (aCons (y2 addD (yC tupleC (aCons (frY (lcY (iY (varY 2)) (bN 8) yesT (yC tupleC (aCons (varY 8) aNil)) [8])) aNil)) (tupY (aCons (tupY (aCons (varY 1) aNil)) aNil))) (aCons (tupY (aCons (yC lenC (aCons (varY 2) aNil)) (aCons (cY (.int 0)) aNil))) aNil)))))))
def m_put_in : List D → Option D := runD G_put_in 7
def G_crossed_places : Z :=
      (seqS (asgS 1 (fzU (frY (ynR (rg1 (yC lenC (aCons (varY 0) aNil)))))))
      (seqS (forS (iY (varY 1)) (bN 2)
        (forS (iY (frY (lcY (iY (slY slD (varY 1) (oYes (y2 addD (varY 2) (cY (.int 1)))) oNo)) (bN 3) (bT (y2 ltD (y2 ixD (varY 0) (varY 3)) (y2 ixD (varY 0) (varY 2)))) (varY 3) [3]))) (bN 3)
        (forS (iY (frY (lcY (iY (slY slD (varY 1) (oYes (y2 addD (varY 3) (cY (.int 1)))) oNo)) (bN 4) (bT (y2 gtD (y2 ixD (varY 0) (varY 4)) (y2 ixD (varY 0) (varY 2)))) (varY 4) [4]))) (bN 4)
        (seqS (asgS 5 (fzU (frY (lcY (iY (slY slD (varY 1) (oYes (y2 addD (varY 4) (cY (.int 1)))) oNo)) (bN 6) (bT (chY ltD ltD (y2 ixD (varY 0) (varY 2)) (y2 ixD (varY 0) (varY 6)) (y2 ixD (varY 0) (varY 4)))) (varY 6) [6]))))
      (ifS (bT (y2 neD (varY 5) (frY (lstY aNil))))
        (retS (tupY (aCons (varY 2) (aCons (varY 3) (aCons (varY 4) (aCons (y2 ixD (varY 5) (cY (.int 0))) aNil))))))
        nxS)))))
      (retS (cY .none))))
def m_crossed_places : List D → Option D := runD G_crossed_places 6
def G_leads_of : Z :=
      (retS (yC tupleC (aCons (frY (lcY (iR1 (yC lenC (aCons (varY 0) aNil))) (bN 1) yesT (yC lenC (aCons (frY (lcY (iY (slY slD (varY 0) oNo (oYes (y2 idxD (varY 0) (varY 1))))) (bN 2) (bT (y2 gtD (varY 2) (varY 1))) (varY 2) [2])) aNil)) [1])) aNil)))
def m_leads_of : List D → Option D := runD G_leads_of 2
def G_last_swaps : Z :=
      (seqS (asgS 1 (owU (lstY aNil)))
      (seqS (forS (iR1 (y2 subD (yC lenC (aCons (varY 0) aNil)) (cY (.int 1)))) (bN 2)
        (ifS (bT (y2 gtD (y2 ixD (varY 0) (varY 2)) (y2 ixD (varY 0) (y2 addD (varY 2) (cY (.int 1))))))
        (appS 1 (tupY (aCons (varY 2) (aCons (y2 addD (y2 addD (slY slD (varY 0) oNo (oYes (varY 2))) (tupY (aCons (y2 ixD (varY 0) (y2 addD (varY 2) (cY (.int 1)))) (aCons (y2 ixD (varY 0) (varY 2)) aNil)))) (slY slD (varY 0) (oYes (y2 addD (varY 2) (cY (.int 2)))) oNo)) aNil))))
        nxS))
      (frzS 1 (retS (varY 1)))))
def m_last_swaps : List D → Option D := runD G_last_swaps 2
def G__law_swapped : Z :=
      (retS (y2 addD (y2 addD (slY slD (varY 0) oNo (oYes (varY 1))) (tupY (aCons (y2 ixD (varY 0) (y2 addD (varY 1) (cY (.int 1)))) (aCons (y2 ixD (varY 0) (varY 1)) aNil)))) (slY slD (varY 0) (oYes (y2 addD (varY 1) (cY (.int 2)))) oNo)))
def m_law_swapped : List D → Option D := runD G__law_swapped 0
def G__law_length : Z :=
      (retS (yC sumC (aCons (frY (lcY (iEn (varY 0)) (bP 1 2) yesT (yC lenC (aCons (frY (lcY (iY (slY slD (varY 0) oNo (oYes (varY 1)))) (bN 3) (bT (y2 gtD (varY 3) (varY 2))) (varY 3) [3])) aNil)) [1, 2])) aNil)))
def m_law_length : List D → Option D := runD G__law_length 3
def G__law_drops : Z :=
      (retS (frY (lcY (iR1 (y2 subD (yC lenC (aCons (varY 0) aNil)) (cY (.int 1)))) (bN 1) (bT (y2 gtD (y2 ixD (varY 0) (varY 1)) (y2 ixD (varY 0) (y2 addD (varY 1) (cY (.int 1)))))) (varY 1) [1])))
def m_law_drops : List D → Option D := runD G__law_drops 1
def G__law_put : Z :=
      (seqS (asgS 2 (o2U (lc2Y (iY (varY 0)) (bN 4) yesT (ynC listC (aCons (varY 4) aNil)) [4])))
      (seqS (forAS 2 3 4
        (seqS (asgS 5 (fzU (frY (vwN (lcY (iY (varY 4)) (bN 6) (bT (y2 gtD (varY 6) (varY 1))) (varY 6) [6])))))
      (seqS (ifS (bT (y2 eqD (varY 5) (frY (lstY aNil))))
        (seqS (appAS 4 (varY 1))
      (frzAS 2 (retS (tupY (aCons (yC tupleC (aCons (frY (lcY (iY (varY 2)) (bN 6) yesT (yC tupleC (aCons (varY 6) aNil)) [6])) aNil)) (aCons (tupY (aCons (varY 3) (aCons (y2 subD (yC lenC (aCons (varY 4) aNil)) (cY (.int 1))) aNil))) aNil))))))
        nxS)
      (seqS (ifS (orT (bT (y2 neD (y2 ixD (varY 5) (cY (.int 0))) (y2 addD (varY 1) (cY (.int 1))))) (bT (vwY (y2 (inD true) (varY 1) (varY 4)))))
        (asgGS (varY 1) (subAG 4 (vwY (y2 idxD (varY 4) (y2 ixD (varY 5) (cY (.int 0)))))))
        nxS)
      (asgS 1 (fzU (y2 ixD (varY 5) (cY (.int 0)))))))))
      (frzS 2 (retS (tupY (aCons (y2 addD (yC tupleC (aCons (frY (lcY (iY (varY 2)) (bN 6) yesT (yC tupleC (aCons (varY 6) aNil)) [6])) aNil)) (tupY (aCons (tupY (aCons (varY 1) aNil)) aNil))) (aCons (tupY (aCons (yC lenC (aCons (varY 2) aNil)) (aCons (cY (.int 0)) aNil))) aNil)))))))
def m_law_put : List D → Option D := runD G__law_put 5
def G__law_shape : Z :=
      (retS (yC tupleC (aCons (frY (lcY (iY (varY 0)) (bN 1) yesT (yC lenC (aCons (varY 1) aNil)) [1])) aNil)))
def m_law_shape : List D → Option D := runD G__law_shape 1
def G__law_crossed : Z :=
      (seqS (parS 1 2 (fzU (frY (lstY aNil))) (fzU (yC lenC (aCons (varY 0) aNil))))
      (seqS (forS (iR1 (varY 2)) (bN 3)
        (forS (iY (frY (lcY (iR2 (y2 addD (varY 3) (cY (.int 1))) (varY 2)) (bN 4) (bT (y2 ltD (y2 ixD (varY 0) (varY 4)) (y2 ixD (varY 0) (varY 3)))) (varY 4) [4]))) (bN 4)
        (forS (iY (frY (lcY (iR2 (y2 addD (varY 4) (cY (.int 1))) (varY 2)) (bN 5) (bT (y2 gtD (y2 ixD (varY 0) (varY 5)) (y2 ixD (varY 0) (varY 3)))) (varY 5) [5]))) (bN 5)
        (asgS 1 (fzU (y2 addD (varY 1) (frY (lcY (iR2 (y2 addD (varY 5) (cY (.int 1))) (varY 2)) (bN 6) (bT (chY ltD ltD (y2 ixD (varY 0) (varY 3)) (y2 ixD (varY 0) (varY 6)) (y2 ixD (varY 0) (varY 5)))) (tupY (aCons (varY 3) (aCons (varY 4) (aCons (varY 5) (aCons (varY 6) aNil))))) [6]))))))))
      (retS (varY 1))))
def m_law_crossed : List D → Option D := runD G__law_crossed 6
def G__law_leads : Z :=
      (seqS (asgS 1 (owU (lstY aNil)))
      (seqS (forS (iR1 (yC lenC (aCons (varY 0) aNil))) (bN 2)
        (appS 1 (yC lenC (aCons (frY (lcY (iY (slY slD (varY 0) oNo (oYes (y2 idxD (varY 0) (varY 2))))) (bN 3) (bT (y2 gtD (varY 3) (varY 2))) (varY 3) [3])) aNil))))
      (frzS 1 (retS (yC tupleC (aCons (varY 1) aNil))))))
def m_law_leads : List D → Option D := runD G__law_leads 3
def G_fill : Z :=
      (seqS (parS 1 2 (fzU (tupY aNil)) (o2U emY))
      (seqS (forS (iEn (varY 0)) (bP 3 4)
        (seqS (asgGS (callY 2 m_put_in (aCons (varY 1) (aCons (varY 4) aNil))) (sqG 2 (consGs (nmG 1) (consGs (nmG 5) nilGs))))
      (seqS (ifS (bT (vwY (y2 eqD (y2 ixD (varY 5) (cY (.int 0))) (yC lenC (aCons (varY 2) aNil)))))
        (app2S 2 (lstY aNil))
        nxS)
      (appXS 2 (y2 ixD (varY 5) (cY (.int 0))) (varY 3)))))
      (frzS 2 (retS (tupY (aCons (varY 1) (aCons (yC tupleC (aCons (frY (lcY (iY (varY 2)) (bN 6) yesT (yC tupleC (aCons (varY 6) aNil)) [6])) aNil)) aNil)))))))
def m_fill : List D → Option D := runD G_fill 6
def G_leads_shape : Z :=
      (retS (yC tupleC (aCons (y1 revAD (frY (ynC sortC (aCons (frY (lcY (iY (callY 1 m_leads_of (aCons (varY 0) aNil))) (bN 1) (bT (y2 gtD (varY 1) (cY (.int 0)))) (varY 1) [1])) aNil)))) aNil)))
def m_leads_shape : List D → Option D := runD G_leads_shape 1
def G_some_word : Z :=
      (seqS (parS 1 2 (owU (lstY aNil)) (fzU (callY 1 m_last_swaps (aCons (varY 0) aNil))))
      (seqS (whS (bT (y2 neD (varY 2) (frY (lstY aNil))))
        (seqS (appS 1 (y2 ixD (y2 ixD (varY 2) (cY (.int 0))) (cY (.int 0))))
      (asgS 2 (fzU (callY 1 m_last_swaps (aCons (y2 ixD (y2 ixD (varY 2) (cY (.int 0))) (cY (.int 1))) aNil))))))
      (frzS 1 (retS (yC tupleC (aCons (y1 revAD (varY 1)) aNil))))))
def m_some_word : List D → Option D := runD G_some_word 2
def G_rows_begun : Z :=
      (seqS (parS 1 2 (dcU (dispD (aCons (varY 0) (aCons (cY (.bool true)) aNil)))) (owU (lstY (aCons (varY 0) aNil))))
      (seqS (forS (iR1 (cY (.int 2000))) (bN 3)
        (seqS (ifS (bT (vwY (y2 ltD (varY 3) (yC lenC (aCons (varY 2) aNil)))))
        (forS (iY (callY 1 m_last_swaps (aCons (oixY 2 (varY 3)) aNil))) (bTp [4, 5])
        (ifS (bT (vwY (y2 (inX true) (varY 5) (varY 1))))
        (seqS (asgGS (cY (.bool true)) (subX 1 (varY 5)))
      (appS 2 (varY 5)))
        nxS))
        nxS)
      (ifS (bT (vwY (y2 gtD (yC lenC (aCons (varY 2) aNil)) (cY (.int 2000)))))
        noS
        nxS)))
      (frzS 2 (retS (varY 2)))))
def m_rows_begun : List D → Option D := runD G_rows_begun 5
def G__law_words : Z :=
      (seqS (asgS 2 (fzU (frY (lstY (aCons (tupY (aCons (tupY aNil) (aCons (varY 0) aNil))) aNil)))))
      (seqS (forS (iR1 (callY 1 m_law_length (aCons (varY 0) aNil))) (bN 3)
        (seqS (asgS 4 (fzU (frY (lstY aNil))))
      (seqS (forS (iY (varY 2)) (bTp [5, 6])
        (asgS 4 (fzU (y2 addD (varY 4) (frY (lcY (iY (callY 1 m_law_drops (aCons (varY 6) aNil))) (bN 7) yesT (tupY (aCons (y2 addD (tupY (aCons (varY 7) aNil)) (varY 5)) (aCons (callY 2 m_law_swapped (aCons (varY 6) (aCons (varY 7) aNil))) aNil))) [7]))))))
      (seqS (ifS (bT (y2 gtD (yC lenC (aCons (varY 4) aNil)) (varY 1)))
        (retS (cY .none))
        nxS)
      (asgS 2 (fzU (varY 4)))))))
      (retS (frY (ynC sortGC (aCons (frY (lcY (iY (varY 2)) (bTp [5, 6]) yesT (varY 5) [5, 6])) aNil))))))
def m_law_words : List D → Option D := runD G__law_words 6
def G__law_fill : Z :=
      (seqS (parS 1 2 (fzU (tupY aNil)) (owU (lstY aNil)))
      (seqS (forS (iEn (varY 0)) (bP 3 4)
        (seqS (asgGS (callY 2 m_law_put (aCons (varY 1) (aCons (varY 4) aNil))) (sqG 2 (consGs (nmG 1) (consGs (nmG 5) nilGs))))
      (seqS (frzS 2 (asgS 2 (owU (yn2 catN (varY 2) (y2 mulB (frY (lstY (aCons (tupY aNil) aNil))) (yC intC (aCons (y2 eqD (y2 ixD (varY 5) (cY (.int 0))) (yC lenC (aCons (varY 2) aNil))) aNil)))))))
      (asgGS (y2 addD (oixY 2 (y2 ixD (varY 5) (cY (.int 0)))) (tupY (aCons (varY 3) aNil))) (subG 2 (y2 ixD (varY 5) (cY (.int 0))))))))
      (frzS 2 (retS (tupY (aCons (varY 1) (aCons (yC tupleC (aCons (varY 2) aNil)) aNil)))))))
def m_law_fill : List D → Option D := runD G__law_fill 5
def G_tables_of_row : Z :=
      (seqS (ifS (bT (y2 isND (callY 1 m_crossed_places (aCons (varY 0) aNil)) (cY .none)))
        (retS (frY (lstY (aCons (y2 ixD (callY 1 m_fill (aCons (callY 1 m_some_word (aCons (varY 0) aNil)) aNil)) (cY (.int 0))) aNil))))
        nxS)
      (seqS (asgS 1 (dcU newD))
      (seqS (forS (iY (y1 revAD (callY 1 m_rows_begun (aCons (varY 0) aNil)))) (bN 2)
        (seqS (asgS 3 (dcU newD))
      (seqS (forS (iY (callY 1 m_last_swaps (aCons (varY 2) aNil))) (bTp [4, 5])
        (forS (iY (odgY 1 (varY 5))) (bN 6)
        (asgGS (cY (.bool true)) (subX 3 (y2 ixD (callY 2 m_put_in (aCons (varY 6) (aCons (varY 4) aNil))) (cY (.int 0)))))))
      (frzS 3 (asgGS (ifY (bT (y2 neB (varY 3) (frD newD))) (frY (ynC sortGC (aCons (varY 3) aNil))) (frY (lstY (aCons (tupY aNil) aNil)))) (subX 1 (varY 2)))))))
      (retS (odgY 1 (varY 0))))))
def m_tables_of_row : List D → Option D := runD G_tables_of_row 6
def G__law_row : Z :=
      (seqS (asgS 2 (fzU (drawY 0 1 pickM (aCons (cY (.int 4)) aNil))))
      (seqS (ifS (bT (y2 ltD (varY 2) (cY (.int 2))))
        (retS (yC tupleC (aCons (drawY 0 1 mixedM (aCons (frY (ynR (rg1 (varY 1)))) aNil)) aNil)))
        nxS)
      (seqS (asgS 3 (fzU (ifY (bT (y2 eqD (varY 2) (cY (.int 2)))) (yR (rg1 (varY 1))) (y1 revAD (yR (rg1 (varY 1)))))))
      (seqS (forS (iR1 (ifY (bT (y2 gtD (varY 1) (cY (.int 1)))) (drawY 0 1 pickM (aCons (y2 mulB (cY (.int 2)) (varY 1)) aNil)) (cY (.int 0)))) (bN 4)
        (asgS 3 (fzU (callY 2 m_law_swapped (aCons (varY 3) (aCons (drawY 0 1 pickM (aCons (y2 subD (varY 1) (cY (.int 1))) aNil)) aNil))))))
      (retS (varY 3))))))
def m_law_row : List D → Src → Option (D × Src) := runY G__law_row 3
def G__law_tables : Z :=
      (seqS (asgS 2 (fzU (callY 2 m_law_words (aCons (varY 0) (aCons (varY 1) aNil)))))
      (seqS (ifS (bT (y2 isND (varY 2) (cY .none)))
        (retS (cY .none))
        nxS)
      (retS (frY (ynC sortGC (aCons (frY (ynC listX (aCons (frD (dC dictC (aCons (frY (lcY (iY (varY 2)) (bN 3) yesT (tupY (aCons (y2 ixD (callY 1 m_law_fill (aCons (varY 3) aNil)) (cY (.int 0))) (aCons (cY (.int 0)) aNil))) [3])) aNil))) aNil))) aNil))))))
def m_law_tables : List D → Option D := runD G__law_tables 2
def G_law : Z :=
      (seqS (forS (iR1 (cY (.int 4))) (bN 2)
        (seqS (asgS 3 (fzU (drawY 1 1 m_law_row (aCons (y2 addD (cY (.int 1)) (drawY 1 1 pickM (aCons (y2 ixD (frY (lstY (aCons (cY (.int 4)) (aCons (cY (.int 5)) (aCons (cY (.int 9)) (aCons (cY (.int 12)) aNil)))))) (varY 2)) aNil))) aNil))))
      (seqS (par3S 4 5 6 (fzU (callY 1 m_law_crossed (aCons (varY 3) aNil))) (fzU (callY 1 m_law_leads (aCons (varY 3) aNil))) (fzU (yC reprC (aCons (varY 3) aNil))))
      (seqS (asgS 7 (fzU (yC tupleC (aCons (y1 revAD (frY (ynC sortC (aCons (frY (lcY (iY (varY 5)) (bN 10) (bT (y2 gtD (varY 10) (cY (.int 0)))) (varY 10) [10])) aNil)))) aNil))))
      (seqS (asgS 8 (fzU (frY (lstY (aCons (callY 1 m_crossed_places (aCons (varY 3) aNil)) (aCons (callY 1 m_leads_of (aCons (varY 3) aNil)) (aCons (callY 1 m_leads_shape (aCons (varY 3) aNil)) aNil)))))))
      (seqS (ifS (bT (y2 neD (yC reprC (aCons (varY 8) aNil)) (yC reprC (aCons (frY (lstY (aCons (ifY (bT (y2 neD (varY 4) (frY (lstY aNil)))) (y2 ixD (varY 4) (cY (.int 0))) (cY .none)) (aCons (varY 5) (aCons (varY 7) aNil))))) aNil))))
        (retS (cY (.bool false)))
        nxS)
      (seqS (asgS 9 (fzU (ifY (bT (y2 ltD (varY 2) (cY (.int 2)))) (callY 2 m_law_tables (aCons (varY 3) (aCons (cY (.int 600)) aNil))) (cY .none))))
      (seqS (ifS (bT (y2 notND (varY 9) (cY .none)))
        (seqS (ifS (orT (bT (y2 neD (y2 eqD (yC lenC (aCons (varY 9) aNil)) (cY (.int 1))) (y2 eqD (varY 4) (frY (lstY aNil))))) (bT (y2 neD (yC reprC (aCons (callY 1 m_tables_of_row (aCons (varY 3) aNil)) aNil)) (yC reprC (aCons (varY 9) aNil)))))
        (retS (cY (.bool false)))
        nxS)
      (ifS (andT (bT (y2 eqD (varY 4) (frY (lstY aNil)))) (bT (y2 neD (callY 1 m_law_shape (aCons (y2 ixD (varY 9) (cY (.int 0))) aNil)) (varY 7))))
        (retS (cY (.bool false)))
        nxS))
        nxS)
      (ifS (bT (y2 neD (yC reprC (aCons (varY 3) aNil)) (varY 6)))
        (retS (cY (.bool false)))
        nxS)))))))))
      (retS (cY (.bool true))))
section
variable {P : Program} {w : World} {K : PySem.W.Frag} {mg : Str → Option Value} {base : Heap}
theorem ok_put_in {f : Addr} {fd : FuncData} (Fn : Fun K "put_in" "put_in" s_put_in f fd) (b_list : mg "list" = none) (b_enumerate : mg "enumerate" = none) (b_tuple : mg "tuple" = none) (b_len : mg "len" = none) : FnG P w K mg base 1 f fd ["table", "number"] (spP K 2 m_put_in) :=
  def_P (k := 0) Fn sc_put_in rfl rfl fun cdv A outer s H E hr => ⟨_,
      (pss_cons (ps_setLc (i := 2) (own := [("row", 4)]) (g := gName 4) (tt := tYes) rfl sc_put_in.nd rfl rfl (sw_true rfl rfl rfl (by decide +kernel)) (pi_seq (pv 0)) (blkOk_by (N := NM_put_in) (sc := defScope s_put_in) (by decide +kernel)) (fun _ _ _ _ _ => (pg_name (i := 4) sc_put_in.nd rfl (by first | exact Or.inl rfl | exact Or.inr rfl))) (fun _ _ _ _ _ => pts_nil) (fun _ _ _ _ _ => (pe_callTy (crK (K := K) rListA rfl call_list_of) (by rfl) b_list (by decide +kernel) (pa_cons (pv 4) pa_nil))))
      (pss_cons (ps_for PassesOwn.never rfl (pi_enumA (by rfl) b_enumerate (pa_cons (pv 2) pa_nil)) (pg_tup rfl (pgs_cons (pg_name (i := 3) sc_put_in.nd rfl (by first | exact Or.inl rfl | exact Or.inr rfl)) (pgs_cons (pg_name (i := 4) sc_put_in.nd rfl (by first | exact Or.inl rfl | exact Or.inr rfl)) pgs_nil)))
        (pss_cons (ps_setLc (i := 5) (own := [("j", 7), ("one", 8)]) (g := gTup K 2 (gNames [7, 8])) rfl sc_put_in.nd rfl rfl (sw_true rfl rfl rfl (by decide +kernel)) (pi_enumA (by rfl) b_enumerate (pa_cons (pv 4) pa_nil)) (blkOk_by (N := NM_put_in) (sc := defScope s_put_in) (by decide +kernel)) (fun _ _ _ _ _ => (pg_tup rfl (pgs_cons (pg_name (i := 7) sc_put_in.nd rfl (by first | exact Or.inl rfl | exact Or.inr rfl)) (pgs_cons (pg_name (i := 8) sc_put_in.nd rfl (by first | exact Or.inl rfl | exact Or.inr rfl)) pgs_nil)))) (fun _ _ _ _ _ => (pts_one (pt_cmpR op_gt (pv 8) (pv 1) (by first | exact nomark _ | rfl)))) (fun _ _ _ _ _ => (pv 7)))
      (pss_cons (ps_if (pt_cmpR (op_eqA hr.r.units) (pv 5) (pe_lst pa_nil) (by first | exact nomark _ | rfl))
        (pss_cons (ps_expr (pe_bm PySem.F.plainAttrs_list PySem.F.slot_list_append PySem.F.type_list_append mt_append (pv 4) (pa_cons (pv 1) pa_nil)))
      (pss_one (ps_ret (pe_tup0 (pa_cons (pe_callTy call_tup0 (by rfl) b_tuple (by decide +kernel) (pa_cons (pe_lc (own := [("one", 8)]) (g := gName 8) (tt := tYes) rfl sc_put_in.nd (pi_seq (pv 2)) (blkOk_by (N := NM_put_in) (sc := defScope s_put_in) (by decide +kernel)) (fun _ _ _ _ _ => (pg_name (i := 8) sc_put_in.nd rfl (by first | exact Or.inl rfl | exact Or.inr rfl))) (fun _ _ _ _ _ => pts_nil) (fun _ _ _ _ _ => (pe_callTy (crK (K := K) rTup0 rfl call_tup0) (by rfl) b_tuple (by decide +kernel) (pa_cons (pv 8) pa_nil)))) pa_nil)) (pa_cons (pe_tup0 (pa_cons (pv 3) (pa_cons (pe_op op_sub (pe_callB call_len_seq (by rfl) b_len (by decide +kernel) (pa_cons (pv 4) pa_nil)) pe_int) pa_nil))) pa_nil))))))
        pss_nil)
      (pss_cons (ps_set (i := 6) sc_put_in.nd rfl (by first | exact Or.inl rfl | exact Or.inr rfl) (pe_ix ix_seq (pv 4) (pe_ix ix_seq (pv 5) pe_int (fun _ _ => rfl)) (fun _ _ => rfl)))
      (pss_cons (ps_if (PW.pt (pw_or (pt_cmpR (op_neA hr.r.units) (pv 6) (pe_op op_addA (pv 1) pe_int) (by first | exact nomark _ | rfl)) (pw_or1 (pt_cmpR (op_notInA (room65 hr.r)) (pv 1) (pv 4) (by first | exact nomark _ | rfl)))))
        (pss_one (ps_asg (pv 1) (pg_sub (pv 4) (pe_ix ix_seq (pv 5) pe_int (fun _ _ => rfl)) set_list)))
        pss_nil)
      (pss_one (ps_set (i := 1) sc_put_in.nd rfl (by first | exact Or.inl rfl | exact Or.inr rfl) (pv 6))))))))
      (pss_one (ps_ret (pe_tup0 (pa_cons (pe_op op_addA (pe_callTy call_tup0 (by rfl) b_tuple (by decide +kernel) (pa_cons (pe_lc (own := [("one", 8)]) (g := gName 8) (tt := tYes) rfl sc_put_in.nd (pi_seq (pv 2)) (blkOk_by (N := NM_put_in) (sc := defScope s_put_in) (by decide +kernel)) (fun _ _ _ _ _ => (pg_name (i := 8) sc_put_in.nd rfl (by first | exact Or.inl rfl | exact Or.inr rfl))) (fun _ _ _ _ _ => pts_nil) (fun _ _ _ _ _ => (pe_callTy (crK (K := K) rTup0 rfl call_tup0) (by rfl) b_tuple (by decide +kernel) (pa_cons (pv 8) pa_nil)))) pa_nil)) (pe_tup0 (pa_cons (pe_tup0 (pa_cons (pv 1) pa_nil)) pa_nil))) (pa_cons (pe_tup0 (pa_cons (pe_callB call_len_seq (by rfl) b_len (by decide +kernel) (pa_cons (pv 2) pa_nil)) (pa_cons pe_int pa_nil))) pa_nil))))))),
      (ss_seq (ss_asg (i := 2) (su_o2 (sm_lc (si_seq (sd_var 0) (tg_name 4)) (by decide) st_yes (sn_C sCN_list (sa_cons (sd_var 4) sa_nil)))))
      (ss_seq (ss_forA (r := 2) (jk := 3) (jr := 4)
        (ss_seq (ss_asg (i := 5) (su_fz (sd_fr (sn_vw (sn_lc (si_enum (i := 7) (j := 8) (sd_var 4)) (by decide) (st_Test (sd_2 s2_cmp (sd_var 8) (sd_var 1))) (sd_var 7))))))
      (ss_seq (ss_if (st_Test (sd_2 s2_eq (sd_var 5) (sd_fr (sn_lst sa_nil))))
        (ss_seq (ss_appA (i := 4) (sd_var 1))
      (ss_frzA 2 (ss_ret (sd_tup (sa_cons (sd_C sC_tuple (sa_cons (sd_fr (sn_lc (si_seq (sd_var 2) (tg_name 8)) (by decide) st_yes (sd_C sC_tuple (sa_cons (sd_var 8) sa_nil)))) sa_nil)) (sa_cons (sd_tup (sa_cons (sd_var 3) (sa_cons (sd_2 s2_sub (sd_C sC_len (sa_cons (sd_var 4) sa_nil)) (sd_int 1)) sa_nil))) sa_nil))))))
        ss_next)
      (ss_seq (ss_asg (i := 6) (su_fz (sd_vw (sd_2 s2_ix (sd_var 4) (sd_2 s2_ix (sd_var 5) (sd_int 0))))))
      (ss_seq (ss_if (st_or (st_Test (sd_2 s2_ne (sd_var 6) (sd_2 s2_add (sd_var 1) (sd_int 1)))) (st_Test (sd_vw (sd_2 s2_in (sd_var 1) (sd_var 4)))))
        (ss_asgG (sd_var 1) (sg_subA (i := 4) (sd_2 s2_ix (sd_var 5) (sd_int 0))))
        ss_next)
      (ss_asg (i := 1) (su_fz (sd_var 6))))))))
      (ss_frz 2 (ss_ret (sd_tup (sa_cons (sd_2 s2_add (sd_C sC_tuple (sa_cons (sd_fr (sn_lc (si_seq (sd_var 2) (tg_name 8)) (by decide) st_yes (sd_C sC_tuple (sa_cons (sd_var 8) sa_nil)))) sa_nil)) (sd_tup (sa_cons (sd_tup (sa_cons (sd_var 1) sa_nil)) sa_nil))) (sa_cons (sd_tup (sa_cons (sd_C sC_len (sa_cons (sd_var 2) sa_nil)) (sa_cons (sd_int 0) sa_nil))) sa_nil)))))))⟩
theorem ok_crossed_places {f : Addr} {fd : FuncData} (Fn : Fun K "crossed_places" "crossed_places" s_crossed_places f fd) (b_range : mg "range" = none) (b_len : mg "len" = none) (b_list : mg "list" = none) : FnG P w K mg base 1 f fd ["row"] (spP K 1 m_crossed_places) :=
  def_P (k := 0) Fn sc_crossed_places rfl rfl fun cdv A outer s H E hr => ⟨_,
      (pss_cons (ps_set (i := 1) sc_crossed_places.nd rfl (by first | exact Or.inl rfl | exact Or.inr rfl) (pe_listRg rfl (by rfl) b_list (prg_1 (by rfl) b_range (pe_callB call_len_seq (by rfl) b_len (by decide +kernel) (pa_cons (pv 0) pa_nil)))))
      (pss_cons (ps_for PassesOwn.never rfl (pi_seq (pv 1)) (pg_name (i := 2) sc_crossed_places.nd rfl (by first | exact Or.inl rfl | exact Or.inr rfl))
        (pss_one (ps_for PassesOwn.never rfl (pi_seq (pe_lc (own := [("j", 3)]) (g := gName 3) rfl sc_crossed_places.nd (pi_seq (pe_slice sl_A0 (pv 1) (po_some (pe_op op_addA (pv 2) pe_int)) po_none)) (blkOk_by (N := NM_crossed_places) (sc := defScope s_crossed_places) (by decide +kernel)) (fun _ _ _ _ _ => (pg_name (i := 3) sc_crossed_places.nd rfl (by first | exact Or.inl rfl | exact Or.inr rfl))) (fun _ _ _ _ _ => (pts_one (pt_cmpR op_lt (pe_ix (ixK (K := K) rIx rfl ix_seq) (pv 0) (pv 3) (fun _ _ => rfl)) (pe_ix (ixK (K := K) rIx rfl ix_seq) (pv 0) (pv 2) (fun _ _ => rfl)) (by first | exact nomark _ | rfl)))) (fun _ _ _ _ _ => (pv 3)))) (pg_name (i := 3) sc_crossed_places.nd rfl (by first | exact Or.inl rfl | exact Or.inr rfl))
        (pss_one (ps_for PassesOwn.never rfl (pi_seq (pe_lc (own := [("k", 4)]) (g := gName 4) rfl sc_crossed_places.nd (pi_seq (pe_slice sl_A0 (pv 1) (po_some (pe_op op_addA (pv 3) pe_int)) po_none)) (blkOk_by (N := NM_crossed_places) (sc := defScope s_crossed_places) (by decide +kernel)) (fun _ _ _ _ _ => (pg_name (i := 4) sc_crossed_places.nd rfl (by first | exact Or.inl rfl | exact Or.inr rfl))) (fun _ _ _ _ _ => (pts_one (pt_cmpR op_gt (pe_ix (ixK (K := K) rIx rfl ix_seq) (pv 0) (pv 4) (fun _ _ => rfl)) (pe_ix (ixK (K := K) rIx rfl ix_seq) (pv 0) (pv 2) (fun _ _ => rfl)) (by first | exact nomark _ | rfl)))) (fun _ _ _ _ _ => (pv 4)))) (pg_name (i := 4) sc_crossed_places.nd rfl (by first | exact Or.inl rfl | exact Or.inr rfl))
        (pss_cons (ps_setLc (i := 5) (own := [("one", 6)]) (g := gName 6) rfl sc_crossed_places.nd rfl rfl (sw_true rfl rfl rfl (by decide +kernel)) (pi_seq (pe_slice sl_A0 (pv 1) (po_some (pe_op op_addA (pv 4) pe_int)) po_none)) (blkOk_by (N := NM_crossed_places) (sc := defScope s_crossed_places) (by decide +kernel)) (fun _ _ _ _ _ => (pg_name (i := 6) sc_crossed_places.nd rfl (by first | exact Or.inl rfl | exact Or.inr rfl))) (fun _ _ _ _ _ => (pts_one (pt_chain op_lt op_lt (pe_ix (ixK (K := K) rIx rfl ix_seq) (pv 0) (pv 2) (fun _ _ => rfl)) (pe_ix (ixK (K := K) rIx rfl ix_seq) (pv 0) (pv 6) (fun _ _ => rfl)) (pe_ix (ixK (K := K) rIx rfl ix_seq) (pv 0) (pv 4) (fun _ _ => rfl))))) (fun _ _ _ _ _ => (pv 6)))
      (pss_one (ps_if (pt_cmpR (op_neA hr.r.units) (pv 5) (pe_lst pa_nil) (by first | exact nomark _ | rfl))
        (pss_one (ps_ret (pe_tup0 (pa_cons (pv 2) (pa_cons (pv 3) (pa_cons (pv 4) (pa_cons (pe_ix ix_seq (pv 5) pe_int (fun _ _ => rfl)) pa_nil)))))))
        pss_nil))))))))
      (pss_one (ps_ret pe_non)))),
      (ss_seq (ss_asg (i := 1) (su_fz (sd_fr (sn_range (sr_1 (sd_C sC_len (sa_cons (sd_var 0) sa_nil)))))))
      (ss_seq (ss_for (si_seq (sd_var 1) (tg_name 2))
        (ss_for (si_seq (sd_fr (sn_lc (si_seq (sd_sl ssl (sd_var 1) (so_yes (sd_2 s2_add (sd_var 2) (sd_int 1))) so_no) (tg_name 3)) (by decide) (st_Test (sd_2 s2_cmp (sd_2 s2_ix (sd_var 0) (sd_var 3)) (sd_2 s2_ix (sd_var 0) (sd_var 2)))) (sd_var 3))) (tg_name 3))
        (ss_for (si_seq (sd_fr (sn_lc (si_seq (sd_sl ssl (sd_var 1) (so_yes (sd_2 s2_add (sd_var 3) (sd_int 1))) so_no) (tg_name 4)) (by decide) (st_Test (sd_2 s2_cmp (sd_2 s2_ix (sd_var 0) (sd_var 4)) (sd_2 s2_ix (sd_var 0) (sd_var 2)))) (sd_var 4))) (tg_name 4))
        (ss_seq (ss_asg (i := 5) (su_fz (sd_fr (sn_lc (si_seq (sd_sl ssl (sd_var 1) (so_yes (sd_2 s2_add (sd_var 4) (sd_int 1))) so_no) (tg_name 6)) (by decide) (st_Test (sd_chain s2_cmp s2_cmp (sd_2 s2_ix (sd_var 0) (sd_var 2)) (sd_2 s2_ix (sd_var 0) (sd_var 6)) (sd_2 s2_ix (sd_var 0) (sd_var 4)))) (sd_var 6)))))
      (ss_if (st_Test (sd_2 s2_ne (sd_var 5) (sd_fr (sn_lst sa_nil))))
        (ss_ret (sd_tup (sa_cons (sd_var 2) (sa_cons (sd_var 3) (sa_cons (sd_var 4) (sa_cons (sd_2 s2_ix (sd_var 5) (sd_int 0)) sa_nil))))))
        ss_next)))))
      (ss_ret sd_non)))⟩
theorem ok_leads_of {f : Addr} {fd : FuncData} (Fn : Fun K "leads_of" "leads_of" s_leads_of f fd) (b_len : mg "len" = none) (b_range : mg "range" = none) (b_tuple : mg "tuple" = none) : FnG P w K mg base 1 f fd ["row"] (spP K 1 m_leads_of) :=
  def_P (k := 0) Fn sc_leads_of rfl rfl fun cdv A outer s H E hr => ⟨_,
      (pss_one (ps_ret (pe_callTy call_tup0 (by rfl) b_tuple (by decide +kernel) (pa_cons (pe_lc (own := [("thing", 1)]) (g := gName 1) (tt := tYes) rfl sc_leads_of.nd (pi_range1 (by rfl) b_range (pa_cons (pe_callB call_len_seq (by rfl) b_len (by decide +kernel) (pa_cons (pv 0) pa_nil)) pa_nil)) (blkOk_by (N := NM_leads_of) (sc := defScope s_leads_of) (by decide +kernel)) (fun _ _ _ _ _ => (pg_name (i := 1) sc_leads_of.nd rfl (by first | exact Or.inl rfl | exact Or.inr rfl))) (fun _ _ _ _ _ => pts_nil) (fun _ _ _ _ _ => (pe_callB (crK (K := K) DL.rLen rfl call_len_seq) (by rfl) b_len (by decide +kernel) (pa_cons (pe_lc (own := [("one", 2)]) (g := gName 2) rfl sc_leads_of.nd (pi_seqK (K := K) rfl (pe_slice (slK (K := K) rSlA0 rfl sl_A0) (pv 0) po_none (po_some (pe_idx (room65 hr.r) (pv 0) (pv 1))))) (blkOk_by (by kernel_rfl)) (fun _ _ _ _ _ => (pg_name (i := 2) sc_leads_of.nd rfl (by first | exact Or.inl rfl | exact Or.inr rfl))) (fun _ _ _ _ _ => (pts_one (pt_cmpR op_gt (pv 2) (pv 1) (by first | exact nomark _ | rfl)))) (fun _ _ _ _ _ => (pv 2))) pa_nil)))) pa_nil)))),
      (ss_ret (sd_C sC_tuple (sa_cons (sd_fr (sn_lc (si_r1 (sd_C sC_len (sa_cons (sd_var 0) sa_nil)) (tg_name 1)) (by decide) st_yes (sd_C sC_len (sa_cons (sd_fr (sn_lc (si_seq (sd_sl ssl (sd_var 0) so_no (so_yes (sd_idx (sd_var 0) (sd_var 1)))) (tg_name 2)) (by decide) (st_Test (sd_2 s2_cmp (sd_var 2) (sd_var 1))) (sd_var 2))) sa_nil)))) sa_nil)))⟩
theorem ok_last_swaps {f : Addr} {fd : FuncData} (Fn : Fun K "last_swaps" "last_swaps" s_last_swaps f fd) (b_len : mg "len" = none) (b_range : mg "range" = none) : FnG P w K mg base 1 f fd ["row"] (spP K 1 m_last_swaps) :=
  def_P (k := 0) Fn sc_last_swaps rfl rfl fun cdv A outer s H E hr => ⟨_,
      (pss_cons (ps_set (i := 1) sc_last_swaps.nd rfl (by first | exact Or.inl rfl | exact Or.inr rfl) (pe_lst pa_nil))
      (pss_cons (ps_for PassesOwn.never rfl (pi_range1 (by rfl) b_range (pa_cons (pe_op op_sub (pe_callB call_len_seq (by rfl) b_len (by decide +kernel) (pa_cons (pv 0) pa_nil)) pe_int) pa_nil)) (pg_name (i := 2) sc_last_swaps.nd rfl (by first | exact Or.inl rfl | exact Or.inr rfl))
        (pss_one (ps_if (pt_cmpR op_gt (pe_ix ix_seq (pv 0) (pv 2) (fun _ _ => rfl)) (pe_ix ix_seq (pv 0) (pe_op op_addA (pv 2) pe_int) (fun _ _ => rfl)) (by first | exact nomark _ | rfl))
        (pss_one (ps_expr (pe_bm PySem.F.plainAttrs_list PySem.F.slot_list_append PySem.F.type_list_append mt_append (pv 1) (pa_cons (pe_tup0 (pa_cons (pv 2) (pa_cons (pe_op op_addA (pe_op op_addA (pe_slice sl_A0 (pv 0) po_none (po_some (pv 2))) (pe_tup0 (pa_cons (pe_ix ix_seq (pv 0) (pe_op op_addA (pv 2) pe_int) (fun _ _ => rfl)) (pa_cons (pe_ix ix_seq (pv 0) (pv 2) (fun _ _ => rfl)) pa_nil)))) (pe_slice sl_A0 (pv 0) (po_some (pe_op op_addA (pv 2) pe_int)) po_none)) pa_nil))) pa_nil))))
        pss_nil)))
      (pss_one (ps_ret (pv 1))))),
      (ss_seq (ss_asg (i := 1) (su_ow (sn_lst sa_nil)))
      (ss_seq (ss_for (si_r1 (sd_2 s2_sub (sd_C sC_len (sa_cons (sd_var 0) sa_nil)) (sd_int 1)) (tg_name 2))
        (ss_if (st_Test (sd_2 s2_cmp (sd_2 s2_ix (sd_var 0) (sd_var 2)) (sd_2 s2_ix (sd_var 0) (sd_2 s2_add (sd_var 2) (sd_int 1)))))
        (ss_app (i := 1) (sd_tup (sa_cons (sd_var 2) (sa_cons (sd_2 s2_add (sd_2 s2_add (sd_sl ssl (sd_var 0) so_no (so_yes (sd_var 2))) (sd_tup (sa_cons (sd_2 s2_ix (sd_var 0) (sd_2 s2_add (sd_var 2) (sd_int 1))) (sa_cons (sd_2 s2_ix (sd_var 0) (sd_var 2)) sa_nil)))) (sd_sl ssl (sd_var 0) (so_yes (sd_2 s2_add (sd_var 2) (sd_int 2))) so_no)) sa_nil))))
        ss_next))
      (ss_frz 1 (ss_ret (sd_var 1)))))⟩
theorem ok__law_swapped {f : Addr} {fd : FuncData} (Fn : Fun K "_law_swapped" "_law_swapped" s__law_swapped f fd)  : FnG P w K mg base 1 f fd ["row", "k"] (spP K 2 m_law_swapped) :=
  def_P (k := 0) Fn sc__law_swapped rfl rfl fun cdv A outer s H E hr => ⟨_,
      (pss_one (ps_ret (pe_op op_addA (pe_op op_addA (pe_slice sl_A0 (pv 0) po_none (po_some (pv 1))) (pe_tup0 (pa_cons (pe_ix ix_seq (pv 0) (pe_op op_addA (pv 1) pe_int) (fun _ _ => rfl)) (pa_cons (pe_ix ix_seq (pv 0) (pv 1) (fun _ _ => rfl)) pa_nil)))) (pe_slice sl_A0 (pv 0) (po_some (pe_op op_addA (pv 1) pe_int)) po_none)))),
      (ss_ret (sd_2 s2_add (sd_2 s2_add (sd_sl ssl (sd_var 0) so_no (so_yes (sd_var 1))) (sd_tup (sa_cons (sd_2 s2_ix (sd_var 0) (sd_2 s2_add (sd_var 1) (sd_int 1))) (sa_cons (sd_2 s2_ix (sd_var 0) (sd_var 1)) sa_nil)))) (sd_sl ssl (sd_var 0) (so_yes (sd_2 s2_add (sd_var 1) (sd_int 2))) so_no)))⟩
theorem ok__law_length {f : Addr} {fd : FuncData} (Fn : Fun K "_law_length" "_law_length" s__law_length f fd) (b_enumerate : mg "enumerate" = none) (b_len : mg "len" = none) (b_sum : mg "sum" = none) : FnG P w K mg base 1 f fd ["row"] (spP K 1 m_law_length) :=
  def_P (k := 0) Fn sc__law_length rfl rfl fun cdv A outer s H E hr => ⟨_,
      (pss_one (ps_ret (pe_callB (cr_sumA rfl) (by rfl) b_sum (by decide +kernel) (pa_cons (pe_lc (own := [("k", 1), ("thing", 2)]) (g := gTup K 2 (gNames [1, 2])) (tt := tYes) rfl sc__law_length.nd (pi_enumA (by rfl) b_enumerate (pa_cons (pv 0) pa_nil)) (blkOk_by (N := NM__law_length) (sc := defScope s__law_length) (by decide +kernel)) (fun _ _ _ _ _ => (pg_tup rfl (pgs_cons (pg_name (i := 1) sc__law_length.nd rfl (by first | exact Or.inl rfl | exact Or.inr rfl)) (pgs_cons (pg_name (i := 2) sc__law_length.nd rfl (by first | exact Or.inl rfl | exact Or.inr rfl)) pgs_nil)))) (fun _ _ _ _ _ => pts_nil) (fun _ _ _ _ _ => (pe_callB (crK (K := K) DL.rLen rfl call_len_seq) (by rfl) b_len (by decide +kernel) (pa_cons (pe_lc (own := [("one", 3)]) (g := gName 3) rfl sc__law_length.nd (pi_seqK (K := K) rfl (pe_slice (slK (K := K) rSlA0 rfl sl_A0) (pv 0) po_none (po_some (pv 1)))) (blkOk_by (by kernel_rfl)) (fun _ _ _ _ _ => (pg_name (i := 3) sc__law_length.nd rfl (by first | exact Or.inl rfl | exact Or.inr rfl))) (fun _ _ _ _ _ => (pts_one (pt_cmpR op_gt (pv 3) (pv 2) (by first | exact nomark _ | rfl)))) (fun _ _ _ _ _ => (pv 3))) pa_nil)))) pa_nil)))),
      (ss_ret (sd_C sC_sum (sa_cons (sd_fr (sn_lc (si_enum (i := 1) (j := 2) (sd_var 0)) (by decide) st_yes (sd_C sC_len (sa_cons (sd_fr (sn_lc (si_seq (sd_sl ssl (sd_var 0) so_no (so_yes (sd_var 1))) (tg_name 3)) (by decide) (st_Test (sd_2 s2_cmp (sd_var 3) (sd_var 2))) (sd_var 3))) sa_nil)))) sa_nil)))⟩
theorem ok__law_drops {f : Addr} {fd : FuncData} (Fn : Fun K "_law_drops" "_law_drops" s__law_drops f fd) (b_len : mg "len" = none) (b_range : mg "range" = none) : FnG P w K mg base 1 f fd ["row"] (spP K 1 m_law_drops) :=
  def_P (k := 0) Fn sc__law_drops rfl rfl fun cdv A outer s H E hr => ⟨_,
      (pss_one (ps_ret (pe_lc (own := [("k", 1)]) (g := gName 1) rfl sc__law_drops.nd (pi_range1 (by rfl) b_range (pa_cons (pe_op op_sub (pe_callB call_len_seq (by rfl) b_len (by decide +kernel) (pa_cons (pv 0) pa_nil)) pe_int) pa_nil)) (blkOk_by (N := NM__law_drops) (sc := defScope s__law_drops) (by decide +kernel)) (fun _ _ _ _ _ => (pg_name (i := 1) sc__law_drops.nd rfl (by first | exact Or.inl rfl | exact Or.inr rfl))) (fun _ _ _ _ _ => (pts_one (pt_cmpR op_gt (pe_ix (ixK (K := K) rIx rfl ix_seq) (pv 0) (pv 1) (fun _ _ => rfl)) (pe_ix (ixK (K := K) rIx rfl ix_seq) (pv 0) (pe_op (opK (K := K) rAddA rfl op_addA) (pv 1) pe_int) (fun _ _ => rfl)) (by first | exact nomark _ | rfl)))) (fun _ _ _ _ _ => (pv 1))))),
      (ss_ret (sd_fr (sn_lc (si_r1 (sd_2 s2_sub (sd_C sC_len (sa_cons (sd_var 0) sa_nil)) (sd_int 1)) (tg_name 1)) (by decide) (st_Test (sd_2 s2_cmp (sd_2 s2_ix (sd_var 0) (sd_var 1)) (sd_2 s2_ix (sd_var 0) (sd_2 s2_add (sd_var 1) (sd_int 1))))) (sd_var 1))))⟩
theorem ok__law_put {f : Addr} {fd : FuncData} (Fn : Fun K "_law_put" "_law_put" s__law_put f fd) (b_list : mg "list" = none) (b_tuple : mg "tuple" = none) (b_len : mg "len" = none) (b_enumerate : mg "enumerate" = none) : FnG P w K mg base 1 f fd ["table", "number"] (spP K 2 m_law_put) :=
  def_P (k := 0) Fn sc__law_put rfl rfl fun cdv A outer s H E hr => ⟨_,
      (pss_cons (ps_setLc (i := 2) (own := [("some", 4)]) (g := gName 4) (tt := tYes) rfl sc__law_put.nd rfl rfl (sw_true rfl rfl rfl (by decide +kernel)) (pi_seq (pv 0)) (blkOk_by (N := NM__law_put) (sc := defScope s__law_put) (by decide +kernel)) (fun _ _ _ _ _ => (pg_name (i := 4) sc__law_put.nd rfl (by first | exact Or.inl rfl | exact Or.inr rfl))) (fun _ _ _ _ _ => pts_nil) (fun _ _ _ _ _ => (pe_callTy (crK (K := K) rListA rfl call_list_of) (by rfl) b_list (by decide +kernel) (pa_cons (pv 4) pa_nil))))
      (pss_cons (ps_for PassesOwn.never rfl (pi_enumA (by rfl) b_enumerate (pa_cons (pv 2) pa_nil)) (pg_tup rfl (pgs_cons (pg_name (i := 3) sc__law_put.nd rfl (by first | exact Or.inl rfl | exact Or.inr rfl)) (pgs_cons (pg_name (i := 4) sc__law_put.nd rfl (by first | exact Or.inl rfl | exact Or.inr rfl)) pgs_nil)))
        (pss_cons (ps_setLc (i := 5) (own := [("one", 6)]) (g := gName 6) rfl sc__law_put.nd rfl rfl (sw_true rfl rfl rfl (by decide +kernel)) (pi_seq (pv 4)) (blkOk_by (N := NM__law_put) (sc := defScope s__law_put) (by decide +kernel)) (fun _ _ _ _ _ => (pg_name (i := 6) sc__law_put.nd rfl (by first | exact Or.inl rfl | exact Or.inr rfl))) (fun _ _ _ _ _ => (pts_one (pt_cmpR op_gt (pv 6) (pv 1) (by first | exact nomark _ | rfl)))) (fun _ _ _ _ _ => (pv 6)))
      (pss_cons (ps_if (pt_cmpR (op_eqA hr.r.units) (pv 5) (pe_lst pa_nil) (by first | exact nomark _ | rfl))
        (pss_cons (ps_expr (pe_bm PySem.F.plainAttrs_list PySem.F.slot_list_append PySem.F.type_list_append mt_append (pv 4) (pa_cons (pv 1) pa_nil)))
      (pss_one (ps_ret (pe_tup0 (pa_cons (pe_callTy call_tup0 (by rfl) b_tuple (by decide +kernel) (pa_cons (pe_lc (own := [("one", 6)]) (g := gName 6) (tt := tYes) rfl sc__law_put.nd (pi_seq (pv 2)) (blkOk_by (N := NM__law_put) (sc := defScope s__law_put) (by decide +kernel)) (fun _ _ _ _ _ => (pg_name (i := 6) sc__law_put.nd rfl (by first | exact Or.inl rfl | exact Or.inr rfl))) (fun _ _ _ _ _ => pts_nil) (fun _ _ _ _ _ => (pe_callTy (crK (K := K) rTup0 rfl call_tup0) (by rfl) b_tuple (by decide +kernel) (pa_cons (pv 6) pa_nil)))) pa_nil)) (pa_cons (pe_tup0 (pa_cons (pv 3) (pa_cons (pe_op op_sub (pe_callB call_len_seq (by rfl) b_len (by decide +kernel) (pa_cons (pv 4) pa_nil)) pe_int) pa_nil))) pa_nil))))))
        pss_nil)
      (pss_cons (ps_if (PW.pt (pw_or (pt_cmpR (op_neA hr.r.units) (pe_ix ix_seq (pv 5) pe_int (fun _ _ => rfl)) (pe_op op_addA (pv 1) pe_int) (by first | exact nomark _ | rfl)) (pw_or1 (pt_cmpR (op_notInA (room65 hr.r)) (pv 1) (pv 4) (by first | exact nomark _ | rfl)))))
        (pss_one (ps_asg (pv 1) (pg_sub (pv 4) (pe_idx (room65 hr.r) (pv 4) (pe_ix ix_seq (pv 5) pe_int (fun _ _ => rfl))) set_list)))
        pss_nil)
      (pss_one (ps_set (i := 1) sc__law_put.nd rfl (by first | exact Or.inl rfl | exact Or.inr rfl) (pe_ix ix_seq (pv 5) pe_int (fun _ _ => rfl))))))))
      (pss_one (ps_ret (pe_tup0 (pa_cons (pe_op op_addA (pe_callTy call_tup0 (by rfl) b_tuple (by decide +kernel) (pa_cons (pe_lc (own := [("one", 6)]) (g := gName 6) (tt := tYes) rfl sc__law_put.nd (pi_seq (pv 2)) (blkOk_by (N := NM__law_put) (sc := defScope s__law_put) (by decide +kernel)) (fun _ _ _ _ _ => (pg_name (i := 6) sc__law_put.nd rfl (by first | exact Or.inl rfl | exact Or.inr rfl))) (fun _ _ _ _ _ => pts_nil) (fun _ _ _ _ _ => (pe_callTy (crK (K := K) rTup0 rfl call_tup0) (by rfl) b_tuple (by decide +kernel) (pa_cons (pv 6) pa_nil)))) pa_nil)) (pe_tup0 (pa_cons (pe_tup0 (pa_cons (pv 1) pa_nil)) pa_nil))) (pa_cons (pe_tup0 (pa_cons (pe_callB call_len_seq (by rfl) b_len (by decide +kernel) (pa_cons (pv 2) pa_nil)) (pa_cons pe_int pa_nil))) pa_nil))))))),
      (ss_seq (ss_asg (i := 2) (su_o2 (sm_lc (si_seq (sd_var 0) (tg_name 4)) (by decide) st_yes (sn_C sCN_list (sa_cons (sd_var 4) sa_nil)))))
      (ss_seq (ss_forA (r := 2) (jk := 3) (jr := 4)
        (ss_seq (ss_asg (i := 5) (su_fz (sd_fr (sn_vw (sn_lc (si_seq (sd_var 4) (tg_name 6)) (by decide) (st_Test (sd_2 s2_cmp (sd_var 6) (sd_var 1))) (sd_var 6))))))
      (ss_seq (ss_if (st_Test (sd_2 s2_eq (sd_var 5) (sd_fr (sn_lst sa_nil))))
        (ss_seq (ss_appA (i := 4) (sd_var 1))
      (ss_frzA 2 (ss_ret (sd_tup (sa_cons (sd_C sC_tuple (sa_cons (sd_fr (sn_lc (si_seq (sd_var 2) (tg_name 6)) (by decide) st_yes (sd_C sC_tuple (sa_cons (sd_var 6) sa_nil)))) sa_nil)) (sa_cons (sd_tup (sa_cons (sd_var 3) (sa_cons (sd_2 s2_sub (sd_C sC_len (sa_cons (sd_var 4) sa_nil)) (sd_int 1)) sa_nil))) sa_nil))))))
        ss_next)
      (ss_seq (ss_if (st_or (st_Test (sd_2 s2_ne (sd_2 s2_ix (sd_var 5) (sd_int 0)) (sd_2 s2_add (sd_var 1) (sd_int 1)))) (st_Test (sd_vw (sd_2 s2_in (sd_var 1) (sd_var 4)))))
        (ss_asgG (sd_var 1) (sg_subA (i := 4) (sd_vw (sd_idx (sd_var 4) (sd_2 s2_ix (sd_var 5) (sd_int 0))))))
        ss_next)
      (ss_asg (i := 1) (su_fz (sd_2 s2_ix (sd_var 5) (sd_int 0))))))))
      (ss_frz 2 (ss_ret (sd_tup (sa_cons (sd_2 s2_add (sd_C sC_tuple (sa_cons (sd_fr (sn_lc (si_seq (sd_var 2) (tg_name 6)) (by decide) st_yes (sd_C sC_tuple (sa_cons (sd_var 6) sa_nil)))) sa_nil)) (sd_tup (sa_cons (sd_tup (sa_cons (sd_var 1) sa_nil)) sa_nil))) (sa_cons (sd_tup (sa_cons (sd_C sC_len (sa_cons (sd_var 2) sa_nil)) (sa_cons (sd_int 0) sa_nil))) sa_nil)))))))⟩
theorem ok__law_shape {f : Addr} {fd : FuncData} (Fn : Fun K "_law_shape" "_law_shape" s__law_shape f fd) (b_len : mg "len" = none) (b_tuple : mg "tuple" = none) : FnG P w K mg base 1 f fd ["table"] (spP K 1 m_law_shape) :=
  def_P (k := 0) Fn sc__law_shape rfl rfl fun cdv A outer s H E hr => ⟨_,
      (pss_one (ps_ret (pe_callTy call_tup0 (by rfl) b_tuple (by decide +kernel) (pa_cons (pe_lc (own := [("some", 1)]) (g := gName 1) (tt := tYes) rfl sc__law_shape.nd (pi_seq (pv 0)) (blkOk_by (N := NM__law_shape) (sc := defScope s__law_shape) (by decide +kernel)) (fun _ _ _ _ _ => (pg_name (i := 1) sc__law_shape.nd rfl (by first | exact Or.inl rfl | exact Or.inr rfl))) (fun _ _ _ _ _ => pts_nil) (fun _ _ _ _ _ => (pe_callB (crK (K := K) DL.rLen rfl call_len_seq) (by rfl) b_len (by decide +kernel) (pa_cons (pv 1) pa_nil)))) pa_nil)))),
      (ss_ret (sd_C sC_tuple (sa_cons (sd_fr (sn_lc (si_seq (sd_var 0) (tg_name 1)) (by decide) st_yes (sd_C sC_len (sa_cons (sd_var 1) sa_nil)))) sa_nil)))⟩
theorem ok__law_crossed {f : Addr} {fd : FuncData} (Fn : Fun K "_law_crossed" "_law_crossed" s__law_crossed f fd) (b_len : mg "len" = none) (b_range : mg "range" = none) : FnG P w K mg base 1 f fd ["row"] (spP K 1 m_law_crossed) :=
  def_P (k := 0) Fn sc__law_crossed rfl rfl fun cdv A outer s H E hr => ⟨_,
      (pss_cons (ps_par (i := 1) (j := 2) rfl sc__law_crossed.nd rfl rfl (by decide) rfl rfl (pa_cons (pe_lst pa_nil) (pa_cons (pe_callB call_len_seq (by rfl) b_len (by decide +kernel) (pa_cons (pv 0) pa_nil)) pa_nil)) (by rfl))
      (pss_cons (ps_for PassesOwn.never rfl (pi_range1 (by rfl) b_range (pa_cons (pv 2) pa_nil)) (pg_name (i := 3) sc__law_crossed.nd rfl (by first | exact Or.inl rfl | exact Or.inr rfl))
        (pss_one (ps_for PassesOwn.never rfl (pi_seq (pe_lc (own := [("j", 4)]) (g := gName 4) rfl sc__law_crossed.nd (pi_range2 (by rfl) b_range (pa_cons (pe_op op_addA (pv 3) pe_int) (pa_cons (pv 2) pa_nil))) (blkOk_by (N := NM__law_crossed) (sc := defScope s__law_crossed) (by decide +kernel)) (fun _ _ _ _ _ => (pg_name (i := 4) sc__law_crossed.nd rfl (by first | exact Or.inl rfl | exact Or.inr rfl))) (fun _ _ _ _ _ => (pts_one (pt_cmpR op_lt (pe_ix (ixK (K := K) rIx rfl ix_seq) (pv 0) (pv 4) (fun _ _ => rfl)) (pe_ix (ixK (K := K) rIx rfl ix_seq) (pv 0) (pv 3) (fun _ _ => rfl)) (by first | exact nomark _ | rfl)))) (fun _ _ _ _ _ => (pv 4)))) (pg_name (i := 4) sc__law_crossed.nd rfl (by first | exact Or.inl rfl | exact Or.inr rfl))
        (pss_one (ps_for PassesOwn.never rfl (pi_seq (pe_lc (own := [("k", 5)]) (g := gName 5) rfl sc__law_crossed.nd (pi_range2 (by rfl) b_range (pa_cons (pe_op op_addA (pv 4) pe_int) (pa_cons (pv 2) pa_nil))) (blkOk_by (N := NM__law_crossed) (sc := defScope s__law_crossed) (by decide +kernel)) (fun _ _ _ _ _ => (pg_name (i := 5) sc__law_crossed.nd rfl (by first | exact Or.inl rfl | exact Or.inr rfl))) (fun _ _ _ _ _ => (pts_one (pt_cmpR op_gt (pe_ix (ixK (K := K) rIx rfl ix_seq) (pv 0) (pv 5) (fun _ _ => rfl)) (pe_ix (ixK (K := K) rIx rfl ix_seq) (pv 0) (pv 3) (fun _ _ => rfl)) (by first | exact nomark _ | rfl)))) (fun _ _ _ _ _ => (pv 5)))) (pg_name (i := 5) sc__law_crossed.nd rfl (by first | exact Or.inl rfl | exact Or.inr rfl))
        (pss_one (ps_set (i := 1) sc__law_crossed.nd rfl (by first | exact Or.inl rfl | exact Or.inr rfl) (pe_op op_addA (pv 1) (pe_lc (own := [("m", 6)]) (g := gName 6) rfl sc__law_crossed.nd (pi_range2 (by rfl) b_range (pa_cons (pe_op op_addA (pv 5) pe_int) (pa_cons (pv 2) pa_nil))) (blkOk_by (N := NM__law_crossed) (sc := defScope s__law_crossed) (by decide +kernel)) (fun _ _ _ _ _ => (pg_name (i := 6) sc__law_crossed.nd rfl (by first | exact Or.inl rfl | exact Or.inr rfl))) (fun _ _ _ _ _ => (pts_one (pt_chain op_lt op_lt (pe_ix (ixK (K := K) rIx rfl ix_seq) (pv 0) (pv 3) (fun _ _ => rfl)) (pe_ix (ixK (K := K) rIx rfl ix_seq) (pv 0) (pv 6) (fun _ _ => rfl)) (pe_ix (ixK (K := K) rIx rfl ix_seq) (pv 0) (pv 5) (fun _ _ => rfl))))) (fun _ _ _ _ _ => (pe_tup0 (pa_cons (pv 3) (pa_cons (pv 4) (pa_cons (pv 5) (pa_cons (pv 6) pa_nil)))))))))))))))
      (pss_one (ps_ret (pv 1))))),
      (ss_seq (ss_par (i := 1) (j := 2) (su_fz (sd_fr (sn_lst sa_nil))) (su_fz (sd_C sC_len (sa_cons (sd_var 0) sa_nil))))
      (ss_seq (ss_for (si_r1 (sd_var 2) (tg_name 3))
        (ss_for (si_seq (sd_fr (sn_lc (si_r2 (sd_2 s2_add (sd_var 3) (sd_int 1)) (sd_var 2) (tg_name 4)) (by decide) (st_Test (sd_2 s2_cmp (sd_2 s2_ix (sd_var 0) (sd_var 4)) (sd_2 s2_ix (sd_var 0) (sd_var 3)))) (sd_var 4))) (tg_name 4))
        (ss_for (si_seq (sd_fr (sn_lc (si_r2 (sd_2 s2_add (sd_var 4) (sd_int 1)) (sd_var 2) (tg_name 5)) (by decide) (st_Test (sd_2 s2_cmp (sd_2 s2_ix (sd_var 0) (sd_var 5)) (sd_2 s2_ix (sd_var 0) (sd_var 3)))) (sd_var 5))) (tg_name 5))
        (ss_asg (i := 1) (su_fz (sd_2 s2_add (sd_var 1) (sd_fr (sn_lc (si_r2 (sd_2 s2_add (sd_var 5) (sd_int 1)) (sd_var 2) (tg_name 6)) (by decide) (st_Test (sd_chain s2_cmp s2_cmp (sd_2 s2_ix (sd_var 0) (sd_var 3)) (sd_2 s2_ix (sd_var 0) (sd_var 6)) (sd_2 s2_ix (sd_var 0) (sd_var 5)))) (sd_tup (sa_cons (sd_var 3) (sa_cons (sd_var 4) (sa_cons (sd_var 5) (sa_cons (sd_var 6) sa_nil)))))))))))))
      (ss_ret (sd_var 1))))⟩
theorem ok__law_leads {f : Addr} {fd : FuncData} (Fn : Fun K "_law_leads" "_law_leads" s__law_leads f fd) (b_len : mg "len" = none) (b_range : mg "range" = none) (b_tuple : mg "tuple" = none) : FnG P w K mg base 1 f fd ["row"] (spP K 1 m_law_leads) :=
  def_P (k := 0) Fn sc__law_leads rfl rfl fun cdv A outer s H E hr => ⟨_,
      (pss_cons (ps_set (i := 1) sc__law_leads.nd rfl (by first | exact Or.inl rfl | exact Or.inr rfl) (pe_lst pa_nil))
      (pss_cons (ps_for PassesOwn.never rfl (pi_range1 (by rfl) b_range (pa_cons (pe_callB call_len_seq (by rfl) b_len (by decide +kernel) (pa_cons (pv 0) pa_nil)) pa_nil)) (pg_name (i := 2) sc__law_leads.nd rfl (by first | exact Or.inl rfl | exact Or.inr rfl))
        (pss_one (ps_expr (pe_bm PySem.F.plainAttrs_list PySem.F.slot_list_append PySem.F.type_list_append mt_append (pv 1) (pa_cons (pe_callB call_len_seq (by rfl) b_len (by decide +kernel) (pa_cons (pe_lc (own := [("one", 3)]) (g := gName 3) rfl sc__law_leads.nd (pi_seq (pe_slice sl_A0 (pv 0) po_none (po_some (pe_idx (room65 hr.r) (pv 0) (pv 2))))) (blkOk_by (N := NM__law_leads) (sc := defScope s__law_leads) (by decide +kernel)) (fun _ _ _ _ _ => (pg_name (i := 3) sc__law_leads.nd rfl (by first | exact Or.inl rfl | exact Or.inr rfl))) (fun _ _ _ _ _ => (pts_one (pt_cmpR op_gt (pv 3) (pv 2) (by first | exact nomark _ | rfl)))) (fun _ _ _ _ _ => (pv 3))) pa_nil)) pa_nil)))))
      (pss_one (ps_ret (pe_callTy call_tup0 (by rfl) b_tuple (by decide +kernel) (pa_cons (pv 1) pa_nil)))))),
      (ss_seq (ss_asg (i := 1) (su_ow (sn_lst sa_nil)))
      (ss_seq (ss_for (si_r1 (sd_C sC_len (sa_cons (sd_var 0) sa_nil)) (tg_name 2))
        (ss_app (i := 1) (sd_C sC_len (sa_cons (sd_fr (sn_lc (si_seq (sd_sl ssl (sd_var 0) so_no (so_yes (sd_idx (sd_var 0) (sd_var 2)))) (tg_name 3)) (by decide) (st_Test (sd_2 s2_cmp (sd_var 3) (sd_var 2))) (sd_var 3))) sa_nil))))
      (ss_frz 1 (ss_ret (sd_C sC_tuple (sa_cons (sd_var 1) sa_nil))))))⟩
theorem ok_fill {f : Addr} {fd : FuncData} (Fn : Fun K "fill" "fill" s_fill f fd) (C_put_in : Cal P w K mg base 1 "put_in" ["table", "number"] (spP K 2 m_put_in)) (b_enumerate : mg "enumerate" = none) (b_len : mg "len" = none) (b_tuple : mg "tuple" = none) : FnG P w K mg base 2 f fd ["word"] (spP K 1 m_fill) :=
  def_P (k := 1) Fn sc_fill rfl rfl fun cdv A outer s H E hr => ⟨_,
      (pss_cons (ps_par (i := 1) (j := 2) rfl sc_fill.nd rfl rfl (by decide) rfl rfl (pa_cons (pe_tup0 pa_nil) (pa_cons (pe_lst pa_nil) pa_nil)) (by rfl))
      (pss_cons (ps_for PassesOwn.never rfl (pi_enumA (by rfl) b_enumerate (pa_cons (pv 0) pa_nil)) (pg_tup rfl (pgs_cons (pg_name (i := 3) sc_fill.nd rfl (by first | exact Or.inl rfl | exact Or.inr rfl)) (pgs_cons (pg_name (i := 4) sc_fill.nd rfl (by first | exact Or.inl rfl | exact Or.inr rfl)) pgs_nil)))
        (pss_cons (ps_asg (pe_cal (C_put_in.mono (by decide)) hr (by rfl) (pa_cons (pv 1) (pa_cons (pv 4) pa_nil))) (pg_sq rfl (pgs_cons (pg_name (i := 1) sc_fill.nd rfl (by first | exact Or.inl rfl | exact Or.inr rfl)) (pgs_cons (pg_name (i := 5) sc_fill.nd rfl (by first | exact Or.inl rfl | exact Or.inr rfl)) pgs_nil))))
      (pss_cons (ps_if (pt_cmpR (op_eqA hr.r.units) (pe_ix ix_seq (pv 5) pe_int (fun _ _ => rfl)) (pe_callB call_len_seq (by rfl) b_len (by decide +kernel) (pa_cons (pv 2) pa_nil)) (by first | exact nomark _ | rfl))
        (pss_one (ps_expr (pe_bm PySem.F.plainAttrs_list PySem.F.slot_list_append PySem.F.type_list_append mt_append (pv 2) (pa_cons (pe_lst pa_nil) pa_nil))))
        pss_nil)
      (pss_one (ps_expr (pe_bm PySem.F.plainAttrs_list PySem.F.slot_list_append PySem.F.type_list_append mt_append (pe_ix ix_list (pv 2) (pe_ix ix_seq (pv 5) pe_int (fun _ _ => rfl)) (fun _ _ => rfl)) (pa_cons (pv 3) pa_nil)))))))
      (pss_one (ps_ret (pe_tup0 (pa_cons (pv 1) (pa_cons (pe_callTy call_tup0 (by rfl) b_tuple (by decide +kernel) (pa_cons (pe_lc (own := [("row", 6)]) (g := gName 6) (tt := tYes) rfl sc_fill.nd (pi_seq (pv 2)) (blkOk_by (N := NM_fill) (sc := defScope s_fill) (by decide +kernel)) (fun _ _ _ _ _ => (pg_name (i := 6) sc_fill.nd rfl (by first | exact Or.inl rfl | exact Or.inr rfl))) (fun _ _ _ _ _ => pts_nil) (fun _ _ _ _ _ => (pe_callTy (crK (K := K) rTup0 rfl call_tup0) (by rfl) b_tuple (by decide +kernel) (pa_cons (pv 6) pa_nil)))) pa_nil)) pa_nil))))))),
      (ss_seq (ss_par (i := 1) (j := 2) (su_fz (sd_tup sa_nil)) (su_o2 sm_nil))
      (ss_seq (ss_for (si_enum (i := 3) (j := 4) (sd_var 0))
        (ss_seq (ss_asgG (sd_call (sa_cons (sd_var 1) (sa_cons (sd_var 4) sa_nil))) (sg_sq (n := 2) (sgs_cons (sg_name 1) (sgs_cons (sg_name 5) sgs_nil))))
      (ss_seq (ss_if (st_Test (sd_vw (sd_2 s2_eq (sd_2 s2_ix (sd_var 5) (sd_int 0)) (sd_C sC_len (sa_cons (sd_var 2) sa_nil)))))
        (ss_app2 (i := 2) (sn_lst sa_nil))
        ss_next)
      (ss_appX (i := 2) (sd_2 s2_ix (sd_var 5) (sd_int 0)) (sd_var 3)))))
      (ss_frz 2 (ss_ret (sd_tup (sa_cons (sd_var 1) (sa_cons (sd_C sC_tuple (sa_cons (sd_fr (sn_lc (si_seq (sd_var 2) (tg_name 6)) (by decide) st_yes (sd_C sC_tuple (sa_cons (sd_var 6) sa_nil)))) sa_nil)) sa_nil)))))))⟩
theorem ok_leads_shape {f : Addr} {fd : FuncData} (Fn : Fun K "leads_shape" "leads_shape" s_leads_shape f fd) (C_leads_of : Cal P w K mg base 1 "leads_of" ["row"] (spP K 1 m_leads_of)) (b_sorted : mg "sorted" = none) (b_tuple : mg "tuple" = none) : FnG P w K mg base 2 f fd ["row"] (spP K 1 m_leads_shape) :=
  def_P (k := 1) Fn sc_leads_shape rfl rfl fun cdv A outer s H E hr => ⟨_,
      (pss_one (ps_ret (pe_callTy call_tup0 (by rfl) b_tuple (by decide +kernel) (pa_cons (pe_revA (pe_callB cr_sortedA (by rfl) b_sorted (by decide +kernel) (pa_cons (pe_lc (own := [("one", 1)]) (g := gName 1) rfl sc_leads_shape.nd (pi_seq (pe_cal (C_leads_of.mono (by decide)) hr (by rfl) (pa_cons (pv 0) pa_nil))) (blkOk_by (N := NM_leads_shape) (sc := defScope s_leads_shape) (by decide +kernel)) (fun _ _ _ _ _ => (pg_name (i := 1) sc_leads_shape.nd rfl (by first | exact Or.inl rfl | exact Or.inr rfl))) (fun _ _ _ _ _ => (pts_one (pt_cmpR op_gt (pv 1) pe_int (by first | exact nomark _ | rfl)))) (fun _ _ _ _ _ => (pv 1))) pa_nil))) pa_nil)))),
      (ss_ret (sd_C sC_tuple (sa_cons (sd_revA (sd_fr (sn_C sCN_sorted (sa_cons (sd_fr (sn_lc (si_seq (sd_call (sa_cons (sd_var 0) sa_nil)) (tg_name 1)) (by decide) (st_Test (sd_2 s2_cmp (sd_var 1) (sd_int 0))) (sd_var 1))) sa_nil)))) sa_nil)))⟩
theorem ok_some_word {f : Addr} {fd : FuncData} (Fn : Fun K "some_word" "some_word" s_some_word f fd) (C_last_swaps : Cal P w K mg base 1 "last_swaps" ["row"] (spP K 1 m_last_swaps)) (b_tuple : mg "tuple" = none) : FnG P w K mg base 2 f fd ["row"] (spP K 1 m_some_word) :=
  def_P (k := 1) Fn sc_some_word rfl rfl fun cdv A outer s H E hr => ⟨_,
      (pss_cons (ps_par (i := 1) (j := 2) rfl sc_some_word.nd rfl rfl (by decide) rfl rfl (pa_cons (pe_lst pa_nil) (pa_cons (pe_cal (C_last_swaps.mono (by decide)) hr (by rfl) (pa_cons (pv 0) pa_nil)) pa_nil)) (by rfl))
      (pss_cons (ps_while PassesOwn.never (pt_cmpR (op_neA hr.r.units) (pv 2) (pe_lst pa_nil) (by first | exact nomark _ | rfl))
        (pss_cons (ps_expr (pe_bm PySem.F.plainAttrs_list PySem.F.slot_list_append PySem.F.type_list_append mt_append (pv 1) (pa_cons (pe_ix ix_seq (pe_ix ix_seq (pv 2) pe_int (fun _ _ => rfl)) pe_int (fun _ _ => rfl)) pa_nil)))
      (pss_one (ps_set (i := 2) sc_some_word.nd rfl (by first | exact Or.inl rfl | exact Or.inr rfl) (pe_cal (C_last_swaps.mono (by decide)) hr (by rfl) (pa_cons (pe_ix ix_seq (pe_ix ix_seq (pv 2) pe_int (fun _ _ => rfl)) pe_int (fun _ _ => rfl)) pa_nil))))))
      (pss_one (ps_ret (pe_callTy call_tup0 (by rfl) b_tuple (by decide +kernel) (pa_cons (pe_revA (pv 1)) pa_nil)))))),
      (ss_seq (ss_par (i := 1) (j := 2) (su_ow (sn_lst sa_nil)) (su_fz (sd_call (sa_cons (sd_var 0) sa_nil))))
      (ss_seq (ss_while (st_Test (sd_2 s2_ne (sd_var 2) (sd_fr (sn_lst sa_nil))))
        (ss_seq (ss_app (i := 1) (sd_2 s2_ix (sd_2 s2_ix (sd_var 2) (sd_int 0)) (sd_int 0)))
      (ss_asg (i := 2) (su_fz (sd_call (sa_cons (sd_2 s2_ix (sd_2 s2_ix (sd_var 2) (sd_int 0)) (sd_int 1)) sa_nil))))))
      (ss_frz 1 (ss_ret (sd_C sC_tuple (sa_cons (sd_revA (sd_var 1)) sa_nil))))))⟩
theorem ok_rows_begun {f : Addr} {fd : FuncData} (Fn : Fun K "rows_begun" "rows_begun" s_rows_begun f fd) (C_last_swaps : Cal P w K mg base 1 "last_swaps" ["row"] (spP K 1 m_last_swaps)) (b_range : mg "range" = none) (b_len : mg "len" = none) {tok_MOST_BELOW : Tok} (g_MOST_BELOW : mg "MOST_BELOW" = some (.int 2000 tok_MOST_BELOW)) : FnG P w K mg base 2 f fd ["row"] (spP K 1 m_rows_begun) :=
  def_P (k := 1) Fn sc_rows_begun rfl rfl fun cdv A outer s H E hr => ⟨_,
      (pss_cons (ps_par (i := 1) (j := 2) rfl sc_rows_begun.nd rfl rfl (by decide) rfl rfl (pa_cons (pe_xdisp (room80 hr.r) (pd_cons (pv 0) pe_bl pd_nil)) (pa_cons (pe_lst (pa_cons (pv 0) pa_nil)) pa_nil)) (by rfl))
      (pss_cons (ps_for PassesOwn.never rfl (pi_range1 (by rfl) b_range (pa_cons (pe_glob (v := .int 2000) (by rfl) g_MOST_BELOW ⟨_, rfl⟩) pa_nil)) (pg_name (i := 3) sc_rows_begun.nd rfl (by first | exact Or.inl rfl | exact Or.inr rfl))
        (pss_cons (ps_if (pt_cmpR op_lt (pv 3) (pe_callB call_len_seq (by rfl) b_len (by decide +kernel) (pa_cons (pv 2) pa_nil)) (by first | exact nomark _ | rfl))
        (pss_one (ps_for PassesOwn.never rfl (pi_seq (pe_cal (C_last_swaps.mono (by decide)) hr (by rfl) (pa_cons (pe_ix ix_list (pv 2) (pv 3) (fun _ _ => rfl)) pa_nil))) (pg_tup rfl (pgs_cons (pg_name (i := 4) sc_rows_begun.nd rfl (by first | exact Or.inl rfl | exact Or.inr rfl)) (pgs_cons (pg_name (i := 5) sc_rows_begun.nd rfl (by first | exact Or.inl rfl | exact Or.inr rfl)) pgs_nil)))
        (pss_one (ps_if (pt_cmpR (op_notInX (room65 hr.r)) (pv 5) (pv 1) (by first | exact nomark _ | rfl))
        (pss_cons (ps_asg pe_bl (pg_sub (pv 1) (pv 5) (set_dict (room20 hr.r))))
      (pss_one (ps_expr (pe_bm PySem.F.plainAttrs_list PySem.F.slot_list_append PySem.F.type_list_append mt_append (pv 2) (pa_cons (pv 5) pa_nil)))))
        pss_nil))))
        pss_nil)
      (pss_one (ps_if (pt_cmpR op_gt (pe_callB call_len_seq (by rfl) b_len (by decide +kernel) (pa_cons (pv 2) pa_nil)) (pe_glob (v := .int 2000) (by rfl) g_MOST_BELOW ⟨_, rfl⟩) (by first | exact nomark _ | rfl))
        (pss_one ps_no)
        pss_nil))))
      (pss_one (ps_ret (pv 2))))),
      (ss_seq (ss_par (i := 1) (j := 2) (su_dc (dd_disp (sa_cons (sd_var 0) (sa_cons (sd_bl true) sa_nil)))) (su_ow (sn_lst (sa_cons (sd_var 0) sa_nil))))
      (ss_seq (ss_for (si_r1 (sd_int 2000) (tg_name 3))
        (ss_seq (ss_if (st_Test (sd_vw (sd_2 s2_cmp (sd_var 3) (sd_C sC_len (sa_cons (sd_var 2) sa_nil)))))
        (ss_for (si_seq (sd_call (sa_cons (sd_oix (sd_var 3)) sa_nil)) (tg_tup [4, 5] rfl))
        (ss_if (st_Test (sd_vw (sd_2 s2_inX (sd_var 5) (sd_var 1))))
        (ss_seq (ss_asgG (sd_bl true) (sg_subX (i := 1) (sd_var 5)))
      (ss_app (i := 2) (sd_var 5)))
        ss_next))
        ss_next)
      (ss_if (st_Test (sd_vw (sd_2 s2_cmp (sd_C sC_len (sa_cons (sd_var 2) sa_nil)) (sd_int 2000))))
        ss_no
        ss_next)))
      (ss_frz 2 (ss_ret (sd_var 2)))))⟩
theorem ok__law_words {f : Addr} {fd : FuncData} (Fn : Fun K "_law_words" "_law_words" s__law_words f fd) (C_law_length : Cal P w K mg base 1 "_law_length" ["row"] (spP K 1 m_law_length)) (C_law_drops : Cal P w K mg base 1 "_law_drops" ["row"] (spP K 1 m_law_drops)) (C_law_swapped : Cal P w K mg base 1 "_law_swapped" ["row", "k"] (spP K 2 m_law_swapped)) (b_range : mg "range" = none) (b_len : mg "len" = none) (b_sorted : mg "sorted" = none) : FnG P w K mg base 2 f fd ["row", "most"] (spP K 2 m_law_words) :=
  def_P (k := 1) Fn sc__law_words rfl rfl fun cdv A outer s H E hr => ⟨_,
      (pss_cons (ps_set (i := 2) sc__law_words.nd rfl (by first | exact Or.inl rfl | exact Or.inr rfl) (pe_lst (pa_cons (pe_tup0 (pa_cons (pe_tup0 pa_nil) (pa_cons (pv 0) pa_nil))) pa_nil)))
      (pss_cons (ps_for PassesOwn.never rfl (pi_range1 (by rfl) b_range (pa_cons (pe_cal (C_law_length.mono (by decide)) hr (by rfl) (pa_cons (pv 0) pa_nil)) pa_nil)) (pg_name (i := 3) sc__law_words.nd rfl (by first | exact Or.inl rfl | exact Or.inr rfl))
        (pss_cons (ps_set (i := 4) sc__law_words.nd rfl (by first | exact Or.inl rfl | exact Or.inr rfl) (pe_lst pa_nil))
      (pss_cons (ps_for PassesOwn.never rfl (pi_seq (pv 2)) (pg_tup rfl (pgs_cons (pg_name (i := 5) sc__law_words.nd rfl (by first | exact Or.inl rfl | exact Or.inr rfl)) (pgs_cons (pg_name (i := 6) sc__law_words.nd rfl (by first | exact Or.inl rfl | exact Or.inr rfl)) pgs_nil)))
        (pss_one (ps_set (i := 4) sc__law_words.nd rfl (by first | exact Or.inl rfl | exact Or.inr rfl) (pe_op op_addA (pv 4) (pe_lc (own := [("k", 7)]) (g := gName 7) (tt := tYes) rfl sc__law_words.nd (pi_seq (pe_cal (C_law_drops.mono (by decide)) hr (by rfl) (pa_cons (pv 6) pa_nil))) (blkOk_by (N := NM__law_words) (sc := defScope s__law_words) (by decide +kernel)) (fun _ _ _ _ _ => (pg_name (i := 7) sc__law_words.nd rfl (by first | exact Or.inl rfl | exact Or.inr rfl))) (fun _ _ _ _ _ => pts_nil) (fun _ _ _ _ _ => (pe_tup0 (pa_cons (pe_op (opK (K := K) rAddA rfl op_addA) (pe_tup0 (pa_cons (pv 7) pa_nil)) (pv 5)) (pa_cons (pe_cal (C_law_swapped.mono (by decide)) hr (by rfl) (pa_cons (pv 6) (pa_cons (pv 7) pa_nil))) pa_nil)))))))))
      (pss_cons (ps_if (pt_cmpR op_gt (pe_callB call_len_seq (by rfl) b_len (by decide +kernel) (pa_cons (pv 4) pa_nil)) (pv 1) (by first | exact nomark _ | rfl))
        (pss_one (ps_ret pe_non))
        pss_nil)
      (pss_one (ps_set (i := 2) sc__law_words.nd rfl (by first | exact Or.inl rfl | exact Or.inr rfl) (pv 4)))))))
      (pss_one (ps_ret (pe_callB (cr_sortG rfl (room80 hr.r)) (by rfl) b_sorted (by decide +kernel) (pa_cons (pe_lc (own := [("word", 5), ("here", 6)]) (g := gTup K 2 (gNames [5, 6])) (tt := tYes) rfl sc__law_words.nd (pi_seq (pv 2)) (blkOk_by (N := NM__law_words) (sc := defScope s__law_words) (by decide +kernel)) (fun _ _ _ _ _ => (pg_tup rfl (pgs_cons (pg_name (i := 5) sc__law_words.nd rfl (by first | exact Or.inl rfl | exact Or.inr rfl)) (pgs_cons (pg_name (i := 6) sc__law_words.nd rfl (by first | exact Or.inl rfl | exact Or.inr rfl)) pgs_nil)))) (fun _ _ _ _ _ => pts_nil) (fun _ _ _ _ _ => (pv 5))) pa_nil)))))),
      (ss_seq (ss_asg (i := 2) (su_fz (sd_fr (sn_lst (sa_cons (sd_tup (sa_cons (sd_tup sa_nil) (sa_cons (sd_var 0) sa_nil))) sa_nil)))))
      (ss_seq (ss_for (si_r1 (sd_call (sa_cons (sd_var 0) sa_nil)) (tg_name 3))
        (ss_seq (ss_asg (i := 4) (su_fz (sd_fr (sn_lst sa_nil))))
      (ss_seq (ss_for (si_seq (sd_var 2) (tg_tup [5, 6] rfl))
        (ss_asg (i := 4) (su_fz (sd_2 s2_add (sd_var 4) (sd_fr (sn_lc (si_seq (sd_call (sa_cons (sd_var 6) sa_nil)) (tg_name 7)) (by decide) st_yes (sd_tup (sa_cons (sd_2 s2_add (sd_tup (sa_cons (sd_var 7) sa_nil)) (sd_var 5)) (sa_cons (sd_call (sa_cons (sd_var 6) (sa_cons (sd_var 7) sa_nil))) sa_nil)))))))))
      (ss_seq (ss_if (st_Test (sd_2 s2_cmp (sd_C sC_len (sa_cons (sd_var 4) sa_nil)) (sd_var 1)))
        (ss_ret sd_non)
        ss_next)
      (ss_asg (i := 2) (su_fz (sd_var 4)))))))
      (ss_ret (sd_fr (sn_C sCN_sortG (sa_cons (sd_fr (sn_lc (si_seq (sd_var 2) (tg_tup [5, 6] rfl)) (by decide) st_yes (sd_var 5))) sa_nil))))))⟩
theorem ok__law_fill {f : Addr} {fd : FuncData} (Fn : Fun K "_law_fill" "_law_fill" s__law_fill f fd) (C_law_put : Cal P w K mg base 1 "_law_put" ["table", "number"] (spP K 2 m_law_put)) (b_enumerate : mg "enumerate" = none) (b_len : mg "len" = none) (b_int : mg "int" = none) (b_tuple : mg "tuple" = none) : FnG P w K mg base 2 f fd ["word"] (spP K 1 m_law_fill) :=
  def_P (k := 1) Fn sc__law_fill rfl rfl fun cdv A outer s H E hr => ⟨_,
      (pss_cons (ps_par (i := 1) (j := 2) rfl sc__law_fill.nd rfl rfl (by decide) rfl rfl (pa_cons (pe_tup0 pa_nil) (pa_cons (pe_lst pa_nil) pa_nil)) (by rfl))
      (pss_cons (ps_for PassesOwn.never rfl (pi_enumA (by rfl) b_enumerate (pa_cons (pv 0) pa_nil)) (pg_tup rfl (pgs_cons (pg_name (i := 3) sc__law_fill.nd rfl (by first | exact Or.inl rfl | exact Or.inr rfl)) (pgs_cons (pg_name (i := 4) sc__law_fill.nd rfl (by first | exact Or.inl rfl | exact Or.inr rfl)) pgs_nil)))
        (pss_cons (ps_asg (pe_cal (C_law_put.mono (by decide)) hr (by rfl) (pa_cons (pv 1) (pa_cons (pv 4) pa_nil))) (pg_sq rfl (pgs_cons (pg_name (i := 1) sc__law_fill.nd rfl (by first | exact Or.inl rfl | exact Or.inr rfl)) (pgs_cons (pg_name (i := 5) sc__law_fill.nd rfl (by first | exact Or.inl rfl | exact Or.inr rfl)) pgs_nil))))
      (pss_cons (ps_set (i := 2) sc__law_fill.nd rfl (by first | exact Or.inl rfl | exact Or.inr rfl) (pe_op op_addA (pv 2) (pe_op op_mulB (pe_lst (pa_cons (pe_tup0 pa_nil) pa_nil)) (pe_callTy call_int1 (by rfl) b_int (by decide +kernel) (pa_cons (pe_cmpR (op_eqA hr.r.units) (pe_ix ix_seq (pv 5) pe_int (fun _ _ => rfl)) (pe_callB call_len_seq (by rfl) b_len (by decide +kernel) (pa_cons (pv 2) pa_nil)) (by first | exact nomark _ | rfl)) pa_nil)))))
      (pss_one (ps_asg (pe_op op_addA (pe_ix ix_list (pv 2) (pe_ix ix_seq (pv 5) pe_int (fun _ _ => rfl)) (fun _ _ => rfl)) (pe_tup0 (pa_cons (pv 3) pa_nil))) (pg_sub (pv 2) (pe_ix ix_seq (pv 5) pe_int (fun _ _ => rfl)) set_list))))))
      (pss_one (ps_ret (pe_tup0 (pa_cons (pv 1) (pa_cons (pe_callTy call_tup0 (by rfl) b_tuple (by decide +kernel) (pa_cons (pv 2) pa_nil)) pa_nil))))))),
      (ss_seq (ss_par (i := 1) (j := 2) (su_fz (sd_tup sa_nil)) (su_ow (sn_lst sa_nil)))
      (ss_seq (ss_for (si_enum (i := 3) (j := 4) (sd_var 0))
        (ss_seq (ss_asgG (sd_call (sa_cons (sd_var 1) (sa_cons (sd_var 4) sa_nil))) (sg_sq (n := 2) (sgs_cons (sg_name 1) (sgs_cons (sg_name 5) sgs_nil))))
      (ss_seq (ss_frz 2 (ss_asg (i := 2) (su_ow (sn_2 s2N_add (sd_var 2) (sd_2 s2_mulB (sd_fr (sn_lst (sa_cons (sd_tup sa_nil) sa_nil))) (sd_C sC_int (sa_cons (sd_2 s2_eq (sd_2 s2_ix (sd_var 5) (sd_int 0)) (sd_C sC_len (sa_cons (sd_var 2) sa_nil))) sa_nil)))))))
      (ss_asgG (sd_2 s2_add (sd_oix (sd_2 s2_ix (sd_var 5) (sd_int 0))) (sd_tup (sa_cons (sd_var 3) sa_nil))) (sg_sub (i := 2) (sd_2 s2_ix (sd_var 5) (sd_int 0)))))))
      (ss_frz 2 (ss_ret (sd_tup (sa_cons (sd_var 1) (sa_cons (sd_C sC_tuple (sa_cons (sd_var 2) sa_nil)) sa_nil)))))))⟩
theorem ok_tables_of_row {f : Addr} {fd : FuncData} (Fn : Fun K "tables_of_row" "tables_of_row" s_tables_of_row f fd) (C_crossed_places : Cal P w K mg base 1 "crossed_places" ["row"] (spP K 1 m_crossed_places)) (C_fill : Cal P w K mg base 2 "fill" ["word"] (spP K 1 m_fill)) (C_some_word : Cal P w K mg base 2 "some_word" ["row"] (spP K 1 m_some_word)) (C_rows_begun : Cal P w K mg base 2 "rows_begun" ["row"] (spP K 1 m_rows_begun)) (C_last_swaps : Cal P w K mg base 1 "last_swaps" ["row"] (spP K 1 m_last_swaps)) (C_put_in : Cal P w K mg base 1 "put_in" ["table", "number"] (spP K 2 m_put_in)) (b_sorted : mg "sorted" = none) : FnG P w K mg base 3 f fd ["row"] (spP K 1 m_tables_of_row) :=
  def_P (k := 2) Fn sc_tables_of_row rfl rfl fun cdv A outer s H E hr => ⟨_,
      (pss_cons (ps_if (pt_cmpR op_isN (pe_cal (C_crossed_places.mono (by decide)) hr (by rfl) (pa_cons (pv 0) pa_nil)) pe_non (by first | exact nomark _ | rfl))
        (pss_one (ps_ret (pe_lst (pa_cons (pe_ix ix_seq (pe_cal (C_fill.mono (by decide)) hr (by rfl) (pa_cons (pe_cal (C_some_word.mono (by decide)) hr (by rfl) (pa_cons (pv 0) pa_nil)) pa_nil)) pe_int (fun _ _ => rfl)) pa_nil))))
        pss_nil)
      (pss_cons (ps_set (i := 1) sc_tables_of_row.nd rfl (by first | exact Or.inl rfl | exact Or.inr rfl) pe_xnew)
      (pss_cons (ps_for PassesOwn.never rfl (pi_seq (pe_revA (pe_cal (C_rows_begun.mono (by decide)) hr (by rfl) (pa_cons (pv 0) pa_nil)))) (pg_name (i := 2) sc_tables_of_row.nd rfl (by first | exact Or.inl rfl | exact Or.inr rfl))
        (pss_cons (ps_set (i := 3) sc_tables_of_row.nd rfl (by first | exact Or.inl rfl | exact Or.inr rfl) pe_xnew)
      (pss_cons (ps_for PassesOwn.never rfl (pi_seq (pe_cal (C_last_swaps.mono (by decide)) hr (by rfl) (pa_cons (pv 2) pa_nil))) (pg_tup rfl (pgs_cons (pg_name (i := 4) sc_tables_of_row.nd rfl (by first | exact Or.inl rfl | exact Or.inr rfl)) (pgs_cons (pg_name (i := 5) sc_tables_of_row.nd rfl (by first | exact Or.inl rfl | exact Or.inr rfl)) pgs_nil)))
        (pss_one (ps_for PassesOwn.never rfl (pi_seq (pe_ix (ix_any (room20 hr.r)) (pv 1) (pv 5) (fun _ _ => rfl))) (pg_name (i := 6) sc_tables_of_row.nd rfl (by first | exact Or.inl rfl | exact Or.inr rfl))
        (pss_one (ps_asg pe_bl (pg_sub (pv 3) (pe_ix ix_seq (pe_cal (C_put_in.mono (by decide)) hr (by rfl) (pa_cons (pv 6) (pa_cons (pv 4) pa_nil))) pe_int (fun _ _ => rfl)) (set_dict (room20 hr.r))))))))
      (pss_one (ps_asg (pe_ifExp (pt_cmpR (op_neB hr.r.units) (pv 3) pe_xnew (by first | exact nomark _ | rfl)) (pe_callB (cr_sortG rfl (room80 hr.r)) (by rfl) b_sorted (by decide +kernel) (pa_cons (pv 3) pa_nil)) (pe_lst (pa_cons (pe_tup0 pa_nil) pa_nil))) (pg_sub (pv 1) (pv 2) (set_dict (room20 hr.r))))))))
      (pss_one (ps_ret (pe_ix (ix_any (room20 hr.r)) (pv 1) (pv 0) (fun _ _ => rfl))))))),
      (ss_seq (ss_if (st_Test (sd_2 s2_isN (sd_call (sa_cons (sd_var 0) sa_nil)) sd_non))
        (ss_ret (sd_fr (sn_lst (sa_cons (sd_2 s2_ix (sd_call (sa_cons (sd_call (sa_cons (sd_var 0) sa_nil)) sa_nil)) (sd_int 0)) sa_nil))))
        ss_next)
      (ss_seq (ss_asg (i := 1) (su_dc dd_new))
      (ss_seq (ss_for (si_seq (sd_revA (sd_call (sa_cons (sd_var 0) sa_nil))) (tg_name 2))
        (ss_seq (ss_asg (i := 3) (su_dc dd_new))
      (ss_seq (ss_for (si_seq (sd_call (sa_cons (sd_var 2) sa_nil)) (tg_tup [4, 5] rfl))
        (ss_for (si_seq (sd_odg (i := 1) (sd_var 5)) (tg_name 6))
        (ss_asgG (sd_bl true) (sg_subX (i := 3) (sd_2 s2_ix (sd_call (sa_cons (sd_var 6) (sa_cons (sd_var 4) sa_nil))) (sd_int 0))))))
      (ss_frz 3 (ss_asgG (sd_if (st_Test (sd_2 s2_neB (sd_var 3) (sd_frD dd_new))) (sd_fr (sn_C sCN_sortG (sa_cons (sd_var 3) sa_nil))) (sd_fr (sn_lst (sa_cons (sd_tup sa_nil) sa_nil)))) (sg_subX (i := 1) (sd_var 2)))))))
      (ss_ret (sd_odg (i := 1) (sd_var 0))))))⟩
theorem ok__law_row {f : Addr} {fd : FuncData} (Fn : Fun K "_law_row" "_law_row" s__law_row f fd) (C_law_pick : Cal P w K mg base 1 "_law_pick" ["source", "many"] (spY K 1 pickM)) (C_law_mixed : Cal P w K mg base 2 "_law_mixed" ["source", "things"] (spY K 1 mixedM)) (C_law_swapped : Cal P w K mg base 1 "_law_swapped" ["row", "k"] (spP K 2 m_law_swapped)) (b_range : mg "range" = none) (b_list : mg "list" = none) (b_tuple : mg "tuple" = none) : FnG P w K mg base 3 f fd ["source", "n"] (spY K 1 m_law_row) :=
  def_Y (k := 2) Fn sc__law_row rfl rfl fun cdv A outer s H E hr => ⟨_,
      (pss_cons (ps_set (i := 2) sc__law_row.nd rfl (by first | exact Or.inl rfl | exact Or.inr rfl) (pe_cal (C_law_pick.mono (by decide)) hr (by rfl) (pa_cons (pv 0) (pa_cons pe_int pa_nil))))
      (pss_cons (ps_if (pt_cmpR op_lt (pv 2) pe_int (by first | exact nomark _ | rfl))
        (pss_one (ps_ret (pe_callTy call_tup0 (by rfl) b_tuple (by decide +kernel) (pa_cons (pe_cal (C_law_mixed.mono (by decide)) hr (by rfl) (pa_cons (pv 0) (pa_cons (pe_listRg rfl (by rfl) b_list (prg_1 (by rfl) b_range (pv 1))) pa_nil))) pa_nil))))
        pss_nil)
      (pss_cons (ps_set (i := 3) sc__law_row.nd rfl (by first | exact Or.inl rfl | exact Or.inr rfl) (pe_ifExp (pt_cmpR (op_eqA hr.r.units) (pv 2) pe_int (by first | exact nomark _ | rfl)) (pe_tupRg0 rfl (by rfl) b_tuple (prg_1 (by rfl) b_range (pv 1))) (pe_revA (pe_tupRg0 rfl (by rfl) b_tuple (prg_1 (by rfl) b_range (pv 1))))))
      (pss_cons (ps_for PassesOwn.never rfl (pi_range1 (by rfl) b_range (pa_cons (pe_ifExp (pt_cmpR op_gt (pv 1) pe_int (by first | exact nomark _ | rfl)) (pe_cal (C_law_pick.mono (by decide)) hr (by rfl) (pa_cons (pv 0) (pa_cons (pe_op op_mulB pe_int (pv 1)) pa_nil))) pe_int) pa_nil)) (pg_name (i := 4) sc__law_row.nd rfl (by first | exact Or.inl rfl | exact Or.inr rfl))
        (pss_one (ps_set (i := 3) sc__law_row.nd rfl (by first | exact Or.inl rfl | exact Or.inr rfl) (pe_cal (C_law_swapped.mono (by decide)) hr (by rfl) (pa_cons (pv 3) (pa_cons (pe_cal (C_law_pick.mono (by decide)) hr (by rfl) (pa_cons (pv 0) (pa_cons (pe_op op_sub (pv 1) pe_int) pa_nil))) pa_nil))))))
      (pss_one (ps_ret (pv 3))))))),
      (ss_seq (ss_asg (i := 2) (su_fz (sd_draw (i := 0) (sa_cons (sd_int 4) sa_nil))))
      (ss_seq (ss_if (st_Test (sd_2 s2_cmp (sd_var 2) (sd_int 2)))
        (ss_ret (sd_C sC_tuple (sa_cons (sd_draw (i := 0) (sa_cons (sd_fr (sn_range (sr_1 (sd_var 1)))) sa_nil)) sa_nil)))
        ss_next)
      (ss_seq (ss_asg (i := 3) (su_fz (sd_if (st_Test (sd_2 s2_eq (sd_var 2) (sd_int 2))) (sd_trange (sr_1 (sd_var 1))) (sd_revA (sd_trange (sr_1 (sd_var 1)))))))
      (ss_seq (ss_for (si_r1 (sd_if (st_Test (sd_2 s2_cmp (sd_var 1) (sd_int 1))) (sd_draw (i := 0) (sa_cons (sd_2 s2_mulB (sd_int 2) (sd_var 1)) sa_nil)) (sd_int 0)) (tg_name 4))
        (ss_asg (i := 3) (su_fz (sd_call (sa_cons (sd_var 3) (sa_cons (sd_draw (i := 0) (sa_cons (sd_2 s2_sub (sd_var 1) (sd_int 1)) sa_nil)) sa_nil))))))
      (ss_ret (sd_var 3))))))⟩
theorem ok__law_tables {f : Addr} {fd : FuncData} (Fn : Fun K "_law_tables" "_law_tables" s__law_tables f fd) (C_law_words : Cal P w K mg base 2 "_law_words" ["row", "most"] (spP K 2 m_law_words)) (C_law_fill : Cal P w K mg base 2 "_law_fill" ["word"] (spP K 1 m_law_fill)) (b_dict : mg "dict" = none) (b_list : mg "list" = none) (b_sorted : mg "sorted" = none) : FnG P w K mg base 3 f fd ["row", "most"] (spP K 2 m_law_tables) :=
  def_P (k := 2) Fn sc__law_tables rfl rfl fun cdv A outer s H E hr => ⟨_,
      (pss_cons (ps_set (i := 2) sc__law_tables.nd rfl (by first | exact Or.inl rfl | exact Or.inr rfl) (pe_cal (C_law_words.mono (by decide)) hr (by rfl) (pa_cons (pv 0) (pa_cons (pv 1) pa_nil))))
      (pss_cons (ps_if (pt_cmpR op_isN (pv 2) pe_non (by first | exact nomark _ | rfl))
        (pss_one (ps_ret pe_non))
        pss_nil)
      (pss_one (ps_ret (pe_callB (cr_sortG rfl (room80 hr.r)) (by rfl) b_sorted (by decide +kernel) (pa_cons (pe_callTy (call_listX rfl) (by rfl) b_list (by decide +kernel) (pa_cons (pe_callTy (call_dictX rfl (room80 hr.r)) (by rfl) b_dict (by decide +kernel) (pa_cons (pe_lc (own := [("word", 3)]) (g := gName 3) (tt := tYes) rfl sc__law_tables.nd (pi_seq (pv 2)) (blkOk_by (N := NM__law_tables) (sc := defScope s__law_tables) (by decide +kernel)) (fun _ _ _ _ _ => (pg_name (i := 3) sc__law_tables.nd rfl (by first | exact Or.inl rfl | exact Or.inr rfl))) (fun _ _ _ _ _ => pts_nil) (fun _ _ _ _ _ => (pe_tup0 (pa_cons (pe_ix (ixK (K := K) rIx rfl ix_seq) (pe_cal (C_law_fill.mono (by decide)) hr (by rfl) (pa_cons (pv 3) pa_nil)) pe_int (fun _ _ => rfl)) (pa_cons pe_int pa_nil))))) pa_nil)) pa_nil)) pa_nil)))))),
      (ss_seq (ss_asg (i := 2) (su_fz (sd_call (sa_cons (sd_var 0) (sa_cons (sd_var 1) sa_nil)))))
      (ss_seq (ss_if (st_Test (sd_2 s2_isN (sd_var 2) sd_non))
        (ss_ret sd_non)
        ss_next)
      (ss_ret (sd_fr (sn_C sCN_sortG (sa_cons (sd_fr (sn_C sCN_listX (sa_cons (sd_frD (dd_dict (sa_cons (sd_fr (sn_lc (si_seq (sd_var 2) (tg_name 3)) (by decide) st_yes (sd_tup (sa_cons (sd_2 s2_ix (sd_call (sa_cons (sd_var 3) sa_nil)) (sd_int 0)) (sa_cons (sd_int 0) sa_nil))))) sa_nil))) sa_nil))) sa_nil))))))⟩
theorem ok__law_source {f : Addr} {fd : FuncData} (Fn : Fun K "_law_source" "_law_source" s__law_source f fd) (b_int : mg "int" = none) (b_abs : mg "abs" = none) : FnG P w K mg base 1 f fd ["script"] (spMk K mkSrc) := by
  refine okG Fn sc__law_source (fun vs H Q E h => ?_) (fun cdv A outer s H vs Q E hr h => ?_)
  · obtain ⟨a, ns, rfl, _⟩ := h
    rfl
  · obtain ⟨a, ns, rfl, hS, hlen, q⟩ := h
    refine ⟨_, pss_cons (ps_set (i := 1) sc__law_source.nd rfl (.inl rfl) pe_int)
      (pss_cons (ps_for PassesOwn.never rfl (pi_list (pv 0)) (pg_name (i := 2) sc__law_source.nd rfl (.inl rfl))
        (pss_one (ps_set (i := 1) sc__law_source.nd rfl (.inl rfl) (pe_op op_mod (pe_callTy call_int1 (by rfl) b_int (by decide +kernel)
          (pa_cons (pe_op op_add (pe_op op_add (pe_op op_mul (pv 1) pe_int) (pe_op op_mul (pv 2) pe_int)) pe_int) pa_nil)) pe_int))))
      (pss_one (ps_ret (pe_disp (pps_cons pe_str (pe_revL (pe_lc (own := [("cell", 2)]) (g := gName 2) (tt := tYes) rfl sc__law_source.nd (pi_list (pv 0)) (blkOk_by (N := NM__law_source) (sc := defScope s__law_source) (by decide +kernel))
          (fun _ _ _ _ _ => pg_name (i := 2) sc__law_source.nd rfl (Or.inl rfl)) (fun _ _ _ _ _ => pts_nil) (fun _ _ _ _ _ => pe_callB call_abs (by rfl) b_abs (by decide +kernel) (pa_cons (pv 2) pa_nil))))
        (pps_cons pe_str pe_int (pps_cons pe_str (pv 1) (pps_cons pe_str pe_int pps_nil)))) (by rfl) (by rfl) (fun z => by cases z) (by decide))))), ?_⟩
    refine ⟨.ref a, rfl, a, rfl, ⟨_, hS⟩, for_list (K := K) (a := a) (xs := ns.map V.int) (fun i σ H' => H' = H ∧ ∃ y, σ = [some (.ref a), some (.int (mixI (ns.take i) 11)), y]) ⟨rfl, none, rfl⟩ (fun i σ H' _ h => by rw [h.1]; exact hS) ?_ ?_⟩
    · rintro i x σ H' hi ⟨rfl, y, rfl⟩
      rw [List.getElem?_map] at hi
      cases hc : ns[i]? with
      | none => rw [hc] at hi; cases hi
      | some c =>
        rw [hc] at hi
        cases hi
        have hb := mixI_lt (ns.take i) 11 (by decide) (by decide)
        refine ⟨.int (mixI (ns.take i) 11), rfl, _, _, rfl, rfl, .inl ⟨by omega, by omega⟩, .int c, rfl, _, _, rfl, rfl, .inr ⟨by decide, by decide⟩, _, _, rfl, rfl, _, _, rfl, rfl, .inl ⟨_, rfl, _, _, rfl, rfl, (by show (0 : Int) < 2147483629; decide), rfl, ?_⟩⟩
        refine ⟨some (.int c), ?_⟩
        rw [List.take_add_one, hc]
        show [_, some (V.int ((mixI (ns.take i) 11 * 69069 + c * 31 + 5) % 2147483629)), _] = [_, some (V.int (mixI (ns.take i ++ [c]) 11)), _]
        rw [mixI_snoc]
    · rintro σ H' ⟨rfl, y, rfl⟩
      rw [List.length_map, List.take_length]
      -- the dict
      intro p hp
      refine ⟨.ref a, rfl, a, rfl, ⟨_, (same_new hp : Same H' _).seq hS⟩, fun D hD => ?_⟩
      have hpD : D ≠ p := fun z => by rw [z, upd_same] at hD; cases hD
      have hDH : H' D = none := by rw [upd_ne hpD] at hD; exact hD
      refine lc_list (K := K) (a := a) (xs := ns.map V.int) (fun i H2 => Same H' H2 ∧ H2 p = some (.dK []) ∧ H2 D = some (.lst ((ns.take i).map fun c => V.int (absI c)))) ⟨?_, ?_, upd_same⟩ (fun i H2 _ h => h.1.seq hS) ?_ ?_
      · exact (same_new hp).trans (same_new hD)
      · rw [upd_ne hpD.symm, upd_same]
      · rintro i x H2 hi ⟨e1, e2, e3⟩
        rw [List.getElem?_map] at hi
        cases hc : ns[i]? with
        | none => rw [hc] at hi; cases hi
        | some c =>
          rw [hc] at hi
          cases hi
          refine ⟨rfl, ?_⟩
          refine ⟨.int c, rfl, c, rfl, _, e3, small1000 (by rw [List.length_map, List.length_take]; omega), ?_, ?_, ?_⟩
          · exact fun b o e => by rw [upd_ne (ne_of_none e hDH)]; exact e1 b o e
          · rw [upd_ne hpD.symm]; exact e2
          · rw [upd_same, List.take_add_one, hc, List.map_append]
            rfl
      · rintro H2 ⟨e1, e2, e3⟩
        rw [List.length_map, List.take_length] at e3
        refine ⟨D, _, rfl, SqL.of e3, fun c hc => ?_⟩
        have hcp : p ≠ c := ne_of_none e2 hc
        refine ⟨_, rfl, by rw [upd_ne hcp]; exact e2, (mkSrc ns).kvs c, ?_, (by show 4 ≤ 15; decide), ?_⟩
        · rfl
        · refine q p c _ hp (e1.free hc) hcp ?_ ?_ ?_
          · exact fun b o e => by rw [upd_ne (ne_of_none e hp), upd_ne (ne_of_none (e1 b o e) hc)]; exact e1 b o e
          · rw [upd_same]
            rfl
          · rw [upd_ne hcp.symm, upd_same, mkSrc, List.map_reverse, List.map_map]
            rfl
theorem ok__law_pick {f : Addr} {fd : FuncData} (Fn : Fun K "_law_pick" "_law_pick" s__law_pick f fd) (b_len : mg "len" = none) (b_max : mg "max" = none) (b_int : mg "int" = none) : FnG P w K mg base 1 f fd ["source", "many"] (spY K 1 pickM) :=
  (def_Y (k := 0) (kk := 2) (G := pickG) Fn sc__law_pick rfl rfl fun cdv A outer s H E hr => ⟨_,
      (pss_cons (ps_while PassesOwn.never (PW.pt (pw_and (pt_cmpR op_gt (pv 1) pe_int (by first | exact nomark _ | rfl)) (pw_and (pt_cmpR op_lt (pe_dget (hu_of hr.r) (pv 0) pe_str (fun _ _ => rfl)) pe_int (by first | exact nomark _ | rfl)) (pw_and1 (pt_cmpR op_gt (pe_callB call_len_seq (by rfl) b_len (by decide +kernel) (pa_cons (pe_dget (hu_of hr.r) (pv 0) pe_str (fun _ _ => rfl)) pa_nil)) pe_int (by first | exact nomark _ | rfl))))))
        (pss_one (ps_dput (hu_of hr.r) (pv 0) pe_str (pe_bm0 PySem.F.plainAttrs_list PySem.F.slot_list_pop PySem.F.type_list_pop mt_pop (pe_dget (hu_of hr.r) (pv 0) pe_str (fun _ _ => rfl))) rfl)))
      (pss_cons (ps_set (i := 2) sc__law_pick.nd rfl (by first | exact Or.inl rfl | exact Or.inr rfl) (pe_dget (hu_of hr.r) (pv 0) pe_str (fun _ _ => rfl)))
      (pss_cons (ps_if (PW.pt (pw_or (pt_cmpR op_lt (pv 1) pe_int (by first | exact nomark _ | rfl)) (pw_or1 (pt_cmpR op_gt (pv 2) pe_int (by first | exact nomark _ | rfl)))))
        (pss_cons (ps_dput (hu_of hr.r) (pv 0) pe_str (pe_op op_fdivN (pv 2) (pe_callB (cr_maxA rfl) (by rfl) b_max (by decide +kernel) (pa_cons pe_int (pa_cons (pv 1) pa_nil)))) rfl)
      (pss_one (ps_ret (pe_op op_modN (pe_callTy call_int1 (by rfl) b_int (by decide +kernel) (pa_cons (pv 2) pa_nil)) (pe_callB (cr_maxA rfl) (by rfl) b_max (by decide +kernel) (pa_cons pe_int (pa_cons (pv 1) pa_nil)))))))
        pss_nil)
      (pss_cons (ps_dput (hu_of hr.r) (pv 0) pe_str (pe_op op_addA (pe_dget (hu_of hr.r) (pv 0) pe_str (fun _ _ => rfl)) pe_int) rfl)
      (pss_cons (ps_set (i := 3) sc__law_pick.nd rfl (by first | exact Or.inl rfl | exact Or.inr rfl) (pe_op op_modN (pe_callTy call_int1 (by rfl) b_int (by decide +kernel) (pa_cons (pe_op op_addA (pe_dget (hu_of hr.r) (pv 0) pe_str (fun _ _ => rfl)) (pe_op op_mulA (pe_dget (hu_of hr.r) (pv 0) pe_str (fun _ _ => rfl)) pe_int)) pa_nil)) pe_int))
      (pss_cons (ps_set (i := 3) sc__law_pick.nd rfl (by first | exact Or.inl rfl | exact Or.inr rfl) (pe_op op_modN (pe_callTy call_int1 (by rfl) b_int (by decide +kernel) (pa_cons (pe_op op_addA (pe_op op_mulA (pv 3) (pv 3)) (pe_op op_mulA (pe_dget (hu_of hr.r) (pv 0) pe_str (fun _ _ => rfl)) pe_int)) pa_nil)) pe_int))
      (pss_cons (ps_dput (hu_of hr.r) (pv 0) pe_str (pv 3) rfl)
      (pss_one (ps_ret (pe_op op_modN (pe_callTy call_int1 (by rfl) b_int (by decide +kernel) (pa_cons (pe_op op_fdivN (pv 3) pe_int) pa_nil)) (pv 1))))))))))),
      (ss_seq (ss_while (st_and (st_Test (sd_2 s2_cmp (sd_var 1) (sd_int 1))) (st_and (st_Test (sd_2 s2_cmp (sd_left 0) (sd_int 2))) (st_Test (sd_2 s2_cmp (sd_lenC 0) (sd_int 0)))))
        (ss_popC 0))
      (ss_seq (ss_asg (i := 2) (su_fz (sd_left 0)))
      (ss_seq (ss_if (st_or (st_Test (sd_2 s2_cmp (sd_var 1) (sd_int 2))) (st_Test (sd_2 s2_cmp (sd_var 2) (sd_int 1))))
        (ss_seq (ss_wrL (i := 0) (sd_2 s2_fdiv (sd_var 2) (sd_C sC_max (sa_cons (sd_int 1) (sa_cons (sd_var 1) sa_nil)))))
      (ss_ret (sd_2 s2_mod (sd_C sC_int (sa_cons (sd_var 2) sa_nil)) (sd_C sC_max (sa_cons (sd_int 1) (sa_cons (sd_var 1) sa_nil))))))
        ss_next)
      (ss_seq (ss_wrT (i := 0) (sd_2 s2_add (sd_turn 0) (sd_int 1)))
      (ss_seq (ss_asg (i := 3) (su_fz (sd_2 s2_mod (sd_C sC_int (sa_cons (sd_2 s2_add (sd_mixed 0) (sd_2 s2_mul (sd_turn 0) (sd_int 104729))) sa_nil)) (sd_int 998244353))))
      (ss_seq (ss_asg (i := 3) (su_fz (sd_2 s2_mod (sd_C sC_int (sa_cons (sd_2 s2_add (sd_2 s2_mul (sd_var 3) (sd_var 3)) (sd_2 s2_mul (sd_turn 0) (sd_int 17))) sa_nil)) (sd_int 2147483647))))
      (ss_seq (ss_wrM (i := 0) (sd_var 3))
      (ss_ret (sd_2 s2_mod (sd_C sC_int (sa_cons (sd_2 s2_fdiv (sd_var 3) (sd_int 16)) sa_nil)) (sd_var 1))))))))))⟩).imp (spY_weak pick_run)
theorem ok__law_mixed {f : Addr} {fd : FuncData} (Fn : Fun K "_law_mixed" "_law_mixed" s__law_mixed f fd) (C_law_pick : Cal P w K mg base 1 "_law_pick" ["source", "many"] (spY K 1 pickM)) (b_list : mg "list" = none) (b_len : mg "len" = none) (b_range : mg "range" = none) : FnG P w K mg base 2 f fd ["source", "things"] (spY K 1 mixedM) :=
  (def_Y (k := 1) (kk := 2) (G := seqS (asgS 2 (owU (ynC listC (aCons (varY 1) aNil)))) mixG) Fn sc__law_mixed rfl rfl fun cdv A outer s H E hr => ⟨_,
      pss_cons (ps_set (i := 2) sc__law_mixed.nd rfl (by first | exact Or.inl rfl | exact Or.inr rfl) (pe_callTy call_list_of (by rfl) b_list (by decide +kernel) (pa_cons (pv 1) pa_nil)))
      (pss_one (ps_ret (pe_lc (own := [("lap", 3)]) (g := gName 3) (tt := tYes) rfl sc__law_mixed.nd (pi_range1 (by rfl) b_range (pa_cons (pe_callB call_len_seq (by rfl) b_len (by decide +kernel) (pa_cons (pv 2) pa_nil)) pa_nil))
        (blkOk_by (N := NM__law_mixed) (sc := defScope s__law_mixed) (by decide +kernel)) (fun _ _ _ _ _ => (pg_name (i := 3) sc__law_mixed.nd rfl (by first | exact Or.inl rfl | exact Or.inr rfl))) (fun _ _ _ _ _ => pts_nil)
        (fun _ _ _ _ _ => (pe_bm PySem.F.plainAttrs_list PySem.F.slot_list_pop PySem.F.type_list_pop mt_popAt (pv 2) (pa_cons (pe_cal (C_law_pick.mono (by decide)) hr (by rfl) (pa_cons (pv 0) (pa_cons (pe_callB call_len_seq (by rfl) b_len (by decide +kernel) (pa_cons (pv 2) pa_nil)) pa_nil))) pa_nil)))))),
      ss_seq (ss_asg (i := 2) (su_ow (sn_C sCN_list (sa_cons (sd_var 1) sa_nil)))) ss_mixed⟩).imp (spY_weak mix_run)
theorem ok_law {f : Addr} {fd : FuncData} (Fn : Fun K "law" "law" s_law f fd) (C_law_source : Cal P w K mg base 1 "_law_source" ["script"] (spMk K mkSrc)) (C_law_row : Cal P w K mg base 3 "_law_row" ["source", "n"] (spY K 1 m_law_row)) (C_law_pick : Cal P w K mg base 1 "_law_pick" ["source", "many"] (spY K 1 pickM)) (C_law_crossed : Cal P w K mg base 1 "_law_crossed" ["row"] (spP K 1 m_law_crossed)) (C_law_leads : Cal P w K mg base 1 "_law_leads" ["row"] (spP K 1 m_law_leads)) (C_crossed_places : Cal P w K mg base 1 "crossed_places" ["row"] (spP K 1 m_crossed_places)) (C_leads_of : Cal P w K mg base 1 "leads_of" ["row"] (spP K 1 m_leads_of)) (C_leads_shape : Cal P w K mg base 2 "leads_shape" ["row"] (spP K 1 m_leads_shape)) (C_law_tables : Cal P w K mg base 3 "_law_tables" ["row", "most"] (spP K 2 m_law_tables)) (C_tables_of_row : Cal P w K mg base 3 "tables_of_row" ["row"] (spP K 1 m_tables_of_row)) (C_law_shape : Cal P w K mg base 1 "_law_shape" ["table"] (spP K 1 m_law_shape)) (b_range : mg "range" = none) (b_repr : mg "repr" = none) (b_sorted : mg "sorted" = none) (b_tuple : mg "tuple" = none) (b_len : mg "len" = none) (hlaw : ∀ ns : List Int, ns.length ≤ 63 → ∃ s, G_law ((List.replicate 11 Sl.un).set 1 .sr) (mkSrc ns) = some (.rt (.bool true), s)) : FnG P w K mg base 4 f fd ["script"] (spLaw K) := by
  refine okG Fn sc_law (fun vs H Q E h => ?_) (fun cdv A outer s H vs Q E hr h => ?_)
  · obtain ⟨a, ns, rfl, _⟩ := h
    rfl
  · obtain ⟨a, ns, rfl, hS, hlen, q⟩ := h
    obtain ⟨s2, e⟩ := hlaw ns hlen
    refine ⟨_, pss_cons (ps_set (i := 1) sc_law.nd rfl (by first | exact Or.inl rfl | exact Or.inr rfl) (pe_cal (C_law_source.mono (by decide)) (hr : RoomG 3 _) (by rfl) (pa_cons (pv 0) pa_nil)))
      (pss_cons (ps_for PassesOwn.never rfl (pi_range1 (by rfl) b_range (pa_cons pe_int pa_nil)) (pg_name (i := 2) sc_law.nd rfl (by first | exact Or.inl rfl | exact Or.inr rfl))
        (pss_cons (ps_set (i := 3) sc_law.nd rfl (by first | exact Or.inl rfl | exact Or.inr rfl) (pe_cal (C_law_row.mono (by decide)) hr (by rfl) (pa_cons (pv 1) (pa_cons (pe_op op_addA pe_int (pe_cal (C_law_pick.mono (by decide)) hr (by rfl) (pa_cons (pv 1) (pa_cons (pe_ix ix_seq (pe_lst (pa_cons pe_int (pa_cons pe_int (pa_cons pe_int (pa_cons pe_int pa_nil))))) (pv 2) (fun _ _ => rfl)) pa_nil)))) pa_nil))))
      (pss_cons (ps_par3 (i := 4) (j := 5) (l := 6) rfl sc_law.nd rfl rfl rfl (by decide) (by decide) (by decide) rfl rfl rfl (pa_cons (pe_cal (C_law_crossed.mono (by decide)) hr (by rfl) (pa_cons (pv 3) pa_nil)) (pa_cons (pe_cal (C_law_leads.mono (by decide)) hr (by rfl) (pa_cons (pv 3) pa_nil)) (pa_cons (pe_callB (cr_repr hr.g (room80 hr.r)) (by rfl) b_repr (by decide +kernel) (pa_cons (pv 3) pa_nil)) pa_nil))) (by rfl))
      (pss_cons (ps_set (i := 7) sc_law.nd rfl (by first | exact Or.inl rfl | exact Or.inr rfl) (pe_callTy call_tup0 (by rfl) b_tuple (by decide +kernel) (pa_cons (pe_revA (pe_callB cr_sortedA (by rfl) b_sorted (by decide +kernel) (pa_cons (pe_lc (own := [("one", 10)]) (g := gName 10) rfl sc_law.nd (pi_seq (pv 5)) (blkOk_by (N := NM_law) (sc := defScope s_law) (by decide +kernel)) (fun _ _ _ _ _ => (pg_name (i := 10) sc_law.nd rfl (by first | exact Or.inl rfl | exact Or.inr rfl))) (fun _ _ _ _ _ => (pts_one (pt_cmpR op_gt (pv 10) pe_int (by first | exact nomark _ | rfl)))) (fun _ _ _ _ _ => (pv 10))) pa_nil))) pa_nil)))
      (pss_cons (ps_set (i := 8) sc_law.nd rfl (by first | exact Or.inl rfl | exact Or.inr rfl) (pe_lst (pa_cons (pe_cal (C_crossed_places.mono (by decide)) hr (by rfl) (pa_cons (pv 3) pa_nil)) (pa_cons (pe_cal (C_leads_of.mono (by decide)) hr (by rfl) (pa_cons (pv 3) pa_nil)) (pa_cons (pe_cal (C_leads_shape.mono (by decide)) hr (by rfl) (pa_cons (pv 3) pa_nil)) pa_nil)))))
      (pss_cons (ps_if (pt_cmpR (op_neA hr.r.units) (pe_callB (cr_repr hr.g (room80 hr.r)) (by rfl) b_repr (by decide +kernel) (pa_cons (pv 8) pa_nil)) (pe_callB (cr_repr hr.g (room80 hr.r)) (by rfl) b_repr (by decide +kernel) (pa_cons (pe_lst (pa_cons (pe_ifExp (pt_cmpR (op_neA hr.r.units) (pv 4) (pe_lst pa_nil) (by first | exact nomark _ | rfl)) (pe_ix ix_seq (pv 4) pe_int (fun _ _ => rfl)) pe_non) (pa_cons (pv 5) (pa_cons (pv 7) pa_nil)))) pa_nil)) (by first | exact nomark _ | rfl))
        (pss_one (ps_ret pe_bl))
        pss_nil)
      (pss_cons (ps_set (i := 9) sc_law.nd rfl (by first | exact Or.inl rfl | exact Or.inr rfl) (pe_ifExp (pt_cmpR op_lt (pv 2) pe_int (by first | exact nomark _ | rfl)) (pe_cal (C_law_tables.mono (by decide)) hr (by rfl) (pa_cons (pv 3) (pa_cons pe_int pa_nil))) pe_non))
      (pss_cons (ps_if (pt_cmpR op_notN (pv 9) pe_non (by first | exact nomark _ | rfl))
        (pss_cons (ps_if (PW.pt (pw_or (pt_cmpR (op_neA hr.r.units) (pe_cmpR (op_eqA hr.r.units) (pe_callB call_len_seq (by rfl) b_len (by decide +kernel) (pa_cons (pv 9) pa_nil)) pe_int (by first | exact nomark _ | rfl)) (pe_cmpR (op_eqA hr.r.units) (pv 4) (pe_lst pa_nil) (by first | exact nomark _ | rfl)) (by first | exact nomark _ | rfl)) (pw_or1 (pt_cmpR (op_neA hr.r.units) (pe_callB (cr_repr hr.g (room80 hr.r)) (by rfl) b_repr (by decide +kernel) (pa_cons (pe_cal (C_tables_of_row.mono (by decide)) hr (by rfl) (pa_cons (pv 3) pa_nil)) pa_nil)) (pe_callB (cr_repr hr.g (room80 hr.r)) (by rfl) b_repr (by decide +kernel) (pa_cons (pv 9) pa_nil)) (by first | exact nomark _ | rfl)))))
        (pss_one (ps_ret pe_bl))
        pss_nil)
      (pss_one (ps_if (PW.pt (pw_and (pt_cmpR (op_eqA hr.r.units) (pv 4) (pe_lst pa_nil) (by first | exact nomark _ | rfl)) (pw_and1 (pt_cmpR (op_neA hr.r.units) (pe_cal (C_law_shape.mono (by decide)) hr (by rfl) (pa_cons (pe_ix ix_seq (pv 9) pe_int (fun _ _ => rfl)) pa_nil)) (pv 7) (by first | exact nomark _ | rfl)))))
        (pss_one (ps_ret pe_bl))
        pss_nil)))
        pss_nil)
      (pss_one (ps_if (pt_cmpR (op_neA hr.r.units) (pe_callB (cr_repr hr.g (room80 hr.r)) (by rfl) b_repr (by decide +kernel) (pa_cons (pv 3) pa_nil)) (pv 6) (by first | exact nomark _ | rfl))
        (pss_one (ps_ret pe_bl))
        pss_nil))))))))))
      (pss_one (ps_ret pe_bl))), ?_⟩
    exact law_end (kk := 11)
      (ss_seq (ss_for (si_r1 (sd_int 4) (tg_name 2))
        (ss_seq (ss_asg (i := 3) (su_fz (sd_draw (i := 1) (sa_cons (sd_2 s2_add (sd_int 1) (sd_draw (i := 1) (sa_cons (sd_2 s2_ix (sd_fr (sn_lst (sa_cons (sd_int 4) (sa_cons (sd_int 5) (sa_cons (sd_int 9) (sa_cons (sd_int 12) sa_nil)))))) (sd_var 2)) sa_nil))) sa_nil))))
      (ss_seq (ss_par3 (i := 4) (j := 5) (l := 6) (su_fz (sd_call (sa_cons (sd_var 3) sa_nil))) (su_fz (sd_call (sa_cons (sd_var 3) sa_nil))) (su_fz (sd_C sC_repr (sa_cons (sd_var 3) sa_nil))))
      (ss_seq (ss_asg (i := 7) (su_fz (sd_C sC_tuple (sa_cons (sd_revA (sd_fr (sn_C sCN_sorted (sa_cons (sd_fr (sn_lc (si_seq (sd_var 5) (tg_name 10)) (by decide) (st_Test (sd_2 s2_cmp (sd_var 10) (sd_int 0))) (sd_var 10))) sa_nil)))) sa_nil))))
      (ss_seq (ss_asg (i := 8) (su_fz (sd_fr (sn_lst (sa_cons (sd_call (sa_cons (sd_var 3) sa_nil)) (sa_cons (sd_call (sa_cons (sd_var 3) sa_nil)) (sa_cons (sd_call (sa_cons (sd_var 3) sa_nil)) sa_nil)))))))
      (ss_seq (ss_if (st_Test (sd_2 s2_ne (sd_C sC_repr (sa_cons (sd_var 8) sa_nil)) (sd_C sC_repr (sa_cons (sd_fr (sn_lst (sa_cons (sd_if (st_Test (sd_2 s2_ne (sd_var 4) (sd_fr (sn_lst sa_nil)))) (sd_2 s2_ix (sd_var 4) (sd_int 0)) sd_non) (sa_cons (sd_var 5) (sa_cons (sd_var 7) sa_nil))))) sa_nil))))
        (ss_ret (sd_bl false))
        ss_next)
      (ss_seq (ss_asg (i := 9) (su_fz (sd_if (st_Test (sd_2 s2_cmp (sd_var 2) (sd_int 2))) (sd_call (sa_cons (sd_var 3) (sa_cons (sd_int 600) sa_nil))) sd_non)))
      (ss_seq (ss_if (st_Test (sd_2 s2_notN (sd_var 9) sd_non))
        (ss_seq (ss_if (st_or (st_Test (sd_2 s2_ne (sd_2 s2_eq (sd_C sC_len (sa_cons (sd_var 9) sa_nil)) (sd_int 1)) (sd_2 s2_eq (sd_var 4) (sd_fr (sn_lst sa_nil))))) (st_Test (sd_2 s2_ne (sd_C sC_repr (sa_cons (sd_call (sa_cons (sd_var 3) sa_nil)) sa_nil)) (sd_C sC_repr (sa_cons (sd_var 9) sa_nil)))))
        (ss_ret (sd_bl false))
        ss_next)
      (ss_if (st_and (st_Test (sd_2 s2_eq (sd_var 4) (sd_fr (sn_lst sa_nil)))) (st_Test (sd_2 s2_ne (sd_call (sa_cons (sd_2 s2_ix (sd_var 9) (sd_int 0)) sa_nil)) (sd_var 7))))
        (ss_ret (sd_bl false))
        ss_next))
        ss_next)
      (ss_if (st_Test (sd_2 s2_ne (sd_C sC_repr (sa_cons (sd_var 3) sa_nil)) (sd_var 6)))
        (ss_ret (sd_bl false))
        ss_next)))))))))
      (ss_ret (sd_bl true)))
      hS hlen (by decide) e q
theorem all_mk (hlaw : ∀ ns : List Int, ns.length ≤ 63 → ∃ s, G_law ((List.replicate 11 Sl.un).set 1 .sr) (mkSrc ns) = some (.rt (.bool true), s)) {l : PySem.W.OpenLaw} {w : World} {K : PySem.W.Frag} {mg : Str → Option Value} {fa : Addr} {h : Heap} (X : K.In h) (G : h.Ns mainGlobals mg) (hfa : mg "law" = some (.ref fa))
    {f1 f2 f3 f4 f5 f6 f7 f8 f9 f10 f11 f12 f13 f14 f15 f16 f17 f18 f19 f20 f21 f22 f23 f24 : Addr} {od1 an1 od2 an2 od3 an3 od4 an4 od5 an5 od6 an6 od7 an7 od8 an8 od9 an9 od10 an10 od11 an11 od12 an12 od13 an13 od14 an14 od15 an15 od16 an16 od17 an17 od18 an18 od19 an19 od20 an20 od21 an21 od22 an22 od23 an23 od24 an24 : Option Addr} {sl1 sl2 sl3 sl4 sl5 sl6 sl7 sl8 sl9 sl10 sl11 sl12 sl13 sl14 sl15 sl16 sl17 sl18 sl19 sl20 sl21 sl22 sl23 sl24 : Array (Option Value)} {oc1 kV1 dc1 pm1 cd1 ct1 oc2 kV2 dc2 pm2 cd2 ct2 oc3 kV3 dc3 pm3 cd3 ct3 oc4 kV4 dc4 pm4 cd4 ct4 oc5 kV5 dc5 pm5 cd5 ct5 oc6 kV6 dc6 pm6 cd6 ct6 oc7 kV7 dc7 pm7 cd7 ct7 oc8 kV8 dc8 pm8 cd8 ct8 oc9 kV9 dc9 pm9 cd9 ct9 oc10 kV10 dc10 pm10 cd10 ct10 oc11 kV11 dc11 pm11 cd11 ct11 oc12 kV12 dc12 pm12 cd12 ct12 oc13 kV13 dc13 pm13 cd13 ct13 oc14 kV14 dc14 pm14 cd14 ct14 oc15 kV15 dc15 pm15 cd15 ct15 oc16 kV16 dc16 pm16 cd16 ct16 oc17 kV17 dc17 pm17 cd17 ct17 oc18 kV18 dc18 pm18 cd18 ct18 oc19 kV19 dc19 pm19 cd19 ct19 oc20 kV20 dc20 pm20 cd20 ct20 oc21 kV21 dc21 pm21 cd21 ct21 oc22 kV22 dc22 pm22 cd22 ct22 oc23 kV23 dc23 pm23 cd23 ct23 oc24 kV24 dc24 pm24 cd24 ct24 : Value}
    (a1 : PySem.W.nsIn K mainGlobals "put_in" = some (some (.ref f1))) (l1 : K.lookup f1 = some ⟨oc1, od1, .func (PySem.W.fnOf "put_in" "put_in" (defArgs s_put_in) (defBody s_put_in) (defScope s_put_in) .none kV1 dc1 pm1 an1 cd1 ct1), sl1⟩) (c1 : PySem.W.codeIn K cd1 "put_in" = true) (k1 : PySem.W.keepIn K (.ref f1) = true)
    (a2 : PySem.W.nsIn K mainGlobals "fill" = some (some (.ref f2))) (l2 : K.lookup f2 = some ⟨oc2, od2, .func (PySem.W.fnOf "fill" "fill" (defArgs s_fill) (defBody s_fill) (defScope s_fill) .none kV2 dc2 pm2 an2 cd2 ct2), sl2⟩) (c2 : PySem.W.codeIn K cd2 "fill" = true) (k2 : PySem.W.keepIn K (.ref f2) = true)
    (a3 : PySem.W.nsIn K mainGlobals "crossed_places" = some (some (.ref f3))) (l3 : K.lookup f3 = some ⟨oc3, od3, .func (PySem.W.fnOf "crossed_places" "crossed_places" (defArgs s_crossed_places) (defBody s_crossed_places) (defScope s_crossed_places) .none kV3 dc3 pm3 an3 cd3 ct3), sl3⟩) (c3 : PySem.W.codeIn K cd3 "crossed_places" = true) (k3 : PySem.W.keepIn K (.ref f3) = true)
    (a4 : PySem.W.nsIn K mainGlobals "leads_of" = some (some (.ref f4))) (l4 : K.lookup f4 = some ⟨oc4, od4, .func (PySem.W.fnOf "leads_of" "leads_of" (defArgs s_leads_of) (defBody s_leads_of) (defScope s_leads_of) .none kV4 dc4 pm4 an4 cd4 ct4), sl4⟩) (c4 : PySem.W.codeIn K cd4 "leads_of" = true) (k4 : PySem.W.keepIn K (.ref f4) = true)
    (a5 : PySem.W.nsIn K mainGlobals "leads_shape" = some (some (.ref f5))) (l5 : K.lookup f5 = some ⟨oc5, od5, .func (PySem.W.fnOf "leads_shape" "leads_shape" (defArgs s_leads_shape) (defBody s_leads_shape) (defScope s_leads_shape) .none kV5 dc5 pm5 an5 cd5 ct5), sl5⟩) (c5 : PySem.W.codeIn K cd5 "leads_shape" = true) (k5 : PySem.W.keepIn K (.ref f5) = true)
    (a6 : PySem.W.nsIn K mainGlobals "last_swaps" = some (some (.ref f6))) (l6 : K.lookup f6 = some ⟨oc6, od6, .func (PySem.W.fnOf "last_swaps" "last_swaps" (defArgs s_last_swaps) (defBody s_last_swaps) (defScope s_last_swaps) .none kV6 dc6 pm6 an6 cd6 ct6), sl6⟩) (c6 : PySem.W.codeIn K cd6 "last_swaps" = true) (k6 : PySem.W.keepIn K (.ref f6) = true)
    (a7 : PySem.W.nsIn K mainGlobals "some_word" = some (some (.ref f7))) (l7 : K.lookup f7 = some ⟨oc7, od7, .func (PySem.W.fnOf "some_word" "some_word" (defArgs s_some_word) (defBody s_some_word) (defScope s_some_word) .none kV7 dc7 pm7 an7 cd7 ct7), sl7⟩) (c7 : PySem.W.codeIn K cd7 "some_word" = true) (k7 : PySem.W.keepIn K (.ref f7) = true)
    (a8 : PySem.W.nsIn K mainGlobals "rows_begun" = some (some (.ref f8))) (l8 : K.lookup f8 = some ⟨oc8, od8, .func (PySem.W.fnOf "rows_begun" "rows_begun" (defArgs s_rows_begun) (defBody s_rows_begun) (defScope s_rows_begun) .none kV8 dc8 pm8 an8 cd8 ct8), sl8⟩) (c8 : PySem.W.codeIn K cd8 "rows_begun" = true) (k8 : PySem.W.keepIn K (.ref f8) = true)
    (a9 : PySem.W.nsIn K mainGlobals "tables_of_row" = some (some (.ref f9))) (l9 : K.lookup f9 = some ⟨oc9, od9, .func (PySem.W.fnOf "tables_of_row" "tables_of_row" (defArgs s_tables_of_row) (defBody s_tables_of_row) (defScope s_tables_of_row) .none kV9 dc9 pm9 an9 cd9 ct9), sl9⟩) (c9 : PySem.W.codeIn K cd9 "tables_of_row" = true) (k9 : PySem.W.keepIn K (.ref f9) = true)
    (a10 : PySem.W.nsIn K mainGlobals "_law_source" = some (some (.ref f10))) (l10 : K.lookup f10 = some ⟨oc10, od10, .func (PySem.W.fnOf "_law_source" "_law_source" (defArgs s__law_source) (defBody s__law_source) (defScope s__law_source) .none kV10 dc10 pm10 an10 cd10 ct10), sl10⟩) (c10 : PySem.W.codeIn K cd10 "_law_source" = true) (k10 : PySem.W.keepIn K (.ref f10) = true)
    (a11 : PySem.W.nsIn K mainGlobals "_law_pick" = some (some (.ref f11))) (l11 : K.lookup f11 = some ⟨oc11, od11, .func (PySem.W.fnOf "_law_pick" "_law_pick" (defArgs s__law_pick) (defBody s__law_pick) (defScope s__law_pick) .none kV11 dc11 pm11 an11 cd11 ct11), sl11⟩) (c11 : PySem.W.codeIn K cd11 "_law_pick" = true) (k11 : PySem.W.keepIn K (.ref f11) = true)
    (a12 : PySem.W.nsIn K mainGlobals "_law_mixed" = some (some (.ref f12))) (l12 : K.lookup f12 = some ⟨oc12, od12, .func (PySem.W.fnOf "_law_mixed" "_law_mixed" (defArgs s__law_mixed) (defBody s__law_mixed) (defScope s__law_mixed) .none kV12 dc12 pm12 an12 cd12 ct12), sl12⟩) (c12 : PySem.W.codeIn K cd12 "_law_mixed" = true) (k12 : PySem.W.keepIn K (.ref f12) = true)
    (a13 : PySem.W.nsIn K mainGlobals "_law_swapped" = some (some (.ref f13))) (l13 : K.lookup f13 = some ⟨oc13, od13, .func (PySem.W.fnOf "_law_swapped" "_law_swapped" (defArgs s__law_swapped) (defBody s__law_swapped) (defScope s__law_swapped) .none kV13 dc13 pm13 an13 cd13 ct13), sl13⟩) (c13 : PySem.W.codeIn K cd13 "_law_swapped" = true) (k13 : PySem.W.keepIn K (.ref f13) = true)
    (a14 : PySem.W.nsIn K mainGlobals "_law_length" = some (some (.ref f14))) (l14 : K.lookup f14 = some ⟨oc14, od14, .func (PySem.W.fnOf "_law_length" "_law_length" (defArgs s__law_length) (defBody s__law_length) (defScope s__law_length) .none kV14 dc14 pm14 an14 cd14 ct14), sl14⟩) (c14 : PySem.W.codeIn K cd14 "_law_length" = true) (k14 : PySem.W.keepIn K (.ref f14) = true)
    (a15 : PySem.W.nsIn K mainGlobals "_law_drops" = some (some (.ref f15))) (l15 : K.lookup f15 = some ⟨oc15, od15, .func (PySem.W.fnOf "_law_drops" "_law_drops" (defArgs s__law_drops) (defBody s__law_drops) (defScope s__law_drops) .none kV15 dc15 pm15 an15 cd15 ct15), sl15⟩) (c15 : PySem.W.codeIn K cd15 "_law_drops" = true) (k15 : PySem.W.keepIn K (.ref f15) = true)
    (a16 : PySem.W.nsIn K mainGlobals "_law_row" = some (some (.ref f16))) (l16 : K.lookup f16 = some ⟨oc16, od16, .func (PySem.W.fnOf "_law_row" "_law_row" (defArgs s__law_row) (defBody s__law_row) (defScope s__law_row) .none kV16 dc16 pm16 an16 cd16 ct16), sl16⟩) (c16 : PySem.W.codeIn K cd16 "_law_row" = true) (k16 : PySem.W.keepIn K (.ref f16) = true)
    (a17 : PySem.W.nsIn K mainGlobals "_law_words" = some (some (.ref f17))) (l17 : K.lookup f17 = some ⟨oc17, od17, .func (PySem.W.fnOf "_law_words" "_law_words" (defArgs s__law_words) (defBody s__law_words) (defScope s__law_words) .none kV17 dc17 pm17 an17 cd17 ct17), sl17⟩) (c17 : PySem.W.codeIn K cd17 "_law_words" = true) (k17 : PySem.W.keepIn K (.ref f17) = true)
    (a18 : PySem.W.nsIn K mainGlobals "_law_put" = some (some (.ref f18))) (l18 : K.lookup f18 = some ⟨oc18, od18, .func (PySem.W.fnOf "_law_put" "_law_put" (defArgs s__law_put) (defBody s__law_put) (defScope s__law_put) .none kV18 dc18 pm18 an18 cd18 ct18), sl18⟩) (c18 : PySem.W.codeIn K cd18 "_law_put" = true) (k18 : PySem.W.keepIn K (.ref f18) = true)
    (a19 : PySem.W.nsIn K mainGlobals "_law_fill" = some (some (.ref f19))) (l19 : K.lookup f19 = some ⟨oc19, od19, .func (PySem.W.fnOf "_law_fill" "_law_fill" (defArgs s__law_fill) (defBody s__law_fill) (defScope s__law_fill) .none kV19 dc19 pm19 an19 cd19 ct19), sl19⟩) (c19 : PySem.W.codeIn K cd19 "_law_fill" = true) (k19 : PySem.W.keepIn K (.ref f19) = true)
    (a20 : PySem.W.nsIn K mainGlobals "_law_shape" = some (some (.ref f20))) (l20 : K.lookup f20 = some ⟨oc20, od20, .func (PySem.W.fnOf "_law_shape" "_law_shape" (defArgs s__law_shape) (defBody s__law_shape) (defScope s__law_shape) .none kV20 dc20 pm20 an20 cd20 ct20), sl20⟩) (c20 : PySem.W.codeIn K cd20 "_law_shape" = true) (k20 : PySem.W.keepIn K (.ref f20) = true)
    (a21 : PySem.W.nsIn K mainGlobals "_law_crossed" = some (some (.ref f21))) (l21 : K.lookup f21 = some ⟨oc21, od21, .func (PySem.W.fnOf "_law_crossed" "_law_crossed" (defArgs s__law_crossed) (defBody s__law_crossed) (defScope s__law_crossed) .none kV21 dc21 pm21 an21 cd21 ct21), sl21⟩) (c21 : PySem.W.codeIn K cd21 "_law_crossed" = true) (k21 : PySem.W.keepIn K (.ref f21) = true)
    (a22 : PySem.W.nsIn K mainGlobals "_law_leads" = some (some (.ref f22))) (l22 : K.lookup f22 = some ⟨oc22, od22, .func (PySem.W.fnOf "_law_leads" "_law_leads" (defArgs s__law_leads) (defBody s__law_leads) (defScope s__law_leads) .none kV22 dc22 pm22 an22 cd22 ct22), sl22⟩) (c22 : PySem.W.codeIn K cd22 "_law_leads" = true) (k22 : PySem.W.keepIn K (.ref f22) = true)
    (a23 : PySem.W.nsIn K mainGlobals "_law_tables" = some (some (.ref f23))) (l23 : K.lookup f23 = some ⟨oc23, od23, .func (PySem.W.fnOf "_law_tables" "_law_tables" (defArgs s__law_tables) (defBody s__law_tables) (defScope s__law_tables) .none kV23 dc23 pm23 an23 cd23 ct23), sl23⟩) (c23 : PySem.W.codeIn K cd23 "_law_tables" = true) (k23 : PySem.W.keepIn K (.ref f23) = true)
    (a24 : PySem.W.nsIn K mainGlobals "law" = some (some (.ref f24))) (l24 : K.lookup f24 = some ⟨oc24, od24, .func (PySem.W.fnOf "law" "law" (defArgs s_law) (defBody s_law) (defScope s_law) .none kV24 dc24 pm24 an24 cd24 ct24), sl24⟩) (c24 : PySem.W.codeIn K cd24 "law" = true) (k24 : PySem.W.keepIn K (.ref f24) = true)
    (z_list : PySem.W.nsIn K mainGlobals "list" = some none)
    (z_enumerate : PySem.W.nsIn K mainGlobals "enumerate" = some none)
    (z_tuple : PySem.W.nsIn K mainGlobals "tuple" = some none)
    (z_len : PySem.W.nsIn K mainGlobals "len" = some none)
    (z_range : PySem.W.nsIn K mainGlobals "range" = some none)
    (z_sorted : PySem.W.nsIn K mainGlobals "sorted" = some none)
    (z_int : PySem.W.nsIn K mainGlobals "int" = some none)
    (z_abs : PySem.W.nsIn K mainGlobals "abs" = some none)
    (z_max : PySem.W.nsIn K mainGlobals "max" = some none)
    (z_sum : PySem.W.nsIn K mainGlobals "sum" = some none)
    (z_dict : PySem.W.nsIn K mainGlobals "dict" = some none)
    (z_repr : PySem.W.nsIn K mainGlobals "repr" = some none)
    {tok_MOST_BELOW : Tok} (v_MOST_BELOW : PySem.W.nsIn K mainGlobals "MOST_BELOW" = some (some (.int 2000 tok_MOST_BELOW)))
    : ∃ fd : FuncData, (∀ (s : Shared) (v : Value), BindsTo s fd ⟨[v], []⟩ [("script", v)]) ∧ ∀ base : Heap, K.In base → base.Ns mainGlobals mg → FnG l.prog w K mg base 4 fa fd ["script"] (spLaw K) := by
  have e := hfa.symm.trans (PySem.W.mg_of X G a24)
  cases e
  have b_list : mg "list" = none := PySem.W.mg_none_of X G z_list
  have b_enumerate : mg "enumerate" = none := PySem.W.mg_none_of X G z_enumerate
  have b_tuple : mg "tuple" = none := PySem.W.mg_none_of X G z_tuple
  have b_len : mg "len" = none := PySem.W.mg_none_of X G z_len
  have b_range : mg "range" = none := PySem.W.mg_none_of X G z_range
  have b_sorted : mg "sorted" = none := PySem.W.mg_none_of X G z_sorted
  have b_int : mg "int" = none := PySem.W.mg_none_of X G z_int
  have b_abs : mg "abs" = none := PySem.W.mg_none_of X G z_abs
  have b_max : mg "max" = none := PySem.W.mg_none_of X G z_max
  have b_sum : mg "sum" = none := PySem.W.mg_none_of X G z_sum
  have b_dict : mg "dict" = none := PySem.W.mg_none_of X G z_dict
  have b_repr : mg "repr" = none := PySem.W.mg_none_of X G z_repr
  have g_MOST_BELOW : mg "MOST_BELOW" = some (.int 2000 tok_MOST_BELOW) := PySem.W.mg_of X G v_MOST_BELOW
  have F1 := fun_mk (st := s_put_in) l1 c1 k1
  have F2 := fun_mk (st := s_fill) l2 c2 k2
  have F3 := fun_mk (st := s_crossed_places) l3 c3 k3
  have F4 := fun_mk (st := s_leads_of) l4 c4 k4
  have F5 := fun_mk (st := s_leads_shape) l5 c5 k5
  have F6 := fun_mk (st := s_last_swaps) l6 c6 k6
  have F7 := fun_mk (st := s_some_word) l7 c7 k7
  have F8 := fun_mk (st := s_rows_begun) l8 c8 k8
  have F9 := fun_mk (st := s_tables_of_row) l9 c9 k9
  have F10 := fun_mk (st := s__law_source) l10 c10 k10
  have F11 := fun_mk (st := s__law_pick) l11 c11 k11
  have F12 := fun_mk (st := s__law_mixed) l12 c12 k12
  have F13 := fun_mk (st := s__law_swapped) l13 c13 k13
  have F14 := fun_mk (st := s__law_length) l14 c14 k14
  have F15 := fun_mk (st := s__law_drops) l15 c15 k15
  have F16 := fun_mk (st := s__law_row) l16 c16 k16
  have F17 := fun_mk (st := s__law_words) l17 c17 k17
  have F18 := fun_mk (st := s__law_put) l18 c18 k18
  have F19 := fun_mk (st := s__law_fill) l19 c19 k19
  have F20 := fun_mk (st := s__law_shape) l20 c20 k20
  have F21 := fun_mk (st := s__law_crossed) l21 c21 k21
  have F22 := fun_mk (st := s__law_leads) l22 c22 k22
  have F23 := fun_mk (st := s__law_tables) l23 c23 k23
  have F24 := fun_mk (st := s_law) l24 c24 k24
  refine ⟨PySem.W.fnOf "law" "law" (defArgs s_law) (defBody s_law) (defScope s_law) .none kV24 dc24 pm24 an24 cd24 ct24, fun s v => .of_eq rfl, fun base _ _ => ?_⟩
  have C_put_in : Cal l.prog w K mg base 1 "put_in" ["table", "number"] (spP K 2 m_put_in) := ⟨f1, _, ok_put_in F1 b_list b_enumerate b_tuple b_len, F1.binds (ps := ["table", "number"]) fun _ _ _ _ _ _ us hl => match us, hl with | [_, _], _ => rfl, PySem.W.mg_of X G a1, k1⟩
  have C_crossed_places : Cal l.prog w K mg base 1 "crossed_places" ["row"] (spP K 1 m_crossed_places) := ⟨f3, _, ok_crossed_places F3 b_range b_len b_list, F3.binds (ps := ["row"]) fun _ _ _ _ _ _ us hl => match us, hl with | [_], _ => rfl, PySem.W.mg_of X G a3, k3⟩
  have C_leads_of : Cal l.prog w K mg base 1 "leads_of" ["row"] (spP K 1 m_leads_of) := ⟨f4, _, ok_leads_of F4 b_len b_range b_tuple, F4.binds (ps := ["row"]) fun _ _ _ _ _ _ us hl => match us, hl with | [_], _ => rfl, PySem.W.mg_of X G a4, k4⟩
  have C_last_swaps : Cal l.prog w K mg base 1 "last_swaps" ["row"] (spP K 1 m_last_swaps) := ⟨f6, _, ok_last_swaps F6 b_len b_range, F6.binds (ps := ["row"]) fun _ _ _ _ _ _ us hl => match us, hl with | [_], _ => rfl, PySem.W.mg_of X G a6, k6⟩
  have C_law_source : Cal l.prog w K mg base 1 "_law_source" ["script"] (spMk K mkSrc) := ⟨f10, _, ok__law_source F10 b_int b_abs, F10.binds (ps := ["script"]) fun _ _ _ _ _ _ us hl => match us, hl with | [_], _ => rfl, PySem.W.mg_of X G a10, k10⟩
  have C_law_pick : Cal l.prog w K mg base 1 "_law_pick" ["source", "many"] (spY K 1 pickM) := ⟨f11, _, ok__law_pick F11 b_len b_max b_int, F11.binds (ps := ["source", "many"]) fun _ _ _ _ _ _ us hl => match us, hl with | [_, _], _ => rfl, PySem.W.mg_of X G a11, k11⟩
  have C_law_swapped : Cal l.prog w K mg base 1 "_law_swapped" ["row", "k"] (spP K 2 m_law_swapped) := ⟨f13, _, ok__law_swapped F13 , F13.binds (ps := ["row", "k"]) fun _ _ _ _ _ _ us hl => match us, hl with | [_, _], _ => rfl, PySem.W.mg_of X G a13, k13⟩
  have C_law_length : Cal l.prog w K mg base 1 "_law_length" ["row"] (spP K 1 m_law_length) := ⟨f14, _, ok__law_length F14 b_enumerate b_len b_sum, F14.binds (ps := ["row"]) fun _ _ _ _ _ _ us hl => match us, hl with | [_], _ => rfl, PySem.W.mg_of X G a14, k14⟩
  have C_law_drops : Cal l.prog w K mg base 1 "_law_drops" ["row"] (spP K 1 m_law_drops) := ⟨f15, _, ok__law_drops F15 b_len b_range, F15.binds (ps := ["row"]) fun _ _ _ _ _ _ us hl => match us, hl with | [_], _ => rfl, PySem.W.mg_of X G a15, k15⟩
  have C_law_put : Cal l.prog w K mg base 1 "_law_put" ["table", "number"] (spP K 2 m_law_put) := ⟨f18, _, ok__law_put F18 b_list b_tuple b_len b_enumerate, F18.binds (ps := ["table", "number"]) fun _ _ _ _ _ _ us hl => match us, hl with | [_, _], _ => rfl, PySem.W.mg_of X G a18, k18⟩
  have C_law_shape : Cal l.prog w K mg base 1 "_law_shape" ["table"] (spP K 1 m_law_shape) := ⟨f20, _, ok__law_shape F20 b_len b_tuple, F20.binds (ps := ["table"]) fun _ _ _ _ _ _ us hl => match us, hl with | [_], _ => rfl, PySem.W.mg_of X G a20, k20⟩
  have C_law_crossed : Cal l.prog w K mg base 1 "_law_crossed" ["row"] (spP K 1 m_law_crossed) := ⟨f21, _, ok__law_crossed F21 b_len b_range, F21.binds (ps := ["row"]) fun _ _ _ _ _ _ us hl => match us, hl with | [_], _ => rfl, PySem.W.mg_of X G a21, k21⟩
  have C_law_leads : Cal l.prog w K mg base 1 "_law_leads" ["row"] (spP K 1 m_law_leads) := ⟨f22, _, ok__law_leads F22 b_len b_range b_tuple, F22.binds (ps := ["row"]) fun _ _ _ _ _ _ us hl => match us, hl with | [_], _ => rfl, PySem.W.mg_of X G a22, k22⟩
  have C_fill : Cal l.prog w K mg base 2 "fill" ["word"] (spP K 1 m_fill) := ⟨f2, _, ok_fill F2 C_put_in b_enumerate b_len b_tuple, F2.binds (ps := ["word"]) fun _ _ _ _ _ _ us hl => match us, hl with | [_], _ => rfl, PySem.W.mg_of X G a2, k2⟩
  have C_leads_shape : Cal l.prog w K mg base 2 "leads_shape" ["row"] (spP K 1 m_leads_shape) := ⟨f5, _, ok_leads_shape F5 C_leads_of b_sorted b_tuple, F5.binds (ps := ["row"]) fun _ _ _ _ _ _ us hl => match us, hl with | [_], _ => rfl, PySem.W.mg_of X G a5, k5⟩
  have C_some_word : Cal l.prog w K mg base 2 "some_word" ["row"] (spP K 1 m_some_word) := ⟨f7, _, ok_some_word F7 C_last_swaps b_tuple, F7.binds (ps := ["row"]) fun _ _ _ _ _ _ us hl => match us, hl with | [_], _ => rfl, PySem.W.mg_of X G a7, k7⟩
  have C_rows_begun : Cal l.prog w K mg base 2 "rows_begun" ["row"] (spP K 1 m_rows_begun) := ⟨f8, _, ok_rows_begun F8 C_last_swaps b_range b_len g_MOST_BELOW, F8.binds (ps := ["row"]) fun _ _ _ _ _ _ us hl => match us, hl with | [_], _ => rfl, PySem.W.mg_of X G a8, k8⟩
  have C_law_mixed : Cal l.prog w K mg base 2 "_law_mixed" ["source", "things"] (spY K 1 mixedM) := ⟨f12, _, ok__law_mixed F12 C_law_pick b_list b_len b_range, F12.binds (ps := ["source", "things"]) fun _ _ _ _ _ _ us hl => match us, hl with | [_, _], _ => rfl, PySem.W.mg_of X G a12, k12⟩
  have C_law_words : Cal l.prog w K mg base 2 "_law_words" ["row", "most"] (spP K 2 m_law_words) := ⟨f17, _, ok__law_words F17 C_law_length C_law_drops C_law_swapped b_range b_len b_sorted, F17.binds (ps := ["row", "most"]) fun _ _ _ _ _ _ us hl => match us, hl with | [_, _], _ => rfl, PySem.W.mg_of X G a17, k17⟩
  have C_law_fill : Cal l.prog w K mg base 2 "_law_fill" ["word"] (spP K 1 m_law_fill) := ⟨f19, _, ok__law_fill F19 C_law_put b_enumerate b_len b_int b_tuple, F19.binds (ps := ["word"]) fun _ _ _ _ _ _ us hl => match us, hl with | [_], _ => rfl, PySem.W.mg_of X G a19, k19⟩
  have C_tables_of_row : Cal l.prog w K mg base 3 "tables_of_row" ["row"] (spP K 1 m_tables_of_row) := ⟨f9, _, ok_tables_of_row F9 C_crossed_places C_fill C_some_word C_rows_begun C_last_swaps C_put_in b_sorted, F9.binds (ps := ["row"]) fun _ _ _ _ _ _ us hl => match us, hl with | [_], _ => rfl, PySem.W.mg_of X G a9, k9⟩
  have C_law_row : Cal l.prog w K mg base 3 "_law_row" ["source", "n"] (spY K 1 m_law_row) := ⟨f16, _, ok__law_row F16 C_law_pick C_law_mixed C_law_swapped b_range b_list b_tuple, F16.binds (ps := ["source", "n"]) fun _ _ _ _ _ _ us hl => match us, hl with | [_, _], _ => rfl, PySem.W.mg_of X G a16, k16⟩
  have C_law_tables : Cal l.prog w K mg base 3 "_law_tables" ["row", "most"] (spP K 2 m_law_tables) := ⟨f23, _, ok__law_tables F23 C_law_words C_law_fill b_dict b_list b_sorted, F23.binds (ps := ["row", "most"]) fun _ _ _ _ _ _ us hl => match us, hl with | [_, _], _ => rfl, PySem.W.mg_of X G a23, k23⟩
  exact ok_law F24 C_law_source C_law_row C_law_pick C_law_crossed C_law_leads C_crossed_places C_leads_of C_leads_shape C_law_tables C_tables_of_row C_law_shape b_range b_repr b_sorted b_tuple b_len hlaw
theorem walk {l : PySem.W.OpenLaw} {q : Program} {loose : List Str} {XP : (Str → Option Value) → Heap → Prop} {YP : World → Heap → Prop} {d : DefRec} {K : Params → PySem.W.Frag} (hn : l.most = some 63) (hdf : d.params.defaults = [])
    (hY : ∀ (w : World) (h : Heap), YP w h → (K w.params).In h)
    (F : ∀ (w : World) (mg : Str → Option Value) (fa : Addr) (h : Heap), (K w.params).In h → h.Ns mainGlobals mg → mg d.name = some (.ref fa) →
      ∃ fd : FuncData, (∀ (s : Shared) (u : Value), BindsTo s fd ⟨[u], []⟩ [("script", u)]) ∧ ∀ base : Heap, (K w.params).In base → base.Ns mainGlobals mg → FnG l.prog w (K w.params) mg base 4 fa fd ["script"] (spLaw (K w.params))) :
    PySem.W.WalkO q loose XP YP l.row.toRowW d [] (fun f vs => PySem.call f vs) :=
  walkG (n := 63) (k := 4) (x := "script") (sp := spLaw) hn (by decide) hdf ⟨⟨rfl, by decide, by decide⟩, rfl⟩ hY F fun K H a ns hl hS => ⟨a, ns, rfl, hS, hl, fun _ => rfl⟩
end
end W79

set_option Elab.async false
set_option linter.all false
set_option maxRecDepth 100000
set_option maxHeartbeats 4000000
/-! DM0: what the mirrors answer: control, encoders, operations. -/
namespace DL
open PySem L2

/-! ### control -/
theorem seq_nx {a b : Z} {ρ ρ1 : Rho} {s s1 : Src} (h : a ρ s = some (.nx ρ1, s1)) : seqS a b ρ s = b ρ1 s1 := by
  unfold seqS
  rw [h]
theorem seq_rt {a b : Z} {ρ : Rho} {s s1 : Src} {d : D} (h : a ρ s = some (.rt d, s1)) : seqS a b ρ s = some (.rt d, s1) := by
  unfold seqS
  rw [h]
theorem runD_rt {G : Z} {k : Nat} {ds : List D} {d : D} {s : Src} (h : G (iniR ds k) dummy = some (.rt d, s)) : runD G k ds = some d := by
  unfold runD
  rw [h]
  rfl
theorem runY_rt {G : Z} {k : Nat} {ds : List D} {d : D} {s s' : Src} (h : G (.sr :: iniR ds k) s = some (.rt d, s')) : runY G k ds s = some (d, s') := by
  unfold runY
  rw [h]
  rfl
theorem asg_ev {i : Nat} {g : Y} {ρ : Rho} {s s1 : Src} {d : D} (h : g ρ s = some (d, s1)) : asgS i (fzU g) ρ s = some (.nx (ρ.set i (.fz d)), s1) := by
  unfold asgS fzU
  rw [h]
  rfl
theorem asgo_ev {i : Nat} {g : Yl} {ρ : Rho} {s s1 : Src} {d : List D} (h : g ρ s = some (d, s1)) : asgS i (owU g) ρ s = some (.nx (ρ.set i (.ow d)), s1) := by
  unfold asgS owU
  rw [h]
  rfl
theorem ret_ev {g : Y} {ρ : Rho} {s s1 : Src} {d : D} (h : g ρ s = some (d, s1)) : retS g ρ s = some (.rt d, s1) := by
  unfold retS
  rw [h]
  rfl
theorem if_t {c : Yb} {a b : Z} {ρ : Rho} {s s1 : Src} (h : c ρ s = some (true, s1)) : ifS c a b ρ s = a ρ s1 := by
  unfold ifS
  rw [h]
  rfl
theorem if_f {c : Yb} {a b : Z} {ρ : Rho} {s s1 : Src} (h : c ρ s = some (false, s1)) : ifS c a b ρ s = b ρ s1 := by
  unfold ifS
  rw [h]
  rfl
theorem if_ev {c : Yb} {a b : Z} {ρ : Rho} {s s1 : Src} {x : Bool} (h : c ρ s = some (x, s1)) : ifS c a b ρ s = if x = true then a ρ s1 else b ρ s1 := by
  unfold ifS
  rw [h]
  rfl
theorem y2_ev {f : D → D → Option D} {a b : Y} {ρ : Rho} {s s1 s2 : Src} {x y d : D} (h1 : a ρ s = some (x, s1)) (h2 : b ρ s1 = some (y, s2)) (h3 : f x y = some d) : y2 f a b ρ s = some (d, s2) := by
  unfold y2
  rw [h1]
  dsimp only [bO]
  rw [h2]
  dsimp only [bO]
  rw [h3]
  rfl
theorem yC_ev {f : List D → Option D} {a : Yl} {ρ : Rho} {s s1 : Src} {xs : List D} {d : D} (h1 : a ρ s = some (xs, s1)) (h3 : f xs = some d) : yC f a ρ s = some (d, s1) := by
  unfold yC
  rw [h1]
  dsimp only [bO]
  rw [h3]
  rfl
theorem ynC_ev {f : List D → Option (List D)} {a : Yl} {ρ : Rho} {s s1 : Src} {xs d : List D} (h1 : a ρ s = some (xs, s1)) (h3 : f xs = some d) : ynC f a ρ s = some (d, s1) := by
  unfold ynC
  rw [h1]
  dsimp only [bO]
  rw [h3]
  rfl
theorem ac_ev {a : Y} {r : Yl} {ρ : Rho} {s s1 s2 : Src} {x : D} {xs : List D} (h1 : a ρ s = some (x, s1)) (h2 : r ρ s1 = some (xs, s2)) : aCons a r ρ s = some (x :: xs, s2) := by
  unfold aCons
  rw [h1]
  dsimp only [bO]
  rw [h2]
theorem an_ev {ρ : Rho} {s : Src} : aNil ρ s = some ([], s) := rfl
theorem call_ev {n : Nat} {m : List D → Option D} {g : Yl} {ρ : Rho} {s s1 : Src} {xs : List D} {d : D} (h1 : g ρ s = some (xs, s1)) (hn : xs.length = n) (h : m xs = some d) : callY n m g ρ s = some (d, s1) := by
  unfold callY
  rw [h1]
  simp only [bO, hn, if_true, h, mO]
theorem fr_ev {g : Yl} {ρ : Rho} {s s1 : Src} {ds : List D} (h : g ρ s = some (ds, s1)) : frY g ρ s = some (.list ds, s1) := by
  unfold frY
  rw [h]
  rfl
theorem tup_ev {g : Yl} {ρ : Rho} {s s1 : Src} {ds : List D} (h : g ρ s = some (ds, s1)) (hl : ds.length ≤ lim) : tupY g ρ s = some (.tuple ds, s1) := by
  unfold tupY
  rw [h]
  exact if_pos hl
theorem lst_ev {g : Yl} {ρ : Rho} {s s1 : Src} {ds : List D} (h : g ρ s = some (ds, s1)) (hl : ds.length ≤ lim) : lstY g ρ s = some (ds, s1) := by
  unfold lstY
  rw [h]
  exact if_pos hl
theorem bT_ev {g : Y} {ρ : Rho} {s s1 : Src} {b : Bool} (h : g ρ s = some (.bool b, s1)) : bT g ρ s = some (b, s1) := by
  unfold bT
  rw [h]
  rfl
theorem notT_ev {g : Yb} {ρ : Rho} {s s1 : Src} {b : Bool} (h : g ρ s = some (b, s1)) : notT g ρ s = some (!b, s1) := by
  unfold notT
  rw [h]
  rfl
theorem or_ev {g h : Yb} {ρ : Rho} {s s1 s2 : Src} {b c : Bool} (h1 : g ρ s = some (b, s1)) (h2 : b = false → h ρ s1 = some (c, s2)) (h3 : b = true → s1 = s2) : orT g h ρ s = some (b || c, s2) := by
  unfold orT
  rw [h1]
  cases b with
  | true => rw [h3 rfl]; rfl
  | false => exact h2 rfl
theorem and_ev {g h : Yb} {ρ : Rho} {s s1 s2 : Src} {b c : Bool} (h1 : g ρ s = some (b, s1)) (h2 : b = true → h ρ s1 = some (c, s2)) (h3 : b = false → s1 = s2) : andT g h ρ s = some (b && c, s2) := by
  unfold andT
  rw [h1]
  cases b with
  | false => rw [h3 rfl]; rfl
  | true => exact h2 rfl
theorem ifY_ev {t : Yb} {a b : Y} {ρ : Rho} {s s1 : Src} {x : Bool} (h : t ρ s = some (x, s1)) : ifY t a b ρ s = if x = true then a ρ s1 else b ρ s1 := by
  unfold ifY
  rw [h]
  rfl
theorem vw_ev {g : Y} {ρ : Rho} {s s1 : Src} {d : D} (h : g (viewR ρ) s = some (d, s1)) (hd : scalD d = true) : vwY g ρ s = some (d, s1) := by
  unfold vwY
  rw [h]
  exact if_pos hd
theorem par3_ev {i j l : Nat} {a b c : Y} {ρ : Rho} {s s1 s2 s3 : Src} {x y z : D} (h1 : a ρ s = some (x, s1)) (h2 : b ρ s1 = some (y, s2)) (h3 : c ρ s2 = some (z, s3)) : par3S i j l (fzU a) (fzU b) (fzU c) ρ s = some (.nx (((ρ.set i (.fz x)).set j (.fz y)).set l (.fz z)), s3) := by
  unfold par3S fzU
  rw [h1]
  dsimp only [bO]
  rw [h2]
  dsimp only [bO]
  rw [h3]
theorem par_ev {i j : Nat} {a b : Y} {ρ : Rho} {s s1 s2 : Src} {x y : D} (h1 : a ρ s = some (x, s1)) (h2 : b ρ s1 = some (y, s2)) : parS i j (fzU a) (fzU b) ρ s = some (.nx ((ρ.set i (.fz x)).set j (.fz y)), s2) := by
  unfold parS fzU
  rw [h1]
  dsimp only [bO]
  rw [h2]

/-! ### loops -/
theorem forGo_rel {α : Type} {bind : α → Rho → Option Rho} {G : Z} {xs : List α} (I : Nat → Rho → Src → Prop) (Post : Fl → Src → Prop)
    (h : ∀ i x ρ s, xs[i]? = some x → I i ρ s → ∃ ρ1 fl s1, bind x ρ = some ρ1 ∧ G ρ1 s = some (fl, s1) ∧ match fl with
      | .nx ρ2 => I (i + 1) ρ2 s1
      | .ct ρ2 => I (i + 1) ρ2 s1
      | .bk ρ2 => Post (.nx ρ2) s1
      | .rt d => Post (.rt d) s1)
    (hd : ∀ ρ s, I xs.length ρ s → Post (.nx ρ) s) {ρ : Rho} {s : Src} (h0 : I 0 ρ s) : ∃ fl s', forGo bind G xs ρ s = some (fl, s') ∧ Post fl s' := by
  have gen : ∀ (n k : Nat) (ρ : Rho) (s : Src), k + n = xs.length → I k ρ s → ∃ fl s', forGo bind G (xs.drop k) ρ s = some (fl, s') ∧ Post fl s' := by
    intro n
    induction n with
    | zero =>
      intro k ρ s hk hi
      rw [List.drop_eq_nil_of_le (by omega)]
      exact ⟨_, _, rfl, hd ρ s (by rw [← hk]; exact hi)⟩
    | succ n ih =>
      intro k ρ s hk hi
      have hlt : k < xs.length := by omega
      rw [List.drop_eq_getElem_cons hlt]
      obtain ⟨ρ1, fl, s1, e1, e2, e3⟩ := h k xs[k] ρ s (List.getElem?_eq_getElem hlt) hi
      unfold forGo
      rw [e1]
      dsimp only [mO]
      rw [e2]
      dsimp only [bO]
      cases fl with
      | nx ρ2 => exact ih (k + 1) ρ2 s1 (by omega) e3
      | ct ρ2 => exact ih (k + 1) ρ2 s1 (by omega) e3
      | bk ρ2 => exact ⟨_, _, rfl, e3⟩
      | rt d => exact ⟨_, _, rfl, e3⟩
  exact gen xs.length 0 ρ s (by omega) h0
/-- a loop that carries b and never leaves -/
theorem forGo_fold {α β : Type} {bind : α → Rho → Option Rho} {G : Z} (R : β → Rho → Prop) (step : β → α → β) {s : Src} : ∀ (xs : List α) (b : β) (ρ : Rho),
    (∀ b x ρ, x ∈ xs → R b ρ → ∃ ρ1 ρ2, bind x ρ = some ρ1 ∧ G ρ1 s = some (.nx ρ2, s) ∧ R (step b x) ρ2) → R b ρ → ∃ ρ', forGo bind G xs ρ s = some (.nx ρ', s) ∧ R (xs.foldl step b) ρ'
  | [], b, ρ, _, h0 => ⟨ρ, rfl, h0⟩
  | x :: xs, b, ρ, h, h0 => by
    obtain ⟨ρ1, ρ2, e1, e2, e3⟩ := h b x ρ List.mem_cons_self h0
    obtain ⟨ρ', e4, e5⟩ := forGo_fold R step xs (step b x) ρ2 (fun b y ρ hy => h b y ρ (List.mem_cons_of_mem _ hy)) e3
    refine ⟨ρ', ?_, e5⟩
    unfold forGo
    rw [e1]
    dsimp only [mO]
    rw [e2]
    exact e4
/-- a loop that leaves with d at the first item that is not ok -/
theorem forGo_all {α : Type} {bind : α → Rho → Option Rho} {G : Z} (R : Rho → Prop) (ok : α → Bool) (d : D) {s : Src} : ∀ (xs : List α) (ρ : Rho),
    (∀ x ρ, x ∈ xs → R ρ → ∃ ρ1, bind x ρ = some ρ1 ∧ (ok x = true → ∃ ρ2, G ρ1 s = some (.nx ρ2, s) ∧ R ρ2) ∧ (ok x = false → G ρ1 s = some (.rt d, s))) → R ρ →
      if xs.all ok = true then ∃ ρ', forGo bind G xs ρ s = some (.nx ρ', s) ∧ R ρ' else forGo bind G xs ρ s = some (.rt d, s)
  | [], ρ, _, h0 => by
    rw [List.all_nil, if_pos rfl]
    exact ⟨ρ, rfl, h0⟩
  | x :: xs, ρ, h, h0 => by
    obtain ⟨ρ1, e1, e2, e3⟩ := h x ρ List.mem_cons_self h0
    unfold forGo
    rw [e1]
    dsimp only [mO]
    cases hx : ok x with
    | false =>
      rw [e3 hx, List.all_cons, hx, Bool.false_and, if_neg Bool.false_ne_true]
      rfl
    | true =>
      obtain ⟨ρ2, e4, e5⟩ := e2 hx
      rw [e4, List.all_cons, hx, Bool.true_and]
      exact forGo_all R ok d xs ρ2 (fun y ρ hy => h y ρ (List.mem_cons_of_mem _ hy)) e5
theorem for_ev {α : Type} {fi : Rho → Src → Option (List α × Src)} {bind : α → Rho → Option Rho} {G : Z} {ρ : Rho} {s s1 : Src} {xs : List α} (h : fi ρ s = some (xs, s1)) : forS fi bind G ρ s = forGo bind G xs ρ s1 := by
  unfold forS
  rw [h]
  rfl
/-- a comprehension that draws nothing -/
theorem lcGo_ev {α : Type} {bind : α → Rho → Option Rho} {t : Yb} {e : Y} {ρ : Rho} {s : Src} (p : α → Bool) (f : α → D) : ∀ (xs : List α) (acc : List D),
    (∀ x ∈ xs, ∃ ρ1, bind x ρ = some ρ1 ∧ t ρ1 s = some (p x, s) ∧ (p x = true → e ρ1 s = some (f x, s))) → acc.length + xs.length ≤ lim → lcGo bind t e xs acc ρ s = some (acc ++ (xs.filter p).map f, s)
  | [], acc, _, _ => by
    unfold lcGo
    rw [List.filter_nil, List.map_nil, List.append_nil]
  | x :: xs, acc, h, hl => by
    obtain ⟨ρ1, e1, e2, e3⟩ := h x List.mem_cons_self
    rw [List.length_cons] at hl
    unfold lcGo
    rw [e1]
    dsimp only [mO]
    rw [e2]
    dsimp only [bO]
    cases hx : p x with
    | false =>
      rw [if_neg Bool.false_ne_true, lcGo_ev p f xs acc (fun y hy => h y (List.mem_cons_of_mem _ hy)) (by omega), List.filter_cons, hx, if_neg Bool.false_ne_true]
    | true =>
      rw [if_pos rfl, e3 hx]
      dsimp only
      rw [if_pos (by omega), lcGo_ev p f xs (acc ++ [f x]) (fun y hy => h y (List.mem_cons_of_mem _ hy)) (by rw [List.length_append, List.length_singleton]; omega), List.filter_cons, hx, if_pos rfl, List.map_cons, List.append_assoc]
      rfl
theorem lc_ev {α : Type} {fi : Rho → Src → Option (List α × Src)} {bind : α → Rho → Option Rho} {t : Yb} {e : Y} {vs : List Nat} {ρ : Rho} {s s1 : Src} {xs : List α} (p : α → Bool) (f : α → D) (h0 : fi ρ s = some (xs, s1))
    (h : ∀ x ∈ xs, ∃ ρ1, bind x (wipeR ρ vs) = some ρ1 ∧ t ρ1 s1 = some (p x, s1) ∧ (p x = true → e ρ1 s1 = some (f x, s1))) (hl : xs.length ≤ lim) : lcY fi bind t e vs ρ s = some ((xs.filter p).map f, s1) := by
  unfold lcY
  rw [h0]
  dsimp only [bO]
  rw [lcGo_ev p f xs [] h (by rw [List.length_nil]; omega)]
  rfl
/-- a while loop with a bound -/
theorem whGo_rel {c : Yb} {G : Z} (I : Nat → Rho → Src → Prop) (Post : Fl → Src → Prop)
    (h : ∀ n ρ s, I n ρ s → (∃ s1, c ρ s = some (false, s1) ∧ Post (.nx ρ) s1) ∨ ∃ s1, c ρ s = some (true, s1) ∧ ∃ fl s2, G ρ s1 = some (fl, s2) ∧ match fl with
      | .nx ρ2 => ∃ m, m < n ∧ I m ρ2 s2
      | .ct ρ2 => ∃ m, m < n ∧ I m ρ2 s2
      | .bk ρ2 => Post (.nx ρ2) s2
      | .rt d => Post (.rt d) s2) : ∀ (n N : Nat) (ρ : Rho) (s : Src), n < N → I n ρ s → ∃ fl s', whGo c G N ρ s = some (fl, s') ∧ Post fl s' := by
  intro n
  induction n using Nat.strongRecOn with
  | _ n ih =>
    intro N ρ s hN hi
    cases N with
    | zero => omega
    | succ N =>
      unfold whGo
      rcases h n ρ s hi with ⟨s1, e1, e2⟩ | ⟨s1, e1, fl, s2, e2, e3⟩
      · rw [e1]
        exact ⟨_, _, rfl, e2⟩
      · rw [e1]
        dsimp only [bO]
        rw [if_pos rfl, e2]
        cases fl with
        | nx ρ2 =>
          obtain ⟨m, h1, h2⟩ := e3
          exact ih m h1 N ρ2 s2 (by omega) h2
        | ct ρ2 =>
          obtain ⟨m, h1, h2⟩ := e3
          exact ih m h1 N ρ2 s2 (by omega) h2
        | bk ρ2 => exact ⟨_, _, rfl, e3⟩
        | rt d => exact ⟨_, _, rfl, e3⟩

/-! ### encoders -/
structure En (α : Type) where
  f : α → D
  dp : Nat
  eqv : ∀ a b, PyData.eqv (f a) (f b) = true ↔ a = b
  can : ∀ a, (f a).canLay0 = true
  hdp : ∀ a, (f a).depth ≤ dp
namespace En
def int : En Int := ⟨.int, 0, fun a b => by simp [PyData.eqv], fun _ => rfl, fun _ => Nat.le_refl _⟩
def nat : En Nat := ⟨fun n => .int n, 0, fun a b => by simp [PyData.eqv]; omega, fun _ => rfl, fun _ => Nat.le_refl _⟩
def bool : En Bool := ⟨.bool, 0, fun a b => by simp [PyData.eqv], fun _ => rfl, fun _ => Nat.le_refl _⟩
theorem eqvAll {α : Type} (e : En α) : ∀ xs ys : List α, PyData.eqvAll (xs.map e.f) (ys.map e.f) = true ↔ xs = ys
  | [], [] => by simp [PyData.eqvAll]
  | [], _ :: _ => by simp [PyData.eqvAll]
  | _ :: _, [] => by simp [PyData.eqvAll]
  | x :: xs, y :: ys => by
    rw [List.map_cons, List.map_cons, PyData.eqvAll, Bool.and_eq_true, e.eqv, eqvAll e xs ys, List.cons.injEq]
theorem canAll {α : Type} (e : En α) : ∀ xs : List α, PyData.canLayAll0 (xs.map e.f) = true
  | [] => rfl
  | x :: xs => by rw [List.map_cons, PyData.canLayAll0, e.can, canAll e xs]; rfl
theorem depAll {α : Type} (e : En α) : ∀ xs : List α, PyData.depthAll (xs.map e.f) ≤ e.dp
  | [] => Nat.zero_le _
  | x :: xs => by
    rw [List.map_cons, PyData.depthAll]
    exact Nat.max_le.mpr ⟨e.hdp x, depAll e xs⟩
def lst {α : Type} (e : En α) : En (List α) := ⟨fun xs => .list (xs.map e.f), e.dp + 1, fun a b => by rw [PyData.eqv]; exact e.eqvAll a b, fun a => by rw [PyData.canLay0]; exact e.canAll a, fun a => by rw [PyData.depth]; exact Nat.succ_le_succ (e.depAll a)⟩
def tup {α : Type} (e : En α) : En (List α) := ⟨fun xs => .tuple (xs.map e.f), e.dp + 1, fun a b => by rw [PyData.eqv]; exact e.eqvAll a b, fun a => by rw [PyData.canLay0]; exact e.canAll a, fun a => by rw [PyData.depth]; exact Nat.succ_le_succ (e.depAll a)⟩
def pair {α β : Type} (e : En α) (g : En β) : En (α × β) := ⟨fun p => .tuple [e.f p.1, g.f p.2], max e.dp g.dp + 1, fun a b => by
    rw [PyData.eqv, PyData.eqvAll, PyData.eqvAll, PyData.eqvAll, Bool.and_true, Bool.and_eq_true, e.eqv, g.eqv, Prod.ext_iff], fun a => by
    rw [PyData.canLay0, PyData.canLayAll0, PyData.canLayAll0, PyData.canLayAll0, e.can, g.can]; rfl, fun a => by
    rw [PyData.depth, PyData.depthAll, PyData.depthAll, PyData.depthAll]
    have h1 := e.hdp a.1
    have h2 := g.hdp a.2
    omega⟩
variable {α : Type} (e : En α)
theorem shaped (h : e.dp ≤ 64) (a : α) : SeqAt.shaped (e.f a) = true := by
  unfold SeqAt.shaped
  rw [e.can, Bool.true_and, decide_eq_true_eq]
  exact Nat.le_trans (e.hdp a) h
theorem eqvD [DecidableEq α] (a b : α) : PyData.eqv (e.f a) (e.f b) = decide (a = b) := by
  rw [Bool.eq_iff_iff, e.eqv, decide_eq_true_eq]
theorem eqD [DecidableEq α] (h : e.dp ≤ 64) (a b : α) : DL.eqD (e.f a) (e.f b) = some (.bool (decide (a = b))) := by
  unfold DL.eqD
  rw [if_pos ⟨e.shaped h a, e.shaped h b⟩, e.eqvD]
theorem neD [DecidableEq α] (h : e.dp ≤ 64) (a b : α) : DL.neD (e.f a) (e.f b) = some (.bool (!decide (a = b))) := by
  unfold DL.neD
  rw [if_pos ⟨e.shaped h a, e.shaped h b⟩, e.eqvD]
theorem any [DecidableEq α] (xs : List α) (a : α) : ((xs.map e.f).any fun z => PyData.eqv z (e.f a)) = decide (a ∈ xs) := by
  rw [Bool.eq_iff_iff, List.any_eq_true, decide_eq_true_eq]
  constructor
  · rintro ⟨z, hz, h⟩
    obtain ⟨b, hb, rfl⟩ := List.mem_map.mp hz
    rw [e.eqv] at h
    rw [← h]; exact hb
  · intro h
    exact ⟨e.f a, List.mem_map.mpr ⟨a, h, rfl⟩, (e.eqv a a).mpr rfl⟩
theorem inL [DecidableEq α] (h : e.dp + 1 ≤ 64) (neg : Bool) (a : α) (xs : List α) : inD neg (e.f a) (e.lst.f xs) = some (.bool (if neg then !decide (a ∈ xs) else decide (a ∈ xs))) := by
  have h2 : SeqAt.shaped (.list (xs.map e.f)) = true := e.lst.shaped h xs
  show (if SeqAt.shaped (e.f a) = true ∧ SeqAt.shaped (.list (xs.map e.f)) = true then _ else _) = _
  rw [if_pos ⟨e.shaped (Nat.le_of_succ_le h) a, h2⟩, e.any]
theorem inT [DecidableEq α] (h : e.dp + 1 ≤ 64) (neg : Bool) (a : α) (xs : List α) : inD neg (e.f a) (e.tup.f xs) = some (.bool (if neg then !decide (a ∈ xs) else decide (a ∈ xs))) := by
  have h2 : SeqAt.shaped (.list (xs.map e.f)) = true := e.lst.shaped h xs
  show (if SeqAt.shaped (e.f a) = true ∧ SeqAt.shaped (.list (xs.map e.f)) = true then _ else _) = _
  rw [if_pos ⟨e.shaped (Nat.le_of_succ_le h) a, h2⟩, e.any]
theorem atL (xs : List α) (k : Nat) : atI (xs.map e.f) (k : Int) = xs[k]?.map e.f := by
  unfold atI ixN
  rw [if_pos (by omega), List.length_map]
  by_cases h : k < xs.length
  · rw [if_pos (by omega), Option.bind_some, Int.toNat_natCast, List.getElem?_map]
  · rw [if_neg (by omega), List.getElem?_eq_none (by omega)]
    rfl
theorem ixL (xs : List α) (k : Nat) (h : k < xs.length) : ixD (e.lst.f xs) (nat.f k) = some (e.f xs[k]) := by
  show atI (xs.map e.f) (k : Int) = _
  rw [e.atL, List.getElem?_eq_getElem h]
  rfl
theorem ixT (xs : List α) (k : Nat) (h : k < xs.length) : ixD (e.tup.f xs) (nat.f k) = some (e.f xs[k]) := by
  show atI (xs.map e.f) (k : Int) = _
  rw [e.atL, List.getElem?_eq_getElem h]
  rfl
theorem idxL [DecidableEq α] (xs : List α) (a : α) (n : Nat) : DL.idxL (e.f a) (xs.map e.f) n = if a ∈ xs then some (n + xs.idxOf a) else none := by
  induction xs generalizing n with
  | nil => rfl
  | cons x xs ih =>
    rw [List.map_cons]
    unfold DL.idxL
    rw [e.eqvD, List.idxOf_cons, ih]
    by_cases h : x = a
    · subst h; simp
    · have h' : ¬ a = x := fun z => h z.symm
      have hb : (x == a) = false := by simp [h]
      simp [h, h', hb, Nat.add_assoc, Nat.add_comm 1]
theorem lenL (xs : List α) : lenC [e.lst.f xs] = some (nat.f xs.length) := by
  show some (PyData.int ((xs.map e.f).length : Nat)) = _
  rw [List.length_map]
  rfl
theorem lenT (xs : List α) : lenC [e.tup.f xs] = some (nat.f xs.length) := by
  show some (PyData.int ((xs.map e.f).length : Nat)) = _
  rw [List.length_map]
  rfl
end En
abbrev eN : Nat → D := En.nat.f
theorem add_N (a b : Nat) : addD (eN a) (eN b) = some (eN (a + b)) := rfl
theorem lit_N (n : Nat) : (.int (no_index (OfNat.ofNat n)) : D) = eN (OfNat.ofNat n) := rfl
theorem lt_N (a b : Nat) : ltD (eN a) (eN b) = some (.bool (decide (a < b))) := by
  show some (PyData.bool (decide ((a : Int) < b))) = _
  simp
theorem gt_N (a b : Nat) : gtD (eN a) (eN b) = some (.bool (decide (b < a))) := by
  show some (PyData.bool (decide ((b : Int) < a))) = _
  simp
theorem le_N (a b : Nat) : leD (eN a) (eN b) = some (.bool (decide (a ≤ b))) := by
  show some (PyData.bool (decide ((a : Int) ≤ b))) = _
  simp
theorem ge_N (a b : Nat) : geD (eN a) (eN b) = some (.bool (decide (b ≤ a))) := by
  show some (PyData.bool (decide ((b : Int) ≤ a))) = _
  simp
theorem sub_N {a b : Nat} (h : b ≤ a) : subD (eN a) (eN b) = some (eN (a - b)) := by
  show some (PyData.int ((a : Int) - b)) = some (.int ((a - b : Nat) : Int))
  rw [Int.ofNat_sub h]
theorem max_N (a b : Nat) : maxC [eN a, eN b] = some (eN (max a b)) := by
  show some (PyData.int (max (a : Int) b)) = some (.int ((max a b : Nat) : Int))
  congr 2
  omega
theorem intsN : ∀ xs : List Nat, intsD (xs.map eN) = some (xs.map fun n : Nat => (n : Int))
  | [] => rfl
  | x :: xs => by
    rw [List.map_cons]
    show (match intsD (xs.map eN) with | some is => some ((x : Int) :: is) | none => none) = _
    rw [intsN xs]
    rfl
def insN (i : Nat) : List Nat → List Nat
  | [] => [i]
  | j :: r => if i ≤ j then i :: j :: r else j :: insN i r
def sortN : List Nat → List Nat
  | [] => []
  | i :: r => insN i (sortN r)
theorem insI_N (i : Nat) : ∀ xs : List Nat, insI (i : Int) (xs.map fun n : Nat => (n : Int)) = (insN i xs).map fun n : Nat => (n : Int)
  | [] => rfl
  | x :: xs => by
    rw [List.map_cons]
    unfold insI insN
    by_cases h : i ≤ x
    · rw [if_pos (by omega), if_pos h]; rfl
    · rw [if_neg (by omega), if_neg h, insI_N i xs]; rfl
theorem sortI_N : ∀ xs : List Nat, sortI (xs.map fun n : Nat => (n : Int)) = (sortN xs).map fun n : Nat => (n : Int)
  | [] => rfl
  | x :: xs => by
    rw [List.map_cons]
    show insI (x : Int) (sortI (xs.map fun n : Nat => (n : Int))) = _
    rw [sortI_N xs, insI_N]
    rfl
theorem sortC_N (xs : List Nat) : sortC [.list (xs.map eN)] = some ((sortN xs).map eN) := by
  show mO (intsD (xs.map eN)) (fun is => some ((sortI is).map PyData.int)) = _
  rw [intsN]
  show some ((sortI _).map _) = _
  rw [sortI_N, List.map_map]
  rfl
theorem insN_perm (i : Nat) : ∀ xs : List Nat, (insN i xs).Perm (i :: xs)
  | [] => .refl _
  | x :: xs => by
    unfold insN
    split
    · exact .refl _
    · exact ((insN_perm i xs).cons x).trans (.swap i x xs)
theorem sortN_perm : ∀ xs : List Nat, (sortN xs).Perm xs
  | [] => .refl _
  | x :: xs => (insN_perm x (sortN xs)).trans ((sortN_perm xs).cons x)
theorem insN_sorted (i : Nat) : ∀ xs : List Nat, xs.Pairwise (· ≤ ·) → (insN i xs).Pairwise (· ≤ ·)
  | [], _ => by simp [insN]
  | x :: xs, h => by
    have h1 := List.pairwise_cons.mp h
    unfold insN
    split
    · rename_i hx
      exact List.pairwise_cons.mpr ⟨fun y hy => by
        rcases List.mem_cons.mp hy with rfl | hy
        · exact hx
        · exact Nat.le_trans hx (h1.1 y hy), h⟩
    · rename_i hx
      refine List.pairwise_cons.mpr ⟨fun y hy => ?_, insN_sorted i xs h1.2⟩
      rcases List.mem_cons.mp ((insN_perm i xs).mem_iff.mp hy) with rfl | hy
      · omega
      · exact h1.1 y hy
theorem sortN_sorted : ∀ xs : List Nat, (sortN xs).Pairwise (· ≤ ·)
  | [] => .nil
  | x :: xs => insN_sorted x _ (sortN_sorted xs)
theorem rgN (a b : Nat) : rgD (a : Int) (b : Int) = ((List.range (b - a)).map fun i => eN (a + i)) := by
  unfold rgD
  have : ((b : Int) - a).toNat = b - a := by omega
  rw [this]
  rfl
theorem rgN0 (b : Nat) : rgD 0 (b : Int) = (List.range b).map eN := by
  have := rgN 0 b
  simp only [Nat.sub_zero, Nat.zero_add] at this
  exact this
theorem rgOkN {a b : Nat} (h1 : a ≤ 100000) (h2 : b ≤ 100000) : rgOk (a : Int) (b : Int) = true := by
  simp only [rgOk, Bool.and_eq_true, decide_eq_true_eq]
  omega
end DL
namespace DL
open PySem L2
theorem ixN_nat {n k : Nat} (h : k < n) : ixN n (k : Int) = some k := by
  unfold ixN
  rw [if_pos (by omega), if_pos (by omega), Int.toNat_natCast]
theorem sub_ev {i : Nat} {g : Y} {d : D} {ρ : Rho} {s s1 : Src} {k : Nat} {ds : List D} (h : g ρ s = some (eN k, s1)) (hi : ρ[i]? = some (.ow ds)) (hk : k < ds.length) : subG i g d ρ s = some (ρ.set i (.ow (ds.set k d)), s1) := by
  unfold subG
  rw [h]
  show (match ρ[i]?, (PyData.int (k : Int)) with | some (.ow ds), .int n => mO (ixN ds.length n) fun j => some (ρ.set i (.ow (ds.set j d)), s1) | _, _ => none) = _
  rw [hi]
  show mO (ixN ds.length (k : Int)) (fun j => some (ρ.set i (.ow (ds.set j d)), s1)) = _
  rw [ixN_nat hk]
  rfl
theorem oix_ev {α : Type} {e : En α} {i : Nat} {g : Y} {ρ : Rho} {s s1 : Src} {k : Nat} {xs : List α} (h : g ρ s = some (eN k, s1)) (hi : ρ[i]? = some (.ow (xs.map e.f))) (hk : k < xs.length) : oixY i g ρ s = some (e.f xs[k], s1) := by
  unfold oixY
  rw [h]
  show (match ρ[i]?, (PyData.int (k : Int)) with | some (.ow ds), .int n => mO (atI ds n) fun d => some (d, s1) | _, _ => none) = _
  rw [hi]
  show mO (atI (xs.map e.f) (k : Int)) (fun d => some (d, s1)) = _
  rw [e.atL, List.getElem?_eq_getElem hk]
  rfl
theorem asgG_ev {g : Y} {b : Tg} {ρ ρ1 : Rho} {s s1 s2 : Src} {d : D} (h : g ρ s = some (d, s1)) (h2 : b d ρ s1 = some (ρ1, s2)) : asgGS g b ρ s = some (.nx ρ1, s2) := by
  unfold asgGS
  rw [h]
  dsimp only [bO]
  rw [h2]
theorem tupG2_ev {b c : Tg} {x y : D} {ρ ρ1 ρ2 : Rho} {s s1 s2 : Src} (h : b x ρ s = some (ρ1, s1)) (h2 : c y ρ1 s1 = some (ρ2, s2)) : tupG 2 (consGs b (consGs c nilGs)) (.tuple [x, y]) ρ s = some (ρ2, s2) := by
  show bO (b x ρ s) (fun ρ1 s1 => bO (c y ρ1 s1) fun ρ1 s1 => some (ρ1, s1)) = _
  rw [h]
  dsimp only [bO]
  rw [h2]
theorem app_ev {i : Nat} {g : Y} {ρ : Rho} {s s1 : Src} {d : D} {ds : List D} (h : g ρ s = some (d, s1)) (hi : ρ[i]? = some (.ow ds)) (hl : ds.length < lim) : appS i g ρ s = some (.nx (ρ.set i (.ow (ds ++ [d]))), s1) := by
  unfold appS
  rw [h]
  show (match ρ[i]? with | some (.ow ds) => if ds.length < lim then some (Fl.nx (ρ.set i (.ow (ds ++ [d]))), s1) else none | _ => none) = _
  rw [hi]
  exact if_pos hl
theorem frz_ev {i : Nat} {G : Z} {ρ : Rho} {s : Src} {ds : List D} (hi : ρ[i]? = some (.ow ds)) : frzS i G ρ s = G (ρ.set i (.fz (.list ds))) s := by
  unfold frzS frzR
  rw [hi]
theorem ir1_ev {g : Y} {ρ : Rho} {s s1 : Src} {n : Nat} (h : g ρ s = some (eN n, s1)) (hn : n ≤ 100000) : iR1 g ρ s = some ((List.range n).map eN, s1) := by
  unfold iR1
  rw [h]
  show (if rgOk 0 (n : Int) = true then some (rgD 0 (n : Int), s1) else none) = _
  have h0 : rgOk 0 (n : Int) = true := rgOkN (a := 0) (by omega) hn
  rw [if_pos h0, rgN0]
theorem ir2_ev {g h : Y} {ρ : Rho} {s s1 s2 : Src} {m n : Nat} (h1 : g ρ s = some (eN m, s1)) (h2 : h ρ s1 = some (eN n, s2)) (hm : m ≤ 100000) (hn : n ≤ 100000) : iR2 g h ρ s = some ((List.range (n - m)).map fun i => eN (m + i), s2) := by
  unfold iR2
  rw [h1]
  dsimp only [bO]
  rw [h2]
  show (if rgOk (m : Int) (n : Int) = true then some (rgD (m : Int) (n : Int), s2) else none) = _
  rw [if_pos (rgOkN hm hn), rgN]
theorem iy_ev {g : Y} {ρ : Rho} {s s1 : Src} {d : D} {ds : List D} (h : g ρ s = some (d, s1)) (hd : itemsD d = some ds) : iY g ρ s = some (ds, s1) := by
  unfold iY
  rw [h]
  dsimp only [bO]
  rw [hd]
  rfl
theorem iz_ev {g h : Y} {ρ : Rho} {s s1 s2 : Src} {xs ys : List D} (h1 : g ρ s = some (.list xs, s1)) (h2 : h ρ s1 = some (.list ys, s2)) : iZ g h ρ s = some (xs.zip ys, s2) := by
  unfold iZ
  rw [h1]
  dsimp only [bO]
  rw [h2]
theorem lcGo_evm {α β : Type} {e : β → α} {bind : α → Rho → Option Rho} {t : Yb} {el : Y} {ρ : Rho} {s : Src} (p : β → Bool) (f : β → D) : ∀ (xs : List β) (acc : List D),
    (∀ x ∈ xs, ∃ ρ1, bind (e x) ρ = some ρ1 ∧ t ρ1 s = some (p x, s) ∧ (p x = true → el ρ1 s = some (f x, s))) → acc.length + xs.length ≤ lim → lcGo bind t el (xs.map e) acc ρ s = some (acc ++ (xs.filter p).map f, s)
  | [], acc, _, _ => by
    rw [List.filter_nil, List.map_nil, List.map_nil, List.append_nil]
    rfl
  | x :: xs, acc, h, hl => by
    obtain ⟨ρ1, e1, e2, e3⟩ := h x List.mem_cons_self
    rw [List.length_cons] at hl
    rw [List.map_cons]
    unfold lcGo
    rw [e1]
    dsimp only [mO]
    rw [e2]
    dsimp only [bO]
    cases hx : p x with
    | false =>
      rw [if_neg Bool.false_ne_true, lcGo_evm p f xs acc (fun y hy => h y (List.mem_cons_of_mem _ hy)) (by omega), List.filter_cons, hx, if_neg Bool.false_ne_true]
    | true =>
      rw [if_pos rfl, e3 hx]
      dsimp only
      rw [if_pos (by omega), lcGo_evm p f xs (acc ++ [f x]) (fun y hy => h y (List.mem_cons_of_mem _ hy)) (by rw [List.length_append, List.length_singleton]; omega), List.filter_cons, hx, if_pos rfl, List.map_cons, List.append_assoc]
      rfl
/-- a comprehension over encoded items -/
theorem lcE_ev {α : Type} {e : α → D} {fi : Yl} {i : Nat} {t : Yb} {el : Y} {vs : List Nat} {ρ : Rho} {s s1 : Src} {xs : List α} (p : α → Bool) (f : α → D) (h0 : fi ρ s = some (xs.map e, s1))
    (h : ∀ x ∈ xs, t ((wipeR ρ vs).set i (.fz (e x))) s1 = some (p x, s1) ∧ (p x = true → el ((wipeR ρ vs).set i (.fz (e x))) s1 = some (f x, s1))) (hl : xs.length ≤ lim) : lcY fi (bN i) t el vs ρ s = some ((xs.filter p).map f, s1) := by
  unfold lcY
  rw [h0]
  dsimp only [bO]
  rw [lcGo_evm p f xs [] (fun x hx => ⟨_, rfl, h x hx⟩) (by rw [List.length_nil]; omega)]
  rfl
end DL
namespace DL
open PySem L2
theorem forE_fold {β γ : Type} {e : γ → D} {i : Nat} {G : Z} (R : β → Rho → Prop) (step : β → γ → β) {s : Src} : ∀ (xs : List γ) (b : β) (ρ : Rho),
    (∀ b x ρ, x ∈ xs → R b ρ → ∃ ρ2, G (ρ.set i (.fz (e x))) s = some (.nx ρ2, s) ∧ R (step b x) ρ2) → R b ρ → ∃ ρ', forGo (bN i) G (xs.map e) ρ s = some (.nx ρ', s) ∧ R (xs.foldl step b) ρ'
  | [], b, ρ, _, h0 => ⟨ρ, rfl, h0⟩
  | x :: xs, b, ρ, h, h0 => by
    obtain ⟨ρ2, e2, e3⟩ := h b x ρ List.mem_cons_self h0
    obtain ⟨ρ', e4, e5⟩ := forE_fold R step xs (step b x) ρ2 (fun b y ρ hy => h b y ρ (List.mem_cons_of_mem _ hy)) e3
    refine ⟨ρ', ?_, e5⟩
    show bO (G (ρ.set i (.fz (e x))) s) _ = _
    rw [e2]
    exact e4
theorem forE_all {γ : Type} {e : γ → D} {i : Nat} {G : Z} (R : Rho → Prop) (ok : γ → Bool) (d : D) {s : Src} : ∀ (xs : List γ) (ρ : Rho),
    (∀ x ρ, x ∈ xs → R ρ → (ok x = true → ∃ ρ2, G (ρ.set i (.fz (e x))) s = some (.nx ρ2, s) ∧ R ρ2) ∧ (ok x = false → G (ρ.set i (.fz (e x))) s = some (.rt d, s))) → R ρ →
      if xs.all ok = true then ∃ ρ', forGo (bN i) G (xs.map e) ρ s = some (.nx ρ', s) ∧ R ρ' else forGo (bN i) G (xs.map e) ρ s = some (.rt d, s)
  | [], ρ, _, h0 => by
    rw [List.all_nil, if_pos rfl]
    exact ⟨ρ, rfl, h0⟩
  | x :: xs, ρ, h, h0 => by
    obtain ⟨e2, e3⟩ := h x ρ List.mem_cons_self h0
    rw [List.map_cons]
    unfold forGo
    dsimp only [mO, bN]
    cases hx : ok x with
    | false =>
      rw [e3 hx, List.all_cons, hx, Bool.false_and, if_neg Bool.false_ne_true]
      rfl
    | true =>
      obtain ⟨ρ2, e4, e5⟩ := e2 hx
      rw [e4, List.all_cons, hx, Bool.true_and]
      exact forE_all R ok d xs ρ2 (fun y ρ hy => h y ρ (List.mem_cons_of_mem _ hy)) e5
end DL
namespace DL
open PySem L2
theorem seq_s {a b : Z} {ρ ρ1 : Rho} {s s1 : Src} {r : Option (Fl × Src)} (h : a ρ s = some (.nx ρ1, s1)) (h2 : b ρ1 s1 = r) : seqS a b ρ s = r := (seq_nx h).trans h2
theorem for_s {α : Type} {fi : Rho → Src → Option (List α × Src)} {bind : α → Rho → Option Rho} {G : Z} {ρ : Rho} {s s1 : Src} {xs : List α} {r : Option (Fl × Src)} (h : fi ρ s = some (xs, s1)) (h2 : forGo bind G xs ρ s1 = r) : forS fi bind G ρ s = r := (for_ev h).trans h2
theorem ifY_s {t : Yb} {a b : Y} {ρ : Rho} {s s1 : Src} {x : Bool} {r : Option (D × Src)} (h : t ρ s = some (x, s1)) (h2 : (if x = true then a ρ s1 else b ρ s1) = r) : ifY t a b ρ s = r := (ifY_ev h).trans h2
theorem if_s {c : Yb} {a b : Z} {ρ : Rho} {s s1 : Src} {x : Bool} {r : Option (Fl × Src)} (h : c ρ s = some (x, s1)) (h2 : (if x = true then a ρ s1 else b ρ s1) = r) : ifS c a b ρ s = r := (if_ev h).trans h2
theorem frz_s {i : Nat} {G : Z} {ρ : Rho} {s : Src} {ds : List D} {r : Option (Fl × Src)} (hi : ρ[i]? = some (.ow ds)) (h : G (ρ.set i (.fz (.list ds))) s = r) : frzS i G ρ s = r := (frz_ev hi).trans h
end DL
namespace DL
open PySem L2
theorem fold_s {β γ : Type} {e : γ → D} {i : Nat} {fi : Yl} {G rest : Z} {ρ : Rho} {s s1 : Src} {r : Option (Fl × Src)} {xs : List γ} (h0 : fi ρ s = some (xs.map e, s1)) (R : β → Rho → Prop) (step : β → γ → β) (b : β)
    (h : ∀ b x ρ, x ∈ xs → R b ρ → ∃ ρ2, G (ρ.set i (.fz (e x))) s1 = some (.nx ρ2, s1) ∧ R (step b x) ρ2) (hR : R b ρ) (k : ∀ ρ', R (xs.foldl step b) ρ' → rest ρ' s1 = r) : seqS (forS fi (bN i) G) rest ρ s = r := by
  obtain ⟨ρ', e1, e2⟩ := forE_fold (G := G) (i := i) (s := s1) R step xs b ρ h hR
  exact seq_s (for_s h0 e1) (k ρ' e2)
theorem all_s {γ : Type} {e : γ → D} {i : Nat} {fi : Yl} {G rest : Z} {ρ : Rho} {s s1 : Src} {r : Option (Fl × Src)} {xs : List γ} (h0 : fi ρ s = some (xs.map e, s1)) (R : Rho → Prop) (ok : γ → Bool) (d : D)
    (h : ∀ x ρ, x ∈ xs → R ρ → (ok x = true → ∃ ρ2, G (ρ.set i (.fz (e x))) s1 = some (.nx ρ2, s1) ∧ R ρ2) ∧ (ok x = false → G (ρ.set i (.fz (e x))) s1 = some (.rt d, s1))) (hR : R ρ)
    (k : xs.all ok = true → ∀ ρ', R ρ' → rest ρ' s1 = r) (k2 : xs.all ok = false → some (.rt d, s1) = r) : seqS (forS fi (bN i) G) rest ρ s = r := by
  have L := forE_all (G := G) (i := i) (s := s1) R ok d xs ρ h hR
  cases hx : xs.all ok with
  | true =>
    rw [hx, if_pos rfl] at L
    obtain ⟨ρ', e1, e2⟩ := L
    exact seq_s (for_s h0 e1) (k hx ρ' e2)
  | false =>
    rw [hx, if_neg Bool.false_ne_true] at L
    rw [← k2 hx]
    exact seq_rt ((for_ev h0).trans L)
theorem rel_s {γ : Type} {fi : Rho → Src → Option (List γ × Src)} {bind : γ → Rho → Option Rho} {G rest : Z} {ρ : Rho} {s s1 : Src} {xs : List γ} (h0 : fi ρ s = some (xs, s1)) (I : Nat → Rho → Src → Prop) (Post : Fl → Src → Prop)
    (h : ∀ i x ρ s, xs[i]? = some x → I i ρ s → ∃ ρ1 fl s1, bind x ρ = some ρ1 ∧ G ρ1 s = some (fl, s1) ∧ match fl with
      | .nx ρ2 => I (i + 1) ρ2 s1
      | .ct ρ2 => I (i + 1) ρ2 s1
      | .bk ρ2 => ∃ fl s2, rest ρ2 s1 = some (fl, s2) ∧ Post fl s2
      | .rt d => Post (.rt d) s1) (hI : I 0 ρ s1) (k : ∀ ρ s, I xs.length ρ s → ∃ fl s2, rest ρ s = some (fl, s2) ∧ Post fl s2) : ∃ fl s2, seqS (forS fi bind G) rest ρ s = some (fl, s2) ∧ Post fl s2 := by
  obtain ⟨fl, s2, e1, e2⟩ := forGo_rel (G := G) (bind := bind) (xs := xs) I (fun fl s => match fl with
      | .nx ρ2 => ∃ fl s2, rest ρ2 s = some (fl, s2) ∧ Post fl s2
      | .rt d => Post (.rt d) s
      | _ => False) (fun i x ρ s hx hi => by
        obtain ⟨ρ1, fl, s1, e1, e2, e3⟩ := h i x ρ s hx hi
        refine ⟨ρ1, fl, s1, e1, e2, ?_⟩
        cases fl <;> exact e3) k hI
  have e3 := (for_ev h0).trans e1
  cases fl with
  | nx ρ2 =>
    obtain ⟨fl, s3, z1, z2⟩ := e2
    exact ⟨fl, s3, seq_s e3 z1, z2⟩
  | rt d => exact ⟨_, _, seq_rt e3, e2⟩
  | bk _ => exact e2.elim
  | ct _ => exact e2.elim
end DL
namespace DL
open PySem L2
theorem fold_x {β γ : Type} {e : γ → D} {i : Nat} {fi : Yl} {G : Z} {ρ : Rho} {s s1 : Src} {xs : List γ} (h0 : fi ρ s = some (xs.map e, s1)) (R : β → Rho → Prop) (step : β → γ → β) (b : β)
    (h : ∀ b x ρ, x ∈ xs → R b ρ → ∃ ρ2, G (ρ.set i (.fz (e x))) s1 = some (.nx ρ2, s1) ∧ R (step b x) ρ2) (hR : R b ρ) : ∃ ρ', forS fi (bN i) G ρ s = some (.nx ρ', s1) ∧ R (xs.foldl step b) ρ' := by
  obtain ⟨ρ', e1, e2⟩ := forE_fold (G := G) (i := i) (s := s1) R step xs b ρ h hR
  exact ⟨ρ', for_s h0 e1, e2⟩
theorem forM_all {α γ : Type} {e : γ → α} {bind : α → Rho → Option Rho} {G : Z} (R : Rho → Prop) (ok : γ → Bool) (d : D) {s : Src} : ∀ (xs : List γ) (ρ : Rho),
    (∀ x ρ, x ∈ xs → R ρ → ∃ ρ1, bind (e x) ρ = some ρ1 ∧ (ok x = true → ∃ ρ2, G ρ1 s = some (.nx ρ2, s) ∧ R ρ2) ∧ (ok x = false → G ρ1 s = some (.rt d, s))) → R ρ →
      if xs.all ok = true then ∃ ρ', forGo bind G (xs.map e) ρ s = some (.nx ρ', s) ∧ R ρ' else forGo bind G (xs.map e) ρ s = some (.rt d, s)
  | [], ρ, _, h0 => by
    rw [List.all_nil, if_pos rfl]
    exact ⟨ρ, rfl, h0⟩
  | x :: xs, ρ, h, h0 => by
    obtain ⟨ρ1, e1, e2, e3⟩ := h x ρ List.mem_cons_self h0
    rw [List.map_cons]
    unfold forGo
    rw [e1]
    dsimp only [mO]
    cases hx : ok x with
    | false =>
      rw [e3 hx, List.all_cons, hx, Bool.false_and, if_neg Bool.false_ne_true]
      rfl
    | true =>
      obtain ⟨ρ2, e4, e5⟩ := e2 hx
      rw [e4, List.all_cons, hx, Bool.true_and]
      exact forM_all R ok d xs ρ2 (fun y ρ hy => h y ρ (List.mem_cons_of_mem _ hy)) e5
theorem all_x {α γ : Type} {e : γ → α} {fi : Rho → Src → Option (List α × Src)} {bind : α → Rho → Option Rho} {G : Z} {ρ : Rho} {s s1 : Src} {xs : List γ} (h0 : fi ρ s = some (xs.map e, s1)) (R : Rho → Prop) (ok : γ → Bool) (d : D)
    (h : ∀ x ρ, x ∈ xs → R ρ → ∃ ρ1, bind (e x) ρ = some ρ1 ∧ (ok x = true → ∃ ρ2, G ρ1 s1 = some (.nx ρ2, s1) ∧ R ρ2) ∧ (ok x = false → G ρ1 s1 = some (.rt d, s1))) (hR : R ρ) :
    (xs.all ok = true → ∃ ρ2, forS fi bind G ρ s = some (.nx ρ2, s1) ∧ R ρ2) ∧ (xs.all ok = false → forS fi bind G ρ s = some (.rt d, s1)) := by
  have L := forM_all (G := G) (bind := bind) (s := s1) R ok d xs ρ h hR
  rw [for_ev h0]
  cases hx : xs.all ok with
  | true =>
    rw [hx, if_pos rfl] at L
    exact ⟨fun _ => L, fun z => nomatch z⟩
  | false =>
    rw [hx, if_neg Bool.false_ne_true] at L
    exact ⟨fun z => (nomatch z), fun _ => L⟩
theorem cut_take {α : Type} (xs : List α) (i : Nat) : cutL xs none (some (i : Int)) = xs.take i := by
  unfold cutL
  rw [HT.sIx_nat, HT.sIx_none, List.drop_zero, Nat.sub_zero]
  by_cases h : i ≤ xs.length
  · rw [Nat.min_eq_left h]
  · rw [Nat.min_eq_right (by omega), List.take_of_length_le (Nat.le_refl _), List.take_of_length_le (by omega)]
theorem cut_drop {α : Type} (xs : List α) (i : Nat) : cutL xs (some (i : Int)) none = xs.drop i := by
  unfold cutL
  rw [HT.sIx_nat, HT.sIx_none]
  by_cases h : i ≤ xs.length
  · rw [Nat.min_eq_left h, List.take_of_length_le (by rw [List.length_drop]; exact Nat.le_refl _)]
  · rw [Nat.min_eq_right (by omega), List.drop_eq_nil_of_le (Nat.le_refl _), List.drop_eq_nil_of_le (by omega), List.take_nil]
theorem cut_mid {α : Type} (xs : List α) (i j : Nat) (hj : j ≤ xs.length) : cutL xs (some (i : Int)) (some (j : Int)) = (xs.drop i).take (j - i) := by
  unfold cutL
  rw [HT.sIx_nat, HT.sIx_nat, Nat.min_eq_left hj]
  by_cases h : i ≤ xs.length
  · rw [Nat.min_eq_left h]
  · rw [Nat.min_eq_right (by omega), List.drop_eq_nil_of_le (Nat.le_refl _), List.drop_eq_nil_of_le (show xs.length ≤ i by omega), List.take_nil, List.take_nil]
theorem sl_ev {a : Y} {l u : Yo} {ρ : Rho} {s s1 s2 s3 : Src} {x d : D} {lo hi : Option Int} (h1 : a ρ s = some (x, s1)) (h2 : l ρ s1 = some (lo, s2)) (h3 : u ρ s2 = some (hi, s3)) (h4 : slD x lo hi = some d) : slY slD a l u ρ s = some (d, s3) := by
  unfold slY
  rw [h1]
  dsimp only [bO]
  rw [h2]
  dsimp only [bO]
  rw [h3]
  dsimp only [bO]
  rw [h4]
  rfl
theorem oy_ev {g : Y} {ρ : Rho} {s s1 : Src} {n : Nat} (h : g ρ s = some (eN n, s1)) : oYes g ρ s = some (some (n : Int), s1) := by
  unfold oYes
  rw [h]
  rfl
theorem sl_takeT {α : Type} (e : En α) (xs : List α) (i : Nat) : slD (e.tup.f xs) none (some (i : Int)) = some (e.tup.f (xs.take i)) := by
  show some (PyData.tuple (cutL (xs.map e.f) none (some (i : Int)))) = _
  rw [cut_take, ← List.map_take]
  rfl
theorem sl_dropT {α : Type} (e : En α) (xs : List α) (i : Nat) : slD (e.tup.f xs) (some (i : Int)) none = some (e.tup.f (xs.drop i)) := by
  show some (PyData.tuple (cutL (xs.map e.f) (some (i : Int)) none)) = _
  rw [cut_drop, ← List.map_drop]
  rfl
theorem sl_midT {α : Type} (e : En α) (xs : List α) (i j : Nat) (hj : j ≤ xs.length) : slD (e.tup.f xs) (some (i : Int)) (some (j : Int)) = some (e.tup.f ((xs.drop i).take (j - i))) := by
  show some (PyData.tuple (cutL (xs.map e.f) (some (i : Int)) (some (j : Int)))) = _
  rw [cut_mid _ _ _ (by rw [List.length_map]; exact hj), ← List.map_drop, ← List.map_take]
  rfl
theorem sortC_T (xs : List Nat) : sortC [.tuple (xs.map eN)] = some ((sortN xs).map eN) := sortC_N xs
end DL
/-! ### draws -/
namespace DL
open PySem L2
theorem pick_ev {n : Nat} (h0 : 0 < n) (h : n < 1000000) (s : Src) : ∃ k s', k < n ∧ pickM [eN n] s = some (eN k, s') := by
  have hr := pick_range (n : Int) s
  rw [show mx1 (n : Int) = n by unfold mx1; split <;> omega] at hr
  refine ⟨(pickP n s).1.toNat, (pickP n s).2, by omega, ?_⟩
  have : pickM [eN n] s = some (.int (pickP n s).1, (pickP n s).2) := pickM_eq s (by omega)
  rw [this]
  show _ = some (PyData.int (((pickP n s).1.toNat : Nat) : Int), _)
  rw [Int.toNat_of_nonneg hr.1]
theorem draw_ev {i n : Nat} {m : List D → Src → Option (D × Src)} {g : Yl} {ρ : Rho} {s s1 : Src} {xs : List D} {r : Option (D × Src)} (h : ρ[i]? = some .sr) (hg : g ρ s = some (xs, s1)) (hn : xs.length = n) (hr : m xs s1 = r) : drawY i n m g ρ s = r := (drawY_ev h hg hn).trans hr
theorem erase_perm {α : Type} (xs : List α) (k : Nat) (h : k < xs.length) : (xs[k] :: xs.eraseIdx k).Perm xs := by
  induction xs generalizing k with
  | nil => exact absurd h (Nat.not_lt_zero _)
  | cons x xs ih =>
    cases k with
    | zero => exact .refl _
    | succ k =>
      rw [List.eraseIdx_cons_succ]
      exact (List.Perm.swap _ _ _).trans ((ih k (by simpa using h)).cons x)
theorem mixedGo_perm : ∀ (n : Nat) (xs : List D) (s : Src), xs.length = n → (mixedGo n xs s).1.Perm xs
  | 0, xs, s, h => by
    rw [List.length_eq_zero_iff.mp h]
    exact .refl _
  | n + 1, xs, s, h => by
    have hr := pick_range (xs.length : Int) s
    rw [show mx1 (xs.length : Int) = xs.length by unfold mx1; split <;> omega] at hr
    have hk : (pickP xs.length s).1.toNat < xs.length := by omega
    unfold mixedGo
    dsimp only
    rw [List.getElem?_eq_getElem hk]
    refine .trans (.cons _ (mixedGo_perm n _ _ (by rw [List.length_eraseIdx, if_pos hk, h]; rfl))) ?_
    exact erase_perm xs _ hk
theorem perm_map_inv {α β : Type} {f : α → β} {ys : List β} {xs : List α} (h : ys.Perm (xs.map f)) : ∃ zs : List α, ys = zs.map f ∧ zs.Perm xs := by
  generalize hm : xs.map f = m at h
  induction h generalizing xs with
  | nil => exact ⟨[], rfl, by rw [List.map_eq_nil_iff.mp hm]⟩
  | cons y _ ih =>
    cases xs with
    | nil => cases hm
    | cons x xs =>
      rw [List.map_cons, List.cons.injEq] at hm
      obtain ⟨zs, h1, h2⟩ := ih hm.2
      exact ⟨x :: zs, by rw [List.map_cons, hm.1, ← h1], h2.cons x⟩
  | swap y z l =>
    match xs, hm with
    | a :: b :: xs, hm =>
      rw [List.map_cons, List.map_cons, List.cons.injEq, List.cons.injEq] at hm
      exact ⟨b :: a :: xs, by rw [List.map_cons, List.map_cons, hm.1, hm.2.1, hm.2.2], .swap _ _ _⟩
  | trans _ _ ih1 ih2 =>
    obtain ⟨zs, h1, h2⟩ := ih2 hm
    obtain ⟨ws, h3, h4⟩ := ih1 h1.symm
    exact ⟨ws, h3, h4.trans h2⟩
theorem mix_ev {α : Type} {f : α → D} (xs : List α) (s : Src) (h : xs.length < 1000) : ∃ (ys : List α) (s' : Src), ys.Perm xs ∧ mixedM [.list (xs.map f)] s = some (.list (ys.map f), s') := by
  obtain ⟨ys, h1, h2⟩ := perm_map_inv (mixedGo_perm (xs.map f).length (xs.map f) s rfl)
  refine ⟨ys, (mixedGo (xs.map f).length (xs.map f) s).2, h2, ?_⟩
  show (if (xs.map f).length < 1000 then _ else _) = _
  rw [if_pos (by rw [List.length_map]; exact h), h1]
theorem mix_evT {α : Type} {f : α → D} (xs : List α) (s : Src) (h : xs.length < 1000) : ∃ (ys : List α) (s' : Src), ys.Perm xs ∧ mixedM [.tuple (xs.map f)] s = some (.list (ys.map f), s') := mix_ev xs s h
theorem rel_x {γ : Type} {fi : Rho → Src → Option (List γ × Src)} {bind : γ → Rho → Option Rho} {G : Z} {ρ : Rho} {s s1 : Src} {xs : List γ} (h0 : fi ρ s = some (xs, s1)) (I : Nat → Rho → Src → Prop)
    (h : ∀ i x ρ s, xs[i]? = some x → I i ρ s → ∃ ρ1 ρ2 s1, bind x ρ = some ρ1 ∧ G ρ1 s = some (.nx ρ2, s1) ∧ I (i + 1) ρ2 s1) (hI : I 0 ρ s1) : ∃ ρ2 s2, forS fi bind G ρ s = some (.nx ρ2, s2) ∧ I xs.length ρ2 s2 := by
  obtain ⟨fl, s2, e1, e2⟩ := forGo_rel (G := G) (bind := bind) (xs := xs) I (fun fl s => ∃ ρ2, fl = .nx ρ2 ∧ I xs.length ρ2 s) (fun i x ρ s hx hi => by
    obtain ⟨ρ1, ρ2, s1, e1, e2, e3⟩ := h i x ρ s hx hi
    exact ⟨ρ1, .nx ρ2, s1, e1, e2, e3⟩) (fun ρ s hi => ⟨ρ, rfl, hi⟩) hI
  obtain ⟨ρ2, rfl, e3⟩ := e2
  exact ⟨ρ2, s2, for_s h0 e1, e3⟩
end DL
namespace DL
open PySem L2
theorem ch_ev {f g : D → D → Option D} {a b c : Y} {ρ : Rho} {s s1 s2 s3 : Src} {x y w : D} {p q : Bool} (h1 : a ρ s = some (x, s1)) (h2 : b ρ s1 = some (y, s2)) (h3 : f x y = some (.bool p)) (h4 : p = true → c ρ s2 = some (w, s3) ∧ g y w = some (.bool q)) (h5 : p = false → s2 = s3) :
    chY f g a b c ρ s = some (.bool (p && q), s3) := by
  unfold chY
  rw [h1]
  dsimp only [bO]
  rw [h2]
  dsimp only [bO]
  rw [h3]
  dsimp only [mO]
  cases p with
  | true =>
    obtain ⟨e1, e2⟩ := h4 rfl
    dsimp only
    rw [e1]
    dsimp only [bO]
    rw [e2]
    rfl
  | false =>
    rw [h5 rfl]
    rfl
end DL
namespace DL
open PySem L2
theorem rel_nx {γ : Type} {fi : Rho → Src → Option (List γ × Src)} {bind : γ → Rho → Option Rho} {G rest : Z} {ρ : Rho} {s s1 : Src} {xs : List γ} {fl0 : Fl} (h0 : fi ρ s = some (xs, s1)) (I : Rho → Prop)
    (h : ∀ x ρ s, x ∈ xs → I ρ → ∃ ρ1 ρ2 s1, bind x ρ = some ρ1 ∧ G ρ1 s = some (.nx ρ2, s1) ∧ I ρ2) (hI : I ρ) (k : ∀ ρ s, I ρ → ∃ s2, rest ρ s = some (fl0, s2)) : ∃ s2, seqS (forS fi bind G) rest ρ s = some (fl0, s2) := by
  obtain ⟨ρ2, s2, e1, e2⟩ := rel_x (G := G) (bind := bind) (s := s) h0 (fun _ ρ _ => I ρ) (fun i x ρ s hx hi => h x ρ s (List.mem_of_getElem? hx) hi) hI
  obtain ⟨s3, e3⟩ := k ρ2 s2 e2
  exact ⟨s3, seq_s e1 e3⟩
theorem rel_nx1 {γ : Type} {fi : Rho → Src → Option (List γ × Src)} {bind : γ → Rho → Option Rho} {G : Z} {ρ : Rho} {s s1 : Src} {xs : List γ} (h0 : fi ρ s = some (xs, s1)) (I : Rho → Prop)
    (h : ∀ x ρ s, x ∈ xs → I ρ → ∃ ρ1 ρ2 s1, bind x ρ = some ρ1 ∧ G ρ1 s = some (.nx ρ2, s1) ∧ I ρ2) (hI : I ρ) : ∃ ρ2 s2, forS fi bind G ρ s = some (.nx ρ2, s2) ∧ I ρ2 := by
  obtain ⟨ρ2, s2, e1, e2⟩ := rel_x (G := G) (bind := bind) (s := s) h0 (fun _ ρ _ => I ρ) (fun i x ρ s hx hi => h x ρ s (List.mem_of_getElem? hx) hi) hI
  exact ⟨ρ2, s2, e1, e2⟩
/-- a comprehension without a test, its items encoded -/
theorem lcG_ev {α β : Type} {e : α → D} {e' : β → D} {fi : Yl} {i : Nat} {el : Y} {vs : List Nat} {ρ : Rho} {s s1 : Src} {xs : List α} (g : α → β) (h0 : fi ρ s = some (xs.map e, s1))
    (h : ∀ x ∈ xs, el ((wipeR ρ vs).set i (.fz (e x))) s1 = some (e' (g x), s1)) (hl : xs.length ≤ lim) : lcY fi (bN i) yesT el vs ρ s = some ((xs.map g).map e', s1) := by
  rw [lcE_ev (fun _ => true) (fun x => e' (g x)) h0 (fun x hx => ⟨rfl, fun _ => h x hx⟩) hl, List.filter_eq_self.mpr fun _ _ => rfl, List.map_map]
  rfl
/-- a comprehension that only chooses -/
theorem lcF_ev {α : Type} {e : α → D} {fi : Yl} {i : Nat} {t : Yb} {el : Y} {vs : List Nat} {ρ : Rho} {s s1 : Src} {xs : List α} (p : α → Bool) (h0 : fi ρ s = some (xs.map e, s1))
    (h : ∀ x ∈ xs, t ((wipeR ρ vs).set i (.fz (e x))) s1 = some (p x, s1) ∧ el ((wipeR ρ vs).set i (.fz (e x))) s1 = some (e x, s1)) (hl : xs.length ≤ lim) : lcY fi (bN i) t el vs ρ s = some ((xs.filter p).map e, s1) :=
  lcE_ev p e h0 (fun x hx => ⟨(h x hx).1, fun _ => (h x hx).2⟩) hl
end DL
namespace DL
open PySem L2
theorem seq_e {a b : Z} {ρ ρ1 : Rho} {s s1 : Src} {P : Rho → Prop} (h : a ρ s = some (.nx ρ1, s1)) (h2 : ∃ ρ2 s2, b ρ1 s1 = some (.nx ρ2, s2) ∧ P ρ2) : ∃ ρ2 s2, seqS a b ρ s = some (.nx ρ2, s2) ∧ P ρ2 := by
  obtain ⟨ρ2, s2, e1, e2⟩ := h2
  exact ⟨ρ2, s2, seq_s h e1, e2⟩
theorem body_e {i : Nat} {x : D} {G : Z} {ρ : Rho} {s : Src} {P : Rho → Prop} (h : ∃ ρ2 s1, G (ρ.set i (.fz x)) s = some (.nx ρ2, s1) ∧ P ρ2) : ∃ ρ1 ρ2 s1, bN i x ρ = some ρ1 ∧ G ρ1 s = some (.nx ρ2, s1) ∧ P ρ2 := by
  obtain ⟨ρ2, s1, h1, h2⟩ := h
  exact ⟨_, ρ2, s1, rfl, h1, h2⟩
end DL
namespace DL
open PySem L2
theorem ifno_e {c : Yb} {a : Z} {ρ : Rho} {s s1 : Src} (h : c ρ s = some (false, s1)) : ifS c a nxS ρ s = some (.nx ρ, s1) := (if_f h).trans rfl
theorem or_no {g h : Yb} {ρ : Rho} {s s1 s2 : Src} (h1 : g ρ s = some (false, s1)) (h2 : h ρ s1 = some (false, s2)) : orT g h ρ s = some (false, s2) := by
  unfold orT
  rw [h1]
  exact h2
end DL

set_option Elab.async false
set_option linter.all false
set_option maxRecDepth 100000
set_option maxHeartbeats 4000000
/-! DM1: more of what the mirrors answer: searches, enumerate, repr, sums. -/
namespace DL
open PySem L2
/-! ### a search: the first item that is not ok ends it -/
theorem forM_find {α γ : Type} {e : γ → α} {bind : α → Rho → Option Rho} {G : Z} (R : Rho → Prop) (ok : γ → Bool) (P : D → Prop) {s : Src} : ∀ (xs : List γ) (ρ : Rho),
    (∀ x ρ, x ∈ xs → R ρ → ∃ ρ1, bind (e x) ρ = some ρ1 ∧ (ok x = true → ∃ ρ2, G ρ1 s = some (.nx ρ2, s) ∧ R ρ2) ∧ (ok x = false → ∃ d, P d ∧ G ρ1 s = some (.rt d, s))) → R ρ →
      (xs.all ok = true → ∃ ρ', forGo bind G (xs.map e) ρ s = some (.nx ρ', s) ∧ R ρ') ∧ (xs.all ok = false → ∃ d, P d ∧ forGo bind G (xs.map e) ρ s = some (.rt d, s))
  | [], ρ, _, h0 => ⟨fun _ => ⟨ρ, rfl, h0⟩, fun z => (nomatch z)⟩
  | x :: xs, ρ, h, h0 => by
    obtain ⟨ρ1, e1, e2, e3⟩ := h x ρ List.mem_cons_self h0
    rw [List.map_cons]
    unfold forGo
    rw [e1]
    dsimp only [mO]
    rw [List.all_cons]
    cases hx : ok x with
    | false =>
      obtain ⟨d, hd, e4⟩ := e3 hx
      refine ⟨fun z => (nomatch z), fun _ => ⟨d, hd, ?_⟩⟩
      rw [e4]
      rfl
    | true =>
      obtain ⟨ρ2, e4, e5⟩ := e2 hx
      rw [e4, Bool.true_and]
      exact forM_find R ok P xs ρ2 (fun y ρ hy => h y ρ (List.mem_cons_of_mem _ hy)) e5
theorem find_x {α γ : Type} {e : γ → α} {fi : Rho → Src → Option (List α × Src)} {bind : α → Rho → Option Rho} {G : Z} {ρ : Rho} {s s1 : Src} {xs : List γ} (h0 : fi ρ s = some (xs.map e, s1)) (R : Rho → Prop) (ok : γ → Bool) (P : D → Prop)
    (h : ∀ x ρ, x ∈ xs → R ρ → ∃ ρ1, bind (e x) ρ = some ρ1 ∧ (ok x = true → ∃ ρ2, G ρ1 s1 = some (.nx ρ2, s1) ∧ R ρ2) ∧ (ok x = false → ∃ d, P d ∧ G ρ1 s1 = some (.rt d, s1))) (hR : R ρ) :
    (xs.all ok = true → ∃ ρ2, forS fi bind G ρ s = some (.nx ρ2, s1) ∧ R ρ2) ∧ (xs.all ok = false → ∃ d, P d ∧ forS fi bind G ρ s = some (.rt d, s1)) := by
  rw [for_ev h0]
  exact forM_find R ok P xs ρ h hR
/-- a loop that carries b, its items encoded, bound in any way -/
theorem forM_fold {α β γ : Type} {e : γ → α} {bind : α → Rho → Option Rho} {G : Z} (R : β → Rho → Prop) (step : β → γ → β) {s : Src} : ∀ (xs : List γ) (b : β) (ρ : Rho),
    (∀ b x ρ, x ∈ xs → R b ρ → ∃ ρ1 ρ2, bind (e x) ρ = some ρ1 ∧ G ρ1 s = some (.nx ρ2, s) ∧ R (step b x) ρ2) → R b ρ → ∃ ρ', forGo bind G (xs.map e) ρ s = some (.nx ρ', s) ∧ R (xs.foldl step b) ρ'
  | [], b, ρ, _, h0 => ⟨ρ, rfl, h0⟩
  | x :: xs, b, ρ, h, h0 => by
    obtain ⟨ρ1, ρ2, e1, e2, e3⟩ := h b x ρ List.mem_cons_self h0
    obtain ⟨ρ', e4, e5⟩ := forM_fold R step xs (step b x) ρ2 (fun b y ρ hy => h b y ρ (List.mem_cons_of_mem _ hy)) e3
    refine ⟨ρ', ?_, e5⟩
    rw [List.map_cons]
    unfold forGo
    rw [e1]
    dsimp only [mO]
    rw [e2]
    exact e4
theorem foldM_s {α β γ : Type} {e : γ → α} {fi : Rho → Src → Option (List α × Src)} {bind : α → Rho → Option Rho} {G rest : Z} {ρ : Rho} {s s1 : Src} {r : Option (Fl × Src)} {xs : List γ} (h0 : fi ρ s = some (xs.map e, s1)) (R : β → Rho → Prop) (step : β → γ → β) (b : β)
    (h : ∀ b x ρ, x ∈ xs → R b ρ → ∃ ρ1 ρ2, bind (e x) ρ = some ρ1 ∧ G ρ1 s1 = some (.nx ρ2, s1) ∧ R (step b x) ρ2) (hR : R b ρ) (k : ∀ ρ', R (xs.foldl step b) ρ' → rest ρ' s1 = r) : seqS (forS fi bind G) rest ρ s = r := by
  obtain ⟨ρ', e1, e2⟩ := forM_fold (G := G) (bind := bind) (s := s1) R step xs b ρ h hR
  exact seq_s (for_s h0 e1) (k ρ' e2)
/-! ### enumerate -/
def pairs {α : Type} (xs : List α) : List (Nat × α) := (List.range xs.length).zip xs
theorem enL_map {α : Type} (e : α → D) (xs : List α) : enL (xs.map e) = (pairs xs).map fun p => (eN p.1, e p.2) := by
  unfold enL pairs
  rw [List.length_map]
  show ((List.range xs.length).map eN).zip (xs.map e) = ((List.range xs.length).zip xs).map (Prod.map eN e)
  rw [List.zip_map]
theorem ien_ev {α : Type} {e : α → D} {g : Y} {ρ : Rho} {s s1 : Src} {d : D} {xs : List α} (h : g ρ s = some (d, s1)) (hd : itemsD d = some (xs.map e)) : iEn g ρ s = some ((pairs xs).map fun p => (eN p.1, e p.2), s1) := by
  unfold iEn
  rw [h]
  dsimp only [bO]
  rw [hd]
  dsimp only [mO]
  rw [enL_map]
theorem mem_pairs {α : Type} {xs : List α} {p : Nat × α} (h : p ∈ pairs xs) : ∃ hl : p.1 < xs.length, xs[p.1] = p.2 := by
  obtain ⟨k, hk⟩ := List.getElem?_of_mem h
  unfold pairs at hk
  rw [List.getElem?_zip_eq_some] at hk
  obtain ⟨h1, h2⟩ := hk
  obtain ⟨h3, h4⟩ := List.getElem?_eq_some_iff.mp h1
  rw [List.getElem_range] at h4
  obtain ⟨h5, h6⟩ := List.getElem?_eq_some_iff.mp h2
  subst h4
  exact ⟨h5, h6⟩
/-! ### repr -/
structure Sz (W : Nat) (d : D) : Prop where
  w : PyData.weight d ≤ W
  s : shortD d = true
theorem Sz.mono {W V : Nat} {d : D} (h : Sz W d) (hv : W ≤ V) : Sz V d := ⟨Nat.le_trans h.w hv, h.s⟩
theorem sz_N {n : Nat} (h : n < 10 ^ 12) : Sz 40 (eN n) := by
  refine ⟨?_, ?_⟩
  · show PyData.weight (.int (n : Int)) ≤ 40
    rw [PyData.weight]
    split
    · omega
    · rename_i h0
      rw [Int.natAbs_natCast]
      have hn : n ≠ 0 := fun z => h0 (by rw [z]; rfl)
      have : n.log2 < 40 := (Nat.log2_lt hn).mpr (Nat.lt_of_lt_of_le h (by decide))
      omega
  · show shortD (.int (n : Int)) = true
    unfold shortD
    rw [Int.natAbs_natCast]
    exact decide_eq_true h
theorem sz_bool (b : Bool) : Sz 0 (.bool b) := ⟨by rw [PyData.weight]; exact Nat.le_refl _, by unfold shortD; rfl⟩
theorem sz_none : Sz 0 (.none) := ⟨by rw [PyData.weight]; exact Nat.le_refl _, by unfold shortD; rfl⟩
theorem sz_all {α : Type} {f : α → D} {W : Nat} : ∀ {xs : List α}, (∀ x ∈ xs, Sz W (f x)) → PyData.weightAll (xs.map f) ≤ xs.length * (W + 1) ∧ shortAll (xs.map f) = true
  | [], _ => ⟨by rw [List.map_nil, PyData.weightAll]; exact Nat.zero_le _, by unfold shortAll; rfl⟩
  | x :: xs, h => by
    obtain ⟨h1, h2⟩ := sz_all (xs := xs) fun y hy => h y (List.mem_cons_of_mem _ hy)
    have h3 := h x List.mem_cons_self
    rw [List.map_cons, PyData.weightAll, List.length_cons, Nat.succ_mul]
    refine ⟨?_, ?_⟩
    · have := h3.w
      omega
    · unfold shortAll
      rw [h3.s, h2]
      rfl
theorem sz_lst {α : Type} {f : α → D} {W N : Nat} {xs : List α} (h : ∀ x ∈ xs, Sz W (f x)) (hl : xs.length ≤ N) : Sz (N * (W + 1)) (.list (xs.map f)) := by
  obtain ⟨h1, h2⟩ := sz_all h
  refine ⟨by rw [PyData.weight]; exact Nat.le_trans h1 (Nat.mul_le_mul_right _ hl), by unfold shortD; exact h2⟩
theorem sz_tup {α : Type} {f : α → D} {W N : Nat} {xs : List α} (h : ∀ x ∈ xs, Sz W (f x)) (hl : xs.length ≤ N) : Sz (N * (W + 1)) (.tuple (xs.map f)) := by
  obtain ⟨h1, h2⟩ := sz_all h
  refine ⟨by rw [PyData.weight]; exact Nat.le_trans h1 (Nat.mul_le_mul_right _ hl), by unfold shortD; exact h2⟩
theorem repr_evD {d : D} {W : Nat} (hc : d.canLay0 = true) (hd : d.depth ≤ 64) (h : Sz W d) (hW : W ≤ 2 ^ 20) : reprC [d] = some (.str d.shown) := by
  have hl : PyData.layable0 d = true := by
    show (PyData.canLay0 d && decide (PyData.depth d ≤ 64) && decide (PyData.weight d ≤ 2 ^ 20)) = true
    rw [hc, decide_eq_true hd, decide_eq_true (Nat.le_trans h.w hW)]
    rfl
  exact if_pos ⟨hl, h.s⟩
theorem En.repr {α : Type} (e : En α) (hp : e.dp ≤ 64) {W : Nat} {a : α} (h : Sz W (e.f a)) (hW : W ≤ 2 ^ 20) : reprC [e.f a] = some (.str (e.f a).shown) := repr_evD (e.can a) (Nat.le_trans (e.hdp a) hp) h hW
theorem neS_same (x : Str) : neD (.str x) (.str x) = some (.bool false) := by
  unfold neD
  split
  · rw [PyData.eqv]
    simp
  · simp
end DL
/-! ### a loop told by what is behind it: l done, x now, r still to come -/
namespace DL
open PySem L2
theorem forM_take {α γ : Type} {e : γ → α} {bind : α → Rho → Option Rho} {G : Z} {s : Src} {xs : List γ} (R : List γ → Rho → Prop) (h : ∀ l x r ρ, xs = l ++ x :: r → R l ρ → ∃ ρ1 ρ2, bind (e x) ρ = some ρ1 ∧ G ρ1 s = some (.nx ρ2, s) ∧ R (l ++ [x]) ρ2) {ρ : Rho} (h0 : R [] ρ) :
    ∃ ρ', forGo bind G (xs.map e) ρ s = some (.nx ρ', s) ∧ R xs ρ' := by
  have gen : ∀ (r l : List γ) (ρ : Rho), xs = l ++ r → R l ρ → ∃ ρ', forGo bind G (r.map e) ρ s = some (.nx ρ', s) ∧ R xs ρ' := by
    intro r
    induction r with
    | nil =>
      intro l ρ hx hR
      rw [List.append_nil] at hx
      subst hx
      exact ⟨ρ, rfl, hR⟩
    | cons x r ih =>
      intro l ρ hx hR
      obtain ⟨ρ1, ρ2, e1, e2, e3⟩ := h l x r ρ hx hR
      obtain ⟨ρ', e4, e5⟩ := ih (l ++ [x]) ρ2 (by rw [hx, List.append_assoc]; rfl) e3
      refine ⟨ρ', ?_, e5⟩
      rw [List.map_cons]
      unfold forGo
      rw [e1]
      dsimp only [mO]
      rw [e2]
      exact e4
  exact gen xs [] ρ rfl h0
theorem take_s {α γ : Type} {e : γ → α} {fi : Rho → Src → Option (List α × Src)} {bind : α → Rho → Option Rho} {G rest : Z} {ρ : Rho} {s s1 : Src} {r : Option (Fl × Src)} {xs : List γ} (h0 : fi ρ s = some (xs.map e, s1)) (R : List γ → Rho → Prop)
    (h : ∀ l x r ρ, xs = l ++ x :: r → R l ρ → ∃ ρ1 ρ2, bind (e x) ρ = some ρ1 ∧ G ρ1 s1 = some (.nx ρ2, s1) ∧ R (l ++ [x]) ρ2) (hR : R [] ρ) (k : ∀ ρ', R xs ρ' → rest ρ' s1 = r) : seqS (forS fi bind G) rest ρ s = r := by
  obtain ⟨ρ', e1, e2⟩ := forM_take (G := G) (bind := bind) (s := s1) R h hR
  exact seq_s (for_s h0 e1) (k ρ' e2)
theorem take_x {α γ : Type} {e : γ → α} {fi : Rho → Src → Option (List α × Src)} {bind : α → Rho → Option Rho} {G : Z} {ρ : Rho} {s s1 : Src} {xs : List γ} (h0 : fi ρ s = some (xs.map e, s1)) (R : List γ → Rho → Prop)
    (h : ∀ l x r ρ, xs = l ++ x :: r → R l ρ → ∃ ρ1 ρ2, bind (e x) ρ = some ρ1 ∧ G ρ1 s1 = some (.nx ρ2, s1) ∧ R (l ++ [x]) ρ2) (hR : R [] ρ) : ∃ ρ', forS fi bind G ρ s = some (.nx ρ', s1) ∧ R xs ρ' := by
  obtain ⟨ρ', e1, e2⟩ := forM_take (G := G) (bind := bind) (s := s1) R h hR
  exact ⟨ρ', for_s h0 e1, e2⟩
theorem mem_le_sum : ∀ {xs : List Nat} {x : Nat}, x ∈ xs → x ≤ xs.sum
  | y :: ys, x, h => by
    rw [List.sum_cons]
    rcases List.mem_cons.mp h with z | z
    · omega
    · have := mem_le_sum z
      omega
end DL
/-! ### lists of lists of one's own -/
namespace DL
open PySem L2
abbrev e2 (T : List (List Nat)) : List (List D) := T.map fun r => r.map eN
theorem aug2_ev {i : Nat} {ga gb ge : Y} {ρ : Rho} {s s1 s2 s3 : Src} {T : List (List Nat)} {a b m : Nat} (h1 : ga ρ s = some (eN a, s1)) (h2 : gb ρ s1 = some (eN b, s2)) (h3 : ge ρ s2 = some (eN m, s3)) (hi : ρ[i]? = some (.o2 (e2 T))) (ha : a < T.length) (hb : b < T[a].length) :
    aug2S (fun i j => i + j) i ga gb ge ρ s = some (.nx (ρ.set i (.o2 (e2 (T.set a (T[a].set b (T[a][b] + m)))))), s3) := by
  unfold aug2S
  rw [h1]
  dsimp only [bO]
  rw [h2]
  rw [hi, show eN a = PyData.int (a : Int) from rfl, show eN b = PyData.int (b : Int) from rfl]
  dsimp only
  have el : (e2 T).length = T.length := List.length_map _
  have g1 : (e2 T)[a]? = some (T[a].map eN) := by
    rw [List.getElem?_map, List.getElem?_eq_getElem ha]
    rfl
  have g2 : (T[a].map eN)[b]? = some (.int (T[a][b] : Nat)) := by
    rw [List.getElem?_map, List.getElem?_eq_getElem hb]
    rfl
  rw [if_pos ⟨by omega, by rw [el]; omega⟩, Int.toNat_natCast, g1]
  dsimp only
  rw [if_pos ⟨by omega, by rw [List.length_map]; omega⟩, Int.toNat_natCast, g2]
  dsimp only
  rw [h3]
  show some (Fl.nx (ρ.set i (.o2 ((e2 T).set a ((T[a].map eN).set b (.int ((T[a][b] : Nat) + (m : Int))))))), s3) = _
  have fin : (e2 T).set a ((T[a].map eN).set b (eN (T[a][b] + m))) = e2 (T.set a (T[a].set b (T[a][b] + m))) := by
    unfold e2
    rw [List.map_set, List.map_set]
  rw [← fin]
  rfl
theorem lc2Go_evm {α β : Type} {e : β → α} {bind : α → Rho → Option Rho} {el : Yl} {ρ : Rho} {s : Src} (f : β → List D) : ∀ (xs : List β) (acc : List (List D)),
    (∀ x ∈ xs, ∃ ρ1, bind (e x) ρ = some ρ1 ∧ el ρ1 s = some (f x, s)) → acc.length + xs.length ≤ lim → lc2Go bind yesT el (xs.map e) acc ρ s = some (acc ++ xs.map f, s)
  | [], acc, _, _ => by
    rw [List.map_nil, List.map_nil, List.append_nil]
    rfl
  | x :: xs, acc, h, hl => by
    obtain ⟨ρ1, e1, e3⟩ := h x List.mem_cons_self
    rw [List.length_cons] at hl
    rw [List.map_cons]
    unfold lc2Go
    rw [e1]
    dsimp only [mO, yesT, bO]
    rw [if_pos rfl, e3]
    dsimp only
    rw [if_pos (by omega), lc2Go_evm f xs (acc ++ [f x]) (fun y hy => h y (List.mem_cons_of_mem _ hy)) (by rw [List.length_append, List.length_singleton]; omega), List.map_cons, List.append_assoc]
    rfl
theorem lc2_ev {α : Type} {e : α → D} {fi : Yl} {i : Nat} {el : Yl} {vs : List Nat} {ρ : Rho} {s s1 : Src} {xs : List α} (f : α → List D) (h0 : fi ρ s = some (xs.map e, s1)) (h : ∀ x ∈ xs, el ((wipeR ρ vs).set i (.fz (e x))) s1 = some (f x, s1)) (hl : xs.length ≤ lim) :
    lc2Y fi (bN i) yesT el vs ρ s = some (xs.map f, s1) := by
  unfold lc2Y
  rw [h0]
  dsimp only [bO]
  rw [lc2Go_evm f xs [] (fun x hx => ⟨_, rfl, h x hx⟩) (by rw [List.length_nil]; omega)]
  rfl
theorem frz2_s {i : Nat} {G : Z} {ρ : Rho} {s : Src} {dss : List (List D)} {r : Option (Fl × Src)} (hi : ρ[i]? = some (.o2 dss)) (h : G (ρ.set i (.fz (.list (dss.map .list)))) s = r) : frzS i G ρ s = r := by
  unfold frzS frzR
  rw [hi]
  exact h
theorem set_mapR {α : Type} (n : Nat) (f : Nat → α) (k : Nat) (v : α) : ((List.range n).map f).set k v = (List.range n).map fun a => if a = k then v else f a := by
  refine List.ext_getElem (by rw [List.length_set, List.length_map, List.length_map]) fun a h1 h2 => ?_
  rw [List.getElem_set, List.getElem_map, List.getElem_map, List.getElem_range]
  by_cases h : k = a
  · rw [if_pos h, if_pos h.symm]
  · rw [if_neg h, if_neg (fun z => h z.symm)]
theorem yn2_ev {f : D → D → Option (List D)} {a b : Y} {ρ : Rho} {s s1 s2 : Src} {x y : D} {d : List D} (h1 : a ρ s = some (x, s1)) (h2 : b ρ s1 = some (y, s2)) (h3 : f x y = some d) : yn2 f a b ρ s = some (d, s2) := by
  unfold yn2
  rw [h1]
  dsimp only [bO]
  rw [h2]
  dsimp only [bO]
  rw [h3]
  rfl
theorem flat_rep (k : Nat) : ∀ m : Nat, (List.replicate m [eN k]).flatten = (List.replicate m k).map eN
  | 0 => rfl
  | m + 1 => by
    rw [List.replicate_succ, List.flatten_cons, flat_rep k m, List.replicate_succ, List.map_cons]
    rfl
theorem mulL_ev {ds : List D} {m : Nat} (h : m ≤ 1000) (h2 : ds.length * m ≤ 100000) : mulD (.list ds) (.int (m : Int)) = some (.list (List.replicate m ds).flatten) := by
  unfold mulD
  have h1 : (decide (-(2 ^ 62) ≤ (m : Int)) && decide ((m : Int) < 2 ^ 62)) = true := by
    rw [decide_eq_true (show -(2 ^ 62) ≤ (m : Int) by omega), decide_eq_true (show (m : Int) < 2 ^ 62 by omega)]
    rfl
  dsimp only
  rw [h1, Int.toNat_natCast, Bool.true_and, if_pos (decide_eq_true (show ds.length * m ≤ lim from h2))]
theorem repN_ev {ds : List D} {m : Nat} (h : m ≤ 1000) (h2 : ds.length * m ≤ 100000) : repN (.list ds) (.int (m : Int)) = some (List.replicate m ds).flatten := by
  unfold repN
  have h1 : (decide (-(2 ^ 62) ≤ (m : Int)) && decide ((m : Int) < 2 ^ 62)) = true := by
    rw [decide_eq_true (show -(2 ^ 62) ≤ (m : Int) by omega), decide_eq_true (show (m : Int) < 2 ^ 62 by omega)]
    rfl
  dsimp only
  rw [h1, Int.toNat_natCast, Bool.true_and, if_pos (decide_eq_true (show ds.length * m ≤ lim from h2))]
theorem rep_N (k m : Nat) (h : m ≤ 1000) : mulB (.list [eN k]) (eN m) = some (.list ((List.replicate m k).map eN)) := by
  have : mulB (.list [eN k]) (eN m) = mulD (.list [eN k]) (.int (m : Int)) := rfl
  rw [this, mulL_ev h (by rw [List.length_singleton]; omega), flat_rep]
theorem repN_N (k m : Nat) (h : m ≤ 1000) : repN (.list [eN k]) (eN m) = some ((List.replicate m k).map eN) := by
  have : repN (.list [eN k]) (eN m) = repN (.list [eN k]) (.int (m : Int)) := rfl
  rw [this, repN_ev h (by rw [List.length_singleton]; omega), flat_rep]
end DL

set_option Elab.async false
set_option linter.all false
set_option maxRecDepth 100000
set_option maxHeartbeats 4000000
/-! DM2: rows. -/
namespace DL
open PySem L2
abbrev eR : List Nat → D := (En.tup En.nat).f
abbrev eRs : List (List Nat) → D := (En.lst (En.tup En.nat)).f
theorem getD_lt {r : List Nat} {i : Nat} (h : i < r.length) : r.getD i 0 = r[i] := by
  rw [List.getD_eq_getElem?_getD, List.getElem?_eq_getElem h]
  rfl
theorem idxT_N {r : List Nat} {k : Nat} (h : k ∈ r) : idxD (eR r) (eN k) = some (eN (r.idxOf k)) := by
  show (if (r.map eN).all scalD = true ∧ scalD (eN k) = true then mO (DL.idxL (eN k) (r.map eN) 0) fun j => some (PyData.int (j : Nat)) else none) = _
  rw [if_pos ⟨by rw [List.all_map, List.all_eq_true]; exact fun _ _ => rfl, rfl⟩, En.nat.idxL, if_pos h, Nat.zero_add]
  rfl
theorem idxL_N {r : List Nat} {k : Nat} (h : k ∈ r) : idxD (.list (r.map eN)) (eN k) = some (eN (r.idxOf k)) := by
  show (if SeqAt.shaped (.list (r.map eN)) = true ∧ SeqAt.shaped (eN k) = true then mO (DL.idxL (eN k) (r.map eN) 0) fun j => some (PyData.int (j : Nat)) else none) = _
  rw [if_pos ⟨(En.lst En.nat).shaped (by decide) r, En.nat.shaped (by decide) k⟩, En.nat.idxL, if_pos h, Nat.zero_add]
  rfl
theorem sum_N (xs : List Nat) : sumC [.list (xs.map eN)] = some (eN xs.sum) := by
  show mO (intsD (xs.map eN)) (fun is => some (PyData.int is.sum)) = _
  rw [intsN]
  show some (PyData.int _) = some (PyData.int _)
  congr 2
  induction xs with
  | nil => rfl
  | cons x xs ih => rw [List.map_cons, List.sum_cons, List.sum_cons, ih, Int.natCast_add]
structure IsRow (n : Nat) (r : List Nat) : Prop where
  len : r.length = n
  mem : ∀ k, k < n → k ∈ r
  lt : ∀ k ∈ r, k < n
  nd : r.Nodup
theorem isRow_of_perm {n : Nat} {r : List Nat} (h : r.Perm (List.range n)) : IsRow n r :=
  ⟨by rw [h.length_eq, List.length_range], fun k hk => h.mem_iff.mpr (List.mem_range.mpr hk), fun k hk => List.mem_range.mp (h.mem_iff.mp hk), h.nodup_iff.mpr List.nodup_range⟩
theorem IsRow.perm {n : Nat} {r : List Nat} (h : IsRow n r) : r.Perm (List.range n) := by
  refine (List.perm_ext_iff_of_nodup h.nd List.nodup_range).mpr fun k => ?_
  rw [List.mem_range]
  exact ⟨h.lt k, h.mem k⟩
theorem get_set2 {r : List Nat} {i j a b : Nat} (hi : i < r.length) (hj : j < r.length) (m : Nat) (hm : m < r.length) : ((r.set i a).set j b)[m]'(by rw [List.length_set, List.length_set]; exact hm) = if m = j then b else if m = i then a else r[m] := by
  rw [List.getElem_set, List.getElem_set]
  by_cases h1 : m = j
  · rw [if_pos h1.symm, if_pos h1]
  · rw [if_neg (fun z => h1 z.symm), if_neg h1]
    by_cases h2 : m = i
    · rw [if_pos h2.symm, if_pos h2]
    · rw [if_neg (fun z => h2 z.symm), if_neg h2]
theorem swap_perm {r : List Nat} {i j : Nat} (hi : i < r.length) (hj : j < r.length) : ((r.set i r[j]).set j r[i]).Perm r := by
  rw [List.perm_iff_count]
  intro a
  have h1 := List.count_set (l := r) (a := r[j]) (b := a) hi
  have h2 := List.count_set (l := r.set i r[j]) (a := r[i]) (b := a) (i := j) (by rw [List.length_set]; exact hj)
  rw [h2, h1, List.getElem_set]
  have p1 : (r[i] == a) = true → 0 < r.count a := fun h => List.count_pos_iff.mpr (by rw [← eq_of_beq h]; exact List.getElem_mem hi)
  have p2 : (r[j] == a) = true → 0 < r.count a := fun h => List.count_pos_iff.mpr (by rw [← eq_of_beq h]; exact List.getElem_mem hj)
  by_cases hij : i = j
  · subst hij
    rw [if_pos rfl]
    by_cases c : (r[i] == a) = true
    · have := p1 c
      simp only [c, if_true]
      omega
    · simp only [c]
      simp
  · rw [if_neg hij]
    by_cases c1 : (r[i] == a) = true <;> by_cases c2 : (r[j] == a) = true
    · have := p1 c1
      simp only [c1, c2, if_true]
      omega
    · have := p1 c1
      simp only [c1, c2, if_true]
      simp
      omega
    · have := p2 c2
      simp only [c1, c2, if_true]
      simp
    · simp only [c1, c2]
      simp
theorem idx_get {r : List Nat} {k : Nat} (h : k ∈ r) : ∃ hl : r.idxOf k < r.length, r[r.idxOf k] = k := by
  have hl := List.idxOf_lt_length_iff.mpr h
  exact ⟨hl, List.getElem_idxOf hl⟩
theorem sortN_of_sorted : ∀ (xs : List Nat), xs.Pairwise (· ≤ ·) → sortN xs = xs
  | [], _ => rfl
  | x :: xs, h => by
    have h1 := List.pairwise_cons.mp h
    show insN x (sortN xs) = x :: xs
    rw [sortN_of_sorted xs h1.2]
    cases xs with
    | nil => rfl
    | cons y ys =>
      unfold insN
      rw [if_pos (h1.1 y List.mem_cons_self)]
theorem sort_row {n : Nat} {r : List Nat} (h : IsRow n r) : sortN r = List.range n := by
  have hp := (sortN_perm r).trans h.perm
  exact hp.eq_of_pairwise (le := (· ≤ ·)) (fun a b _ _ h1 h2 => Nat.le_antisymm h1 h2) (sortN_sorted r) (List.pairwise_lt_range.imp Nat.le_of_lt)
def cge (t : Nat) (xs : List Nat) : Nat := xs.countP fun x => decide (t ≤ x)
theorem cge_nil (t : Nat) : cge t [] = 0 := rfl
theorem cge_cons (t x : Nat) (xs : List Nat) : cge t (x :: xs) = cge t xs + if t ≤ x then 1 else 0 := by
  unfold cge
  rw [List.countP_cons]
  by_cases h : t ≤ x <;> simp [h]
theorem cge_app (t : Nat) (xs ys : List Nat) : cge t (xs ++ ys) = cge t xs + cge t ys := List.countP_append
theorem cge_le (t : Nat) (xs : List Nat) : cge t xs ≤ xs.length := List.countP_le_length
theorem cge_all {t : Nat} : ∀ {xs : List Nat}, (∀ x ∈ xs, t ≤ x) → cge t xs = xs.length
  | [], _ => rfl
  | x :: xs, h => by
    rw [cge_cons, cge_all (fun y hy => h y (List.mem_cons_of_mem _ hy)), if_pos (h x List.mem_cons_self)]
    rfl
theorem all_of_cge {t : Nat} : ∀ {xs : List Nat}, xs.length ≤ cge t xs → ∀ x ∈ xs, t ≤ x
  | [], _, x, h => by cases h
  | y :: ys, hl, x, h => by
    rw [cge_cons, List.length_cons] at hl
    have := cge_le t ys
    split at hl
    · rename_i hy
      rcases List.mem_cons.mp h with rfl | h
      · exact hy
      · exact all_of_cge (by omega) x h
    · omega
theorem cge_sort (t : Nat) (xs : List Nat) : cge t (sortN xs) = cge t xs := (sortN_perm xs).countP_eq _
end DL

set_option Elab.async false
set_option linter.all false
set_option maxRecDepth 100000
set_option maxHeartbeats 4000000
/-! DM3: own lists kept, cut and put back. -/
namespace DL
open PySem L2
theorem keep_t {i : Nat} {c : Yb} {g : Yl} {ρ : Rho} {s s1 : Src} {ds : List D} (h : c ρ s = some (true, s1)) (hi : ρ[i]? = some (.ow ds)) : keepS i true c g ρ s = some (.nx ρ, s1) := by
  unfold keepS
  rw [h]
  dsimp only [bO]
  rw [if_pos rfl, hi]
theorem keep_f {i : Nat} {c : Yb} {g : Yl} {ρ : Rho} {s s1 s2 : Src} {ds : List D} (h : c ρ s = some (false, s1)) (h2 : g ρ s1 = some (ds, s2)) : keepS i true c g ρ s = some (.nx (ρ.set i (.ow ds)), s2) := by
  unfold keepS
  rw [h]
  dsimp only [bO]
  rw [if_neg Bool.false_ne_true, h2]
theorem vwN_ev {g : Yl} {ρ : Rho} {s s1 : Src} {ds : List D} (h : g (viewR ρ) s = some (ds, s1)) (hs : ds.all scalD = true) : vwN g ρ s = some (ds, s1) := by
  unfold vwN
  rw [h]
  exact if_pos hs
theorem scalN (xs : List Nat) : (xs.map eN).all scalD = true := by
  rw [List.all_map, List.all_eq_true]
  exact fun _ _ => rfl
theorem slAsg_ev {i : Nat} {l u : Yo} {g : Yl} {ρ : Rho} {s s1 s2 s3 : Src} {xs ys : List D} {lo hi : Option Int} (h : g ρ s = some (ys, s1)) (hl : l ρ s1 = some (lo, s2)) (hh : u ρ s2 = some (hi, s3)) (hi' : ρ[i]? = some (.ow xs)) (len : xs.length + ys.length ≤ lim) :
    slAsgS i l u g ρ s = some (.nx (ρ.set i (.ow (cutSet xs ys lo hi))), s3) := by
  unfold slAsgS
  rw [h]
  dsimp only [bO]
  rw [hl]
  dsimp only [bO]
  rw [hh]
  dsimp only [bO]
  rw [hi']
  exact if_pos len
theorem cutL_map {α β : Type} (f : α → β) (xs : List α) (lo hi : Option Int) : cutL (xs.map f) lo hi = (cutL xs lo hi).map f := by
  unfold cutL
  rw [List.length_map, List.map_take, List.map_drop]
theorem cutSet_map {α β : Type} (f : α → β) (xs ys : List α) (lo hi : Option Int) : cutSet (xs.map f) (ys.map f) lo hi = (cutSet xs ys lo hi).map f := by
  unfold cutSet
  rw [List.length_map, List.map_append, List.map_append, List.map_take, List.map_drop]
theorem cutL_len {α : Type} (xs : List α) (lo hi : Option Int) : (cutL xs lo hi).length ≤ xs.length := by
  unfold cutL
  rw [List.length_take, List.length_drop]
  omega
theorem cutSet_rev {α : Type} (xs : List α) (lo hi : Option Int) : (cutSet xs (cutL xs lo hi).reverse lo hi).Perm xs := by
  unfold cutSet cutL
  generalize HT.sIx xs.length 0 lo = a
  generalize HT.sIx xs.length xs.length hi = b
  have e : xs = xs.take a ++ ((xs.drop a).take (b - a) ++ xs.drop (max a b)) := by
    conv => lhs; rw [← List.take_append_drop a xs, ← List.take_append_drop (b - a) (xs.drop a), List.drop_drop]
    rw [show a + (b - a) = max a b by omega]
  conv => rhs; rw [e]
  rw [List.append_assoc]
  exact ((List.reverse_perm _).append_right _).append_left _
end DL

set_option Elab.async false
set_option linter.all false
set_option maxRecDepth 100000
set_option maxHeartbeats 4000000
/-! MR: rows, exchanges, words (plain). -/
namespace DL
open PySem L2
def swapN (r : List Nat) (i j : Nat) : List Nat := (r.set i (r.getD j 0)).set j (r.getD i 0)
theorem swapN_len (r : List Nat) (i j : Nat) : (swapN r i j).length = r.length := by unfold swapN; rw [List.length_set, List.length_set]
def once1 (r : List Nat) (k : Nat) : List Nat := if r.getD k 0 < r.getD (k + 1) 0 then swapN r k (k + 1) else r
theorem once1_len (r : List Nat) (k : Nat) : (once1 r k).length = r.length := by
  unfold once1
  split
  · exact swapN_len _ _ _
  · rfl
def behind (one other : List Nat) : List Nat := other.map fun k => one.getD k 0
theorem behind_len (u w : List Nat) : (behind u w).length = w.length := by unfold behind; rw [List.length_map]
def desc (h : List Nat) : List Nat := (List.range (h.length - 1)).filter fun k => decide (h.idxOf (k + 1) < h.idxOf k)
def turnAt (h : List Nat) (k : Nat) : List Nat := (h.set (h.idxOf k) (k + 1)).set (h.idxOf (k + 1)) k
def fwGo : Nat → List Nat → List Nat
  | 0, _ => []
  | f + 1, h => match desc h with
    | [] => []
    | k :: _ => k :: fwGo f (turnAt h k)
def phi (n : Nat) : Nat → List Nat → Nat
  | _, [] => 0
  | i, x :: xs => i * (n - x) + phi n (i + 1) xs
theorem phi_set (n v : Nat) : ∀ (xs : List Nat) (i p : Nat) (h : p < xs.length), phi n i (xs.set p v) + (i + p) * (n - xs[p]) = phi n i xs + (i + p) * (n - v)
  | [], _, _, h => absurd h (Nat.not_lt_zero _)
  | x :: xs, i, 0, _ => by
    rw [List.set_cons_zero]
    show i * (n - v) + phi n (i + 1) xs + (i + 0) * (n - x) = i * (n - x) + phi n (i + 1) xs + (i + 0) * (n - v)
    rw [show i + 0 = i from rfl]
    omega
  | x :: xs, i, p + 1, h => by
    rw [List.set_cons_succ]
    have hp : p < xs.length := by simpa using h
    have := phi_set n v xs (i + 1) p hp
    show i * (n - x) + phi n (i + 1) (xs.set p v) + (i + (p + 1)) * (n - xs[p]) = i * (n - x) + phi n (i + 1) xs + (i + (p + 1)) * (n - v)
    rw [show i + (p + 1) = i + 1 + p by omega]
    omega
theorem phi_le (n : Nat) : ∀ (xs : List Nat) (i : Nat), phi n i xs ≤ (i + xs.length) * n * xs.length
  | [], i => Nat.zero_le _
  | x :: xs, i => by
    have h1 := phi_le n xs (i + 1)
    show i * (n - x) + phi n (i + 1) xs ≤ (i + (xs.length + 1)) * n * (xs.length + 1)
    have h2 : i * (n - x) ≤ i * n := Nat.mul_le_mul_left _ (Nat.sub_le _ _)
    have h3 : i * n ≤ (i + (xs.length + 1)) * n := Nat.mul_le_mul_right _ (by omega)
    rw [Nat.mul_succ, show i + (xs.length + 1) = i + 1 + xs.length by omega]
    rw [show i + (xs.length + 1) = i + 1 + xs.length by omega] at h3
    omega
theorem IsRow.swapN {n : Nat} {r : List Nat} (h : IsRow n r) {i j : Nat} (hi : i < n) (hj : j < n) : IsRow n (swapN r i j) := by
  have hi' : i < r.length := by rw [h.len]; exact hi
  have hj' : j < r.length := by rw [h.len]; exact hj
  refine isRow_of_perm (List.Perm.trans ?_ h.perm)
  unfold DL.swapN
  rw [getD_lt hi', getD_lt hj']
  exact swap_perm hi' hj'
theorem IsRow.turnAt {n : Nat} {r : List Nat} (h : IsRow n r) {k : Nat} (hk : k + 1 < n) : DL.turnAt r k = DL.swapN r (r.idxOf k) (r.idxOf (k + 1)) := by
  obtain ⟨l1, e1⟩ := idx_get (h.mem k (by omega))
  obtain ⟨l2, e2⟩ := idx_get (h.mem (k + 1) hk)
  unfold DL.turnAt DL.swapN
  rw [getD_lt l1, getD_lt l2, e1, e2]
theorem IsRow.turn {n : Nat} {r : List Nat} (h : IsRow n r) {k : Nat} (hk : k + 1 < n) : IsRow n (DL.turnAt r k) := by
  obtain ⟨l1, e1⟩ := idx_get (h.mem k (by omega))
  obtain ⟨l2, e2⟩ := idx_get (h.mem (k + 1) hk)
  rw [h.turnAt hk]
  exact h.swapN (by rw [← h.len]; exact l1) (by rw [← h.len]; exact l2)
theorem phi_turn {n : Nat} {r : List Nat} (h : IsRow n r) {k : Nat} (hk : k + 1 < n) (hd : r.idxOf (k + 1) < r.idxOf k) : phi n 0 (DL.turnAt r k) < phi n 0 r := by
  obtain ⟨l1, e1⟩ := idx_get (h.mem k (by omega))
  obtain ⟨l2, e2⟩ := idx_get (h.mem (k + 1) hk)
  unfold DL.turnAt
  have h1 := phi_set n (k + 1) r 0 (r.idxOf k) l1
  have h2 := phi_set n k (r.set (r.idxOf k) (k + 1)) 0 (r.idxOf (k + 1)) (by rw [List.length_set]; exact l2)
  rw [List.getElem_set, if_neg (by omega), e2] at h2
  rw [e1] at h1
  rw [Nat.zero_add] at h1 h2
  have e3 : n - k = (n - (k + 1)) + 1 := by omega
  rw [e3, Nat.mul_succ] at h1 h2
  omega
theorem desc_nil {n : Nat} {r : List Nat} (h : IsRow n r) : desc r = [] ↔ r = List.range n := by
  constructor
  · intro hd
    have step : ∀ k, k + 1 < n → r.idxOf k < r.idxOf (k + 1) := fun k hk => by
      obtain ⟨l1, e1⟩ := idx_get (h.mem k (by omega))
      obtain ⟨l2, e2⟩ := idx_get (h.mem (k + 1) hk)
      have : k ∉ desc r := by rw [hd]; exact List.not_mem_nil
      unfold desc at this
      rw [List.mem_filter, List.mem_range, decide_eq_true_eq, h.len] at this
      have ne : r.idxOf k ≠ r.idxOf (k + 1) := fun z => by
        have : r[r.idxOf k] = r[r.idxOf (k + 1)] := by simp only [z]
        rw [e1, e2] at this
        omega
      omega
    have lo : ∀ k, k < n → k ≤ r.idxOf k := by
      intro k
      induction k with
      | zero => intro _; omega
      | succ k ih =>
        intro hk
        have := ih (by omega)
        have := step k hk
        omega
    have hi : ∀ d k, k + d + 1 = n → r.idxOf k ≤ k := by
      intro d
      induction d with
      | zero =>
        intro k hk
        obtain ⟨l1, _⟩ := idx_get (h.mem k (by omega))
        rw [h.len] at l1
        omega
      | succ d ih =>
        intro k hk
        have := ih (k + 1) (by omega)
        have := step k (by omega)
        omega
    refine List.ext_getElem (by rw [h.len, List.length_range]) fun k h1 h2 => ?_
    rw [List.getElem_range]
    rw [h.len] at h1
    obtain ⟨l1, e1⟩ := idx_get (h.mem k h1)
    have e : r.idxOf k = k := Nat.le_antisymm (hi (n - 1 - k) k (by omega)) (lo k h1)
    simp only [e] at e1
    exact e1
  · intro e
    unfold desc
    rw [List.filter_eq_nil_iff]
    intro k hk
    rw [List.mem_range, h.len] at hk
    rw [decide_eq_true_eq, e]
    have ix : ∀ m, m < n → (List.range n).idxOf m = m := fun m hm => by
      have hr : IsRow n (List.range n) := isRow_of_perm (.refl _)
      obtain ⟨l1, e1⟩ := idx_get (hr.mem m hm)
      rw [List.getElem_range] at e1
      exact e1
    rw [ix k (by omega), ix (k + 1) (by omega)]
    omega
def fw (r : List Nat) : List Nat := fwGo (r.length * r.length * r.length + 1) r

theorem fwGo_lt {n : Nat} : ∀ (f : Nat) (r : List Nat), r.length = n → ∀ k ∈ fwGo f r, k + 1 < n
  | 0, _, _, k, h => by cases h
  | f + 1, r, hr, k, h => by
    unfold fwGo at h
    split at h
    · cases h
    · rename_i j js e
      rcases List.mem_cons.mp h with rfl | h
      · have : k ∈ desc r := by rw [e]; exact List.mem_cons_self
        unfold desc at this
        rw [List.mem_filter, List.mem_range, hr] at this
        omega
      · exact fwGo_lt f (turnAt r j) (by unfold turnAt; rw [List.length_set, List.length_set, hr]) k h
theorem fw_lt {n : Nat} {r : List Nat} (hr : r.length = n) : ∀ k ∈ fw r, k + 1 < n := fwGo_lt _ r hr
def onceW (u w : List Nat) : List Nat := (fw w).foldl once1 u
theorem IsRow.once1 {n : Nat} {r : List Nat} (h : IsRow n r) {k : Nat} (hk : k + 1 < n) : IsRow n (DL.once1 r k) := by
  unfold DL.once1
  split
  · exact h.swapN (by omega) hk
  · exact h
theorem foldl_row {n : Nat} {f : List Nat → Nat → List Nat} (hf : ∀ r k, IsRow n r → k + 1 < n → IsRow n (f r k)) : ∀ (ks : List Nat) (r : List Nat), (∀ k ∈ ks, k + 1 < n) → IsRow n r → IsRow n (ks.foldl f r)
  | [], _, _, h => h
  | k :: ks, r, hk, h => foldl_row hf ks (f r k) (fun j hj => hk j (List.mem_cons_of_mem _ hj)) (hf r k h (hk k List.mem_cons_self))
theorem IsRow.onceW {n : Nat} {u w : List Nat} (hu : IsRow n u) (hw : IsRow n w) : IsRow n (DL.onceW u w) := foldl_row (fun _ _ h hk => h.once1 hk) _ _ (fw_lt hw.len) hu
theorem cut2 {n k : Nat} {u : List Nat} (h : u.length = n) (hk : k + 1 < n) : ∃ A a b C, u = A ++ a :: b :: C ∧ A.length = k := by
  refine ⟨u.take k, u[k]'(by omega), u[k + 1]'(by omega), u.drop (k + 2), ?_, by rw [List.length_take]; omega⟩
  rw [← List.drop_eq_getElem_cons (by omega), ← List.drop_eq_getElem_cons (by omega), List.take_append_drop]
theorem swap_app {A C : List Nat} {a b k : Nat} (hA : A.length = k) : swapN (A ++ a :: b :: C) k (k + 1) = A ++ b :: a :: C := by
  unfold swapN
  subst hA
  have e1 : (A ++ a :: b :: C).getD A.length 0 = a := by simp [List.getD_eq_getElem?_getD]
  have e2 : (A ++ a :: b :: C).getD (A.length + 1) 0 = b := by simp [List.getD_eq_getElem?_getD]
  rw [e1, e2, List.set_append_right _ _ (Nat.le_refl _), Nat.sub_self, List.set_cons_zero, List.set_append_right _ _ (by omega), Nat.add_sub_cancel_left]
  rfl
theorem getD_app {A C : List Nat} {a b k : Nat} (hA : A.length = k) : (A ++ a :: b :: C).getD k 0 = a ∧ (A ++ a :: b :: C).getD (k + 1) 0 = b := by
  subst hA
  constructor <;> simp [List.getD_eq_getElem?_getD]
theorem once1_app {A C : List Nat} {a b k : Nat} (hA : A.length = k) : once1 (A ++ a :: b :: C) k = if a < b then A ++ b :: a :: C else A ++ a :: b :: C := by
  unfold once1
  rw [(getD_app hA).1, (getD_app hA).2, swap_app hA]
end DL

set_option Elab.async false
set_option linter.all false
set_option maxRecDepth 100000
set_option maxHeartbeats 4000000
set_option synthInstance.maxHeartbeats 2000000
set_option synthInstance.maxSize 100000
/-! MR4: all rows of at most four. -/
namespace DL
open PySem L2
def allR (n : Nat) : List (List Nat) := (List.range n).foldl (fun found _ => found.flatMap fun row => ((List.range n).filter fun t => !decide (t ∈ row)).map fun t => row ++ [t]) [[]]
theorem mem_allR : ∀ n, 1 ≤ n → n ≤ 4 → ∀ r, IsRow n r → r ∈ allR n
  | 1, _, _, r, h => by
    match r, h.len with
    | [a], _ =>
      have h1 := h.lt a (by simp)
      have : ∀ a, a < 1 → [a] ∈ allR 1 := by decide +kernel
      exact this a h1
  | 2, _, _, r, h => by
    match r, h.len with
    | [a, b], _ =>
      have h1 := h.lt a (by simp)
      have h2 := h.lt b (by simp)
      have : ∀ a, a < 2 → ∀ b, b < 2 → [a, b].Nodup → [a, b] ∈ allR 2 := by decide +kernel
      exact this a h1 b h2 h.nd
  | 3, _, _, r, h => by
    match r, h.len with
    | [a, b, c], _ =>
      have h1 := h.lt a (by simp)
      have h2 := h.lt b (by simp)
      have h3 := h.lt c (by simp)
      have : ∀ a, a < 3 → ∀ b, b < 3 → ∀ c, c < 3 → [a, b, c].Nodup → [a, b, c] ∈ allR 3 := by decide +kernel
      exact this a h1 b h2 c h3 h.nd
  | 4, _, _, r, h => by
    match r, h.len with
    | [a, b, c, d], _ =>
      have h1 := h.lt a (by simp)
      have h2 := h.lt b (by simp)
      have h3 := h.lt c (by simp)
      have h4 := h.lt d (by simp)
      have : ∀ a, a < 4 → ∀ b, b < 4 → ∀ c, c < 4 → ∀ d, d < 4 → [a, b, c, d].Nodup → [a, b, c, d] ∈ allR 4 := by decide +kernel
      exact this a h1 b h2 c h3 d h4 h.nd
theorem allR_row : ∀ n, 1 ≤ n → n ≤ 4 → ∀ r ∈ allR n, IsRow n r := by
  have : ∀ n, n < 5 → ∀ r ∈ allR n, r.length = n ∧ (∀ k, k < n → k ∈ r) ∧ (∀ k ∈ r, k < n) ∧ r.Nodup := by decide +kernel
  intro n _ h4 r hr
  obtain ⟨h1, h2, h3, h5⟩ := this n (by omega) r hr
  exact ⟨h1, h2, h3, h5⟩
theorem fw_six {n : Nat} (h1 : 1 ≤ n) (h4 : n ≤ 4) {r : List Nat} (hr : IsRow n r) : (fw r).length ≤ 6 := by
  have : ∀ n, n < 5 → ∀ r ∈ allR n, (fw r).length ≤ 6 := by decide +kernel
  exact this n (by omega) r (mem_allR n h1 h4 r hr)
end DL

set_option Elab.async false
set_option linter.all false
set_option maxRecDepth 100000
set_option maxHeartbeats 4000000
/-! MH: exchanges with weights: from the right, from the left; words of one row act alike. -/
namespace DL
open PySem L2

theorem nd_inj {r : List Nat} (h : r.Nodup) {i j : Nat} {hi : i < r.length} {hj : j < r.length} (e : r[i] = r[j]) : i = j := (List.getElem_inj h).mp e
def sw (i x : Nat) : Nat := if x = i then i + 1 else if x = i + 1 then i else x
theorem sw_sw (i x : Nat) : sw i (sw i x) = x := by unfold sw; split <;> split <;> (try split) <;> omega
theorem sw_inj {i x y : Nat} (h : sw i x = sw i y) : x = y := by rw [← sw_sw i x, h, sw_sw]
abbrev sk (r : List Nat) (k : Nat) : List Nat := swapN r k (k + 1)
theorem get_sk {r : List Nat} {k : Nat} (hk : k + 1 < r.length) (m : Nat) (hm : m < r.length) : (sk r k)[m]'(by rw [swapN_len]; exact hm) = r[sw k m]'(by unfold sw; split <;> (try split) <;> omega) := by
  have e := get_set2 (r := r) (i := k) (j := k + 1) (a := r.getD (k + 1) 0) (b := r.getD k 0) (by omega) hk m hm
  have e2 : (sk r k)[m]'(by rw [swapN_len]; exact hm) = _ := e
  rw [e2, getD_lt hk, getD_lt (show k < r.length by omega)]
  unfold sw
  by_cases h1 : m = k + 1
  · subst h1
    simp
  · by_cases h2 : m = k
    · subst h2
      simp [h1]
    · simp [h1, h2]
theorem sk_sk {r : List Nat} {k : Nat} (hk : k + 1 < r.length) : sk (sk r k) k = r := by
  refine List.ext_getElem (by rw [swapN_len, swapN_len]) fun m h1 h2 => ?_
  rw [get_sk (by rw [swapN_len]; exact hk) m (by rw [swapN_len]; exact h2), get_sk hk _ (by unfold sw; split <;> (try split) <;> omega)]
  simp only [sw_sw]
theorem map_sk (f : Nat → Nat) {r : List Nat} {k : Nat} (hk : k + 1 < r.length) : sk (r.map f) k = (sk r k).map f := by
  refine List.ext_getElem (by rw [swapN_len, List.length_map, List.length_map, swapN_len]) fun m h1 h2 => ?_
  have hm : m < r.length := by rw [List.length_map, swapN_len] at h2; exact h2
  rw [get_sk (by rw [List.length_map]; exact hk) m (by rw [List.length_map]; exact hm), List.getElem_map, List.getElem_map, get_sk hk m hm]
section
variable {n : Nat} {r : List Nat}
theorem IsRow.sk (h : IsRow n r) {k : Nat} (hk : k + 1 < n) : IsRow n (DL.sk r k) := h.swapN (by omega) hk
theorem IsRow.idx (h : IsRow n r) {x : Nat} (hx : x < n) : ∃ hl : r.idxOf x < r.length, r[r.idxOf x] = x := idx_get (h.mem x hx)
theorem IsRow.idx_of (h : IsRow n r) {m : Nat} (hm : m < r.length) : r.idxOf r[m] = m := by
  obtain ⟨h1, h2⟩ := idx_get (List.getElem_mem hm)
  exact nd_inj h.nd h2
theorem IsRow.turn_map (h : IsRow n r) {i : Nat} (hi : i + 1 < n) : DL.turnAt r i = r.map (sw i) := by
  obtain ⟨p1, e1⟩ := h.idx (x := i) (by omega)
  obtain ⟨p2, e2⟩ := h.idx (x := i + 1) hi
  refine List.ext_getElem (by unfold DL.turnAt; rw [List.length_set, List.length_set, List.length_map]) fun m h1 h2 => ?_
  have hm : m < r.length := by rw [List.length_map] at h2; exact h2
  have e := get_set2 (r := r) (i := r.idxOf i) (j := r.idxOf (i + 1)) (a := i + 1) (b := i) p1 p2 m hm
  have e3 : (DL.turnAt r i)[m] = _ := e
  rw [e3, List.getElem_map]
  unfold sw
  by_cases c1 : m = r.idxOf (i + 1)
  · subst c1
    rw [if_pos rfl, e2, if_neg (by omega), if_pos rfl]
  · rw [if_neg c1]
    by_cases c2 : m = r.idxOf i
    · subst c2
      rw [if_pos rfl, e1, if_pos rfl]
    · have d1 : r[m] ≠ i := fun z => c2 (by rw [← h.idx_of hm, z])
      have d2 : r[m] ≠ i + 1 := fun z => c1 (by rw [← h.idx_of hm, z])
      rw [if_neg c2, if_neg d1, if_neg d2]
theorem IsRow.idx_sk (h : IsRow n r) {k x : Nat} (hk : k + 1 < n) (hx : x < n) : (DL.sk r k).idxOf x = sw k (r.idxOf x) := by
  obtain ⟨p1, e1⟩ := h.idx hx
  have hk' : k + 1 < r.length := by rw [h.len]; exact hk
  have hs : sw k (r.idxOf x) < r.length := by unfold sw; split <;> (try split) <;> omega
  have e : (DL.sk r k)[sw k (r.idxOf x)]'(by rw [swapN_len]; exact hs) = x := by
    rw [get_sk hk' _ hs]
    simp only [sw_sw]
    exact e1
  have := (h.sk hk).idx_of (m := sw k (r.idxOf x)) (by rw [swapN_len]; exact hs)
  rw [e] at this
  exact this
end

/-! ### the operations -/
def tk (q : Int) (k : Nat) (h : List Nat → Int) (r : List Nat) : Int := if r.getD k 0 < r.getD (k + 1) 0 then h (sk r k) else q * h (sk r k) + (q - 1) * h r
def lk (q : Int) (i : Nat) (h : List Nat → Int) (r : List Nat) : Int := if r.idxOf i < r.idxOf (i + 1) then h (turnAt r i) else q * h (turnAt r i) + (q - 1) * h r
def tw (q : Int) : List Nat → (List Nat → Int) → List Nat → Int
  | [], h => h
  | k :: ks, h => tk q k (tw q ks h)
def lw (q : Int) : List Nat → (List Nat → Int) → List Nat → Int
  | [], h => h
  | k :: ks, h => lw q ks (lk q k h)
def Eqv (n : Nat) (h g : List Nat → Int) : Prop := ∀ r, IsRow n r → h r = g r
section
variable {q : Int} {n : Nat} {h g : List Nat → Int}
theorem Eqv.tk (e : Eqv n h g) {k : Nat} (hk : k + 1 < n) : Eqv n (tk q k h) (tk q k g) := fun r hr => by
  unfold DL.tk
  rw [e _ (hr.sk hk), e _ hr]
theorem Eqv.lk (e : Eqv n h g) {k : Nat} (hk : k + 1 < n) : Eqv n (lk q k h) (lk q k g) := fun r hr => by
  unfold DL.lk
  rw [e _ (hr.turn hk), e _ hr]
theorem Eqv.tw (e : Eqv n h g) : ∀ {ks : List Nat}, (∀ k ∈ ks, k + 1 < n) → Eqv n (tw q ks h) (tw q ks g)
  | [], _ => e
  | k :: ks, hk => (Eqv.tw e fun x hx => hk x (List.mem_cons_of_mem _ hx)).tk (hk k List.mem_cons_self)
theorem Eqv.lw' : ∀ (ks : List Nat) (a b : List Nat → Int), Eqv n a b → (∀ k ∈ ks, k + 1 < n) → Eqv n (lw q ks a) (lw q ks b)
  | [], _, _, e, _ => e
  | k :: ks, a, b, e, hk => Eqv.lw' ks _ _ (Eqv.lk e (hk k List.mem_cons_self)) fun x hx => hk x (List.mem_cons_of_mem _ hx)
theorem Eqv.lw {ks : List Nat} (e : Eqv n h g) (hk : ∀ k ∈ ks, k + 1 < n) : Eqv n (lw q ks h) (lw q ks g) := Eqv.lw' ks h g e hk
theorem Eqv.trans {f : List Nat → Int} (e : Eqv n h g) (e' : Eqv n g f) : Eqv n h f := fun r hr => (e r hr).trans (e' r hr)
theorem Eqv.symm (e : Eqv n h g) : Eqv n g h := fun r hr => (e r hr).symm
/-- from the left and from the right, in any order -/
theorem comm1 {i k : Nat} (hi : i + 1 < n) (hk : k + 1 < n) : Eqv n (lk q i (tk q k h)) (tk q k (lk q i h)) := by
  intro r hr
  have hk' : k + 1 < r.length := by rw [hr.len]; exact hk
  have hkl : k < r.length := by omega
  have p1 := hr.idx (x := i) (by omega)
  have p2 := hr.idx (x := i + 1) hi
  obtain ⟨l1, e1⟩ := p1
  obtain ⟨l2, e2⟩ := p2
  have a1 : r.getD k 0 = r[k] := getD_lt hkl
  have a2 : r.getD (k + 1) 0 = r[k + 1] := getD_lt hk'
  have key : ∀ (m : Nat) (hm : m < r.length) (x : Nat), x < n → (r[m] = x ↔ r.idxOf x = m) := fun m hm x hx => by
    constructor
    · intro z; rw [← z]; exact hr.idx_of hm
    · intro z
      obtain ⟨w1, w2⟩ := hr.idx hx
      simp only [z] at w2
      exact w2
  have k1 := key k hkl i (by omega)
  have k2 := key (k + 1) hk' (i + 1) hi
  have k3 := key k hkl (i + 1) hi
  have k4 := key (k + 1) hk' i (by omega)
  have ne : r[k] ≠ r[k + 1] := fun z => by
    have := nd_inj hr.nd z
    omega
  have ne2 : r.idxOf i ≠ r.idxOf (i + 1) := fun z => by
    have : r[r.idxOf i] = r[r.idxOf (i + 1)] := by simp only [z]
    omega
  by_cases c : (r[k] = i ∧ r[k + 1] = i + 1) ∨ (r[k] = i + 1 ∧ r[k + 1] = i)
  · have both : ∀ r : List Nat, IsRow n r → ((r.getD k 0 = i ∧ r.getD (k + 1) 0 = i + 1) ∨ (r.getD k 0 = i + 1 ∧ r.getD (k + 1) 0 = i)) → ∀ g, lk q i g r = tk q k g r := by
      intro r hr c g
      have hk' : k + 1 < r.length := by rw [hr.len]; exact hk
      have hkl : k < r.length := by omega
      rw [getD_lt hkl, getD_lt hk'] at c
      have ee : DL.turnAt r i = sk r k := by
        rw [hr.turn_map hi]
        refine List.ext_getElem (by rw [List.length_map, swapN_len]) fun m h1 h2 => ?_
        have hm : m < r.length := by rw [List.length_map] at h1; exact h1
        rw [List.getElem_map, get_sk hk' m hm]
        by_cases m1 : m = k
        · subst m1
          have : sw m m = m + 1 := by unfold sw; simp
          simp only [this]
          rcases c with c | c <;> rw [c.1, c.2] <;> unfold sw <;> simp
        · by_cases m2 : m = k + 1
          · subst m2
            have : sw k (k + 1) = k := by unfold sw; simp
            simp only [this]
            rcases c with c | c <;> rw [c.1, c.2] <;> unfold sw <;> simp
          · have : sw k m = m := by unfold sw; simp [m1, m2]
            simp only [this]
            have d1 : r[m] ≠ r[k] := fun z => m1 (nd_inj hr.nd z)
            have d2 : r[m] ≠ r[k + 1] := fun z => m2 (nd_inj hr.nd z)
            unfold sw
            rcases c with c | c <;> rw [c.1] at d1 <;> rw [c.2] at d2
            · rw [if_neg d1, if_neg d2]
            · rw [if_neg d2, if_neg d1]
      unfold DL.lk DL.tk
      rw [ee, getD_lt hkl, getD_lt hk']
      rcases c with c | c
      · have z1 : r.idxOf i = k := by rw [← c.1]; exact hr.idx_of hkl
        have z2 : r.idxOf (i + 1) = k + 1 := by rw [← c.2]; exact hr.idx_of hk'
        rw [z1, z2, c.1, c.2, if_pos (by omega), if_pos (by omega)]
      · have z1 : r.idxOf (i + 1) = k := by rw [← c.1]; exact hr.idx_of hkl
        have z2 : r.idxOf i = k + 1 := by rw [← c.2]; exact hr.idx_of hk'
        rw [z1, z2, c.1, c.2, if_neg (by omega), if_neg (by omega)]
    have c' : (r.getD k 0 = i ∧ r.getD (k + 1) 0 = i + 1) ∨ (r.getD k 0 = i + 1 ∧ r.getD (k + 1) 0 = i) := by rw [a1, a2]; exact c
    have hs := hr.sk hk
    have g1 : (sk r k).getD k 0 = r[k + 1] := by
      rw [getD_lt (by rw [swapN_len]; exact hkl), get_sk hk' k hkl]
      have : sw k k = k + 1 := by unfold sw; simp
      simp only [this]
    have g2 : (sk r k).getD (k + 1) 0 = r[k] := by
      rw [getD_lt (by rw [swapN_len]; exact hk'), get_sk hk' (k + 1) hk']
      have : sw k (k + 1) = k := by unfold sw; simp
      simp only [this]
    have c2 : ((sk r k).getD k 0 = i ∧ (sk r k).getD (k + 1) 0 = i + 1) ∨ ((sk r k).getD k 0 = i + 1 ∧ (sk r k).getD (k + 1) 0 = i) := by
      rw [g1, g2]
      rcases c with c | c
      · exact .inr ⟨c.2, c.1⟩
      · exact .inl ⟨c.2, c.1⟩
    rw [both r hr c' (DL.tk q k h)]
    show DL.tk q k (DL.tk q k h) r = DL.tk q k (DL.lk q i h) r
    have e3 := both r hr c' h
    have e4 := both _ hs c2 h
    conv => lhs; unfold DL.tk
    conv => rhs; unfold DL.tk
    rw [e3, e4]
    unfold DL.tk
    rfl
  · have r1 := hr.turn hi
    have r2 := hr.sk hk
    have et : DL.turnAt r i = r.map (sw i) := hr.turn_map hi
    have e12 : sk (DL.turnAt r i) k = DL.turnAt (sk r k) i := by rw [et, (hr.sk hk).turn_map hi, map_sk _ hk']
    have u1 : ((DL.turnAt r i).getD k 0 < (DL.turnAt r i).getD (k + 1) 0) ↔ (r.getD k 0 < r.getD (k + 1) 0) := by
      rw [et, getD_lt (by rw [List.length_map]; exact hkl), getD_lt (by rw [List.length_map]; exact hk'), List.getElem_map, List.getElem_map, a1, a2]
      unfold sw
      generalize r[k] = a at *
      generalize r[k + 1] = b at *
      split <;> split <;> (try split) <;> (try split) <;> omega
    have u2 : ((sk r k).idxOf i < (sk r k).idxOf (i + 1)) ↔ (r.idxOf i < r.idxOf (i + 1)) := by
      rw [hr.idx_sk hk (by omega), hr.idx_sk hk hi]
      unfold sw
      generalize r.idxOf i = a at *
      generalize r.idxOf (i + 1) = b at *
      split <;> split <;> (try split) <;> (try split) <;> omega
    unfold DL.lk DL.tk
    simp only [u1, u2, e12]
    by_cases v1 : r.idxOf i < r.idxOf (i + 1)
    · by_cases v2 : r.getD k 0 < r.getD (k + 1) 0
      · simp only [if_pos v1, if_pos v2]
      · simp only [if_pos v1, if_neg v2]
    · by_cases v2 : r.getD k 0 < r.getD (k + 1) 0
      · simp only [if_neg v1, if_pos v2]
      · simp only [if_neg v1, if_neg v2]
        generalize h (DL.turnAt (sk r k) i) = x1
        generalize h (DL.turnAt r i) = x2
        generalize h (sk r k) = x3
        generalize h r = x4
        grind
theorem lw_tk {k : Nat} (hk : k + 1 < n) : ∀ {ks : List Nat} (h : List Nat → Int), (∀ k ∈ ks, k + 1 < n) → Eqv n (lw q ks (tk q k h)) (tk q k (lw q ks h))
  | [], _, _ => fun _ _ => rfl
  | i :: ks, h, hi => ((comm1 (hi i List.mem_cons_self) hk).lw fun x hx => hi x (List.mem_cons_of_mem _ hx)).trans (lw_tk hk (lk q i h) fun x hx => hi x (List.mem_cons_of_mem _ hx))
theorem lw_tw {is : List Nat} (hi : ∀ k ∈ is, k + 1 < n) : ∀ {ks : List Nat} (h : List Nat → Int), (∀ k ∈ ks, k + 1 < n) → Eqv n (lw q is (tw q ks h)) (tw q ks (lw q is h))
  | [], _, _ => fun _ _ => rfl
  | k :: ks, h, hk => (lw_tk (hk k List.mem_cons_self) (tw q ks h) hi).trans ((lw_tw hi h fun x hx => hk x (List.mem_cons_of_mem _ hx)).tk (hk k List.mem_cons_self))
/-- twice the same -/
theorem tk_tk {k : Nat} (hk : k + 1 < n) : Eqv n (tk q k (tk q k h)) fun r => q * h r + (q - 1) * tk q k h r := by
  intro r hr
  have hk' : k + 1 < r.length := by rw [hr.len]; exact hk
  have hkl : k < r.length := by omega
  have g1 : (sk r k).getD k 0 = r[k + 1] := by
    rw [getD_lt (by rw [swapN_len]; exact hkl), get_sk hk' k hkl]
    have : sw k k = k + 1 := by unfold sw; simp
    simp only [this]
  have g2 : (sk r k).getD (k + 1) 0 = r[k] := by
    rw [getD_lt (by rw [swapN_len]; exact hk'), get_sk hk' (k + 1) hk']
    have : sw k (k + 1) = k := by unfold sw; simp
    simp only [this]
  have ne : r[k] ≠ r[k + 1] := fun z => by
    have := nd_inj hr.nd z
    omega
  show DL.tk q k (DL.tk q k h) r = q * h r + (q - 1) * DL.tk q k h r
  unfold DL.tk
  rw [g1, g2, getD_lt hkl, getD_lt hk', sk_sk hk']
  by_cases c : r[k] < r[k + 1]
  · have c' : ¬ r[k + 1] < r[k] := by omega
    simp only [if_pos c, if_neg c']
  · have c' : r[k + 1] < r[k] := by omega
    simp only [if_neg c, if_pos c']
theorem up_sk {r : List Nat} {k : Nat} (hr : IsRow n r) (hk : k + 1 < n) : (sk r k).getD k 0 = r.getD (k + 1) 0 ∧ (sk r k).getD (k + 1) 0 = r.getD k 0 := by
  have hk' : k + 1 < r.length := by rw [hr.len]; exact hk
  have hkl : k < r.length := by omega
  constructor
  · rw [getD_lt (by rw [swapN_len]; exact hkl), get_sk hk' k hkl, getD_lt hk']
    have : sw k k = k + 1 := by unfold sw; simp
    simp only [this]
  · rw [getD_lt (by rw [swapN_len]; exact hk'), get_sk hk' (k + 1) hk', getD_lt hkl]
    have : sw k (k + 1) = k := by unfold sw; simp
    simp only [this]

/-! ### words of a row -/
abbrev e0 (n : Nat) : List Nat := List.range n
theorem e0_row (n : Nat) : IsRow n (e0 n) := isRow_of_perm (.refl _)
theorem idx_e0 {n m : Nat} (hm : m < n) : (e0 n).idxOf m = m := by
  obtain ⟨l1, e1⟩ := idx_get ((e0_row n).mem m hm)
  rw [List.getElem_range] at e1
  exact e1
theorem at_e0 {k : Nat} (hk : k + 1 < n) (h : List Nat → Int) : lk q k h (e0 n) = tk q k h (e0 n) := by
  unfold DL.lk DL.tk
  rw [(e0_row n).turnAt hk, idx_e0 (by omega), idx_e0 hk, getD_lt (by rw [List.length_range]; omega), getD_lt (by rw [List.length_range]; exact hk), List.getElem_range, List.getElem_range]
theorem lw_snoc (q : Int) (k : Nat) : ∀ (ks : List Nat) (h : List Nat → Int), lw q (ks ++ [k]) h = lk q k (lw q ks h)
  | [], _ => rfl
  | _ :: ks, h => lw_snoc q k ks _
theorem tw_app (q : Int) : ∀ (ks js : List Nat) (h : List Nat → Int), tw q (ks ++ js) h = tw q ks (tw q js h)
  | [], _, _ => rfl
  | k :: ks, js, h => by
    show tk q k (tw q (ks ++ js) h) = _
    rw [tw_app q ks js h]
    rfl
theorem lw_e0 : ∀ (m : Nat) (ks : List Nat) (h : List Nat → Int), ks.length = m → (∀ k ∈ ks, k + 1 < n) → lw q ks h (e0 n) = tw q ks h (e0 n)
  | 0, ks, h, hl, _ => by
    rw [List.length_eq_zero_iff.mp hl]
    rfl
  | m + 1, ks, h, hl, hk => by
    have hne : ks ≠ [] := fun z => by rw [z] at hl; cases hl
    obtain ⟨js, k, rfl⟩ : ∃ js k, ks = js ++ [k] := ⟨_, _, (List.dropLast_concat_getLast hne).symm⟩
    have hk1 := hk k (by simp)
    have hj : ∀ x ∈ js, x + 1 < n := fun x hx => hk x (List.mem_append_left _ hx)
    rw [lw_snoc, at_e0 hk1, ← lw_tk hk1 h hj (e0 n) (e0_row n), lw_e0 m js _ (by simpa using hl) hj, tw_app]
    rfl
/-- ws leads to w, always upwards -/
def Wd (q : Int) (n : Nat) (ws w : List Nat) : Prop := (∀ k ∈ ws, k + 1 < n) ∧ ∀ h, tw q ws h (e0 n) = h w
theorem fwGo_lw : ∀ (f : Nat) (r : List Nat) (h : List Nat → Int), IsRow n r → phi n 0 r < f → lw q (fwGo f r) h (e0 n) = h r
  | 0, _, _, _, hf => absurd hf (Nat.not_lt_zero _)
  | f + 1, r, h, hr, hf => by
    unfold fwGo
    split
    · rename_i e
      rw [(desc_nil hr).mp e]
      rfl
    · rename_i k ks e
      have hm : k ∈ desc r := by rw [e]; exact List.mem_cons_self
      unfold desc at hm
      rw [List.mem_filter, List.mem_range, decide_eq_true_eq, hr.len] at hm
      have hk : k + 1 < n := by omega
      have hr' := hr.turn hk
      show lw q (fwGo f (DL.turnAt r k)) (lk q k h) (e0 n) = h r
      rw [fwGo_lw f _ _ hr' (by have := phi_turn hr hk hm.2; omega)]
      have hk' : k + 1 < r.length := by rw [hr.len]; exact hk
      have et : DL.turnAt (DL.turnAt r k) k = r := by
        rw [hr'.turn_map hk, hr.turn_map hk, List.map_map]
        have : (sw k ∘ sw k) = id := funext fun x => sw_sw k x
        rw [this, List.map_id]
      have l1 := hr.idx (x := k) (by omega)
      have l2 := hr.idx (x := k + 1) hk
      have ix : ∀ x, x < n → (DL.turnAt r k).idxOf (sw k x) = r.idxOf x := fun x hx => by
        obtain ⟨p1, p2⟩ := hr.idx hx
        have e4 : (DL.turnAt r k)[r.idxOf x]'(by rw [hr'.len, ← hr.len]; exact p1) = sw k x := by
          simp only [hr.turn_map hk, List.getElem_map, p2]
        have := hr'.idx_of (m := r.idxOf x) (by rw [hr'.len, ← hr.len]; exact p1)
        rw [e4] at this
        exact this
      have i1 := ix k (by omega)
      have i2 := ix (k + 1) hk
      have s1 : sw k k = k + 1 := by unfold sw; simp
      have s2 : sw k (k + 1) = k := by unfold sw; simp
      rw [s1] at i1
      rw [s2] at i2
      unfold lk
      rw [i1, i2, if_pos hm.2, et]
theorem fw_lw {r : List Nat} (hr : IsRow n r) (h : List Nat → Int) : lw q (fw r) h (e0 n) = h r := by
  refine fwGo_lw _ r h hr ?_
  have := phi_le n r 0
  rw [hr.len] at this ⊢
  rw [Nat.zero_add] at this
  omega
theorem fw_wd (q : Int) {w : List Nat} (hw : IsRow n w) : Wd q n (fw w) w := ⟨fw_lt hw.len, fun h => by rw [← lw_e0 _ _ h rfl (fw_lt hw.len), fw_lw hw h]⟩
theorem wd_one {ws ws' w r : List Nat} (a : Wd q n ws w) (b : Wd q n ws' w) (hr : IsRow n r) (h : List Nat → Int) : tw q ws h r = tw q ws' h r := by
  have l := fw_lt hr.len
  rw [← fw_lw (q := q) hr (tw q ws h), ← fw_lw (q := q) hr (tw q ws' h), lw_tw l h a.1 _ (e0_row n), lw_tw l h b.1 _ (e0_row n), a.2, b.2]
theorem wd_up {ws w : List Nat} {k : Nat} (a : Wd q n ws w) (hk : k + 1 < n) (hu : w.getD k 0 < w.getD (k + 1) 0) : Wd q n (ws ++ [k]) (sk w k) := by
  refine ⟨fun x hx => ?_, fun h => ?_⟩
  · rcases List.mem_append.mp hx with hx | hx
    · exact a.1 x hx
    · rw [List.mem_singleton.mp hx]; exact hk
  · rw [tw_app, a.2]
    show tk q k h w = _
    unfold tk
    rw [if_pos hu]
theorem tw_lin (a b : Int) : ∀ (ks : List Nat) (h g : List Nat → Int) (r : List Nat), tw q ks (fun r => a * h r + b * g r) r = a * tw q ks h r + b * tw q ks g r
  | [], _, _, _ => rfl
  | k :: ks, h, g, r => by
    have ih := tw_lin a b ks h g
    show tk q k (tw q ks _) r = a * tk q k (tw q ks h) r + b * tk q k (tw q ks g) r
    unfold tk
    rw [ih, ih]
    generalize tw q ks h (sk r k) = x1
    generalize tw q ks g (sk r k) = x2
    generalize tw q ks h r = x3
    generalize tw q ks g r = x4
    split
    · rfl
    · grind
theorem mul_step {r w : List Nat} {k : Nat} (hr : IsRow n r) (hw : IsRow n w) (hk : k + 1 < n) (h : List Nat → Int) : tk q k (fun d => tw q (fw d) h r) w = tw q (fw w) (tk q k h) r := by
  by_cases c : w.getD k 0 < w.getD (k + 1) 0
  · have e1 : tk q k (fun d => tw q (fw d) h r) w = tw q (fw (sk w k)) h r := by unfold tk; rw [if_pos c]
    rw [e1, wd_one (fw_wd q (hw.sk hk)) (wd_up (fw_wd q hw) hk c) hr h, tw_app]
    rfl
  · have e1 : tk q k (fun d => tw q (fw d) h r) w = q * tw q (fw (sk w k)) h r + (q - 1) * tw q (fw w) h r := by unfold tk; rw [if_neg c]
    have hk' : k + 1 < w.length := by rw [hw.len]; exact hk
    obtain ⟨s1, s2⟩ := up_sk hw hk
    have ne : w.getD k 0 ≠ w.getD (k + 1) 0 := fun z => by
      rw [getD_lt (by omega), getD_lt hk'] at z
      have := nd_inj hw.nd z
      omega
    have up : (sk w k).getD k 0 < (sk w k).getD (k + 1) 0 := by rw [s1, s2]; omega
    have wd := wd_up (fw_wd q (hw.sk hk)) hk up
    rw [sk_sk hk'] at wd
    have e2 : ∀ g, tw q (fw w) g r = tw q (fw (sk w k)) (tk q k g) r := fun g => by
      rw [wd_one (fw_wd q hw) wd hr g, tw_app]
      rfl
    rw [e1, e2 (tk q k h), e2 h]
    rw [(tk_tk (q := q) (h := h) hk).tw (fw_lt (hw.sk hk).len) r hr, tw_lin]
theorem mul_word {r w : List Nat} (hr : IsRow n r) : ∀ (ks : List Nat) (h : List Nat → Int), (∀ k ∈ ks, k + 1 < n) → ∀ w, IsRow n w → tw q ks (fun d => tw q (fw d) h r) w = tw q (fw w) (tw q ks h) r
  | [], _, _, w, _ => rfl
  | k :: ks, h, hk, w, hw => by
    have hk1 := hk k List.mem_cons_self
    have ih : Eqv n (tw q ks fun d => tw q (fw d) h r) fun d => tw q (fw d) (tw q ks h) r := fun w hw => mul_word (w := w) hr ks h (fun x hx => hk x (List.mem_cons_of_mem _ hx)) w hw
    show tk q k (tw q ks fun d => tw q (fw d) h r) w = _
    rw [ih.tk hk1 w hw]
    exact mul_step hr hw hk1 (tw q ks h)
end
end DL

set_option Elab.async false
set_option linter.all false
set_option maxRecDepth 100000
set_option maxHeartbeats 4000000
/-! MP: polynomials with ints, the constant first. -/
namespace DL
open PySem L2

/-- its value at x -/
def pv (x : Int) : List Int → Int
  | [] => 0
  | a :: p => a + x * pv x p
/-- the sum of the numbers' sizes -/
def nrm : List Int → Nat
  | [] => 0
  | a :: p => a.natAbs + nrm p
def trm (p : List Int) : List Int := (p.reverse.dropWhile fun a => a == 0).reverse
def Trm (p : List Int) : Prop := ∀ a, p.getLast? = some a → a ≠ 0
theorem trm_snoc0 (p : List Int) : trm (p ++ [0]) = trm p := by
  unfold trm
  rw [List.reverse_append]
  rfl
theorem trm_snoc (p : List Int) {a : Int} (h : a ≠ 0) : trm (p ++ [a]) = p ++ [a] := by
  unfold trm
  rw [List.reverse_append]
  show (List.dropWhile (fun a => a == 0) (a :: p.reverse)).reverse = _
  rw [List.dropWhile_cons_of_neg (by simpa using h)]
  simp
theorem snoc_cases (p : List Int) : p = [] ∨ ∃ q a, p = q ++ [a] := by
  by_cases h : p = []
  · exact .inl h
  · exact .inr ⟨_, _, (List.dropLast_concat_getLast h).symm⟩
theorem pv_app (x : Int) : ∀ (p q : List Int), pv x (p ++ q) = pv x p + x ^ p.length * pv x q
  | [], q => by simp [pv]
  | a :: p, q => by
    show a + x * pv x (p ++ q) = a + x * pv x p + x ^ (p.length + 1) * pv x q
    rw [pv_app x p q, Int.pow_succ]
    grind
theorem nrm_app : ∀ (p q : List Int), nrm (p ++ q) = nrm p + nrm q
  | [], q => by simp [nrm]
  | a :: p, q => by
    show a.natAbs + nrm (p ++ q) = a.natAbs + nrm p + nrm q
    rw [nrm_app p q]; omega
theorem trm_ind {P : List Int → List Int → Prop} (h0 : P [] []) (h1 : ∀ p, P p (trm p) → P (p ++ [0]) (trm p)) (h2 : ∀ p a, a ≠ 0 → P (p ++ [a]) (p ++ [a])) : ∀ (n : Nat) (p : List Int), p.length = n → P p (trm p)
  | 0, p, hp => by rw [List.length_eq_zero_iff.mp hp]; exact h0
  | n + 1, p, hp => by
    rcases snoc_cases p with rfl | ⟨q, a, rfl⟩
    · cases hp
    · by_cases ha : a = 0
      · subst ha
        rw [trm_snoc0]
        exact h1 q (trm_ind h0 h1 h2 n q (by simpa using hp))
      · rw [trm_snoc q ha]
        exact h2 q a ha
theorem pv_trm (x : Int) (p : List Int) : pv x (trm p) = pv x p := by
  refine (trm_ind (P := fun p t => pv x t = pv x p) rfl (fun p h => ?_) (fun _ _ _ => rfl) _ p rfl)
  rw [h, pv_app]
  simp [pv]
theorem nrm_trm (p : List Int) : nrm (trm p) = nrm p := by
  refine (trm_ind (P := fun p t => nrm t = nrm p) rfl (fun p h => ?_) (fun _ _ _ => rfl) _ p rfl)
  rw [h, nrm_app]
  rfl
theorem len_trm (p : List Int) : (trm p).length ≤ p.length := by
  refine (trm_ind (P := fun p t => t.length ≤ p.length) (Nat.le_refl _) (fun p h => ?_) (fun _ _ _ => Nat.le_refl _) _ p rfl)
  rw [List.length_append]
  omega
theorem Trm_trm (p : List Int) : Trm (trm p) := by
  refine (trm_ind (P := fun p t => Trm t) (fun _ h => by cases h) (fun p h => h) (fun p a ha b hb => ?_) _ p rfl)
  rw [List.getLast?_append] at hb
  have : a = b := by simpa using hb
  rw [← this]
  exact ha
/-- zero at all great numbers: no number but zero -/
theorem pv_zero : ∀ (p : List Int) (m : Nat), (∀ x : Nat, m ≤ x → pv (x : Int) p = 0) → ∀ a ∈ p, a = 0
  | [], _, _, a, ha => by cases ha
  | b :: p, m, h, a, ha => by
    have hb : b = 0 := by
      have h1 := h (m + b.natAbs + 1) (by omega)
      have h2 : b = -(((m + b.natAbs + 1 : Nat) : Int) * pv ((m + b.natAbs + 1 : Nat) : Int) p) := by
        show b = _
        have : b + ((m + b.natAbs + 1 : Nat) : Int) * pv ((m + b.natAbs + 1 : Nat) : Int) p = 0 := h1
        omega
      generalize pv ((m + b.natAbs + 1 : Nat) : Int) p = y at h2
      by_cases hy : y = 0
      · rw [hy] at h2; simpa using h2
      · exfalso
        have h3 : b.natAbs = (m + b.natAbs + 1) * y.natAbs := by
          have := congrArg Int.natAbs h2
          rw [Int.natAbs_neg, Int.natAbs_mul, Int.natAbs_natCast] at this
          exact this
        have h4 : 1 ≤ y.natAbs := by omega
        have h5 : (m + b.natAbs + 1) * 1 ≤ (m + b.natAbs + 1) * y.natAbs := Nat.mul_le_mul_left _ h4
        omega
    rcases List.mem_cons.mp ha with rfl | ha
    · exact hb
    · refine pv_zero p (m + 1) (fun x hx => ?_) a ha
      have h1 : b + (x : Int) * pv (x : Int) p = 0 := h x (by omega)
      rw [hb, Int.zero_add] at h1
      rcases Int.mul_eq_zero.mp h1 with h1 | h1
      · omega
      · exact h1
def padTo (m : Nat) (p : List Int) : List Int := p ++ List.replicate (m - p.length) 0
theorem pv_rep0 (x : Int) : ∀ m, pv x (List.replicate m 0) = 0
  | 0 => rfl
  | m + 1 => by
    show 0 + x * pv x (List.replicate m 0) = 0
    rw [pv_rep0 x m]; simp
theorem nrm_rep0 : ∀ m, nrm (List.replicate m 0) = 0
  | 0 => rfl
  | m + 1 => by
    show (0 : Int).natAbs + nrm (List.replicate m 0) = 0
    rw [nrm_rep0 m]; rfl
theorem pv_pad (x : Int) (m : Nat) (p : List Int) : pv x (padTo m p) = pv x p := by
  unfold padTo
  rw [pv_app, pv_rep0]; simp
theorem nrm_pad (m : Nat) (p : List Int) : nrm (padTo m p) = nrm p := by
  unfold padTo
  rw [nrm_app, nrm_rep0]; rfl
theorem len_pad {m : Nat} {p : List Int} (h : p.length ≤ m) : (padTo m p).length = m := by
  unfold padTo
  rw [List.length_append, List.length_replicate]; omega
def zadd (p q : List Int) : List Int := (p.zip q).map fun a => a.1 + a.2
theorem pv_zadd (x : Int) : ∀ (p q : List Int), p.length = q.length → pv x (zadd p q) = pv x p + pv x q
  | [], [], _ => rfl
  | [], _ :: _, h => by cases h
  | _ :: _, [], h => by cases h
  | a :: p, b :: q, h => by
    show a + b + x * pv x (zadd p q) = a + x * pv x p + (b + x * pv x q)
    rw [pv_zadd x p q (by simpa using h)]
    grind
theorem nrm_zadd : ∀ (p q : List Int), nrm (zadd p q) ≤ nrm p + nrm q
  | [], _ => Nat.zero_le _
  | _ :: _, [] => Nat.zero_le _
  | a :: p, b :: q => by
    have := nrm_zadd p q
    have := Int.natAbs_add_le a b
    show (a + b).natAbs + nrm (zadd p q) ≤ a.natAbs + nrm p + (b.natAbs + nrm q)
    omega
/-- p + q -/
def padd (p q : List Int) : List Int := trm (zadd (padTo (max p.length q.length) p) (padTo (max p.length q.length) q))
theorem pv_padd (x : Int) (p q : List Int) : pv x (padd p q) = pv x p + pv x q := by
  unfold padd
  rw [pv_trm, pv_zadd x _ _ (by rw [len_pad (by omega), len_pad (by omega)]), pv_pad, pv_pad]
theorem nrm_padd (p q : List Int) : nrm (padd p q) ≤ nrm p + nrm q := by
  unfold padd
  rw [nrm_trm]
  have := nrm_zadd (padTo (max p.length q.length) p) (padTo (max p.length q.length) q)
  rwa [nrm_pad, nrm_pad] at this
theorem len_padd (p q : List Int) : (padd p q).length ≤ max p.length q.length := by
  unfold padd
  refine Nat.le_trans (len_trm _) ?_
  unfold zadd
  rw [List.length_map, List.length_zip, len_pad (by omega), len_pad (by omega)]
  omega
/-- c more at m -/
def addAt (F : List Int) (e : Nat × Int) : List Int := F.set e.1 (F.getD e.1 0 + e.2)
theorem len_addAt (F : List Int) (e : Nat × Int) : (addAt F e).length = F.length := by unfold addAt; rw [List.length_set]
theorem pv_addAt (x : Int) : ∀ (F : List Int) (m : Nat) (c : Int), m < F.length → pv x (addAt F (m, c)) = pv x F + c * x ^ m
  | [], _, _, h => absurd h (Nat.not_lt_zero _)
  | a :: F, 0, c, _ => by
    show a + c + x * pv x F = a + x * pv x F + c * x ^ 0
    grind
  | a :: F, m + 1, c, h => by
    have ih := pv_addAt x F m c (by simpa using h)
    show a + x * pv x (addAt F (m, c)) = a + x * pv x F + c * x ^ (m + 1)
    rw [ih, Int.pow_succ]
    grind
theorem nrm_addAt : ∀ (F : List Int) (m : Nat) (c : Int), nrm (addAt F (m, c)) ≤ nrm F + c.natAbs
  | [], m, c => by show 0 ≤ _; omega
  | a :: F, 0, c => by
    have := Int.natAbs_add_le a c
    show (a + c).natAbs + nrm F ≤ a.natAbs + nrm F + c.natAbs
    omega
  | a :: F, m + 1, c => by
    have ih := nrm_addAt F m c
    show a.natAbs + nrm (addAt F (m, c)) ≤ a.natAbs + nrm F + c.natAbs
    omega
def terms (p q : List (Nat × Int)) : List (Nat × Int) := p.flatMap fun a => q.map fun b => (a.1 + b.1, a.2 * b.2)
def tsum (x : Int) (l : List (Nat × Int)) : Int := (l.map fun e => e.2 * x ^ e.1).sum
theorem pv_fold (x : Int) : ∀ (l : List (Nat × Int)) (F : List Int), (∀ e ∈ l, e.1 < F.length) → pv x (l.foldl addAt F) = pv x F + tsum x l
  | [], F, _ => by simp [tsum]
  | e :: l, F, h => by
    rw [List.foldl_cons, pv_fold x l _ fun d hd => by rw [len_addAt]; exact h d (List.mem_cons_of_mem _ hd), pv_addAt x F e.1 e.2 (h e List.mem_cons_self)]
    unfold tsum
    rw [List.map_cons, List.sum_cons]
    grind
theorem nrm_fold : ∀ (l : List (Nat × Int)) (F : List Int), nrm (l.foldl addAt F) ≤ nrm F + (l.map fun e => e.2.natAbs).sum
  | [], F => by simp
  | e :: l, F => by
    rw [List.foldl_cons, List.map_cons, List.sum_cons]
    have h1 := nrm_fold l (addAt F e)
    have h2 : nrm (addAt F e) ≤ nrm F + e.2.natAbs := nrm_addAt F e.1 e.2
    omega
theorem len_fold : ∀ (l : List (Nat × Int)) (F : List Int), (l.foldl addAt F).length = F.length
  | [], _ => rfl
  | e :: l, F => by rw [List.foldl_cons, len_fold l, len_addAt]
theorem tsum_app (x : Int) (l m : List (Nat × Int)) : tsum x (l ++ m) = tsum x l + tsum x m := by
  unfold tsum
  rw [List.map_append, List.sum_append]
theorem tsum_terms (x : Int) (q : List (Nat × Int)) : ∀ p : List (Nat × Int), tsum x (terms p q) = tsum x p * tsum x q
  | [] => by simp [tsum, terms]
  | a :: p => by
    have e : terms (a :: p) q = (q.map fun b => (a.1 + b.1, a.2 * b.2)) ++ terms p q := by unfold terms; rw [List.flatMap_cons]
    have e2 : ∀ q : List (Nat × Int), tsum x (q.map fun b => (a.1 + b.1, a.2 * b.2)) = a.2 * x ^ a.1 * tsum x q := fun q => by
      induction q with
      | nil => simp [tsum]
      | cons b q ih =>
        unfold tsum at ih ⊢
        rw [List.map_cons, List.map_cons, List.sum_cons, ih, List.map_cons, List.sum_cons, Int.pow_add]
        grind
    have e3 : tsum x (a :: p) = a.2 * x ^ a.1 + tsum x p := by unfold tsum; rw [List.map_cons, List.sum_cons]
    rw [e, tsum_app, tsum_terms x q p, e2, e3]
    grind
theorem nrm_terms (q : List (Nat × Int)) : ∀ p : List (Nat × Int), ((terms p q).map fun e => e.2.natAbs).sum = (p.map fun e => e.2.natAbs).sum * (q.map fun e => e.2.natAbs).sum
  | [] => by simp [terms]
  | a :: p => by
    have e : terms (a :: p) q = (q.map fun b => (a.1 + b.1, a.2 * b.2)) ++ terms p q := by unfold terms; rw [List.flatMap_cons]
    have e2 : ∀ q : List (Nat × Int), ((q.map fun b => (a.1 + b.1, a.2 * b.2)).map fun e => e.2.natAbs).sum = a.2.natAbs * (q.map fun e => e.2.natAbs).sum := fun q => by
      induction q with
      | nil => simp
      | cons b q ih =>
        rw [List.map_cons, List.map_cons, List.sum_cons, ih, List.map_cons, List.sum_cons, Int.natAbs_mul, Nat.mul_add]
    rw [e, List.map_append, List.sum_append, nrm_terms q p, e2, List.map_cons, List.sum_cons, Nat.add_mul]
def prs (p : List Int) : List (Nat × Int) := (List.range p.length).zip p
theorem prs_from (x : Int) : ∀ (p : List Int) (s : Nat), tsum x ((List.range' s p.length).zip p) = x ^ s * pv x p ∧ (((List.range' s p.length).zip p).map fun e => e.2.natAbs).sum = nrm p
  | [], s => by simp [tsum, pv, nrm]
  | a :: p, s => by
    obtain ⟨h1, h2⟩ := prs_from x p (s + 1)
    rw [List.length_cons, List.range'_succ, List.zip_cons_cons]
    refine ⟨?_, ?_⟩
    · unfold tsum at h1 ⊢
      rw [List.map_cons, List.sum_cons, h1, Int.pow_succ]
      show a * x ^ s + x ^ s * x * pv x p = x ^ s * (a + x * pv x p)
      grind
    · rw [List.map_cons, List.sum_cons, h2]
      rfl
theorem tsum_prs (x : Int) (p : List Int) : tsum x (prs p) = pv x p := by
  have := (prs_from x p 0).1
  unfold prs
  rw [List.range_eq_range', this]
  simp
theorem nrm_prs (p : List Int) : ((prs p).map fun e => e.2.natAbs).sum = nrm p := by
  have := (prs_from 0 p 0).2
  unfold prs
  rw [List.range_eq_range', this]
theorem mem_prs {p : List Int} {e : Nat × Int} (h : e ∈ prs p) : e.1 < p.length ∧ e.2 ∈ p := by
  unfold prs at h
  obtain ⟨h1, h2⟩ := List.of_mem_zip h
  exact ⟨List.mem_range.mp h1, h2⟩
/-- p * q -/
def pmul (p q : List Int) : List Int := trm ((terms (prs p) (prs q)).foldl addAt (List.replicate (p.length + q.length) 0))
theorem terms_lt {p q : List Int} : ∀ e ∈ terms (prs p) (prs q), e.1 < p.length + q.length := fun e he => by
  unfold terms at he
  obtain ⟨a, ha, he⟩ := List.mem_flatMap.mp he
  obtain ⟨b, hb, rfl⟩ := List.mem_map.mp he
  have := mem_prs ha
  have := mem_prs hb
  show a.1 + b.1 < _
  omega
theorem pv_pmul (x : Int) (p q : List Int) : pv x (pmul p q) = pv x p * pv x q := by
  unfold pmul
  rw [pv_trm, pv_fold x _ _ fun e he => by rw [List.length_replicate]; exact terms_lt e he, pv_rep0, tsum_terms, tsum_prs, tsum_prs]
  simp
theorem nrm_pmul (p q : List Int) : nrm (pmul p q) ≤ nrm p * nrm q := by
  unfold pmul
  rw [nrm_trm]
  refine Nat.le_trans (nrm_fold _ _) ?_
  rw [nrm_rep0, nrm_terms, nrm_prs, nrm_prs, Nat.zero_add]
  exact Nat.le_refl _
theorem len_pmul (p q : List Int) : (pmul p q).length ≤ p.length + q.length := by
  unfold pmul
  refine Nat.le_trans (len_trm _) ?_
  rw [len_fold, List.length_replicate]
  exact Nat.le_refl _
theorem nrm_mem {p : List Int} {a : Int} (h : a ∈ p) : a.natAbs ≤ nrm p := by
  induction p with
  | nil => cases h
  | cons b p ih =>
    show a.natAbs ≤ b.natAbs + nrm p
    rcases List.mem_cons.mp h with rfl | h
    · omega
    · have := ih h; omega
/-- trimmed ones that agree everywhere are one -/
theorem pv_inj {p q : List Int} (hp : Trm p) (hq : Trm q) (h : ∀ x : Nat, pv (x : Int) p = pv (x : Int) q) : p = q := by
  have key : ∀ (p q : List Int), (∀ x : Nat, pv (x : Int) p = pv (x : Int) q) → ∀ a ∈ zadd (padTo (max p.length q.length) p) ((padTo (max p.length q.length) q).map fun a => -a), a = 0 := by
    intro p q h
    refine pv_zero _ 0 fun x _ => ?_
    have pn : ∀ (x : Int) (p : List Int), pv x (p.map fun a => -a) = -pv x p := fun x p => by
      induction p with
      | nil => rfl
      | cons a p ih =>
        show -a + x * pv x (p.map fun a => -a) = -(a + x * pv x p)
        rw [ih]; grind
    rw [pv_zadd _ _ _ (by rw [List.length_map, len_pad (by omega), len_pad (by omega)]), pn, pv_pad, pv_pad, h x]
    omega
  have hz := key p q h
  have at_ : ∀ i, p.getD i 0 = q.getD i 0 := fun i => by
    have hp2 : ∀ (p : List Int) (m i : Nat), (padTo m p).getD i 0 = p.getD i 0 := fun p m i => by
      unfold padTo
      rw [List.getD_eq_getElem?_getD, List.getD_eq_getElem?_getD, List.getElem?_append]
      split
      · rfl
      · rename_i hi
        rw [List.getElem?_eq_none (l := p) (by omega)]
        cases c : (List.replicate (m - p.length) (0 : Int))[i - p.length]? with
        | none => rfl
        | some v =>
          have := (List.mem_replicate.mp (List.mem_of_getElem? c)).2
          rw [this]; rfl
    by_cases hi : i < max p.length q.length
    · have h1 : i < (padTo (max p.length q.length) p).length := by rw [len_pad (by omega)]; exact hi
      have h2 : i < (padTo (max p.length q.length) q).length := by rw [len_pad (by omega)]; exact hi
      have := hz ((padTo (max p.length q.length) p)[i] + -(padTo (max p.length q.length) q)[i]) (by
        unfold zadd
        refine List.mem_map.mpr ⟨((padTo (max p.length q.length) p)[i], -(padTo (max p.length q.length) q)[i]), ?_, rfl⟩
        refine List.mem_of_getElem? (i := i) ?_
        rw [List.getElem?_zip_eq_some, List.getElem?_map, List.getElem?_eq_getElem h1, List.getElem?_eq_getElem h2]
        exact ⟨rfl, rfl⟩)
      rw [← hp2 p (max p.length q.length) i, ← hp2 q (max p.length q.length) i, List.getD_eq_getElem?_getD, List.getD_eq_getElem?_getD, List.getElem?_eq_getElem h1, List.getElem?_eq_getElem h2]
      show (padTo (max p.length q.length) p)[i] = (padTo (max p.length q.length) q)[i]
      omega
    · rw [List.getD_eq_getElem?_getD, List.getD_eq_getElem?_getD, List.getElem?_eq_none (by omega), List.getElem?_eq_none (by omega)]
  have len : ∀ {p q : List Int}, Trm p → (∀ i, p.getD i 0 = q.getD i 0) → p.length ≤ q.length := fun {p q} hp e => by
    rcases Nat.lt_or_ge q.length p.length with hl | hl
    · exfalso
      have h1 := e (p.length - 1)
      rw [List.getD_eq_getElem?_getD, List.getD_eq_getElem?_getD, List.getElem?_eq_none (l := q) (by omega), ← List.getLast?_eq_getElem?] at h1
      cases c : p.getLast? with
      | none =>
        rw [List.getLast?_eq_none_iff] at c
        subst c
        simp at hl
      | some a =>
        rw [c] at h1
        exact hp a c h1
    · exact hl
  refine List.ext_getElem (Nat.le_antisymm (len hp at_) (len hq fun i => (at_ i).symm)) fun i h1 h2 => ?_
  have := at_ i
  rw [List.getD_eq_getElem?_getD, List.getD_eq_getElem?_getD, List.getElem?_eq_getElem h1, List.getElem?_eq_getElem h2] at this
  exact this
end DL

set_option Elab.async false
set_option linter.all false
set_option maxRecDepth 100000
set_option maxHeartbeats 4000000
/-! MQ: sums of rows weighed with polynomials. -/
namespace DL
open PySem L2

abbrev Sm := List (List Nat × List Int)
abbrev eP : List Int → D := (En.tup En.int).f
abbrev enR : En (List Nat) := En.tup En.nat
abbrev enS1 : En (List Nat × List Int) := En.pair enR (En.tup En.int)
abbrev eS : Sm → D := (En.tup enS1).f

/-! ### the order of rows -/
def rowLe (a b : List Nat) : Prop := PySem.W.dataLt (enR.f b) (enR.f a) = false
theorem lt_rows (a b : List Nat) : PySem.W.dataLt (enR.f a) (enR.f b) = decide ((a.map fun n : Nat => (n : Int)) < b.map fun n : Nat => (n : Int)) := by
  have e : ∀ a : List Nat, a.map En.nat.f = (a.map fun n : Nat => (n : Int)).map PyData.int := fun a => by rw [List.map_map]; rfl
  show PySem.W.dataLt (.tuple (a.map En.nat.f)) (.tuple (b.map En.nat.f)) = _
  rw [PySem.W.dataLt_tuple, e, e]
  exact PySem.W.dataLt_ints _ _
theorem rowLe_anti {a b : List Nat} (h1 : rowLe a b) (h2 : rowLe b a) : a = b := by
  unfold rowLe at h1 h2
  rw [lt_rows, decide_eq_false_iff_not] at h1 h2
  have : (a.map fun n : Nat => (n : Int)) = b.map fun n : Nat => (n : Int) := List.le_antisymm h1 h2
  exact List.map_inj_right (fun x y h => by omega) |>.mp this
theorem rowLe_refl (a : List Nat) : rowLe a a := by
  unfold rowLe
  rw [lt_rows, decide_eq_false_iff_not]
  exact List.lt_irrefl _
theorem alike_N : ∀ a b : List Nat, PySem.W.alikeAll (a.map En.nat.f) (b.map En.nat.f) = true := fun a b => by
  have e : ∀ a : List Nat, a.map En.nat.f = (a.map fun n : Nat => (n : Int)).map PyData.int := fun a => by rw [List.map_map]; rfl
  rw [e, e]
  exact PySem.W.alike_ints _ _
theorem alike_R (a b : List Nat) : PySem.W.alike (enR.f a) (enR.f b) = true := by
  show PySem.W.alike (.tuple (a.map En.nat.f)) (.tuple (b.map En.nat.f)) = true
  unfold PySem.W.alike
  exact alike_N a b
theorem alike_P (a b : List Int) : PySem.W.alike (eP a) (eP b) = true := by
  show PySem.W.alike (.tuple (a.map PyData.int)) (.tuple (b.map PyData.int)) = true
  unfold PySem.W.alike
  exact PySem.W.alike_ints _ _
theorem alike_S1 (p q : List Nat × List Int) : PySem.W.alike (enS1.f p) (enS1.f q) = true := by
  show PySem.W.alike (.tuple [enR.f p.1, eP p.2]) (.tuple [enR.f q.1, eP q.2]) = true
  simp only [PySem.W.alike, PySem.W.alikeAll]
  have h1 := alike_R p.1 q.1
  have h2 := alike_P p.2 q.2
  rw [h1, h2]
  rfl
def sLe (p q : List Nat × List Int) : Prop := PySem.W.dataLt (enS1.f q) (enS1.f p) = false
theorem sLe_row {p q : List Nat × List Int} (h : sLe p q) : rowLe p.1 q.1 := by
  unfold sLe at h
  have e : PySem.W.dataLt (enS1.f q) (enS1.f p) = _ := PySem.W.dataLt_pair (alike_R q.1 p.1) (alike_P q.2 p.2)
  rw [e] at h
  by_cases c : PyData.eqv (enR.f q.1) (enR.f p.1) = true
  · rw [(enR.eqv q.1 p.1).mp c]
    exact rowLe_refl _
  · rw [if_neg c] at h
    exact h
/-! sorted by the generic insertion -/
def insB {α : Type} (lt : α → α → Bool) (x : α) : List α → List α
  | [] => [x]
  | y :: ys => if lt y x = true then y :: insB lt x ys else x :: y :: ys
def sortB {α : Type} (lt : α → α → Bool) : List α → List α
  | [] => []
  | x :: xs => insB lt x (sortB lt xs)
theorem insX_map {α : Type} (e : α → D) (x : α) : ∀ l : List α, insX (e x) (l.map e) = (insB (fun a b => PySem.W.dataLt (e a) (e b)) x l).map e
  | [] => rfl
  | y :: ys => by
    rw [List.map_cons]
    unfold insX insB
    split
    · rw [insX_map e x ys]; rfl
    · rfl
theorem sortX_map {α : Type} (e : α → D) : ∀ l : List α, sortX (l.map e) = (sortB (fun a b => PySem.W.dataLt (e a) (e b)) l).map e
  | [] => rfl
  | x :: xs => by
    rw [List.map_cons]
    unfold sortX sortB
    rw [sortX_map e xs, insX_map]
theorem insB_perm {α : Type} (lt : α → α → Bool) (x : α) : ∀ l, (insB lt x l).Perm (x :: l)
  | [] => List.Perm.refl _
  | y :: ys => by
    unfold insB
    split
    · exact ((insB_perm lt x ys).cons y).trans (List.Perm.swap x y ys)
    · exact List.Perm.refl _
theorem sortB_perm {α : Type} (lt : α → α → Bool) : ∀ l, (sortB lt l).Perm l
  | [] => List.Perm.refl _
  | x :: xs => (insB_perm lt x _).trans ((sortB_perm lt xs).cons x)
theorem sortB_sorted {α : Type} (e : α → D) (l : List α) : (sortB (fun a b => PySem.W.dataLt (e a) (e b)) l).Pairwise fun a b => PySem.W.dataLt (e b) (e a) = false := by
  have := sortX_sorted (l.map e)
  rw [sortX_map, List.pairwise_map] at this
  exact this.imp fun {a b} h => by rw [leX_lt] at h; simpa using h

/-! ### tables -/
def getS : Sm → List Nat → List Int
  | [], _ => []
  | p :: kv, r => if p.1 = r then p.2 else getS kv r
def putS : Sm → List Nat → List Int → Sm
  | [], r, v => [(r, v)]
  | p :: kv, r, v => if p.1 = r then (p.1, v) :: kv else p :: putS kv r v
def lin (x : Int) (S : Sm) (h : List Nat → Int) : Int := (S.map fun p => pv x p.2 * h p.1).sum
def nS (S : Sm) : Nat := (S.map fun p => nrm p.2).sum
abbrev keys (S : Sm) : List (List Nat) := S.map (·.1)
theorem lin_cons (x : Int) (p : List Nat × List Int) (S : Sm) (h : List Nat → Int) : lin x (p :: S) h = pv x p.2 * h p.1 + lin x S h := by unfold lin; rw [List.map_cons, List.sum_cons]
theorem lin_app (x : Int) (S T : Sm) (h : List Nat → Int) : lin x (S ++ T) h = lin x S h + lin x T h := by unfold lin; rw [List.map_append, List.sum_append]
theorem nS_cons (p : List Nat × List Int) (S : Sm) : nS (p :: S) = nrm p.2 + nS S := by unfold nS; rw [List.map_cons, List.sum_cons]
theorem get_cons (p : List Nat × List Int) (kv : Sm) (r : List Nat) : getS (p :: kv) r = if p.1 = r then p.2 else getS kv r := rfl
theorem get_none : ∀ {kv : Sm} {r : List Nat}, r ∉ keys kv → getS kv r = []
  | [], _, _ => rfl
  | p :: kv, r, h => by
    unfold getS
    rw [if_neg (fun e => h (by rw [← e]; exact List.mem_cons_self)), get_none fun z => h (List.mem_cons_of_mem _ z)]
theorem get_mem : ∀ {kv : Sm} {p : List Nat × List Int}, (keys kv).Nodup → p ∈ kv → getS kv p.1 = p.2
  | [], _, _, h => by cases h
  | q :: kv, p, hn, h => by
    rw [keys, List.map_cons, List.nodup_cons] at hn
    unfold getS
    rcases List.mem_cons.mp h with rfl | h
    · rw [if_pos rfl]
    · rw [if_neg (fun e => hn.1 (by rw [e]; exact List.mem_map_of_mem h)), get_mem hn.2 h]
theorem mem_get : ∀ {kv : Sm} {r : List Nat}, getS kv r ≠ [] → (r, getS kv r) ∈ kv
  | [], _, h => absurd rfl h
  | q :: kv, r, h => by
    unfold getS at h ⊢
    split
    · rename_i e
      rw [← e]
      exact List.mem_cons_self
    · rename_i e
      rw [if_neg e] at h
      exact List.mem_cons_of_mem _ (mem_get h)
theorem keys_put : ∀ (kv : Sm) (r : List Nat) (v : List Int), keys (putS kv r v) = if r ∈ keys kv then keys kv else keys kv ++ [r]
  | [], r, v => by simp [keys, putS]
  | p :: kv, r, v => by
    unfold putS
    by_cases e : p.1 = r
    · rw [if_pos e, if_pos (by rw [keys, List.map_cons, e]; exact List.mem_cons_self)]
      rfl
    · rw [if_neg e]
      show p.1 :: keys (putS kv r v) = if r ∈ p.1 :: keys kv then p.1 :: keys kv else p.1 :: keys kv ++ [r]
      rw [keys_put kv r v]
      by_cases c : r ∈ keys kv
      · rw [if_pos c, if_pos (List.mem_cons_of_mem _ c)]
      · rw [if_neg c, if_neg (fun z => by rcases List.mem_cons.mp z with z | z; exact e z.symm; exact c z)]
        rfl
theorem nd_put {kv : Sm} (h : (keys kv).Nodup) (r : List Nat) (v : List Int) : (keys (putS kv r v)).Nodup := by
  rw [keys_put]
  split
  · exact h
  · rename_i c
    exact List.nodup_append.mpr ⟨h, by simp, fun a ha b hb e => c (by rw [← List.mem_singleton.mp hb, ← e]; exact ha)⟩
theorem mem_put : ∀ {kv : Sm} {r : List Nat} {v : List Int} {p : List Nat × List Int}, p ∈ putS kv r v → p ∈ kv ∨ p = (r, v)
  | [], _, _, p, h => .inr (List.mem_singleton.mp h)
  | q :: kv, r, v, p, h => by
    unfold putS at h
    split at h
    · rename_i e
      rcases List.mem_cons.mp h with h | h
      · exact .inr (by rw [h, e])
      · exact .inl (List.mem_cons_of_mem _ h)
    · rcases List.mem_cons.mp h with h | h
      · exact .inl (by rw [h]; exact List.mem_cons_self)
      · rcases mem_put h with h | h
        · exact .inl (List.mem_cons_of_mem _ h)
        · exact .inr h
theorem len_put : ∀ (kv : Sm) (r : List Nat) (v : List Int), (putS kv r v).length ≤ kv.length + 1
  | [], _, _ => Nat.le_refl _
  | p :: kv, r, v => by
    unfold putS
    split
    · rw [List.length_cons, List.length_cons]; omega
    · have := len_put kv r v
      rw [List.length_cons, List.length_cons]; omega
theorem lin_put (x : Int) (h : List Nat → Int) (r : List Nat) (v : List Int) : ∀ kv : Sm, lin x (putS kv r v) h = lin x kv h + (pv x v - pv x (getS kv r)) * h r
  | [] => by
    show lin x [(r, v)] h = _
    rw [lin_cons]
    show _ = lin x [] h + (pv x v - pv x []) * h r
    have : pv x ([] : List Int) = 0 := rfl
    rw [this]
    grind
  | p :: kv => by
    unfold putS getS
    by_cases e : p.1 = r
    · rw [if_pos e, if_pos e, lin_cons, lin_cons, e]
      grind
    · rw [if_neg e, if_neg e, lin_cons, lin_cons, lin_put x h r v kv]
      grind
theorem nS_put (r : List Nat) (v : List Int) : ∀ kv : Sm, nS (putS kv r v) + nrm (getS kv r) = nS kv + nrm v
  | [] => by
    show nS [(r, v)] + 0 = 0 + nrm v
    rw [nS_cons]
    show nrm v + nS [] + 0 = 0 + nrm v
    have : nS [] = 0 := rfl
    omega
  | p :: kv => by
    unfold putS getS
    by_cases e : p.1 = r
    · rw [if_pos e, if_pos e, nS_cons, nS_cons]
      show nrm v + nS kv + nrm p.2 = _
      omega
    · rw [if_neg e, if_neg e, nS_cons, nS_cons]
      have := nS_put r v kv
      omega
/-- r's polynomial gains p -/
def incS (kv : Sm) (r : List Nat) (p : List Int) : Sm := putS kv r (padd (getS kv r) p)
theorem lin_inc (x : Int) (h : List Nat → Int) (r : List Nat) (p : List Int) (kv : Sm) : lin x (incS kv r p) h = lin x kv h + pv x p * h r := by
  unfold incS
  rw [lin_put, pv_padd]
  grind
theorem nS_inc (r : List Nat) (p : List Int) (kv : Sm) : nS (incS kv r p) ≤ nS kv + nrm p := by
  have h1 := nS_put r (padd (getS kv r) p) kv
  have h2 := nrm_padd (getS kv r) p
  unfold incS
  omega

/-! ### bounds, canonical form -/
structure Bd (n W L C : Nat) (S : Sm) : Prop where
  rows : ∀ p ∈ S, IsRow n p.1
  trm : ∀ p ∈ S, Trm p.2
  nd : (keys S).Nodup
  w : nS S ≤ W
  len : ∀ p ∈ S, p.2.length ≤ L
  cnt : S.length ≤ C
structure Cn (S : Sm) : Prop where
  ne : ∀ p ∈ S, p.2 ≠ []
  so : S.Pairwise fun p q => rowLe p.1 q.1
theorem Bd.mono {n W L C W' L' C' : Nat} {S : Sm} (b : Bd n W L C S) (h1 : W ≤ W') (h2 : L ≤ L') (h3 : C ≤ C') : Bd n W' L' C' S :=
  ⟨b.rows, b.trm, b.nd, Nat.le_trans b.w h1, fun p hp => Nat.le_trans (b.len p hp) h2, Nat.le_trans b.cnt h3⟩
theorem bd_nil {n L : Nat} : Bd n 0 L 0 [] := ⟨fun _ h => (nomatch h), fun _ h => (nomatch h), List.nodup_nil, Nat.le_refl _, fun _ h => (nomatch h), Nat.le_refl _⟩
theorem len_get {n W L C : Nat} {S : Sm} (b : Bd n W L C S) (r : List Nat) : (getS S r).length ≤ L := by
  by_cases h : getS S r = []
  · rw [h]; exact Nat.zero_le _
  · exact b.len _ (mem_get h)
theorem Bd.inc {n W L C V : Nat} {S : Sm} {r : List Nat} {p : List Int} (b : Bd n W L C S) (hr : IsRow n r) (hp : nrm p ≤ V) (hl : p.length ≤ L) : Bd n (W + V) L (C + 1) (incS S r p) := by
  refine ⟨fun q hq => ?_, fun q hq => ?_, nd_put b.nd _ _, Nat.le_trans (nS_inc r p S) (by have := b.w; omega), fun q hq => ?_, Nat.le_trans (len_put _ _ _) (by have := b.cnt; omega)⟩
  · rcases mem_put hq with h | h
    · exact b.rows q h
    · rw [h]; exact hr
  · rcases mem_put hq with h | h
    · exact b.trm q h
    · rw [h]; exact Trm_trm _
  · rcases mem_put hq with h | h
    · exact b.len q h
    · rw [h]
      have h1 := len_padd (getS S r) p
      have h2 := len_get b r
      show (padd (getS S r) p).length ≤ L
      omega
/-- the sum in order -/
def asum (kv : Sm) : Sm := sortB (fun a b => PySem.W.dataLt (enS1.f a) (enS1.f b)) (kv.filter fun p => !decide (p.2 = []))
theorem sum_perm {α : Type} {f : α → Int} {l m : List α} (h : l.Perm m) : (l.map f).sum = (m.map f).sum := by
  induction h with
  | nil => rfl
  | cons _ _ ih => rw [List.map_cons, List.map_cons, List.sum_cons, List.sum_cons, ih]
  | swap a b l => simp only [List.map_cons, List.sum_cons]; omega
  | trans _ _ h1 h2 => rw [h1, h2]
theorem sumN_perm {α : Type} {f : α → Nat} {l m : List α} (h : l.Perm m) : (l.map f).sum = (m.map f).sum := by
  induction h with
  | nil => rfl
  | cons _ _ ih => rw [List.map_cons, List.map_cons, List.sum_cons, List.sum_cons, ih]
  | swap a b l => simp only [List.map_cons, List.sum_cons]; omega
  | trans _ _ h1 h2 => rw [h1, h2]
theorem lin_perm (x : Int) (h : List Nat → Int) {S T : Sm} (p : S.Perm T) : lin x S h = lin x T h := sum_perm p
theorem lin_filter (x : Int) (h : List Nat → Int) : ∀ kv : Sm, lin x (kv.filter fun p => !decide (p.2 = [])) h = lin x kv h
  | [] => rfl
  | p :: kv => by
    rw [List.filter_cons]
    by_cases e : p.2 = []
    · rw [if_neg (by simp [e]), lin_filter x h kv, lin_cons, e]
      show _ = 0 * h p.1 + _
      simp
    · rw [if_pos (by simp [e]), lin_cons, lin_cons, lin_filter x h kv]
theorem lin_asum (x : Int) (h : List Nat → Int) (kv : Sm) : lin x (asum kv) h = lin x kv h := (lin_perm x h (sortB_perm _ _)).trans (lin_filter x h kv)
theorem nS_filter : ∀ kv : Sm, nS (kv.filter fun p => !decide (p.2 = [])) ≤ nS kv
  | [] => Nat.le_refl _
  | p :: kv => by
    have ih := nS_filter kv
    rw [List.filter_cons, nS_cons]
    split
    · rw [nS_cons]; omega
    · omega
theorem Bd.perm {n W L C : Nat} {S T : Sm} (b : Bd n W L C S) (p : T.Perm S) : Bd n W L C T :=
  ⟨fun q hq => b.rows q (p.mem_iff.mp hq), fun q hq => b.trm q (p.mem_iff.mp hq), ((p.map (·.1)).nodup_iff).mpr b.nd, by unfold nS; rw [sumN_perm p]; exact b.w, fun q hq => b.len q (p.mem_iff.mp hq), by rw [p.length_eq]; exact b.cnt⟩
theorem Bd.filt {n W L C : Nat} {S : Sm} (b : Bd n W L C S) : Bd n W L C (S.filter fun p => !decide (p.2 = [])) :=
  ⟨fun q hq => b.rows q (List.mem_filter.mp hq).1, fun q hq => b.trm q (List.mem_filter.mp hq).1, (List.filter_sublist.map _).nodup b.nd, Nat.le_trans (nS_filter S) b.w, fun q hq => b.len q (List.mem_filter.mp hq).1, Nat.le_trans (List.length_filter_le _ _) b.cnt⟩
theorem Bd.asum {n W L C : Nat} {S : Sm} (b : Bd n W L C S) : Bd n W L C (asum S) := b.filt.perm (sortB_perm _ _)
theorem cn_asum (S : Sm) : Cn (asum S) := by
  refine ⟨fun p hp => ?_, ?_⟩
  · have := (sortB_perm _ _).mem_iff.mp hp
    have := (List.mem_filter.mp this).2
    simpa using this
  · exact (sortB_sorted (fun p => enS1.f p) _).imp fun {a b} h => sLe_row h
/-- two sums of one value are one -/
def dl (r : List Nat) : List Nat → Int := fun s => if s = r then 1 else 0
theorem lin_dl (x : Int) (r : List Nat) : ∀ kv : Sm, (keys kv).Nodup → lin x kv (dl r) = pv x (getS kv r)
  | [], _ => rfl
  | p :: kv, hn => by
    rw [keys, List.map_cons, List.nodup_cons] at hn
    rw [lin_cons, lin_dl x r kv hn.2, get_cons]
    unfold dl
    by_cases e : p.1 = r
    · rw [if_pos e, if_pos e, get_none (by rw [← e]; exact hn.1)]
      show _ + 0 = _
      simp
    · rw [if_neg e, if_neg e]
      simp
theorem sub_of {n W L C n' W' L' C' : Nat} {S T : Sm} (b : Bd n W L C S) (b' : Bd n' W' L' C' T) (c : Cn S) (h : ∀ (x : Nat) h, lin (x : Int) S h = lin (x : Int) T h) : ∀ p ∈ S, p ∈ T := by
  intro p hp
  have e : ∀ x : Nat, pv (x : Int) p.2 = pv (x : Int) (getS T p.1) := fun x => by
    rw [← lin_dl _ _ _ b'.nd, ← h, lin_dl _ _ _ b.nd, get_mem b.nd hp]
  have ht : Trm (getS T p.1) := by
    by_cases z : getS T p.1 = []
    · rw [z]; intro a ha; cases ha
    · exact b'.trm _ (mem_get z)
  have e2 := pv_inj (b.trm p hp) ht e
  have := mem_get (kv := T) (r := p.1) (by rw [← e2]; exact c.ne p hp)
  rw [← e2] at this
  exact this
theorem sum_one {n W L C n' W' L' C' : Nat} {S T : Sm} (b : Bd n W L C S) (b' : Bd n' W' L' C' T) (c : Cn S) (c' : Cn T) (h : ∀ (x : Nat) h, lin (x : Int) S h = lin (x : Int) T h) : S = T := by
  have ndOf : ∀ {S : Sm}, (keys S).Nodup → S.Nodup := fun {S} hn => by
    unfold keys at hn
    exact (List.pairwise_map.mp hn).imp fun {a b} h e => h (by rw [e])
  have p : S.Perm T := (List.perm_ext_iff_of_nodup (ndOf b.nd) (ndOf b'.nd)).mpr fun q => ⟨sub_of b b' c h q, sub_of b' b c' (fun x g => (h x g).symm) q⟩
  refine p.eq_of_pairwise (le := fun p q => rowLe p.1 q.1) (fun q r hq hr h1 h2 => ?_) c.so c'.so
  have e := rowLe_anti h1 h2
  have hr' := p.mem_iff.mpr hr
  refine Prod.ext e ?_
  rw [← get_mem b.nd hq, e, get_mem b.nd hr']
end DL

set_option Elab.async false
set_option linter.all false
set_option maxRecDepth 100000
set_option maxHeartbeats 4000000
/-! MQ2: products of sums. -/
namespace DL
open PySem L2

def addS (one other : Sm) : Sm := asum (other.foldl (fun kv p => incS kv p.1 p.2) one)
def scaleS (S : Sm) (q : List Int) : Sm := asum (S.map fun p => (p.1, pmul p.2 q))
def stepS (k : Nat) (kv : Sm) (p : List Nat × List Int) : Sm := if p.1.getD (k + 1) 0 < p.1.getD k 0 then incS (incS kv (sk p.1 k) (pmul p.2 [0, 1])) p.1 (pmul p.2 [-1, 1]) else incS kv (sk p.1 k) p.2
def swapS (S : Sm) (k : Nat) : Sm := asum (S.foldl (stepS k) [])
def prodS (A B : Sm) : Sm := B.foldl (fun f p => addS f (scaleS ((fw p.1).foldl swapS A) p.2)) []

/-! ### values -/
section
variable (x : Int) {n : Nat}
theorem lin_inc_fold (h : List Nat → Int) : ∀ (other kv : Sm), lin x (other.foldl (fun kv p => incS kv p.1 p.2) kv) h = lin x kv h + lin x other h
  | [], kv => by
    show lin x kv h = lin x kv h + 0
    omega
  | p :: other, kv => by
    rw [List.foldl_cons, lin_inc_fold h other, lin_inc, lin_cons]
    omega
theorem lin_add (one other : Sm) (h : List Nat → Int) : lin x (addS one other) h = lin x one h + lin x other h := by
  unfold addS
  rw [lin_asum, lin_inc_fold]
theorem lin_scale (S : Sm) (q : List Int) (h : List Nat → Int) : lin x (scaleS S q) h = pv x q * lin x S h := by
  unfold scaleS
  rw [lin_asum]
  induction S with
  | nil => show (0 : Int) = pv x q * 0; simp
  | cons p S ih =>
    rw [List.map_cons, lin_cons, lin_cons, ih, pv_pmul]
    grind
theorem lin_step (h : List Nat → Int) {k : Nat} (hk : k + 1 < n) {p : List Nat × List Int} (hp : IsRow n p.1) (kv : Sm) : lin x (stepS k kv p) h = lin x kv h + pv x p.2 * tk x k h p.1 := by
  have hk' : k + 1 < p.1.length := by rw [hp.len]; exact hk
  have ne : p.1.getD k 0 ≠ p.1.getD (k + 1) 0 := fun z => by
    rw [getD_lt (by omega), getD_lt hk'] at z
    have := nd_inj hp.nd z
    omega
  unfold stepS tk
  by_cases c : p.1.getD (k + 1) 0 < p.1.getD k 0
  · rw [if_pos c, if_neg (by omega), lin_inc, lin_inc, pv_pmul, pv_pmul]
    have e1 : pv x [0, 1] = x := by show 0 + x * (1 + x * 0) = x; grind
    have e2 : pv x [-1, 1] = x - 1 := by show -1 + x * (1 + x * 0) = x - 1; grind
    rw [e1, e2]
    grind
  · rw [if_neg c, if_pos (by omega), lin_inc]
theorem lin_swap (h : List Nat → Int) {k : Nat} (hk : k + 1 < n) {S : Sm} (hS : ∀ p ∈ S, IsRow n p.1) : lin x (swapS S k) h = lin x S (tk x k h) := by
  unfold swapS
  rw [lin_asum]
  have key : ∀ (S kv : Sm), (∀ p ∈ S, IsRow n p.1) → lin x (S.foldl (stepS k) kv) h = lin x kv h + lin x S (tk x k h) := by
    intro S
    induction S with
    | nil => intro kv _; show lin x kv h = lin x kv h + 0; omega
    | cons p S ih =>
      intro kv hS
      rw [List.foldl_cons, ih _ fun q hq => hS q (List.mem_cons_of_mem _ hq), lin_step x h hk (hS p List.mem_cons_self), lin_cons]
      omega
  rw [key S [] hS]
  show 0 + _ = _
  omega
theorem lin_eqv {S : Sm} (hS : ∀ p ∈ S, IsRow n p.1) {h g : List Nat → Int} (e : Eqv n h g) : lin x S h = lin x S g := by
  induction S with
  | nil => rfl
  | cons p S ih =>
    rw [lin_cons, lin_cons, e _ (hS p List.mem_cons_self), ih fun q hq => hS q (List.mem_cons_of_mem _ hq)]
end

/-! ### bounds -/
theorem pmul01 (p : List Int) : nrm (pmul p [0, 1]) ≤ nrm p ∧ (pmul p [0, 1]).length ≤ p.length + 2 := by
  have h1 := nrm_pmul p [0, 1]
  have h2 := len_pmul p [0, 1]
  have : nrm [0, 1] = 1 := by decide
  rw [this] at h1
  exact ⟨by omega, h2⟩
theorem pmul11 (p : List Int) : nrm (pmul p [-1, 1]) ≤ 2 * nrm p ∧ (pmul p [-1, 1]).length ≤ p.length + 2 := by
  have h1 := nrm_pmul p [-1, 1]
  have h2 := len_pmul p [-1, 1]
  have : nrm [-1, 1] = 2 := by decide
  rw [this] at h1
  exact ⟨by omega, h2⟩
theorem mem_nS {S : Sm} {p : List Nat × List Int} (h : p ∈ S) : nrm p.2 ≤ nS S := by
  induction S with
  | nil => cases h
  | cons q S ih =>
    rw [nS_cons]
    rcases List.mem_cons.mp h with rfl | h
    · omega
    · have := ih h; omega
theorem Bd.step {n W L C V : Nat} {kv : Sm} {p : List Nat × List Int} {k : Nat} (b : Bd n W L C kv) (hp : IsRow n p.1) (hk : k + 1 < n) (hw : nrm p.2 ≤ V) (hl : p.2.length + 2 ≤ L) : Bd n (W + 3 * V) L (C + 2) (stepS k kv p) := by
  unfold stepS
  have m1 := pmul01 p.2
  have m2 := pmul11 p.2
  split
  · exact ((b.inc (V := V) (hp.sk hk) (by omega) (by omega)).inc (V := 2 * V) hp (by omega) (by omega)).mono (by omega) (Nat.le_refl _) (by omega)
  · exact (b.inc (V := V) (hp.sk hk) hw (by omega)).mono (by omega) (Nat.le_refl _) (by omega)
theorem Bd.fold {n L k : Nat} (hk : k + 1 < n) : ∀ (S : Sm) {W C : Nat} {kv : Sm}, Bd n W L C kv → (∀ p ∈ S, IsRow n p.1) → (∀ p ∈ S, p.2.length + 2 ≤ L) → Bd n (W + 3 * nS S) L (C + 2 * S.length) (S.foldl (stepS k) kv)
  | [], _, _, _, b, _, _ => b
  | p :: S, W, C, kv, b, hr, hl => by
    rw [List.foldl_cons, nS_cons, List.length_cons]
    exact (Bd.fold hk S (b.step (hr p List.mem_cons_self) hk (Nat.le_refl _) (hl p List.mem_cons_self)) (fun q hq => hr q (List.mem_cons_of_mem _ hq)) fun q hq => hl q (List.mem_cons_of_mem _ hq)).mono (by omega) (Nat.le_refl _) (by omega)
theorem Bd.swap {n W L C k : Nat} {S : Sm} (b : Bd n W L C S) (hk : k + 1 < n) : Bd n (3 * W) (L + 2) (2 * C) (swapS S k) := by
  have := Bd.fold (L := L + 2) hk S bd_nil b.rows fun p hp => by have := b.len p hp; omega
  have h1 := b.w
  have h2 := b.cnt
  exact (this.mono (by omega) (Nat.le_refl _) (by omega)).asum
theorem Bd.word {n : Nat} : ∀ (ks : List Nat) {W L C : Nat} {S : Sm}, Bd n W L C S → (∀ k ∈ ks, k + 1 < n) → Bd n (3 ^ ks.length * W) (L + 2 * ks.length) (2 ^ ks.length * C) (ks.foldl swapS S)
  | [], W, L, C, S, b, _ => b.mono (by simp) (by simp) (by simp)
  | k :: ks, W, L, C, S, b, hk => by
    rw [List.foldl_cons, List.length_cons]
    refine (Bd.word ks (b.swap (hk k List.mem_cons_self)) fun j hj => hk j (List.mem_cons_of_mem _ hj)).mono ?_ (by omega) ?_
    · rw [Nat.pow_succ, Nat.mul_assoc]; exact Nat.le_refl _
    · rw [Nat.pow_succ, Nat.mul_assoc]; exact Nat.le_refl _
theorem Bd.scale {n W L C : Nat} {S : Sm} (b : Bd n W L C S) (q : List Int) : Bd n (W * nrm q) (L + q.length) C (scaleS S q) := by
  refine Bd.asum ⟨fun p hp => ?_, fun p hp => ?_, ?_, ?_, fun p hp => ?_, by rw [List.length_map]; exact b.cnt⟩
  · obtain ⟨p', hp', rfl⟩ := List.mem_map.mp hp
    exact b.rows p' hp'
  · obtain ⟨p', hp', rfl⟩ := List.mem_map.mp hp
    exact Trm_trm _
  · unfold keys
    rw [List.map_map]
    exact b.nd
  · have : ∀ S : Sm, nS (S.map fun p => (p.1, pmul p.2 q)) ≤ nS S * nrm q := fun S => by
      induction S with
      | nil => exact Nat.zero_le _
      | cons p S ih =>
        rw [List.map_cons, nS_cons, nS_cons, Nat.add_mul]
        have := nrm_pmul p.2 q
        show nrm (pmul p.2 q) + _ ≤ _
        omega
    exact Nat.le_trans (this S) (Nat.mul_le_mul_right _ b.w)
  · obtain ⟨p', hp', rfl⟩ := List.mem_map.mp hp
    have := len_pmul p'.2 q
    have := b.len p' hp'
    show (pmul p'.2 q).length ≤ _
    omega
theorem Bd.addFold {n L : Nat} : ∀ (T : Sm) {W C : Nat} {kv : Sm}, Bd n W L C kv → (∀ p ∈ T, IsRow n p.1) → (∀ p ∈ T, p.2.length ≤ L) → Bd n (W + nS T) L (C + T.length) (T.foldl (fun kv p => incS kv p.1 p.2) kv)
  | [], _, _, _, b, _, _ => b
  | p :: T, W, C, kv, b, hr, hl => by
    rw [List.foldl_cons, nS_cons, List.length_cons]
    exact (Bd.addFold T (b.inc (hr p List.mem_cons_self) (Nat.le_refl _) (hl p List.mem_cons_self)) (fun q hq => hr q (List.mem_cons_of_mem _ hq)) fun q hq => hl q (List.mem_cons_of_mem _ hq)).mono (by omega) (Nat.le_refl _) (by omega)
theorem Bd.add {n W L C W' L' C' : Nat} {S T : Sm} (b : Bd n W L C S) (b' : Bd n W' L' C' T) : Bd n (W + W') (max L L') (C + C') (addS S T) := by
  have := Bd.addFold T (b.mono (Nat.le_refl _) (show L ≤ max L L' by omega) (Nat.le_refl _)) b'.rows fun p hp => by have := b'.len p hp; omega
  have h1 := b'.w
  have h2 := b'.cnt
  exact (this.mono (by omega) (Nat.le_refl _) (by omega)).asum
theorem Bd.prodFold {n W L C m : Nat} {A : Sm} (b : Bd n W L C A) : ∀ (B : Sm) {V M E : Nat} {f : Sm}, Bd n V M E f → (∀ p ∈ B, IsRow n p.1) → (∀ p ∈ B, (fw p.1).length ≤ m) → (∀ p ∈ B, L + 2 * m + p.2.length ≤ M) →
    Bd n (V + 3 ^ m * W * nS B) M (E + 2 ^ m * C * B.length) (B.foldl (fun f p => addS f (scaleS ((fw p.1).foldl swapS A) p.2)) f)
  | [], _, _, _, _, b', _, _, _ => b'
  | p :: B, V, M, E, f, b', hr, hm, hl => by
    rw [List.foldl_cons, nS_cons, List.length_cons]
    have w1 := Bd.word (fw p.1) b (fw_lt (hr p List.mem_cons_self).len)
    have hm1 := hm p List.mem_cons_self
    have hl1 := hl p List.mem_cons_self
    have w2 := (w1.mono (Nat.mul_le_mul_right _ (Nat.pow_le_pow_right (by omega) hm1)) (show _ ≤ L + 2 * m by omega) (Nat.mul_le_mul_right _ (Nat.pow_le_pow_right (by omega) hm1))).scale p.2
    have w3 := b'.add w2
    refine (Bd.prodFold b B (w3.mono (Nat.le_refl _) (show _ ≤ M by omega) (Nat.le_refl _)) (fun q hq => hr q (List.mem_cons_of_mem _ hq)) (fun q hq => hm q (List.mem_cons_of_mem _ hq)) fun q hq => hl q (List.mem_cons_of_mem _ hq)).mono ?_ (Nat.le_refl _) ?_
    · rw [Nat.mul_add]; omega
    · rw [Nat.mul_add]; omega
theorem Bd.prod {n W L C W' L' C' m : Nat} {A B : Sm} (b : Bd n W L C A) (b' : Bd n W' L' C' B) (hm : ∀ p ∈ B, (fw p.1).length ≤ m) : Bd n (3 ^ m * W * W') (L + 2 * m + L') (2 ^ m * C * C') (prodS A B) := by
  have := Bd.prodFold b B (bd_nil (n := n) (L := L + 2 * m + L')) b'.rows hm fun p hp => by have := b'.len p hp; omega
  refine this.mono ?_ (Nat.le_refl _) ?_
  · rw [Nat.zero_add]; exact Nat.mul_le_mul_left _ b'.w
  · rw [Nat.zero_add]; exact Nat.mul_le_mul_left _ b'.cnt
theorem cn_nil : Cn [] := ⟨fun _ h => (nomatch h), List.Pairwise.nil⟩
theorem cn_prod (A B : Sm) : Cn (prodS A B) := by
  have key : ∀ (B f : Sm), Cn f → Cn (B.foldl (fun f p => addS f (scaleS ((fw p.1).foldl swapS A) p.2)) f) := fun B => by
    induction B with
    | nil => intro f h; exact h
    | cons p B ih => intro f _; exact ih _ (cn_asum _)
  exact key B [] cn_nil
theorem lin_word (x : Int) {n : Nat} : ∀ (ks : List Nat) {W L C : Nat} {S : Sm} (h : List Nat → Int), Bd n W L C S → (∀ k ∈ ks, k + 1 < n) → lin x (ks.foldl swapS S) h = lin x S (tw x ks h)
  | [], _, _, _, _, _, _, _ => rfl
  | k :: ks, _, _, _, S, h, b, hk => by
    rw [List.foldl_cons, lin_word x ks h (b.swap (hk k List.mem_cons_self)) fun j hj => hk j (List.mem_cons_of_mem _ hj), lin_swap x _ (hk k List.mem_cons_self) b.rows]
    rfl
theorem lin_prod (x : Int) {n W L C : Nat} {A B : Sm} (b : Bd n W L C A) (hr : ∀ p ∈ B, IsRow n p.1) (h : List Nat → Int) : lin x (prodS A B) h = lin x B fun w => lin x A (tw x (fw w) h) := by
  have key : ∀ (B f : Sm), (∀ p ∈ B, IsRow n p.1) → lin x (B.foldl (fun f p => addS f (scaleS ((fw p.1).foldl swapS A) p.2)) f) h = lin x f h + lin x B fun w => lin x A (tw x (fw w) h) := fun B => by
    induction B with
    | nil => intro f _; show lin x f h = lin x f h + 0; omega
    | cons p B ih =>
      intro f hr
      rw [List.foldl_cons, ih _ fun q hq => hr q (List.mem_cons_of_mem _ hq), lin_add, lin_scale, lin_word x (fw p.1) h b (fw_lt (hr p List.mem_cons_self).len), lin_cons]
      omega
  unfold prodS
  rw [key B [] hr]
  show 0 + _ = _
  omega

/-! ### the laws -/
theorem lin_sum (x y : Int) (ks : List Nat) (g : List Nat → List Nat → Int) (w : List Nat) : ∀ A : Sm, tw x ks (fun d => lin y A fun r => g d r) w = lin y A fun r => tw x ks (fun d => g d r) w
  | [] => by
    have : ∀ (ks : List Nat) (w : List Nat), tw x ks (fun _ => (0 : Int)) w = 0 := fun ks => by
      induction ks with
      | nil => intro _; rfl
      | cons k ks ih =>
        intro w
        show tk x k (tw x ks fun _ => 0) w = 0
        unfold tk
        rw [ih, ih]
        split
        · rfl
        · simp
    exact this ks w
  | p :: A => by
    have e : (fun d => lin y (p :: A) fun r => g d r) = fun d => pv y p.2 * g d p.1 + 1 * lin y A fun r => g d r := funext fun d => by rw [lin_cons, Int.one_mul]
    rw [e, tw_lin, lin_sum x y ks g w A, lin_cons, Int.one_mul]
theorem prod_assoc (x : Int) {n W L C W' L' C' V M E V' M' E' : Nat} {A B T : Sm} (bA : Bd n W L C A) (bB : Bd n W' L' C' B) (bT : Bd n V M E T) (bAB : Bd n V' M' E' (prodS A B)) {V2 M2 E2 : Nat} (bBT : Bd n V2 M2 E2 (prodS B T)) (h : List Nat → Int) :
    lin x (prodS (prodS A B) T) h = lin x (prodS A (prodS B T)) h := by
  rw [lin_prod x bAB bT.rows, lin_prod x bA bBT.rows, lin_prod x bB bT.rows]
  refine lin_eqv x bT.rows fun c hc => ?_
  rw [lin_prod x bA bB.rows]
  refine lin_eqv x bB.rows fun w hw => ?_
  rw [lin_sum x x (fw c) (fun d r => tw x (fw d) h r) w A]
  exact lin_eqv x bA.rows fun r hr => (mul_word (w := w) hr (fw c) h (fw_lt hc.len) w hw).symm
end DL

set_option Elab.async false
set_option linter.all false
set_option maxRecDepth 100000
set_option maxHeartbeats 4000000
/-! DM5: what the mirrors with dicts answer. -/
namespace DL
open PySem L2
theorem lcM_ev {α β : Type} {e : β → α} {fi : Rho → Src → Option (List α × Src)} {bind : α → Rho → Option Rho} {t : Yb} {el : Y} {vs : List Nat} {ρ : Rho} {s s1 : Src} {xs : List β} (p : β → Bool) (f : β → D) (h0 : fi ρ s = some (xs.map e, s1))
    (h : ∀ x ∈ xs, ∃ ρ1, bind (e x) (wipeR ρ vs) = some ρ1 ∧ t ρ1 s1 = some (p x, s1) ∧ (p x = true → el ρ1 s1 = some (f x, s1))) (hl : xs.length ≤ lim) : lcY fi bind t el vs ρ s = some ((xs.filter p).map f, s1) := by
  unfold lcY
  rw [h0]
  dsimp only [bO]
  rw [lcGo_evm p f xs [] h (by rw [List.length_nil]; omega)]
  rfl
theorem lcMt_ev {α β : Type} {e : β → α} {fi : Rho → Src → Option (List α × Src)} {bind : α → Rho → Option Rho} {el : Y} {vs : List Nat} {ρ : Rho} {s s1 : Src} {xs : List β} (f : β → D) (h0 : fi ρ s = some (xs.map e, s1))
    (h : ∀ x ∈ xs, ∃ ρ1, bind (e x) (wipeR ρ vs) = some ρ1 ∧ el ρ1 s1 = some (f x, s1)) (hl : xs.length ≤ lim) : lcY fi bind yesT el vs ρ s = some (xs.map f, s1) := by
  rw [lcM_ev (fun _ => true) f h0 (fun x hx => let ⟨ρ1, h1, h2⟩ := h x hx; ⟨ρ1, h1, rfl, fun _ => h2⟩) hl, List.filter_eq_self.mpr fun _ _ => rfl]
theorem pop_ev {i : Nat} {ρ : Rho} {s : Src} {xs : List D} {a : D} (hi : ρ[i]? = some (.ow (xs ++ [a]))) : popS i ρ s = some (.nx (ρ.set i (.ow xs)), s) := by
  unfold popS
  rw [hi]
  dsimp only
  rw [if_neg (by simp), List.dropLast_concat]
theorem aug1_ev {i : Nat} {gb ge : Y} {ρ : Rho} {s s1 s2 : Src} {F : List Int} {k : Nat} {c : Int} (h1 : gb ρ s = some (eN k, s1)) (h2 : ge ρ s1 = some (.int c, s2)) (hi : ρ[i]? = some (.ow (F.map PyData.int))) (hk : k < F.length) :
    aug1S (fun i j => i + j) i gb ge ρ s = some (.nx (ρ.set i (.ow ((addAt F (k, c)).map PyData.int))), s2) := by
  unfold aug1S
  rw [h1]
  dsimp only [bO]
  rw [hi]
  show (if 0 ≤ (k : Int) ∧ (k : Int) < (F.map PyData.int).length then _ else _) = _
  rw [List.length_map, if_pos ⟨by omega, by omega⟩, Int.toNat_natCast]
  have e : (F.map PyData.int)[k]? = some (.int F[k]) := by rw [List.getElem?_map, List.getElem?_eq_getElem hk]; rfl
  rw [e]
  dsimp only
  rw [h2]
  unfold addAt
  rw [List.map_set, List.getD_eq_getElem?_getD, List.getElem?_eq_getElem hk]
  rfl

/-! ### tables of rows and polynomials -/
abbrev eT1 (p : List Nat × List Int) : D × D := (enR.f p.1, eP p.2)
abbrev eT (kv : Sm) : List (D × D) := kv.map eT1
theorem eT_cons (p : List Nat × List Int) (kv : Sm) : eT (p :: kv) = eT1 p :: eT kv := rfl
theorem keyDs_N (n : Nat) : ∀ r : List Nat, keyDs n (r.map En.nat.f) = true
  | [] => by simp [keyDs]
  | a :: r => by
    rw [List.map_cons, keyDs, keyDs_N n r]
    show (keyD n (.int (a : Int)) && true) = true
    cases n <;> simp [keyD]
theorem tk_R (r : List Nat) : isTk (enR.f r) = true := by
  show keyD 6 (.tuple (r.map En.nat.f)) = true
  rw [keyD, keyDs_N]
theorem kOk_T (kv : Sm) (r : List Nat) : kOk ((eT kv).map (·.1)) (enR.f r) = true := by
  unfold kOk
  rw [tk_R, Bool.or_eq_true]
  refine .inr ?_
  rw [Bool.true_and, List.map_map, List.all_map, List.all_eq_true]
  exact fun p _ => tk_R p.1
theorem dfind_T (r : List Nat) : ∀ kv : Sm, dfind (eT kv) (enR.f r) = if r ∈ keys kv then some (eP (getS kv r)) else none
  | [] => rfl
  | p :: kv => by
    have ih := dfind_T r kv
    unfold dfind at ih ⊢
    rw [eT_cons, List.find?_cons, get_cons]
    show (match PyData.eqv (enR.f p.1) (enR.f r) with | true => _ | false => _ : Option (D × D)).map (·.2) = _
    rw [enR.eqvD]
    by_cases e : p.1 = r
    · rw [decide_eq_true e, if_pos e, if_pos (by rw [keys, List.map_cons, e]; exact List.mem_cons_self)]
      rfl
    · rw [decide_eq_false e, if_neg e]
      dsimp only
      rw [ih]
      by_cases c : r ∈ keys kv
      · rw [if_pos c, if_pos (show r ∈ keys (p :: kv) from List.mem_cons_of_mem _ c)]
      · rw [if_neg c, if_neg (show r ∉ keys (p :: kv) from fun z => by rcases List.mem_cons.mp z with z | z; exact e z.symm; exact c z)]
theorem dgetD_T (kv : Sm) (r : List Nat) : (dfind (eT kv) (enR.f r)).getD (eP []) = eP (getS kv r) := by
  rw [dfind_T]
  split
  · rfl
  · rename_i c
    rw [get_none c]
    rfl
theorem dput_T (r : List Nat) (v : List Int) (kv : Sm) (hn : (keys kv).Nodup) : dput (eT kv) (enR.f r) (eP v) = eT (putS kv r v) := by
  have hany : ∀ kv : Sm, ((eT kv).any fun p => PyData.eqv p.1 (enR.f r)) = decide (r ∈ keys kv) := fun kv => by
    induction kv with
    | nil => rfl
    | cons p kv ih =>
      rw [eT_cons, List.any_cons, ih, enR.eqvD]
      show (decide (p.1 = r) || decide (r ∈ keys kv)) = decide (r ∈ p.1 :: keys kv)
      by_cases e : p.1 = r
      · rw [decide_eq_true e, Bool.true_or, decide_eq_true (by rw [e]; exact List.mem_cons_self)]
      · rw [decide_eq_false e, Bool.false_or]
        by_cases c : r ∈ keys kv
        · rw [decide_eq_true c, decide_eq_true (List.mem_cons_of_mem _ c)]
        · rw [decide_eq_false c, decide_eq_false (fun z => by rcases List.mem_cons.mp z with z | z; exact e z.symm; exact c z)]
  unfold dput
  rw [hany]
  by_cases c : r ∈ keys kv
  · rw [if_pos (decide_eq_true c)]
    have idm : ∀ kv : Sm, r ∉ keys kv → (eT kv).map (fun p => if PyData.eqv p.1 (enR.f r) = true then (p.1, eP v) else p) = eT kv := fun kv => by
      induction kv with
      | nil => intro _; rfl
      | cons p kv ih =>
        intro h
        rw [eT_cons, List.map_cons, ih fun z => h (List.mem_cons_of_mem _ z)]
        show (if PyData.eqv (enR.f p.1) (enR.f r) = true then _ else _) :: _ = _
        rw [enR.eqvD, if_neg (by rw [decide_eq_false (fun e => h (by rw [← e]; exact List.mem_cons_self))]; exact Bool.false_ne_true)]
    induction kv with
    | nil => cases c
    | cons p kv ih =>
      rw [keys, List.map_cons, List.nodup_cons] at hn
      rw [eT_cons, List.map_cons]
      unfold putS
      show (if PyData.eqv (enR.f p.1) (enR.f r) = true then (enR.f p.1, eP v) else eT1 p) :: _ = _
      rw [enR.eqvD]
      by_cases e : p.1 = r
      · rw [if_pos (decide_eq_true e), if_pos e, idm kv (by rw [← e]; exact hn.1)]
        rfl
      · rw [if_neg (by rw [decide_eq_false e]; exact Bool.false_ne_true), if_neg e, ih hn.2 (by rcases List.mem_cons.mp c with z | z; exact absurd z.symm e; exact z)]
        rfl
  · rw [if_neg (by rw [decide_eq_false c]; exact Bool.false_ne_true)]
    induction kv with
    | nil => rfl
    | cons p kv ih =>
      rw [keys, List.map_cons, List.nodup_cons] at hn
      unfold putS
      rw [if_neg (fun e => c (by rw [← e]; exact List.mem_cons_self)), eT_cons, List.cons_append, ih hn.2 fun z => c (List.mem_cons_of_mem _ z)]
      rfl
theorem put_new : ∀ (us kv : Sm), (keys (kv ++ us)).Nodup → us.foldl (fun kv p => putS kv p.1 p.2) kv = kv ++ us
  | [], kv, _ => (List.append_nil kv).symm
  | p :: us, kv, hn => by
    have h1 : p.1 ∉ keys kv := fun h => by
      unfold keys at hn
      rw [List.map_append] at hn
      exact (List.nodup_append.mp hn).2.2 p.1 h p.1 List.mem_cons_self rfl
    have e : putS kv p.1 p.2 = kv ++ [p] := by
      have : ∀ kv : Sm, p.1 ∉ keys kv → putS kv p.1 p.2 = kv ++ [p] := fun kv => by
        induction kv with
        | nil => intro _; rfl
        | cons q kv ih =>
          intro h
          unfold putS
          rw [if_neg (fun e => h (by rw [← e]; exact List.mem_cons_self)), ih fun z => h (List.mem_cons_of_mem _ z)]
          rfl
      exact this kv h1
    rw [List.foldl_cons, e, put_new us _ (by rw [List.append_assoc]; exact hn), List.append_assoc]
    rfl
theorem putD_T : ∀ (us kv : Sm), (keys kv).Nodup → putD (eT kv) (eT us) = eT (us.foldl (fun kv p => putS kv p.1 p.2) kv)
  | [], _, _ => rfl
  | p :: us, kv, hn => by
    show putD (dput (eT kv) (enR.f p.1) (eP p.2)) (eT us) = _
    rw [dput_T p.1 p.2 kv hn, putD_T us _ (nd_put hn _ _)]
    rfl
theorem pairs2_T : ∀ us : Sm, pairs2 (us.map enS1.f) = some (eT us)
  | [] => rfl
  | p :: us => by
    show pairs2 (.tuple [enR.f p.1, eP p.2] :: us.map enS1.f) = _
    rw [pairs2, pairs2_T us]
    rfl
theorem dictC_T {x : D} {us : Sm} (hx : itemsD x = some (us.map enS1.f)) (hn : (keys us).Nodup) (hl : us.length ≤ lim) : dictC [x] = some (eT us) := by
  show (mO (itemsD x) fun ds => mO (pairs2 ds) fun ps => if ((ps.map (·.1)).all isI = true ∨ (ps.map (·.1)).all isTk = true) ∧ ps.length ≤ lim then some (putD [] ps) else none) = _
  rw [hx]
  dsimp only [mO]
  rw [pairs2_T]
  dsimp only
  have e : putD [] (eT us) = eT us := by
    have := putD_T us [] List.nodup_nil
    rw [put_new us [] hn] at this
    exact this
  rw [if_pos ⟨.inr (by rw [List.map_map, List.all_map, List.all_eq_true]; exact fun p _ => tk_R p.1), by rw [List.length_map]; exact hl⟩, e]
theorem dcC_ev {g : Yl} {ρ : Rho} {s s1 : Src} {xs : List D} {kvs : List (D × D)} (h : g ρ s = some (xs, s1)) (h2 : dictC xs = some kvs) : dC dictC g ρ s = some (kvs, s1) := by
  unfold dC
  rw [h]
  dsimp only [bO]
  rw [h2]
  rfl
theorem asgd_ev {i : Nat} {g : Yd} {ρ : Rho} {s s1 : Src} {kvs : List (D × D)} (h : g ρ s = some (kvs, s1)) : asgS i (dcU g) ρ s = some (.nx (ρ.set i (.dc kvs)), s1) := by
  unfold asgS dcU
  rw [h]
  rfl
theorem frD_ev {g : Yd} {ρ : Rho} {s s1 : Src} {kvs : List (D × D)} (h : g ρ s = some (kvs, s1)) : frD g ρ s = some (.dict kvs, s1) := by
  unfold frD
  rw [h]
  rfl
theorem frzd_s {i : Nat} {G : Z} {ρ : Rho} {s : Src} {kvs : List (D × D)} {r : Option (Fl × Src)} (hi : ρ[i]? = some (.dc kvs)) (h : G (ρ.set i (.fz (.dict kvs))) s = r) : frzS i G ρ s = r := by
  unfold frzS frzR
  rw [hi]
  exact h
theorem oget_T {i : Nat} {a b : Y} {ρ : Rho} {s s1 s2 : Src} {kv : Sm} {r : List Nat} (h1 : a ρ s = some (enR.f r, s1)) (h2 : b ρ s1 = some (eP [], s2)) (hi : ρ[i]? = some (.dc (eT kv))) : oget2Y i a b ρ s = some (eP (getS kv r), s2) := by
  unfold oget2Y
  rw [h1]
  dsimp only [bO]
  rw [h2]
  dsimp only
  rw [hi]
  dsimp only
  rw [if_pos (kOk_T kv r), dgetD_T]
theorem subX_T {i : Nat} {a : Y} {ρ : Rho} {s s1 : Src} {kv : Sm} {r : List Nat} {v : List Int} (h1 : a ρ s = some (enR.f r, s1)) (hi : ρ[i]? = some (.dc (eT kv))) (hn : (keys kv).Nodup) (hl : kv.length < lim) : subX i a (eP v) ρ s = some (ρ.set i (.dc (eT (putS kv r v))), s1) := by
  unfold subX
  rw [h1]
  dsimp only [bO]
  rw [hi]
  dsimp only
  rw [if_pos ⟨kOk_T kv r, by rw [List.length_map]; exact hl⟩, dput_T r v kv hn]
theorem ixX_T {kv : Sm} {p : List Nat × List Int} (hn : (keys kv).Nodup) (hp : p ∈ kv) : ixX (.dict (eT kv)) (enR.f p.1) = some (eP p.2) := by
  show (if kOk ((eT kv).map (·.1)) (enR.f p.1) = true then dfind (eT kv) (enR.f p.1) else none) = _
  rw [if_pos (kOk_T kv p.1), dfind_T, if_pos (List.mem_map_of_mem hp), get_mem hn hp]
theorem sortOk_S (S : Sm) (hl : S.length ≤ lim) : sortOk (S.map enS1.f) = true := by
  unfold sortOk
  rw [Bool.and_eq_true, Bool.and_eq_true, Bool.and_eq_true]
  refine ⟨⟨⟨(En.lst enS1).shaped (by decide) S, ?_⟩, ?_⟩, decide_eq_true (by rw [List.length_map]; exact hl)⟩
  · unfold alikeB
    rw [List.all_map, List.all_eq_true]
    intro p _
    show (S.map enS1.f).all (fun e => PySem.W.alike (enS1.f p) e) = true
    rw [List.all_map, List.all_eq_true]
    exact fun q _ => alike_S1 p q
  · rw [Bool.or_eq_true]
    refine .inl ?_
    rw [List.all_map, List.all_eq_true]
    exact fun p _ => rfl
theorem sortZ_S (S : Sm) (hl : S.length ≤ lim) : sortZC [.list (S.map enS1.f)] = some ((sortB (fun a b => PySem.W.dataLt (enS1.f a) (enS1.f b)) S).map enS1.f) := by
  have hx : sortXC [.list (S.map enS1.f)] = some ((sortB (fun a b => PySem.W.dataLt (enS1.f a) (enS1.f b)) S).map enS1.f) := by
    unfold sortXC
    dsimp only
    rw [if_pos (sortOk_S S hl), sortX_map (fun a => enS1.f a) S]
  unfold sortZC
  cases S with
  | nil => rfl
  | cons p S =>
    have : sortC [.list ((p :: S).map enS1.f)] = none := rfl
    rw [this]
    exact hx
theorem sortOk_R (S : List (List Nat)) (hne : ∀ r ∈ S, r ≠ []) (hl : S.length ≤ lim) : sortOk (S.map enR.f) = true := by
  unfold sortOk
  rw [Bool.and_eq_true, Bool.and_eq_true, Bool.and_eq_true]
  refine ⟨⟨⟨(En.lst enR).shaped (by decide) S, ?_⟩, ?_⟩, decide_eq_true (by rw [List.length_map]; exact hl)⟩
  · unfold alikeB
    rw [List.all_map, List.all_eq_true]
    intro p _
    show (S.map enR.f).all (fun e => PySem.W.alike (enR.f p) e) = true
    rw [List.all_map, List.all_eq_true]
    exact fun q _ => alike_R p q
  · rw [Bool.or_eq_true]
    refine .inl ?_
    rw [List.all_map, List.all_eq_true]
    intro r hr
    cases r with
    | nil => exact absurd rfl (hne [] hr)
    | cons a r => rfl
theorem sortZ_R (S : List (List Nat)) (hne : ∀ r ∈ S, r ≠ []) (hl : S.length ≤ lim) : sortZC [.list (S.map enR.f)] = some ((sortB (fun a b => PySem.W.dataLt (enR.f a) (enR.f b)) S).map enR.f) := by
  have hx : sortXC [.list (S.map enR.f)] = some ((sortB (fun a b => PySem.W.dataLt (enR.f a) (enR.f b)) S).map enR.f) := by
    unfold sortXC
    dsimp only
    rw [if_pos (sortOk_R S hne hl), sortX_map (fun a => enR.f a) S]
  unfold sortZC
  cases S with
  | nil => rfl
  | cons p S =>
    have : sortC [.list ((p :: S).map enR.f)] = none := rfl
    rw [this]
    exact hx
end DL

set_option Elab.async false
set_option linter.all false
set_option maxRecDepth 100000
set_option maxHeartbeats 4000000
/-! EG: tables of numbers, filled by words (plain). -/
namespace DL
abbrev Tab := List (List Nat)
def greats (row : List Nat) (x : Nat) : List Nat := (List.range row.length).filter fun j => decide (x < row.getD j 0)
/-- what a number does to a row of a table: the row behind it, the number that goes on -/
def bump (row : List Nat) (x : Nat) : List Nat × Option Nat := match greats row x with
  | [] => (row ++ [x], none)
  | j :: _ => (if row.getD j 0 ≠ x + 1 ∨ x ∉ row then row.set j x else row, some (row.getD j 0))
def putB : Tab → Nat → Nat → Tab × (Nat × Nat)
  | [], x, k => ([[x]], (k, 0))
  | r :: rs, x, k => match bump r x with
    | (r', none) => (r' :: rs, (k, r.length))
    | (r', some y) => (r' :: (putB rs y (k + 1)).1, (putB rs y (k + 1)).2)
theorem greats_cons (y : Nat) (row : List Nat) (x : Nat) : greats (y :: row) x = (if x < y then [0] else []) ++ (greats row x).map (· + 1) := by
  unfold greats
  rw [List.length_cons, List.range_succ_eq_map, List.filter_cons, List.filter_map]
  have e : (List.filter ((fun j => decide (x < (y :: row).getD j 0)) ∘ Nat.succ) (List.range row.length)) = (List.range row.length).filter fun j => decide (x < row.getD j 0) := List.filter_congr fun j _ => rfl
  rw [e]
  by_cases h : x < y
  · rw [if_pos (by simpa using h), if_pos h]; rfl
  · rw [if_neg (by simpa using h), if_neg h]; rfl
theorem greats_more (row : List Nat) (x : Nat) : (greats row x = [] ∧ (row.filter fun y => decide (x < y)) = []) ∨ ∃ j g m, greats row x = j :: g ∧ j < row.length ∧ (row.filter fun y => decide (x < y)) = row.getD j 0 :: m ∧ row.idxOf (row.getD j 0) = j := by
  induction row with
  | nil => exact .inl ⟨rfl, rfl⟩
  | cons y row ih =>
    rw [greats_cons]
    by_cases h : x < y
    · rw [if_pos h, List.filter_cons_of_pos (by simpa using h)]
      exact .inr ⟨0, _, _, rfl, by simp, rfl, by simp⟩
    · rw [if_neg h, List.filter_cons_of_neg (by simpa using h), List.nil_append]
      rcases ih with ⟨h1, h2⟩ | ⟨j, g, m, h1, h2, h3, h4⟩
      · exact .inl ⟨by rw [h1]; rfl, h2⟩
      · refine .inr ⟨j + 1, g.map (· + 1), m, by rw [h1]; rfl, by rw [List.length_cons]; omega, h3, ?_⟩
        show (y :: row).idxOf (row.getD j 0) = j + 1
        have hm : row.getD j 0 ∈ (row.filter fun y => decide (x < y)) := by rw [h3]; exact List.mem_cons_self
        have hx : x < row.getD j 0 := by simpa using (List.mem_filter.mp hm).2
        rw [List.idxOf_cons, h4]
        have : (y == row.getD j 0) = false := beq_eq_false_iff_ne.mpr (fun z => h (by rw [z]; exact hx))
        rw [this]
        rfl
/-- the sizes -/
theorem bump_len (row : List Nat) (x : Nat) : (bump row x).1.length ≤ row.length + 1 := by
  unfold bump
  split
  · simp
  · dsimp only; split <;> simp
theorem putB_len : ∀ (t : Tab) (x k : Nat), (putB t x k).1.length ≤ t.length + 1
  | [], x, k => by simp [putB]
  | r :: rs, x, k => by
    unfold putB
    split
    · simp
    · simp only [List.length_cons]
      have := putB_len rs ‹Nat› (k + 1)
      omega
theorem putB_row : ∀ (t : Tab) (x k m : Nat), (∀ r ∈ t, r.length ≤ m) → ∀ r ∈ (putB t x k).1, r.length ≤ m + 1
  | [], x, k, m, h, r, hr => by
    simp [putB] at hr
    rw [hr]; simp
  | r0 :: rs, x, k, m, h, r, hr => by
    have h0 := h r0 List.mem_cons_self
    have hb := bump_len r0 x
    unfold putB at hr
    split at hr
    · rename_i r' e
      rw [e] at hb
      rcases List.mem_cons.mp hr with rfl | hr
      · exact Nat.le_trans hb (by omega)
      · exact Nat.le_succ_of_le (h r (List.mem_cons_of_mem _ hr))
    · rename_i r' y e
      rw [e] at hb
      rcases List.mem_cons.mp hr with rfl | hr
      · exact Nat.le_trans hb (by omega)
      · exact putB_row rs y (k + 1) m (fun r hr => h r (List.mem_cons_of_mem _ hr)) r hr
/-- where the number lies -/
theorem putB_at : ∀ (t : Tab) (x k : Nat), k ≤ (putB t x k).2.1 ∧ (putB t x k).2.1 ≤ k + t.length ∧ (putB t x k).1.length = if (putB t x k).2.1 = k + t.length then t.length + 1 else t.length
  | [], x, k => by simp [putB]
  | r :: rs, x, k => by
    unfold putB
    split
    · refine ⟨Nat.le_refl _, Nat.le_add_right _ _, ?_⟩
      dsimp only
      rw [if_neg (by rw [List.length_cons]; omega)]
      rfl
    · rename_i y e
      have h := putB_at rs y (k + 1)
      refine ⟨by dsimp only; omega, by dsimp only; rw [List.length_cons]; omega, ?_⟩
      dsimp only
      rw [List.length_cons, h.2.2, List.length_cons]
      have e1 : (putB rs y (k + 1)).2.1 = k + (rs.length + 1) ↔ (putB rs y (k + 1)).2.1 = k + 1 + rs.length := by omega
      by_cases hz : (putB rs y (k + 1)).2.1 = k + 1 + rs.length
      · rw [if_pos hz, if_pos (e1.mpr hz)]
      · rw [if_neg hz, if_neg (fun z => hz (e1.mp z))]
/-- a table and the numbering, filled by a word from a place on -/
def fillGo : List Nat → Nat → Tab → Tab → Tab × Tab
  | [], _, t, q => (t, q)
  | x :: xs, k, t, q => fillGo xs (k + 1) (putB t x 0).1 (((if (putB t x 0).2.1 = q.length then q ++ [[]] else q)).modify (putB t x 0).2.1 (· ++ [k]))
def fillT (word : List Nat) : Tab × Tab := fillGo word 0 [] []
def insT (word : List Nat) : Tab := word.foldl (fun t x => (putB t x 0).1) []
theorem fillGo_fst : ∀ (w : List Nat) (k : Nat) (t q : Tab), (fillGo w k t q).1 = w.foldl (fun t x => (putB t x 0).1) t
  | [], _, _, _ => rfl
  | x :: xs, k, t, q => by rw [fillGo, fillGo_fst xs]; rfl
theorem fillT_fst (w : List Nat) : (fillT w).1 = insT w := fillGo_fst w 0 [] []
def stepF (k x : Nat) (p : Tab × Tab) : Tab × Tab := ((putB p.1 x 0).1, ((if (putB p.1 x 0).2.1 = p.2.length then p.2 ++ [[]] else p.2)).modify (putB p.1 x 0).2.1 (· ++ [k]))
theorem fillGo_snoc (x : Nat) : ∀ (w : List Nat) (k : Nat) (t q : Tab), fillGo (w ++ [x]) k t q = stepF (k + w.length) x (fillGo w k t q)
  | [], k, t, q => rfl
  | y :: w, k, t, q => by
    rw [List.cons_append, fillGo, fillGo_snoc x w, fillGo, List.length_cons]
    congr 1
    omega
def stF (w : List Nat) (i : Nat) : Tab × Tab := fillT (w.take i)
theorem stF_succ {w : List Nat} {i : Nat} (h : i < w.length) : stF w (i + 1) = stepF i w[i] (stF w i) := by
  unfold stF fillT
  rw [List.take_succ_eq_append_getElem h, fillGo_snoc, List.length_take, Nat.min_eq_left (by omega), Nat.zero_add]
theorem modify_len {α : Type} (f : α → α) (l : List α) (i : Nat) : (l.modify i f).length = l.length := List.length_modify ..
structure FOk (m : Nat) (p : Tab × Tab) : Prop where
  tl : p.1.length ≤ m
  ql : p.2.length = p.1.length
  tr : ∀ r ∈ p.1, r.length ≤ m
  qr : ∀ r ∈ p.2, r.length ≤ m
theorem FOk.step {m k x : Nat} {p : Tab × Tab} (h : FOk m p) : FOk (m + 1) (stepF k x p) ∧ (putB p.1 x 0).2.1 ≤ p.2.length := by
  have a := putB_at p.1 x 0
  have l := putB_len p.1 x 0
  rw [Nat.zero_add] at a
  refine ⟨⟨Nat.le_trans l (Nat.succ_le_succ h.tl), ?_, putB_row p.1 x 0 m h.tr, fun r hr => ?_⟩, by rw [h.ql]; exact a.2.1⟩
  · unfold stepF
    dsimp only
    rw [modify_len, a.2.2, h.ql]
    split
    · rw [List.length_append, List.length_singleton, h.ql]
    · exact h.ql
  · unfold stepF at hr
    dsimp only at hr
    obtain ⟨n, hn⟩ := List.getElem?_of_mem hr
    rw [List.getElem?_modify] at hn
    have base : ∀ r ∈ (if (putB p.1 x 0).2.1 = p.2.length then p.2 ++ [[]] else p.2), r.length ≤ m := by
      intro r hr
      split at hr
      · rcases List.mem_append.mp hr with hr | hr
        · exact h.qr r hr
        · rw [List.mem_singleton.mp hr]; exact Nat.zero_le _
      · exact h.qr r hr
    obtain ⟨r0, h0, h1⟩ := Option.map_eq_some_iff.mp hn
    have hb := base r0 (List.mem_of_getElem? h0)
    split at h1
    · rw [← h1, List.length_append, List.length_singleton]; omega
    · rw [← h1]; exact Nat.le_succ_of_le hb
theorem FOk.mono {m m' : Nat} {p : Tab × Tab} (h : FOk m p) (hm : m ≤ m') : FOk m' p := ⟨Nat.le_trans h.tl hm, h.ql, fun r hr => Nat.le_trans (h.tr r hr) hm, fun r hr => Nat.le_trans (h.qr r hr) hm⟩
theorem stF_ok (w : List Nat) : ∀ i, i ≤ w.length → FOk i (stF w i)
  | 0, _ => ⟨Nat.le_refl _, rfl, fun _ h => (nomatch h), fun _ h => (nomatch h)⟩
  | i + 1, h => by
    rw [stF_succ (by omega)]
    exact (stF_ok w i (by omega)).step.1
theorem stF_all (w : List Nat) : stF w w.length = fillT w := by unfold stF; rw [List.take_length]
/-! ### words of a row -/
def dropsN (r : List Nat) : List Nat := (List.range (r.length - 1)).filter fun k => decide (r.getD (k + 1) 0 < r.getD k 0)
def LS (r : List Nat) : List (Nat × List Nat) := (dropsN r).map fun k => (k, swapN r k (k + 1))
theorem mem_drops {r : List Nat} {k : Nat} : k ∈ dropsN r ↔ k + 1 < r.length ∧ r.getD (k + 1) 0 < r.getD k 0 := by
  unfold dropsN
  rw [List.mem_filter, List.mem_range, decide_eq_true_iff]
  constructor
  · rintro ⟨h1, h2⟩; exact ⟨by omega, h2⟩
  · rintro ⟨h1, h2⟩; exact ⟨by omega, h2⟩
/-- the shortest words of a row -/
inductive RW : List Nat → List Nat → Prop where
  | nil {r : List Nat} : dropsN r = [] → RW r []
  | snoc {r w : List Nat} {k : Nat} : k ∈ dropsN r → RW (swapN r k (k + 1)) w → RW r (w ++ [k])
theorem insT_snoc (w : List Nat) (k : Nat) : insT (w ++ [k]) = (putB (insT w) k 0).1 := by
  unfold insT
  rw [List.foldl_append]
  rfl
/-- the tables of a row -/
def tabs : Nat → List Nat → List Tab
  | 0, _ => []
  | f + 1, r => if dropsN r = [] then [[]] else ((dropsN r).flatMap fun k => (tabs f (swapN r k (k + 1))).map fun t => (putB t k 0).1).eraseDups
theorem phi_swap {n : Nat} {r : List Nat} (hr : IsRow n r) {k : Nat} (hk : k ∈ dropsN r) : phi n 0 (swapN r k (k + 1)) < phi n 0 r := by
  obtain ⟨h1, h2⟩ := mem_drops.mp hk
  have hkr : k + 1 < n := by rw [← hr.len]; exact h1
  have a := phi_set n (r.getD (k + 1) 0) r 0 k (by omega)
  have b := phi_set n (r.getD k 0) (r.set k (r.getD (k + 1) 0)) 0 (k + 1) (by rw [List.length_set]; exact h1)
  have e1 : r[k]'(by omega) = r.getD k 0 := (getD_lt (by omega)).symm
  have e2 : (r.set k (r.getD (k + 1) 0))[k + 1]'(by rw [List.length_set]; exact h1) = r.getD (k + 1) 0 := by
    rw [List.getElem_set_ne (by omega)]
    exact (getD_lt h1).symm
  rw [e1] at a
  rw [e2] at b
  have l1 : r.getD k 0 < n := by rw [getD_lt (show k < r.length by omega)]; exact hr.lt _ (List.getElem_mem _)
  unfold swapN
  generalize r.getD k 0 = x at *
  generalize r.getD (k + 1) 0 = y at *
  rw [Nat.zero_add] at a b
  have m1 : (k + 1) * (n - y) = k * (n - y) + (n - y) := Nat.succ_mul _ _
  have m2 : (k + 1) * (n - x) = k * (n - x) + (n - x) := Nat.succ_mul _ _
  omega
theorem mem_tabs {n : Nat} : ∀ (f : Nat) (r : List Nat), IsRow n r → phi n 0 r < f → ∀ t, t ∈ tabs f r ↔ ∃ w, RW r w ∧ insT w = t
  | 0, _, _, h, _ => absurd h (Nat.not_lt_zero _)
  | f + 1, r, hr, hf, t => by
    unfold tabs
    split
    · rename_i h
      constructor
      · intro ht
        rw [List.mem_singleton.mp ht]
        exact ⟨[], .nil h, rfl⟩
      · rintro ⟨w, hw, rfl⟩
        cases hw with
        | nil _ => exact List.mem_singleton.mpr rfl
        | snoc hk _ => rw [h] at hk; cases hk
    · rename_i h
      rw [List.mem_eraseDups, List.mem_flatMap]
      constructor
      · rintro ⟨k, hk, ht⟩
        obtain ⟨t0, h0, rfl⟩ := List.mem_map.mp ht
        obtain ⟨hk1, _⟩ := mem_drops.mp hk
        have hs : IsRow n (swapN r k (k + 1)) := hr.swapN (by rw [← hr.len]; omega) (by rw [← hr.len]; exact hk1)
        obtain ⟨w, hw, rfl⟩ := (mem_tabs f _ hs (by have := phi_swap hr hk; omega) t0).mp h0
        exact ⟨w ++ [k], .snoc hk hw, insT_snoc w k⟩
      · rintro ⟨w, hw, rfl⟩
        cases hw with
        | nil h' => exact absurd h' h
        | @snoc _ w k hk hw =>
          obtain ⟨hk1, _⟩ := mem_drops.mp hk
          have hs : IsRow n (swapN r k (k + 1)) := hr.swapN (by rw [← hr.len]; omega) (by rw [← hr.len]; exact hk1)
          exact ⟨k, hk, List.mem_map.mpr ⟨insT w, (mem_tabs f _ hs (by have := phi_swap hr hk; omega) _).mpr ⟨w, hw, rfl⟩, (insT_snoc w k).symm⟩⟩
/-- one word, by the first drop -/
def swW : Nat → List Nat → List Nat
  | 0, _ => []
  | f + 1, r => match dropsN r with
    | [] => []
    | k :: _ => k :: swW f (swapN r k (k + 1))
theorem swW_rw {n : Nat} : ∀ (f : Nat) (r : List Nat), IsRow n r → phi n 0 r < f → RW r (swW f r).reverse
  | 0, _, _, h => absurd h (Nat.not_lt_zero _)
  | f + 1, r, hr, hf => by
    unfold swW
    cases hd : dropsN r with
    | nil => exact .nil hd
    | cons k ks =>
      have hk : k ∈ dropsN r := by rw [hd]; exact List.mem_cons_self
      obtain ⟨hk1, _⟩ := mem_drops.mp hk
      have hs : IsRow n (swapN r k (k + 1)) := hr.swapN (by rw [← hr.len]; omega) (by rw [← hr.len]; exact hk1)
      dsimp only
      rw [List.reverse_cons]
      exact .snoc hk (swW_rw f _ hs (by have := phi_swap hr hk; omega))
theorem LS_cons {r : List Nat} {k : Nat} {ks : List Nat} (h : dropsN r = k :: ks) : LS r = (k, swapN r k (k + 1)) :: ks.map fun k => (k, swapN r k (k + 1)) := by
  unfold LS
  rw [h]
  rfl
theorem LS_nil {r : List Nat} (h : dropsN r = []) : LS r = [] := by
  unfold LS
  rw [h]
  rfl
theorem row_sw {n : Nat} {r : List Nat} (hr : IsRow n r) {k : Nat} (hk : k ∈ dropsN r) : IsRow n (swapN r k (k + 1)) := by
  obtain ⟨hk1, _⟩ := mem_drops.mp hk
  exact hr.swapN (by rw [← hr.len]; omega) (by rw [← hr.len]; exact hk1)
end DL

set_option Elab.async false
set_option linter.all false
set_option maxRecDepth 100000
set_option maxHeartbeats 4000000
set_option synthInstance.maxHeartbeats 2000000
set_option synthInstance.maxSize 100000
/-! EG5: rows of at most five, by the kernel. -/
namespace DL
open PySem L2
theorem mem_all5 : ∀ n, 1 ≤ n → n ≤ 5 → ∀ r, IsRow n r → r ∈ allR n := by
  intro n h1 h5 r h
  by_cases h4 : n ≤ 4
  · exact mem_allR n h1 h4 r h
  · obtain rfl : n = 5 := by omega
    match r, h.len with
    | [a, b, c, d, e], _ =>
      have h1 := h.lt a (by simp)
      have h2 := h.lt b (by simp)
      have h3 := h.lt c (by simp)
      have h4 := h.lt d (by simp)
      have h5 := h.lt e (by simp)
      have : ∀ a, a < 5 → ∀ b, b < 5 → ∀ c, c < 5 → ∀ d, d < 5 → ∀ e, e < 5 → [a, b, c, d, e].Nodup → [a, b, c, d, e] ∈ allR 5 := by decide +kernel
      exact this a h1 b h2 c h3 d h4 e h5 h.nd
def invW (r : List Nat) : Nat := ((List.range r.length).map fun k => ((r.take k).filter fun y => decide (r.getD k 0 < y)).length).sum
theorem inv_drop {n : Nat} (h1 : 1 ≤ n) (h5 : n ≤ 5) {r : List Nat} (hr : IsRow n r) {k : Nat} (hk : k ∈ dropsN r) : invW (swapN r k (k + 1)) + 1 = invW r := by
  have : ∀ n, n < 6 → ∀ r ∈ allR n, ∀ k ∈ dropsN r, invW (swapN r k (k + 1)) + 1 = invW r := by decide +kernel
  exact this n (by omega) r (mem_all5 n h1 h5 r hr) k hk
theorem inv_zero {n : Nat} (h1 : 1 ≤ n) (h5 : n ≤ 5) {r : List Nat} (hr : IsRow n r) : invW r = 0 ↔ dropsN r = [] := by
  have : ∀ n, n < 6 → ∀ r ∈ allR n, (invW r = 0 ↔ dropsN r = []) := by decide +kernel
  exact this n (by omega) r (mem_all5 n h1 h5 r hr)
end DL

set_option Elab.async false
set_option linter.all false
set_option maxRecDepth 100000
set_option maxHeartbeats 4000000
/-! DM6: what the newer mirrors answer: dicts with any keys and values, sorted of any things, loops that change lists of lists. -/
namespace DL
open PySem L2
/-! ### dicts -/
section
variable {α β : Type} [DecidableEq α]
abbrev dT (e : En α) (f : β → D) (kv : List (α × β)) : List (D × D) := kv.map fun p => (e.f p.1, f p.2)
def getG (kv : List (α × β)) (a : α) : Option β := (kv.find? fun p => decide (p.1 = a)).map (·.2)
def putG (kv : List (α × β)) (a : α) (v : β) : List (α × β) := if a ∈ kv.map (·.1) then kv.map (fun p => if p.1 = a then (p.1, v) else p) else kv ++ [(a, v)]
theorem dT_cons (e : En α) (f : β → D) (p : α × β) (kv : List (α × β)) : dT e f (p :: kv) = (e.f p.1, f p.2) :: dT e f kv := rfl
/-- keys: all ints or all tuples -/
def KeyE (e : En α) : Prop := (∀ a, isTk (e.f a) = true) ∨ ∀ a, isI (e.f a) = true
theorem keyN : KeyE En.nat := .inr fun _ => rfl
theorem kOk_G {e : En α} (h : KeyE e) (f : β → D) (kv : List (α × β)) (a : α) : kOk ((dT e f kv).map (·.1)) (e.f a) = true := by
  unfold kOk
  rw [Bool.or_eq_true]
  rcases h with h | h
  · refine .inr ?_
    rw [h, Bool.true_and, List.map_map, List.all_map, List.all_eq_true]
    exact fun p _ => h p.1
  · refine .inl ?_
    rw [h, Bool.true_and, List.map_map, List.all_map, List.all_eq_true]
    exact fun p _ => h p.1
theorem dfind_G (e : En α) (f : β → D) (a : α) : ∀ kv : List (α × β), dfind (dT e f kv) (e.f a) = (getG kv a).map f
  | [] => rfl
  | p :: kv => by
    have ih := dfind_G e f a kv
    unfold dfind getG at ih ⊢
    rw [dT_cons, List.find?_cons, List.find?_cons]
    dsimp only
    rw [e.eqvD]
    by_cases c : p.1 = a
    · rw [decide_eq_true c]; rfl
    · rw [decide_eq_false c]
      exact ih
theorem any_G (e : En α) (f : β → D) (a : α) (kv : List (α × β)) : ((dT e f kv).any fun p => PyData.eqv p.1 (e.f a)) = decide (a ∈ kv.map (·.1)) := by
  induction kv with
  | nil => rfl
  | cons p kv ih =>
    rw [dT_cons, List.any_cons, ih, e.eqvD, List.map_cons]
    by_cases c : p.1 = a
    · rw [decide_eq_true c, Bool.true_or, decide_eq_true (by rw [c]; exact List.mem_cons_self)]
    · rw [decide_eq_false c, Bool.false_or]
      by_cases c2 : a ∈ kv.map (·.1)
      · rw [decide_eq_true c2, decide_eq_true (List.mem_cons_of_mem _ c2)]
      · rw [decide_eq_false c2, decide_eq_false (fun z => by rcases List.mem_cons.mp z with z | z; exact c z.symm; exact c2 z)]
theorem dput_G (e : En α) (f : β → D) (a : α) (v : β) (kv : List (α × β)) : dput (dT e f kv) (e.f a) (f v) = dT e f (putG kv a v) := by
  unfold dput putG
  rw [any_G]
  by_cases c : a ∈ kv.map (·.1)
  · rw [decide_eq_true c, if_pos rfl, if_pos c]
    unfold dT
    rw [List.map_map, List.map_map]
    refine List.map_congr_left fun p _ => ?_
    show (if PyData.eqv (e.f p.1) (e.f a) = true then (e.f p.1, f v) else (e.f p.1, f p.2)) = _
    rw [e.eqvD]
    by_cases c2 : p.1 = a
    · rw [decide_eq_true c2, if_pos rfl]
      show _ = (fun q : α × β => (e.f q.1, f q.2)) (if p.1 = a then (p.1, v) else p)
      rw [if_pos c2]
    · rw [decide_eq_false c2, if_neg Bool.false_ne_true]
      show _ = (fun q : α × β => (e.f q.1, f q.2)) (if p.1 = a then (p.1, v) else p)
      rw [if_neg c2]
  · rw [decide_eq_false c, if_neg Bool.false_ne_true, if_neg c]
    unfold dT
    rw [List.map_append]
    rfl
theorem getG_mem {kv : List (α × β)} {a : α} : (∃ v, getG kv a = some v) ↔ a ∈ kv.map (·.1) := by
  induction kv with
  | nil => simp [getG]
  | cons p kv ih =>
    unfold getG at ih ⊢
    rw [List.find?_cons, List.map_cons]
    by_cases c : p.1 = a
    · rw [decide_eq_true c]
      exact ⟨fun _ => by rw [c]; exact List.mem_cons_self, fun _ => ⟨p.2, rfl⟩⟩
    · rw [decide_eq_false c]
      rw [ih]
      exact ⟨fun h => List.mem_cons_of_mem _ h, fun h => by rcases List.mem_cons.mp h with h | h; exact absurd h.symm c; exact h⟩
theorem keysG_put (kv : List (α × β)) (a : α) (v : β) : (putG kv a v).map (·.1) = if a ∈ kv.map (·.1) then kv.map (·.1) else kv.map (·.1) ++ [a] := by
  unfold putG
  split
  · rw [List.map_map]
    refine List.map_congr_left fun p _ => ?_
    show (if p.1 = a then (p.1, v) else p).1 = p.1
    split <;> rfl
  · rw [List.map_append]; rfl
theorem getG_put (kv : List (α × β)) (a b : α) (v : β) : getG (putG kv a v) b = if a = b then some v else getG kv b := by
  unfold putG
  split
  · rename_i c
    induction kv with
    | nil => cases c
    | cons p kv ih =>
      unfold getG at ih ⊢
      rw [List.map_cons, List.find?_cons, List.find?_cons]
      by_cases c1 : p.1 = a
      · rw [if_pos c1]
        dsimp only
        by_cases c2 : p.1 = b
        · rw [decide_eq_true c2, if_pos (c1.symm.trans c2)]; rfl
        · rw [decide_eq_false c2, if_neg (fun z => c2 (c1.trans z))]
          dsimp only
          by_cases c3 : a ∈ kv.map (·.1)
          · rw [ih c3, if_neg (fun z => c2 (c1.trans z))]
          · have e : kv.map (fun p => if p.1 = a then (p.1, v) else p) = kv := by
              refine (List.map_congr_left fun q hq => ?_).trans (List.map_id _)
              rw [if_neg (fun z => c3 (by rw [← z]; exact List.mem_map_of_mem hq))]
              rfl
            rw [e]
      · rw [if_neg c1]
        have c3 : a ∈ kv.map (·.1) := by rcases List.mem_cons.mp c with z | z; exact absurd z.symm c1; exact z
        by_cases c2 : p.1 = b
        · rw [decide_eq_true c2, if_neg (fun z => c1 (c2.trans z.symm))]
        · rw [decide_eq_false c2]
          dsimp only
          exact ih c3
  · rename_i c
    by_cases c2 : a = b
    · rw [if_pos c2]
      subst c2
      have hn : kv.find? (fun p => decide (p.1 = a)) = none := by
        rw [List.find?_eq_none]
        intro p hp z
        exact c (by rw [← of_decide_eq_true z]; exact List.mem_map_of_mem hp)
      unfold getG
      rw [List.find?_append, hn]
      simp
    · rw [if_neg c2]
      unfold getG
      rw [List.find?_append]
      have : [(a, v)].find? (fun p => decide (p.1 = b)) = none := by simp [c2]
      rw [this, Option.or_none]
theorem subX_G {e : En α} (h : KeyE e) {f : β → D} {i : Nat} {g : Y} {ρ : Rho} {s s1 : Src} {kv : List (α × β)} {a : α} {v : β} (h1 : g ρ s = some (e.f a, s1)) (hi : ρ[i]? = some (.dc (dT e f kv))) (hl : kv.length < lim) :
    subX i g (f v) ρ s = some (ρ.set i (.dc (dT e f (putG kv a v))), s1) := by
  unfold subX
  rw [h1]
  dsimp only [bO]
  rw [hi]
  dsimp only
  rw [if_pos ⟨kOk_G h f kv a, by rw [List.length_map]; exact hl⟩, dput_G]
theorem inX_G {e : En α} (h : KeyE e) {f : β → D} (kv : List (α × β)) (a : α) (neg : Bool) : inX neg (e.f a) (.dict (dT e f kv)) = some (.bool (if neg then !decide (a ∈ kv.map (·.1)) else decide (a ∈ kv.map (·.1)))) := by
  show (if kOk ((dT e f kv).map (·.1)) (e.f a) = true then (some (PyData.bool (if neg then !(dT e f kv).any fun p => PyData.eqv p.1 (e.f a) else (dT e f kv).any fun p => PyData.eqv p.1 (e.f a))) : Option D) else none) = _
  rw [if_pos (kOk_G h f kv a), any_G]
theorem odg_G {e : En α} (h : KeyE e) {f : β → D} {i : Nat} {g : Y} {ρ : Rho} {s s1 : Src} {kv : List (α × β)} {a : α} {v : β} (h1 : g ρ s = some (e.f a, s1)) (hi : ρ[i]? = some (.dc (dT e f kv))) (hv : getG kv a = some v) : odgY i g ρ s = some (f v, s1) := by
  unfold odgY
  rw [h1]
  dsimp only [bO]
  rw [hi]
  dsimp only
  rw [if_pos (kOk_G h f kv a), dfind_G, hv]
  rfl
end
/-! ### sorted -/
section
variable {α : Type}
theorem sortOkF_E {e : En α} (he : e.dp + 1 ≤ 64) (xs : List α) (ha : ∀ x ∈ xs, ∀ y ∈ xs, PySem.W.alike (e.f x) (e.f y) = true)
    (hk : (∀ x ∈ xs, someTup (e.f x) = true) ∨ (∀ x ∈ xs, noTup (e.f x) = true) ∨ (xs.length ≤ 1 ∧ ∀ x ∈ xs, notNon (e.f x) = true)) (hl : xs.length ≤ lim) : sortOkF (xs.map e.f) = true := by
  unfold sortOkF
  rw [Bool.and_eq_true, Bool.and_eq_true, Bool.and_eq_true]
  refine ⟨⟨⟨En.shaped (e := e.lst) he xs, ?_⟩, ?_⟩, by rw [List.length_map]; exact decide_eq_true hl⟩
  · unfold alikeB
    rw [List.all_map, List.all_eq_true]
    intro x hx
    show ((xs.map e.f).all fun y => PySem.W.alike (e.f x) y) = true
    rw [List.all_map, List.all_eq_true]
    exact fun y hy => ha x hx y hy
  · rw [Bool.or_eq_true, Bool.or_eq_true]
    rcases hk with h | h | h
    · refine .inl (.inl ?_)
      rw [List.all_map, List.all_eq_true]
      exact h
    · refine .inl (.inr ?_)
      rw [List.all_map, List.all_eq_true]
      exact h
    · refine .inr ?_
      rw [Bool.and_eq_true, List.length_map, List.all_map, List.all_eq_true]
      exact ⟨decide_eq_true h.1, h.2⟩
end
theorem addT_ev {α : Type} (e : En α) (xs ys : List α) (h : xs.length + ys.length ≤ 1000) : addD (e.tup.f xs) (e.tup.f ys) = some (e.tup.f (xs ++ ys)) := by
  show (if (xs.map e.f).length + (ys.map e.f).length ≤ lim then some (PyData.tuple (xs.map e.f ++ ys.map e.f)) else none) = _
  rw [if_pos (by rw [List.length_map, List.length_map]; show _ ≤ 100000; omega), ← List.map_append]
  rfl
end DL

set_option Elab.async false
set_option linter.all false
set_option maxRecDepth 100000
set_option maxHeartbeats 4000000
/-! EO: encoders of what is ordered; sorted lists of it. -/
namespace DL
open PySem L2
structure EnO (α : Type) extends En α where
  lt : α → α → Bool
  al : ∀ a b, PySem.W.alike (f a) (f b) = true
  lt_eq : ∀ a b, PySem.W.dataLt (f a) (f b) = lt a b
  tri : ∀ a b, lt a b = false → lt b a = false → a = b
def lexB {α : Type} [DecidableEq α] (lt : α → α → Bool) : List α → List α → Bool
  | [], [] => false
  | [], _ :: _ => true
  | _ :: _, [] => false
  | x :: xs, y :: ys => if x = y then lexB lt xs ys else lt x y
namespace EnO
def nat : EnO Nat := { En.nat with
  lt := fun a b => decide (a < b)
  al := fun a b => by show PySem.W.alike (.int a) (.int b) = true; simp only [PySem.W.alike]
  lt_eq := fun a b => by
    refine (PySem.W.dataLt_int _ _).trans ?_
    simp
  tri := fun a b h1 h2 => by
    have h1 := of_decide_eq_false h1
    have h2 := of_decide_eq_false h2
    omega }
def int : EnO Int := { En.int with
  lt := fun a b => decide (a < b)
  al := fun a b => by show PySem.W.alike (.int a) (.int b) = true; simp only [PySem.W.alike]
  lt_eq := fun a b => PySem.W.dataLt_int _ _
  tri := fun a b h1 h2 => by
    have h1 := of_decide_eq_false h1
    have h2 := of_decide_eq_false h2
    omega }
section
variable {α β : Type} [DecidableEq α] [DecidableEq β]
theorem alAll (e : EnO α) : ∀ xs ys : List α, PySem.W.alikeAll (xs.map e.f) (ys.map e.f) = true
  | [], _ => by rw [List.map_nil, PySem.W.alikeAll]
  | _ :: _, [] => by rw [List.map_nil, List.map_cons, PySem.W.alikeAll]
  | x :: xs, y :: ys => by
    rw [List.map_cons, List.map_cons, PySem.W.alikeAll, e.al x y, alAll e xs ys]
    rfl
theorem lexAll (e : EnO α) : ∀ xs ys : List α, PyProof.Rows.lexLt PyProof.Rows.itemOrd (PySem.W.keyToksAll (xs.map e.f)) (PySem.W.keyToksAll (ys.map e.f)) = lexB e.lt xs ys
  | [], [] => PyProof.Rows.lex_irrefl _
  | [], y :: ys => by
    rw [List.map_nil, List.map_cons, PySem.W.toks_all_cons]
    simp only [PySem.W.keyToksAll]
    rw [PyProof.Rows.lex_diff (O := PyProof.Rows.itemOrd) (by simp)]
    rfl
  | x :: xs, [] => by
    rw [List.map_nil, List.map_cons, PySem.W.toks_all_cons]
    simp only [PySem.W.keyToksAll]
    rw [PyProof.Rows.lex_diff (O := PyProof.Rows.itemOrd) (by simp)]
    rfl
  | x :: xs, y :: ys => by
    rw [List.map_cons, List.map_cons, lexB]
    by_cases h : x = y
    · rw [if_pos h, PySem.W.dataLt_all_yes (e.al x y) (by rw [e.eqvD, decide_eq_true_eq]; exact h), lexAll e xs ys]
    · rw [if_neg h, PySem.W.dataLt_all_no (e.al x y) (by rw [e.eqvD, decide_eq_false_iff_not]; exact h)]
      exact e.lt_eq x y
theorem lexTri (e : EnO α) : ∀ xs ys : List α, lexB e.lt xs ys = false → lexB e.lt ys xs = false → xs = ys
  | [], [], _, _ => rfl
  | [], _ :: _, h, _ => by cases h
  | _ :: _, [], _, h => by cases h
  | x :: xs, y :: ys, h1, h2 => by
    unfold lexB at h1 h2
    by_cases h : x = y
    · rw [if_pos h] at h1
      rw [if_pos h.symm] at h2
      rw [h, lexTri e xs ys h1 h2]
    · rw [if_neg h] at h1
      rw [if_neg (fun z => h z.symm)] at h2
      exact absurd (e.tri x y h1 h2) h
def tup (e : EnO α) : EnO (List α) := { En.tup e.toEn with
  lt := lexB e.lt
  al := fun a b => by
    show PySem.W.alike (.tuple (a.map e.f)) (.tuple (b.map e.f)) = true
    unfold PySem.W.alike
    exact e.alAll a b
  lt_eq := fun a b => (PySem.W.dataLt_tuple _ _).trans (e.lexAll a b)
  tri := e.lexTri }
def pair (e : EnO α) (g : EnO β) : EnO (α × β) := { En.pair e.toEn g.toEn with
  lt := fun p q => if p.1 = q.1 then (if p.2 = q.2 then false else g.lt p.2 q.2) else e.lt p.1 q.1
  al := fun p q => by
    show PySem.W.alike (.tuple [_, _]) (.tuple [_, _]) = true
    have h1 := e.al p.1 q.1
    have h2 := g.al p.2 q.2
    simp only [PySem.W.alike, PySem.W.alikeAll]
    rw [h1, h2]
    rfl
  lt_eq := fun p q => by
    refine (PySem.W.dataLt_pair (e.al p.1 q.1) (g.al p.2 q.2)).trans ?_
    rw [e.eqvD, g.eqvD, e.lt_eq, g.lt_eq]
    by_cases h1 : p.1 = q.1 <;> by_cases h2 : p.2 = q.2 <;> simp [h1, h2]
  tri := fun p q h1 h2 => by
    by_cases c : p.1 = q.1
    · rw [if_pos c] at h1
      rw [if_pos c.symm] at h2
      by_cases d : p.2 = q.2
      · exact Prod.ext c d
      · rw [if_neg d] at h1
        rw [if_neg (fun z => d z.symm)] at h2
        exact absurd (g.tri _ _ h1 h2) d
    · rw [if_neg c] at h1
      rw [if_neg (fun z => c z.symm)] at h2
      exact absurd (e.tri _ _ h1 h2) c }
end
variable {α : Type}
theorem sortX_O (e : EnO α) (xs : List α) : sortX (xs.map e.f) = (sortB e.lt xs).map e.f := by
  rw [sortX_map]
  congr 2
  funext a b
  exact e.lt_eq a b
theorem sorted_O (e : EnO α) (xs : List α) : (sortB e.lt xs).Pairwise fun a b => e.lt b a = false := by
  have := sortB_sorted e.f xs
  have h : (fun a b => PySem.W.dataLt (e.f a) (e.f b)) = e.lt := by funext a b; exact e.lt_eq a b
  rw [h] at this
  exact this.imp fun {a b} h => by rw [← e.lt_eq]; exact h
theorem sort_eq (e : EnO α) {xs ys : List α} (h : xs.Perm ys) : sortB e.lt xs = sortB e.lt ys :=
  (((sortB_perm e.lt xs).trans h).trans (sortB_perm e.lt ys).symm).eq_of_pairwise (le := fun a b => e.lt b a = false) (fun a b _ _ h1 h2 => e.tri a b h2 h1) (e.sorted_O xs) (e.sorted_O ys)
def IsT (e : EnO α) : Prop := ∀ a, ∃ ds, e.f a = .tuple ds
theorem isT_tup [DecidableEq α] (e : EnO α) : (tup e).IsT := fun a => ⟨_, rfl⟩
theorem isT_pair {β : Type} [DecidableEq α] [DecidableEq β] (e : EnO α) (g : EnO β) : (pair e g).IsT := fun a => ⟨_, rfl⟩
theorem okF (e : EnO α) (hT : e.IsT) (he : e.dp + 1 ≤ 64) (xs : List α) (hk : (∀ x ∈ xs, someTup (e.f x) = true) ∨ xs.length ≤ 1) (hl : xs.length ≤ lim) : sortOkF (xs.map e.f) = true := by
  refine sortOkF_E he xs (fun x _ y _ => e.al x y) ?_ hl
  rcases hk with h | h
  · exact .inl h
  · refine .inr (.inr ⟨h, fun x _ => ?_⟩)
    obtain ⟨ds, hd⟩ := hT x
    rw [hd]
    rfl
theorem sortG (e : EnO α) (hT : e.IsT) (he : e.dp + 1 ≤ 64) (xs : List α) (hk : (∀ x ∈ xs, someTup (e.f x) = true) ∨ xs.length ≤ 1) (hl : xs.length ≤ lim) : sortGC [.list (xs.map e.f)] = some ((sortB e.lt xs).map e.f) := by
  have h1 := e.okF hT he xs hk hl
  have hx : sortFC [.list (xs.map e.f)] = some ((sortB e.lt xs).map e.f) := by
    show mO (keysD (.list (xs.map e.f))) (fun ds => if sortOkF ds = true then some (sortX ds) else none) = _
    show (if sortOkF (xs.map e.f) = true then some (sortX (xs.map e.f)) else none) = _
    rw [if_pos h1, e.sortX_O]
  unfold sortGC
  cases xs with
  | nil => rfl
  | cons x xs =>
    have : sortC [.list ((x :: xs).map e.f)] = none := by
      obtain ⟨ds, hd⟩ := hT x
      rw [List.map_cons, hd]
      rfl
    rw [this]
    exact hx
/-- sorted(d), d a dict -/
theorem sortGd {β : Type} (e : EnO α) (hT : e.IsT) (he : e.dp + 1 ≤ 64) (f : β → D) (kv : List (α × β)) (hk : (∀ p ∈ kv, someTup (e.f p.1) = true) ∨ kv.length ≤ 1) (hl : kv.length ≤ lim) : sortGC [.dict (dT e.toEn f kv)] = some ((sortB e.lt (kv.map (·.1))).map e.f) := by
  have h1 := e.okF hT he (kv.map (·.1)) (by
    rcases hk with h | h
    · refine .inl fun x hx => ?_
      obtain ⟨p, hp, rfl⟩ := List.mem_map.mp hx
      exact h p hp
    · exact .inr (by rw [List.length_map]; exact h)) (by rw [List.length_map]; exact hl)
  have h2 : keysD (.dict (dT e.toEn f kv)) = some ((kv.map (·.1)).map e.f) := by
    show some ((dT e.toEn f kv).map (·.1)) = _
    unfold dT
    rw [List.map_map, List.map_map]
    rfl
  have hx : sortFC [.dict (dT e.toEn f kv)] = some ((sortB e.lt (kv.map (·.1))).map e.f) := by
    show mO (keysD (.dict (dT e.toEn f kv))) (fun ds => if sortOkF ds = true then some (sortX ds) else none) = _
    rw [h2]
    show (if sortOkF ((kv.map (·.1)).map e.f) = true then some (sortX ((kv.map (·.1)).map e.f)) else none) = _
    rw [if_pos h1, e.sortX_O]
  unfold sortGC
  have : sortC [.dict (dT e.toEn f kv)] = none := rfl
  rw [this]
  exact hx
end EnO
/-! ### dicts made of pairs, keys told more than once -/
section
variable {α β : Type} [DecidableEq α]
theorem putD_G (e : En α) (f : β → D) : ∀ (us kv : List (α × β)), putD (dT e f kv) (dT e f us) = dT e f (us.foldl (fun kv p => putG kv p.1 p.2) kv)
  | [], _ => rfl
  | p :: us, kv => by
    show putD (dput (dT e f kv) (e.f p.1) (f p.2)) (dT e f us) = _
    rw [dput_G, putD_G e f us]
    rfl
theorem pairs2_G (e : En α) (f : β → D) : ∀ us : List (α × β), pairs2 (us.map fun p => .tuple [e.f p.1, f p.2]) = some (dT e f us)
  | [] => rfl
  | p :: us => by
    rw [List.map_cons, pairs2, pairs2_G e f us]
    rfl
theorem dictC_G {e : En α} (h : KeyE e) {f : β → D} {x : D} {us : List (α × β)} (hx : itemsD x = some (us.map fun p => .tuple [e.f p.1, f p.2])) (hl : us.length ≤ lim) : dictC [x] = some (dT e f (us.foldl (fun kv p => putG kv p.1 p.2) [])) := by
  show (mO (itemsD x) fun ds => mO (pairs2 ds) fun ps => if ((ps.map (·.1)).all isI = true ∨ (ps.map (·.1)).all isTk = true) ∧ ps.length ≤ lim then some (putD [] ps) else none) = _
  rw [hx]
  dsimp only [mO]
  rw [pairs2_G]
  dsimp only
  have e1 : putD [] (dT e f us) = dT e f (us.foldl (fun kv p => putG kv p.1 p.2) []) := putD_G e f us []
  have hk : ((dT e f us).map (·.1)).all isI = true ∨ ((dT e f us).map (·.1)).all isTk = true := by
    rcases h with h | h
    · refine .inr ?_
      rw [List.map_map, List.all_map, List.all_eq_true]
      exact fun p _ => h p.1
    · refine .inl ?_
      rw [List.map_map, List.all_map, List.all_eq_true]
      exact fun p _ => h p.1
  rw [if_pos ⟨hk, by rw [List.length_map]; exact hl⟩, e1]
def addK (L : List α) (x : α) : List α := if x ∈ L then L else L ++ [x]
theorem keys_fold (us kv : List (α × β)) : (us.foldl (fun kv p => putG kv p.1 p.2) kv).map (·.1) = (us.map (·.1)).foldl addK (kv.map (·.1)) := by
  induction us generalizing kv with
  | nil => rfl
  | cons p us ih => rw [List.foldl_cons, ih, keysG_put, List.map_cons, List.foldl_cons]; rfl
theorem mem_addK {L : List α} {x y : α} : y ∈ addK L x ↔ y ∈ L ∨ y = x := by
  unfold addK
  split
  · rename_i h
    exact ⟨.inl, fun z => z.elim id fun z => by rw [z]; exact h⟩
  · rw [List.mem_append, List.mem_singleton]
theorem nd_addK {L : List α} {x : α} (h : L.Nodup) : (addK L x).Nodup := by
  unfold addK
  split
  · exact h
  · rename_i c
    rw [List.nodup_append]
    exact ⟨h, by simp, fun a ha b hb z => c (by rw [← List.mem_singleton.mp hb, ← z]; exact ha)⟩
theorem mem_addKs {us : List α} : ∀ {L : List α} {y : α}, y ∈ us.foldl addK L ↔ y ∈ L ∨ y ∈ us := by
  induction us with
  | nil => intro L y; simp
  | cons x us ih =>
    intro L y
    rw [List.foldl_cons, ih, mem_addK, List.mem_cons, or_assoc]
theorem nd_addKs {us : List α} : ∀ {L : List α}, L.Nodup → (us.foldl addK L).Nodup := by
  induction us with
  | nil => intro L h; exact h
  | cons x us ih => intro L h; exact ih (nd_addK h)
theorem len_addK (L : List α) (x : α) : (addK L x).length ≤ L.length + 1 := by
  unfold addK
  split
  · omega
  · rw [List.length_append, List.length_singleton]; exact Nat.le_refl _
theorem len_addKs {us : List α} : ∀ {L : List α}, (us.foldl addK L).length ≤ L.length + us.length := by
  induction us with
  | nil => intro L; exact Nat.le_refl _
  | cons x us ih =>
    intro L
    rw [List.foldl_cons, List.length_cons]
    have := @ih (addK L x)
    have := len_addK L x
    omega
theorem perm_of_mem {xs ys : List α} (h1 : xs.Nodup) (h2 : ys.Nodup) (h : ∀ a, a ∈ xs ↔ a ∈ ys) : xs.Perm ys := (List.perm_ext_iff_of_nodup h1 h2).mpr h
end
end DL

set_option Elab.async false
set_option linter.all false
set_option maxRecDepth 100000
set_option maxHeartbeats 4000000
/-! EH: the rows below a row (plain), all their tables. -/
namespace DL
def lates (r : List Nat) : List (List Nat) := (dropsN r).map fun k => swapN r k (k + 1)
def bfsS (L : List (List Nat)) (i : Nat) : List (List Nat) := match L[i]? with
  | some r => (lates r).foldl addK L
  | none => L
def bfs (r : List Nat) (i : Nat) : List (List Nat) := (List.range i).foldl bfsS [r]
theorem bfs_succ (r : List Nat) (i : Nat) : bfs r (i + 1) = bfsS (bfs r i) i := by
  unfold bfs
  rw [List.range_succ, List.foldl_append]
  rfl
theorem addKs_pre {α : Type} [DecidableEq α] : ∀ (us L : List α), ∃ t, us.foldl addK L = L ++ t ∧ ∀ a ∈ t, a ∈ us
  | [], L => ⟨[], by rw [List.append_nil]; rfl, fun _ h => nomatch h⟩
  | x :: us, L => by
    obtain ⟨t, h, ht⟩ := addKs_pre us (addK L x)
    rw [List.foldl_cons, h]
    unfold addK
    split
    · exact ⟨t, rfl, fun a ha => List.mem_cons_of_mem _ (ht a ha)⟩
    · refine ⟨x :: t, by rw [List.append_assoc]; rfl, fun a ha => ?_⟩
      rcases List.mem_cons.mp ha with rfl | ha
      · exact List.mem_cons_self
      · exact List.mem_cons_of_mem _ (ht a ha)
/-- what holds of the rows that are found so far, i of them looked at -/
structure BI (n : Nat) (r : List Nat) (i : Nat) (L : List (List Nat)) : Prop where
  nd : L.Nodup
  row : ∀ a ∈ L, IsRow n a
  mem : r ∈ L
  cl : ∀ j a, j < i → L[j]? = some a → ∀ k ∈ dropsN a, swapN a k (k + 1) ∈ L
  so : L.Pairwise fun a b => invW b ≤ invW a
  lo : ∀ c, L[i]? = some c → ∀ a ∈ L, invW c ≤ invW a + 1
theorem bfs_ok {n : Nat} (h1 : 1 ≤ n) (h5 : n ≤ 5) {r : List Nat} (hr : IsRow n r) : ∀ i, BI n r i (bfs r i)
  | 0 => ⟨by simp [bfs], fun a ha => by rw [List.mem_singleton.mp ha]; exact hr, List.mem_singleton.mpr rfl, fun j a h => absurd h (Nat.not_lt_zero _), List.pairwise_singleton _ _, fun c hc a ha => by
      have e1 : c = r := by
        have := List.mem_of_getElem? hc
        exact List.mem_singleton.mp this
      rw [e1, List.mem_singleton.mp ha]
      exact Nat.le_succ _⟩
  | i + 1 => by
    have B := bfs_ok h1 h5 hr i
    rw [bfs_succ]
    generalize bfs r i = L at B
    unfold bfsS
    cases hi : L[i]? with
    | none =>
      have hlen : L.length ≤ i := List.getElem?_eq_none_iff.mp hi
      refine ⟨B.nd, B.row, B.mem, fun j a hj ha => ?_, B.so, fun c hc => ?_⟩
      · have : j < L.length := (List.getElem?_eq_some_iff.mp ha).1
        exact B.cl j a (by omega) ha
      · have : i + 1 < L.length := (List.getElem?_eq_some_iff.mp hc).1
        omega
    | some b =>
      dsimp only
      obtain ⟨t, ht, hsub⟩ := addKs_pre (lates b) L
      have hb : b ∈ L := List.mem_of_getElem? hi
      have hbr := B.row b hb
      have hL : ∀ y, y ∈ (lates b).foldl addK L ↔ y ∈ L ∨ y ∈ lates b := fun y => mem_addKs
      have hlate : ∀ y ∈ lates b, IsRow n y ∧ invW y + 1 = invW b := fun y hy => by
        obtain ⟨k, hk, rfl⟩ := List.mem_map.mp hy
        exact ⟨row_sw hbr hk, inv_drop h1 h5 hbr hk⟩
      have hlen : i < L.length := (List.getElem?_eq_some_iff.mp hi).1
      have hso : (L ++ t).Pairwise fun a b => invW b ≤ invW a := by
        refine List.pairwise_append.mpr ⟨B.so, ?_, fun a ha c hc => ?_⟩
        · refine List.Pairwise.imp_of_mem (R := fun _ _ => True) (fun {a c} ha hc _ => ?_) (List.pairwise_iff_forall_sublist.mpr fun _ => trivial)
          have h1 := (hlate a (hsub a ha)).2
          have h2 := (hlate c (hsub c hc)).2
          omega
        · have h1 := B.lo b hi a ha
          have h2 := (hlate c (hsub c hc)).2
          omega
      refine ⟨nd_addKs B.nd, fun a ha => ?_, (hL r).mpr (.inl B.mem), fun j a hj ha k hk => ?_, by rw [ht]; exact hso, fun c hc a ha => ?_⟩
      · rcases (hL a).mp ha with ha | ha
        · exact B.row a ha
        · exact (hlate a ha).1
      · by_cases hji : j = i
        · subst hji
          rw [ht, List.getElem?_append_left hlen, hi] at ha
          cases ha
          exact (hL _).mpr (.inr (List.mem_map.mpr ⟨k, hk, rfl⟩))
        · have hjL : j < L.length := by omega
          rw [ht, List.getElem?_append_left hjL] at ha
          exact (hL _).mpr (.inl (B.cl j a (by omega) ha k hk))
      · -- the next one is not below b by more than one; all are at least b less one
        rw [ht] at hc ha
        have hcb : invW c ≤ invW b := by
          have hp := List.pairwise_iff_getElem.mp hso i (i + 1) (by rw [List.length_append]; omega) (List.getElem?_eq_some_iff.mp hc).1 (Nat.lt_succ_self _)
          have e1 : (L ++ t)[i]'(by rw [List.length_append]; omega) = b := by
            have : (L ++ t)[i]? = some b := by rw [List.getElem?_append_left hlen]; exact hi
            exact (List.getElem?_eq_some_iff.mp this).2
          have e2 : (L ++ t)[i + 1]'((List.getElem?_eq_some_iff.mp hc).1) = c := (List.getElem?_eq_some_iff.mp hc).2
          rw [e1, e2] at hp
          exact hp
        rcases List.mem_append.mp ha with ha | ha
        · have := B.lo b hi a ha
          omega
        · have := (hlate a (hsub a ha)).2
          omega
theorem rows_len {n : Nat} (h1 : 1 ≤ n) (h5 : n ≤ 5) {L : List (List Nat)} (nd : L.Nodup) (h : ∀ a ∈ L, IsRow n a) : L.length ≤ 120 := by
  have h2 : L ⊆ allR n := fun a ha => mem_all5 n h1 h5 a (h a ha)
  have h3 : (allR n).length ≤ 120 := by
    have : ∀ n, n < 6 → (allR n).length ≤ 120 := by decide +kernel
    exact this n (by omega)
  exact Nat.le_trans (nd.length_le_of_subset h2) h3
/-- all rows below, the row first -/
theorem bfs_all {n : Nat} (h1 : 1 ≤ n) (h5 : n ≤ 5) {r : List Nat} (hr : IsRow n r) : ∀ a ∈ bfs r 2000, ∀ k ∈ dropsN a, swapN a k (k + 1) ∈ bfs r 2000 := by
  have B := bfs_ok h1 h5 hr 2000
  intro a ha k hk
  obtain ⟨j, hj⟩ := List.getElem?_of_mem ha
  have hl := rows_len h1 h5 B.nd B.row
  exact B.cl j a (by have := (List.getElem?_eq_some_iff.mp hj).1; omega) hj k hk
end DL

set_option Elab.async false
set_option linter.all false
set_option maxRecDepth 100000
set_option maxHeartbeats 4000000
/-! DM7: loops that change the rows of a table. -/
namespace DL
open PySem L2
abbrev enTb : En Tab := En.tup (En.tup En.nat)
abbrev eTb : Tab → D := enTb.f
abbrev encT (t : Tab) : List (List D) := t.map fun r => r.map eN
theorem forA_nx {G rest : Z} {r jk jr n : Nat} {ρ ρ2 : Rho} {s s2 : Src} {dss : List (List D)} {res : Option (Fl × Src)} (hi : ρ[r]? = some (.o2 dss)) (hn : ρ.all noAl = true) (hl : dss.length = n) (h : forAGo r jk jr G n 0 (ρ.set r (.oh dss)) s = some (.nx ρ2, s2)) (k : rest ρ2 s2 = res) :
    seqS (forAS r jk jr G) rest ρ s = res := by
  refine seq_s (ρ1 := ρ2) (s1 := s2) ?_ k
  unfold forAS
  rw [hi]
  dsimp only
  rw [if_pos hn, hl]
  exact h
theorem forA_rt {G rest : Z} {r jk jr n : Nat} {ρ : Rho} {s s2 : Src} {dss : List (List D)} {d : D} (hi : ρ[r]? = some (.o2 dss)) (hn : ρ.all noAl = true) (hl : dss.length = n) (h : forAGo r jk jr G n 0 (ρ.set r (.oh dss)) s = some (.rt d, s2)) :
    seqS (forAS r jk jr G) rest ρ s = some (.rt d, s2) := by
  refine seq_rt ?_
  unfold forAS
  rw [hi]
  dsimp only
  rw [if_pos hn, hl]
  exact h
def Lens (t : Tab) (m : Nat) : Prop := ∀ r ∈ t, r.length ≤ m
theorem put_loop {G : Z} {s : Src} {ok : List Sl → Prop} (hok : ∀ tl, ok tl → tl.all noAl = true) {N : Nat}
    (B : ∀ (done : Tab) (row : List Nat) (rest : Tab) (x : Nat) (a0 : Sl) (tl : List Sl), ok tl → Lens done 1001 → row.length ≤ 1000 → Lens rest 1000 → done.length + rest.length + 1 ≤ N → match bump row x with
      | (row', none) => G (a0 :: .fz (eN x) :: .oh (encT (done ++ row :: rest)) :: .fz (.int done.length) :: .al 2 done.length :: tl) s = some (.rt (.tuple [eTb (done ++ row' :: rest), .tuple [eN done.length, eN row.length]]), s)
      | (row', some y) => ∃ tl', ok tl' ∧ G (a0 :: .fz (eN x) :: .oh (encT (done ++ row :: rest)) :: .fz (.int done.length) :: .al 2 done.length :: tl) s = some (.nx (a0 :: .fz (eN y) :: .oh (encT (done ++ row' :: rest)) :: .fz (.int done.length) :: .al 2 done.length :: tl'), s)) :
    ∀ (rest done : Tab) (x : Nat) (a0 a3 a4 : Sl) (tl : List Sl), ok tl → noAl a0 = true → Lens done 1001 → Lens rest 1000 → done.length + rest.length ≤ N →
      ((putB rest x done.length).2.1 = done.length + rest.length → noAl a3 = true → noAl (unA a4) = true → ∃ (b3 b4 : Sl) (tl' : List Sl) (rest' : Tab) (y : Nat), ok tl' ∧ (putB rest x done.length).1 = rest' ++ [[y]] ∧ (putB rest x done.length).2.2 = 0 ∧ Lens rest' 1001 ∧ rest'.length = rest.length ∧
        forAGo 2 3 4 G rest.length done.length (a0 :: .fz (eN x) :: .oh (encT (done ++ rest)) :: a3 :: a4 :: tl) s = some (.nx (a0 :: .fz (eN y) :: .o2 (encT (done ++ rest')) :: b3 :: b4 :: tl'), s)) ∧
      ((putB rest x done.length).2.1 ≠ done.length + rest.length → forAGo 2 3 4 G rest.length done.length (a0 :: .fz (eN x) :: .oh (encT (done ++ rest)) :: a3 :: a4 :: tl) s =
        some (.rt (.tuple [eTb (done ++ (putB rest x done.length).1), .tuple [eN (putB rest x done.length).2.1, eN (putB rest x done.length).2.2]]), s))
  | [], done, x, a0, a3, a4, tl, h1, h2, h3, h4, h5 => by
    refine ⟨fun _ g3 g4 => ⟨a3, unA a4, tl, [], x, h1, rfl, rfl, fun _ z => (nomatch z), rfl, ?_⟩, fun z => absurd rfl z⟩
    have ht := hok tl h1
    have hu : tl.map unA = tl := by
      refine (List.map_congr_left fun y hy => ?_).trans (List.map_id _)
      have := List.all_eq_true.mp ht y hy
      cases y <;> first | rfl | cases this
    have hu0 : unA a0 = a0 := by cases a0 <;> first | rfl | cases h2
    have hu3 : unA a3 = a3 := by cases a3 <;> first | rfl | cases g3
    have e : endA 2 (a0 :: .fz (eN x) :: .oh (encT (done ++ [])) :: a3 :: a4 :: tl) = some (a0 :: .fz (eN x) :: .o2 (encT (done ++ [])) :: a3 :: unA a4 :: tl) := by
      show (if ((unA a0 :: .fz (eN x) :: .o2 (encT (done ++ [])) :: unA a3 :: unA a4 :: tl.map unA).all noAl) = true then some (unA a0 :: .fz (eN x) :: .o2 (encT (done ++ [])) :: unA a3 :: unA a4 :: tl.map unA) else none) = _
      rw [hu, hu0, hu3, if_pos]
      simp only [List.all_cons, Bool.and_eq_true]
      exact ⟨h2, rfl, rfl, g3, g4, ht⟩
    show mO (endA 2 _) _ = _
    rw [e]
    rfl
  | row :: rest, done, x, a0, a3, a4, tl, h1, h2, h3, h4, h5 => by
    have h6 : row.length ≤ 1000 := h4 row List.mem_cons_self
    have h7 : Lens rest 1000 := fun r hr => h4 r (List.mem_cons_of_mem _ hr)
    rw [List.length_cons] at h5
    have b := B done row rest x a0 tl h1 h3 h6 h7 (by omega)
    have hb := bump_len row x
    have at_ := putB_at rest
    rw [List.length_cons]
    unfold forAGo putB
    cases hbx : bump row x with
    | mk row' o =>
      rw [hbx] at b hb
      cases o with
      | none =>
        dsimp only at b ⊢
        refine ⟨fun z => absurd z (by omega), fun _ => ?_⟩
        show bO (G (a0 :: .fz (eN x) :: .oh (encT (done ++ row :: rest)) :: .fz (.int done.length) :: .al 2 done.length :: tl) s) _ = _
        rw [b]
        rfl
      | some y =>
        dsimp only at b ⊢
        obtain ⟨tl', t1, t2⟩ := b
        have ih := put_loop hok B rest (done ++ [row']) y a0 (.fz (.int done.length)) (.al 2 done.length) tl' t1 h2 (fun r hr => by
          rcases List.mem_append.mp hr with hr | hr
          · exact h3 r hr
          · rw [List.mem_singleton.mp hr]; exact Nat.le_trans hb (by omega)) h7 (by rw [List.length_append, List.length_singleton]; omega)
        rw [List.length_append, List.length_singleton, List.append_assoc, List.singleton_append] at ih
        have go : ∀ R : Option (Fl × Src), forAGo 2 3 4 G rest.length (done.length + 1) (a0 :: .fz (eN y) :: .oh (encT (done ++ row' :: rest)) :: .fz (.int done.length) :: .al 2 done.length :: tl') s = R →
            bO (G (a0 :: .fz (eN x) :: .oh (encT (done ++ row :: rest)) :: .fz (.int done.length) :: .al 2 done.length :: tl) s) (fun fl s1 => match fl with
              | .nx ρ2 => if isOh ρ2[2]? = true then forAGo 2 3 4 G rest.length (done.length + 1) ρ2 s1 else none
              | .ct ρ2 => if isOh ρ2[2]? = true then forAGo 2 3 4 G rest.length (done.length + 1) ρ2 s1 else none
              | .bk ρ2 => mO (endA 2 ρ2) fun ρ' => some (.nx ρ', s1)
              | .rt d => some (.rt d, s1)) = R := fun R hR => by
          rw [t2]
          exact hR
        refine ⟨fun z g3 g4 => ?_, fun z => ?_⟩
        · obtain ⟨b3, b4, tl2, rest', y', k1, k2, k3, k4, k5, k6⟩ := ih.1 (by omega) rfl rfl
          refine ⟨b3, b4, tl2, row' :: rest', y', k1, by rw [k2]; rfl, k3, fun r hr => ?_, by rw [List.length_cons, k5], ?_⟩
          · rcases List.mem_cons.mp hr with rfl | hr
            · exact Nat.le_trans hb (by omega)
            · exact k4 r hr
          · rw [List.append_assoc, List.singleton_append] at k6
            exact go _ k6
        · have k := ih.2 (by omega)
          rw [List.append_assoc, List.singleton_append] at k
          exact go _ k
end DL

set_option Elab.async false
set_option linter.all false
set_option maxRecDepth 100000
set_option maxHeartbeats 4000000
namespace W79
open PySem L2 DL
theorem pairs_eq (row : List Nat) : pairs row = (List.range row.length).map fun j => (j, row.getD j 0) := by
  refine List.ext_getElem (by unfold pairs; simp) fun k h1 h2 => ?_
  unfold pairs at h1 ⊢
  have hk : k < row.length := by simpa using h2
  rw [List.getElem_zip, List.getElem_map, List.getElem_range, List.getD_eq_getElem?_getD, List.getElem?_eq_getElem hk]
  rfl
theorem pairs_greats (row : List Nat) (x : Nat) : (((pairs row).filter fun p => decide (x < p.2)).map fun p => eN p.1) = (greats row x).map eN := by
  rw [pairs_eq, List.filter_map, List.map_map]
  rfl
theorem encT_get (done : Tab) (row : List Nat) (rest : Tab) : (encT (done ++ row :: rest))[done.length]? = some (row.map eN) := by
  rw [List.getElem?_map, List.getElem?_append_right (Nat.le_refl _), Nat.sub_self]
  rfl
theorem encT_set (done : Tab) (row r' : List Nat) (rest : Tab) : (encT (done ++ row :: rest)).set done.length (r'.map eN) = encT (done ++ r' :: rest) := by
  unfold encT
  rw [List.map_append, List.set_append_right _ _ (by rw [List.length_map]; exact Nat.le_refl _), List.length_map, Nat.sub_self]
  show _ = (done ++ r' :: rest).map _
  rw [List.map_append]
  rfl
theorem appA_ev {i r k : Nat} {g : Y} {ρ : Rho} {s s1 : Src} {d : D} {dss : List (List D)} {ds : List D} (h : g ρ s = some (d, s1)) (hi : ρ[i]? = some (.al r k)) (hr : ρ[r]? = some (.oh dss)) (hd : dss[k]? = some ds) (hl : ds.length < lim) :
    appAS i g ρ s = some (.nx (ρ.set r (.oh (dss.set k (ds ++ [d])))), s1) := by
  unfold appAS
  rw [h]
  dsimp only [bO]
  rw [hi]
  dsimp only
  rw [hr]
  dsimp only
  rw [hd]
  exact if_pos hl
theorem subA_ev {i r k j : Nat} {g : Y} {ρ : Rho} {s s1 : Src} {d : D} {dss : List (List D)} {ds : List D} (h : g ρ s = some (eN j, s1)) (hi : ρ[i]? = some (.al r k)) (hr : ρ[r]? = some (.oh dss)) (hd : dss[k]? = some ds) (hl : j < ds.length) :
    subAG i g d ρ s = some (ρ.set r (.oh (dss.set k (ds.set j d))), s1) := by
  unfold subAG
  rw [h]
  dsimp only [bO]
  rw [hi]
  show (match ρ[r]? with
    | some (Sl.oh dss) => (match dss[k]? with
      | some ds => mO (ixN ds.length (j : Int)) fun j => some (ρ.set r (.oh (dss.set k (ds.set j d))), s1)
      | none => none)
    | _ => none) = _
  rw [hr]
  dsimp only
  rw [hd]
  dsimp only
  rw [ixN_nat hl]
  rfl
theorem frzA_s {r : Nat} {G : Z} {ρ ρ2 : Rho} {s : Src} {res : Option (Fl × Src)} (h : frzAR r ρ = ρ2) (k : G ρ2 s = res) : frzAS r G ρ s = res := by
  unfold frzAS
  rw [h]
  exact k
theorem rows_lc {ρ : Rho} {s : Src} {t : Tab} {i j : Nat} {vs : List Nat} (h : varY i ρ s = some (.list ((encT t).map .list), s)) (hv : ∀ d, varY j ((wipeR ρ vs).set j (.fz d)) s = some (d, s)) (hl : t.length ≤ lim) (hr : Lens t 1001) :
    yC tupleC (aCons (frY (lcY (iY (varY i)) (bN j) yesT (yC tupleC (aCons (varY j) aNil)) vs)) aNil) ρ s = some (eTb t, s) := by
  refine yC_ev (ac_ev (fr_ev (lcE_ev (e := fun r : List Nat => PyData.list (r.map eN)) (xs := t) (fun _ => true) (fun r => PyData.tuple (r.map eN)) (iy_ev h (by show some _ = some _; rw [List.map_map]; rfl)) (fun r hr' => ⟨rfl, fun _ => yC_ev (ac_ev (hv _) an_ev) rfl⟩) hl)) an_ev) ?_
  rw [List.filter_eq_self.mpr fun _ _ => rfl]
  rfl
theorem asg2_ev {i : Nat} {g : Ym} {ρ : Rho} {s s1 : Src} {dss : List (List D)} (h : g ρ s = some (dss, s1)) : asgS i (o2U g) ρ s = some (.nx (ρ.set i (.o2 dss)), s1) := by
  unfold asgS o2U
  rw [h]
  rfl
abbrev T4 (tl : List Sl) : Prop := ∃ a b c d, tl = [a, b, c, d] ∧ noAl a = true ∧ noAl b = true ∧ noAl c = true ∧ noAl d = true
theorem T4_ok : ∀ tl, T4 tl → tl.all noAl = true := by
  rintro tl ⟨a, b, c, d, rfl, h1, h2, h3, h4⟩
  simp [h1, h2, h3, h4]
theorem view_al {ρ : Rho} {done rest : Tab} {row : List Nat} (h : ρ[2]? = some (.oh (encT (done ++ row :: rest)))) : viewS ρ (.al 2 done.length) = .fz (.list (row.map eN)) := by
  show (match ρ[2]? with
    | some (.oh dss) => (match dss[done.length]? with
      | some ds => Sl.fz (.list ds)
      | none => .un)
    | _ => .un) = _
  rw [h]
  dsimp only
  rw [encT_get]
abbrev R9 (a0 : Sl) (x : Nat) (done : Tab) (row : List Nat) (rest : Tab) (tl : List Sl) : Rho := a0 :: .fz (eN x) :: .oh (encT (done ++ row :: rest)) :: .fz (.int done.length) :: .al 2 done.length :: tl
theorem view9 (a0 : Sl) (x : Nat) (done : Tab) (row : List Nat) (rest : Tab) (a b c d : Sl) : ∃ v0 va vb vc vd, (∀ y, a = .fz y → va = .fz y) ∧ (∀ y, b = .fz y → vb = .fz y) ∧
    viewR (R9 a0 x done row rest [a, b, c, d]) = [v0, .fz (eN x), .fz (.list ((encT (done ++ row :: rest)).map .list)), .fz (.int done.length), .fz (.list (row.map eN)), va, vb, vc, vd] := by
  refine ⟨viewS (R9 a0 x done row rest [a, b, c, d]) a0, viewS (R9 a0 x done row rest [a, b, c, d]) a, viewS (R9 a0 x done row rest [a, b, c, d]) b, viewS (R9 a0 x done row rest [a, b, c, d]) c, viewS (R9 a0 x done row rest [a, b, c, d]) d, fun y h => by rw [h]; rfl, fun y h => by rw [h]; rfl, ?_⟩
  have h := view_al (ρ := R9 a0 x done row rest [a, b, c, d]) (done := done) (rest := rest) (row := row) rfl
  show [viewS (R9 a0 x done row rest [a, b, c, d]) a0, .fz (eN x), .fz (.list ((encT (done ++ row :: rest)).map .list)), .fz (.int done.length), viewS (R9 a0 x done row rest [a, b, c, d]) (.al 2 done.length), viewS (R9 a0 x done row rest [a, b, c, d]) a, viewS (R9 a0 x done row rest [a, b, c, d]) b,
    viewS (R9 a0 x done row rest [a, b, c, d]) c, viewS (R9 a0 x done row rest [a, b, c, d]) d] = _
  rw [h]
theorem re_al {done rest : Tab} {row : List Nat} : reA 2 (encT (done ++ row :: rest)) (.al 2 done.length) = .fz (.list (row.map eN)) := by
  show (if 2 = 2 then (match (encT (done ++ row :: rest))[done.length]? with
    | some ds => Sl.fz (.list ds)
    | none => .un) else .un) = _
  rw [if_pos rfl, encT_get]
theorem frz9 (a0 : Sl) (x : Nat) (done : Tab) (row : List Nat) (rest : Tab) (tl : List Sl) : ∃ v0 vl, vl.length = tl.length ∧ frzAR 2 (R9 a0 x done row rest tl) = v0 :: .fz (eN x) :: .fz (.list ((encT (done ++ row :: rest)).map .list)) :: .fz (.int done.length) :: .fz (.list (row.map eN)) :: vl := by
  refine ⟨reA 2 (encT (done ++ row :: rest)) a0, tl.map (reA 2 (encT (done ++ row :: rest))), List.length_map _, ?_⟩
  show reA 2 (encT (done ++ row :: rest)) a0 :: .fz (eN x) :: .fz (.list ((encT (done ++ row :: rest)).map .list)) :: .fz (.int done.length) :: reA 2 (encT (done ++ row :: rest)) (.al 2 done.length) :: tl.map (reA 2 (encT (done ++ row :: rest))) = _
  rw [re_al]
theorem put_ev (t : Tab) (x : Nat) (hl : t.length ≤ 900) (hr : Lens t 1000) : m_put_in [eTb t, eN x] = some (.tuple [eTb (putB t x 0).1, .tuple [eN (putB t x 0).2.1, eN (putB t x 0).2.2]]) := by
  refine runD_rt (s := dummy) ?_
  unfold G_put_in
  refine seq_s (asg2_ev (lc2_ev (e := fun r : List Nat => PyData.tuple (r.map eN)) (fi := iY (varY 0)) (i := 4) (el := ynC listC (aCons (varY 4) aNil)) (vs := [4]) (ρ := [.fz (eTb t), .fz (eN x), .un, .un, .un, .un, .un, .un, .un]) (s := dummy) (s1 := dummy) (xs := t) (fun r => r.map eN)
      (iy_ev rfl rfl) (fun r _ => ynC_ev (ac_ev rfl an_ev) rfl) (by show t.length ≤ 100000; omega))) ?_
  have PL := put_loop (G := (seqS (asgS 5 (fzU (frY (vwN (lcY (iEn (varY 4)) (bP 7 8) (bT (y2 gtD (varY 8) (varY 1))) (varY 7) [7, 8])))))
      (seqS (ifS (bT (y2 eqD (varY 5) (frY (lstY aNil))))
        (seqS (appAS 4 (varY 1))
      (frzAS 2 (retS (tupY (aCons (yC tupleC (aCons (frY (lcY (iY (varY 2)) (bN 8) yesT (yC tupleC (aCons (varY 8) aNil)) [8])) aNil)) (aCons (tupY (aCons (varY 3) (aCons (y2 subD (yC lenC (aCons (varY 4) aNil)) (cY (.int 1))) aNil))) aNil))))))
        nxS)
      (seqS (asgS 6 (fzU (vwY (y2 ixD (varY 4) (y2 ixD (varY 5) (cY (.int 0)))))))
      (seqS (ifS (orT (bT (y2 neD (varY 6) (y2 addD (varY 1) (cY (.int 1))))) (bT (vwY (y2 (inD true) (varY 1) (varY 4)))))
        (asgGS (varY 1) (subAG 4 (y2 ixD (varY 5) (cY (.int 0)))))
        nxS)
      (asgS 1 (fzU (varY 6)))))))) (s := dummy) (ok := T4) T4_ok (N := 1000) ?B t [] x (.fz (eTb t)) .un .un [.un, .un, .un, .un] ⟨_, _, _, _, rfl, rfl, rfl, rfl, rfl⟩ rfl (fun _ z => nomatch z) hr (by rw [List.length_nil]; omega)
  case B =>
    rintro done row rest x a0 tl ⟨a, b, c, d, rfl, n1, n2, n3, n4⟩ hd hrow hrest hN
    have hget := encT_get done row rest
    have e5 : asgS 5 (fzU (frY (vwN (lcY (iEn (varY 4)) (bP 7 8) (bT (y2 gtD (varY 8) (varY 1))) (varY 7) [7, 8])))) (a0 :: .fz (eN x) :: .oh (encT (done ++ row :: rest)) :: .fz (.int done.length) :: .al 2 done.length :: [a, b, c, d]) dummy =
        some (.nx (a0 :: .fz (eN x) :: .oh (encT (done ++ row :: rest)) :: .fz (.int done.length) :: .al 2 done.length :: [.fz (.list ((greats row x).map eN)), b, c, d]), dummy) := by
      refine asg_ev (d := .list ((greats row x).map eN)) (fr_ev (vwN_ev ?_ (scalN _)))
      obtain ⟨v0, va, vb, vc, vd, _, _, hV⟩ := view9 a0 x done row rest a b c d
      rw [hV]
      have L := lcM_ev (e := fun p : Nat × Nat => (eN p.1, eN p.2)) (fi := iEn (varY 4)) (bind := bP 7 8) (t := bT (y2 gtD (varY 8) (varY 1))) (el := varY 7) (vs := [7, 8])
        (ρ := [v0, .fz (eN x), .fz (.list ((encT (done ++ row :: rest)).map .list)), .fz (.int done.length), .fz (.list (row.map eN)), va, vb, vc, vd]) (s := dummy) (s1 := dummy) (xs := pairs row) (fun p => decide (x < p.2)) (fun p => eN p.1) (ien_ev rfl rfl)
        (fun p _ => ⟨_, rfl, bT_ev (y2_ev rfl rfl (gt_N _ _)), fun _ => rfl⟩) (by unfold pairs; rw [List.length_zip, List.length_range]; show _ ≤ 100000; omega)
      rw [L, pairs_greats]
    unfold DL.bump
    cases hg : greats row x with
    | nil =>
      rw [hg] at e5
      dsimp only
      refine seq_s e5 (seq_rt (if_s (bT_ev (y2_ev rfl rfl ((En.lst En.nat).eqD (by decide) [] []))) ((if_pos rfl).trans ?_)))
      refine seq_s (appA_ev rfl rfl rfl hget (by rw [List.length_map]; show _ < 100000; omega)) ?_
      have es : (row.map eN ++ [eN x]) = (row ++ [x]).map eN := by rw [List.map_append]; rfl
      rw [es, encT_set]
      obtain ⟨v0, vl, hvl, hF⟩ := frz9 a0 x done (row ++ [x]) rest [.fz (.list (([] : List Nat).map eN)), b, c, d]
      match vl, hvl, hF with
      | [va, vb, vc, vd], _, hF =>
      refine frzA_s hF (ret_ev (tup_ev (ac_ev (rows_lc (t := done ++ (row ++ [x]) :: rest) rfl (fun _ => rfl) (by rw [List.length_append, List.length_cons]; show _ ≤ 100000; omega) (fun r hr => ?_)) (ac_ev (tup_ev (ac_ev rfl (ac_ev (y2_ev (yC_ev (ac_ev rfl an_ev) (En.nat.lenL _)) rfl (sub_N (a := (row ++ [x]).length) (b := 1) (by rw [List.length_append, List.length_singleton]; omega))) an_ev)) (by show 2 ≤ lim; decide)) an_ev)) (by show 2 ≤ lim; decide))) |>.trans ?_
      · rcases List.mem_append.mp hr with hr | hr
        · exact hd r hr
        · rcases List.mem_cons.mp hr with rfl | hr
          · rw [List.length_append, List.length_singleton]; omega
          · exact Nat.le_trans (hrest r hr) (by omega)
      · rw [List.length_append, List.length_singleton, Nat.add_sub_cancel]
        rfl
    | cons j g =>
      rw [hg] at e5
      obtain ⟨hj, hjl⟩ : j < row.length ∧ True := by
        rcases greats_more row x with ⟨h1, _⟩ | ⟨j', g', m, h1, h2, _⟩
        · rw [hg] at h1; cases h1
        · rw [hg] at h1; cases h1; exact ⟨h2, trivial⟩
      have hgd : row.getD j 0 = row[j] := getD_lt hj
      dsimp only
      refine ⟨[.fz (.list ((j :: g).map eN)), .fz (eN row[j]), c, d], ⟨_, _, _, _, rfl, rfl, rfl, n3, n4⟩, ?_⟩
      refine seq_s e5 (seq_s (if_s (bT_ev (y2_ev rfl rfl ((En.lst En.nat).eqD (by decide) (j :: g) []))) ((if_neg (by simp)).trans rfl)) ?_)
      obtain ⟨v0, va, vb, vc, vd, ha, _, hV⟩ := view9 a0 x done row rest (.fz (.list ((j :: g).map eN))) b c d
      have ha := ha _ rfl
      subst ha
      have e6 : vwY (y2 ixD (varY 4) (y2 ixD (varY 5) (cY (.int 0)))) (R9 a0 x done row rest [.fz (.list ((j :: g).map eN)), b, c, d]) dummy = some (eN row[j], dummy) := by
        refine vw_ev ?_ rfl
        rw [hV]
        exact y2_ev rfl (y2_ev rfl rfl (En.nat.ixL (j :: g) 0 (by simp))) (En.nat.ixL row j hj)
      refine seq_s (asg_ev e6) ?_
      obtain ⟨w0, wa, wb, wc, wd, _, _, hW⟩ := view9 a0 x done row rest (.fz (.list ((j :: g).map eN))) (.fz (eN row[j])) c d
      have e7 : vwY (y2 (inD true) (varY 1) (varY 4)) (R9 a0 x done row rest [.fz (.list ((j :: g).map eN)), .fz (eN row[j]), c, d]) dummy = some (.bool (!decide (x ∈ row)), dummy) := by
        refine vw_ev ?_ rfl
        rw [hW]
        exact y2_ev rfl rfl (En.nat.inL (by decide) true x row)
      refine seq_s (if_s (or_ev (bT_ev (y2_ev rfl (y2_ev rfl rfl (add_N x 1)) (En.nat.neD (by decide) row[j] (x + 1)))) (fun _ => bT_ev e7) (fun _ => rfl)) (r := some (.nx (R9 a0 x done (if row.getD j 0 ≠ x + 1 ∨ x ∉ row then row.set j x else row) rest [.fz (.list ((j :: g).map eN)), .fz (eN row[j]), c, d]), dummy)) ?_) (asg_ev rfl |>.trans ?_)
      · rw [hgd]
        by_cases hc : row[j] ≠ x + 1 ∨ x ∉ row
        · have : (!decide (row[j] = x + 1) || !decide (x ∈ row)) = true := by
            rcases hc with hc | hc
            · rw [decide_eq_false hc]; rfl
            · rw [decide_eq_false hc, Bool.not_false, Bool.or_true]
          rw [if_pos this, if_pos hc]
          refine (asgG_ev rfl (subA_ev (y2_ev rfl rfl (En.nat.ixL (j :: g) 0 (by simp))) rfl rfl hget (by rw [List.length_map]; exact hj))).trans ?_
          have es : (row.map eN).set j (eN x) = (row.set j x).map eN := by rw [List.map_set]
          rw [List.getElem_cons_zero, es, encT_set]
          rfl
        · have : ¬ (!decide (row[j] = x + 1) || !decide (x ∈ row)) = true := by
            rw [Bool.or_eq_true]
            rintro (z | z)
            · exact hc (.inl (by simpa using z))
            · exact hc (.inr (by simpa using z))
          rw [if_neg this, if_neg hc]
          rfl
      · rw [hgd]
        rfl
  by_cases hz : (putB t x 0).2.1 = t.length
  · obtain ⟨b3, b4, tl', rest', y, k1, k2, k3, k4, k5, k6⟩ := PL.1 (by rw [List.length_nil, Nat.zero_add]; exact hz) rfl rfl
    obtain ⟨a, b, c, d, rfl, _⟩ := k1
    have k2 : (putB t x 0).1 = rest' ++ [[y]] := k2
    have k3 : (putB t x 0).2.2 = 0 := k3
    rw [k2, k3, hz]
    refine forA_nx rfl rfl (List.length_map _) k6 ?_
    refine frz2_s rfl (ret_ev (tup_ev (ac_ev (y2_ev (rows_lc (t := rest') rfl (fun _ => rfl) (by rw [k5]; show _ ≤ 100000; omega) k4) (tup_ev (ac_ev (tup_ev (ac_ev rfl an_ev) (by show 1 ≤ lim; decide)) an_ev) (by show 1 ≤ lim; decide)) ?_) (ac_ev (tup_ev (ac_ev (yC_ev (ac_ev rfl an_ev) ?_) (ac_ev rfl an_ev)) (by show 2 ≤ lim; decide)) an_ev)) (by show 2 ≤ lim; decide)))
    · exact addT_ev (En.tup En.nat) rest' [[y]] (by rw [k5, List.length_singleton]; omega)
    · show some (PyData.int _) = some (PyData.int _)
      rw [List.length_map, List.length_map, List.nil_append, k5]
  · have k := PL.2 (by rw [List.length_nil, Nat.zero_add]; exact hz)
    exact forA_rt rfl rfl (List.length_map _) k
abbrev T2 (tl : List Sl) : Prop := ∃ a b, tl = [a, b] ∧ noAl a = true ∧ noAl b = true
theorem T2_ok : ∀ tl, T2 tl → tl.all noAl = true := by
  rintro tl ⟨a, b, rfl, h1, h2⟩
  simp [h1, h2]
theorem view7 (a0 : Sl) (x : Nat) (done : Tab) (row : List Nat) (rest : Tab) (a b : Sl) : ∃ v0 va vb, (∀ y, a = .fz y → va = .fz y) ∧
    viewR (R9 a0 x done row rest [a, b]) = [v0, .fz (eN x), .fz (.list ((encT (done ++ row :: rest)).map .list)), .fz (.int done.length), .fz (.list (row.map eN)), va, vb] := by
  refine ⟨viewS (R9 a0 x done row rest [a, b]) a0, viewS (R9 a0 x done row rest [a, b]) a, viewS (R9 a0 x done row rest [a, b]) b, fun y h => by rw [h]; rfl, ?_⟩
  have h := view_al (ρ := R9 a0 x done row rest [a, b]) (done := done) (rest := rest) (row := row) rfl
  show [viewS (R9 a0 x done row rest [a, b]) a0, .fz (eN x), .fz (.list ((encT (done ++ row :: rest)).map .list)), .fz (.int done.length), viewS (R9 a0 x done row rest [a, b]) (.al 2 done.length), viewS (R9 a0 x done row rest [a, b]) a, viewS (R9 a0 x done row rest [a, b]) b] = _
  rw [h]
theorem idx_L {r : List Nat} {k : Nat} (h : k ∈ r) : idxD (.list (r.map eN)) (eN k) = some (eN (r.idxOf k)) := by
  show (if SeqAt.shaped (.list (r.map eN)) = true ∧ SeqAt.shaped (eN k) = true then mO (DL.idxL (eN k) (r.map eN) 0) fun j => some (PyData.int (j : Nat)) else none) = _
  rw [if_pos ⟨(En.lst En.nat).shaped (by decide) r, En.nat.shaped (by decide) k⟩, En.nat.idxL, if_pos h, Nat.zero_add]
  rfl
theorem lput_ev (t : Tab) (x : Nat) (hl : t.length ≤ 900) (hr : Lens t 1000) : m_law_put [eTb t, eN x] = some (.tuple [eTb (putB t x 0).1, .tuple [eN (putB t x 0).2.1, eN (putB t x 0).2.2]]) := by
  refine runD_rt (s := dummy) ?_
  unfold G__law_put
  refine seq_s (asg2_ev (lc2_ev (e := fun r : List Nat => PyData.tuple (r.map eN)) (fi := iY (varY 0)) (i := 4) (el := ynC listC (aCons (varY 4) aNil)) (vs := [4]) (ρ := [.fz (eTb t), .fz (eN x), .un, .un, .un, .un, .un]) (s := dummy) (s1 := dummy) (xs := t) (fun r => r.map eN)
      (iy_ev rfl rfl) (fun r _ => ynC_ev (ac_ev rfl an_ev) rfl) (by show t.length ≤ 100000; omega))) ?_
  have PL := put_loop (G := (seqS (asgS 5 (fzU (frY (vwN (lcY (iY (varY 4)) (bN 6) (bT (y2 gtD (varY 6) (varY 1))) (varY 6) [6])))))
      (seqS (ifS (bT (y2 eqD (varY 5) (frY (lstY aNil))))
        (seqS (appAS 4 (varY 1))
      (frzAS 2 (retS (tupY (aCons (yC tupleC (aCons (frY (lcY (iY (varY 2)) (bN 6) yesT (yC tupleC (aCons (varY 6) aNil)) [6])) aNil)) (aCons (tupY (aCons (varY 3) (aCons (y2 subD (yC lenC (aCons (varY 4) aNil)) (cY (.int 1))) aNil))) aNil))))))
        nxS)
      (seqS (ifS (orT (bT (y2 neD (y2 ixD (varY 5) (cY (.int 0))) (y2 addD (varY 1) (cY (.int 1))))) (bT (vwY (y2 (inD true) (varY 1) (varY 4)))))
        (asgGS (varY 1) (subAG 4 (vwY (y2 idxD (varY 4) (y2 ixD (varY 5) (cY (.int 0)))))))
        nxS)
      (asgS 1 (fzU (y2 ixD (varY 5) (cY (.int 0))))))))) (s := dummy) (ok := T2) T2_ok (N := 1000) ?B t [] x (.fz (eTb t)) .un .un [.un, .un] ⟨_, _, rfl, rfl, rfl⟩ rfl (fun _ z => nomatch z) hr (by rw [List.length_nil]; omega)
  case B =>
    rintro done row rest x a0 tl ⟨a, b, rfl, n1, n2⟩ hd hrow hrest hN
    have hget := encT_get done row rest
    have e5 : asgS 5 (fzU (frY (vwN (lcY (iY (varY 4)) (bN 6) (bT (y2 gtD (varY 6) (varY 1))) (varY 6) [6])))) (R9 a0 x done row rest [a, b]) dummy = some (.nx (R9 a0 x done row rest [.fz (.list ((row.filter fun y => decide (x < y)).map eN)), b]), dummy) := by
      refine asg_ev (d := .list ((row.filter fun y => decide (x < y)).map eN)) (fr_ev (vwN_ev ?_ (scalN _)))
      obtain ⟨v0, va, vb, _, hV⟩ := view7 a0 x done row rest a b
      rw [hV]
      exact lcE_ev (e := eN) (xs := row) (fun y => decide (x < y)) eN (iy_ev rfl rfl) (fun y _ => ⟨bT_ev (y2_ev rfl rfl (gt_N _ _)), fun _ => rfl⟩) (by show _ ≤ 100000; omega)
    unfold DL.bump
    rcases greats_more row x with ⟨hg, hm⟩ | ⟨j, g, m, hg, hj, hm, hidx⟩
    · rw [hg]
      rw [hm] at e5
      dsimp only
      refine seq_s e5 (seq_rt (if_s (bT_ev (y2_ev rfl rfl ((En.lst En.nat).eqD (by decide) [] []))) ((if_pos rfl).trans ?_)))
      refine seq_s (appA_ev rfl rfl rfl hget (by rw [List.length_map]; show _ < 100000; omega)) ?_
      have es : (row.map eN ++ [eN x]) = (row ++ [x]).map eN := by rw [List.map_append]; rfl
      rw [es, encT_set]
      obtain ⟨v0, vl, hvl, hF⟩ := frz9 a0 x done (row ++ [x]) rest [.fz (.list (([] : List Nat).map eN)), b]
      match vl, hvl, hF with
      | [va, vb], _, hF =>
      refine frzA_s hF (ret_ev (tup_ev (ac_ev (rows_lc (t := done ++ (row ++ [x]) :: rest) rfl (fun _ => rfl) (by rw [List.length_append, List.length_cons]; show _ ≤ 100000; omega) (fun r hr => ?_)) (ac_ev (tup_ev (ac_ev rfl (ac_ev (y2_ev (yC_ev (ac_ev rfl an_ev) (En.nat.lenL _)) rfl (sub_N (a := (row ++ [x]).length) (b := 1) (by rw [List.length_append, List.length_singleton]; omega))) an_ev)) (by show 2 ≤ lim; decide)) an_ev)) (by show 2 ≤ lim; decide))) |>.trans ?_
      · rcases List.mem_append.mp hr with hr | hr
        · exact hd r hr
        · rcases List.mem_cons.mp hr with rfl | hr
          · rw [List.length_append, List.length_singleton]; omega
          · exact Nat.le_trans (hrest r hr) (by omega)
      · rw [List.length_append, List.length_singleton, Nat.add_sub_cancel]
        rfl
    · rw [hg]
      have hgd : row.getD j 0 = row[j] := getD_lt hj
      rw [hgd] at hm hidx
      rw [hm] at e5
      dsimp only
      refine ⟨[.fz (.list ((row[j] :: m).map eN)), b], ⟨_, _, rfl, rfl, n2⟩, ?_⟩
      refine seq_s e5 (seq_s (if_s (bT_ev (y2_ev rfl rfl ((En.lst En.nat).eqD (by decide) (row[j] :: m) []))) ((if_neg (by simp)).trans rfl)) ?_)
      obtain ⟨v0, va, vb, ha, hV⟩ := view7 a0 x done row rest (.fz (.list ((row[j] :: m).map eN))) b
      have ha := ha _ rfl
      subst ha
      have e7 : vwY (y2 (inD true) (varY 1) (varY 4)) (R9 a0 x done row rest [.fz (.list ((row[j] :: m).map eN)), b]) dummy = some (.bool (!decide (x ∈ row)), dummy) := by
        refine vw_ev ?_ rfl
        rw [hV]
        exact y2_ev rfl rfl (En.nat.inL (by decide) true x row)
      have e8 : vwY (y2 idxD (varY 4) (y2 ixD (varY 5) (cY (.int 0)))) (R9 a0 x done row rest [.fz (.list ((row[j] :: m).map eN)), b]) dummy = some (eN j, dummy) := by
        refine vw_ev ?_ rfl
        rw [hV]
        refine y2_ev rfl (y2_ev rfl rfl (En.nat.ixL (row[j] :: m) 0 (by simp))) ?_
        rw [List.getElem_cons_zero, idx_L (List.getElem_mem hj), hidx]
      refine seq_s (if_s (or_ev (bT_ev (y2_ev (y2_ev rfl rfl (En.nat.ixL (row[j] :: m) 0 (by simp))) (y2_ev rfl rfl (add_N x 1)) (En.nat.neD (by decide) _ (x + 1)))) (fun _ => bT_ev e7) (fun _ => rfl)) (r := some (.nx (R9 a0 x done (if row.getD j 0 ≠ x + 1 ∨ x ∉ row then row.set j x else row) rest [.fz (.list ((row[j] :: m).map eN)), b]), dummy)) ?_) (asg_ev (y2_ev rfl rfl (En.nat.ixL (row[j] :: m) 0 (by simp))) |>.trans ?_)
      · rw [hgd, List.getElem_cons_zero]
        by_cases hc : row[j] ≠ x + 1 ∨ x ∉ row
        · have : (!decide (row[j] = x + 1) || !decide (x ∈ row)) = true := by
            rcases hc with hc | hc
            · rw [decide_eq_false hc]; rfl
            · rw [decide_eq_false hc, Bool.not_false, Bool.or_true]
          rw [if_pos this, if_pos hc]
          refine (asgG_ev rfl (subA_ev e8 rfl rfl hget (by rw [List.length_map]; exact hj))).trans ?_
          have es : (row.map eN).set j (eN x) = (row.set j x).map eN := by rw [List.map_set]
          rw [es, encT_set]
          rfl
        · have : ¬ (!decide (row[j] = x + 1) || !decide (x ∈ row)) = true := by
            rw [Bool.or_eq_true]
            rintro (z | z)
            · exact hc (.inl (by simpa using z))
            · exact hc (.inr (by simpa using z))
          rw [if_neg this, if_neg hc]
          rfl
      · rw [hgd]
        rfl
  by_cases hz : (putB t x 0).2.1 = t.length
  · obtain ⟨b3, b4, tl', rest', y, k1, k2, k3, k4, k5, k6⟩ := PL.1 (by rw [List.length_nil, Nat.zero_add]; exact hz) rfl rfl
    obtain ⟨a, b, rfl, _⟩ := k1
    have k2 : (putB t x 0).1 = rest' ++ [[y]] := k2
    have k3 : (putB t x 0).2.2 = 0 := k3
    rw [k2, k3, hz]
    refine forA_nx rfl rfl (List.length_map _) k6 ?_
    refine frz2_s rfl (ret_ev (tup_ev (ac_ev (y2_ev (rows_lc (t := rest') rfl (fun _ => rfl) (by rw [k5]; show _ ≤ 100000; omega) k4) (tup_ev (ac_ev (tup_ev (ac_ev rfl an_ev) (by show 1 ≤ lim; decide)) an_ev) (by show 1 ≤ lim; decide)) ?_) (ac_ev (tup_ev (ac_ev (yC_ev (ac_ev rfl an_ev) ?_) (ac_ev rfl an_ev)) (by show 2 ≤ lim; decide)) an_ev)) (by show 2 ≤ lim; decide)))
    · exact addT_ev (En.tup En.nat) rest' [[y]] (by rw [k5, List.length_singleton]; omega)
    · show some (PyData.int _) = some (PyData.int _)
      rw [List.length_map, List.length_map, List.nil_append, k5]
  · have k := PL.2 (by rw [List.length_nil, Nat.zero_add]; exact hz)
    exact forA_rt rfl rfl (List.length_map _) k
end W79

set_option Elab.async false
set_option linter.all false
set_option maxRecDepth 100000
set_option maxHeartbeats 4000000
namespace W79
open PySem L2 DL
abbrev eR : List Nat → D := (En.tup En.nat).f
theorem app2_ev {i : Nat} {g : Yl} {ρ : Rho} {s s1 : Src} {ds : List D} {dss : List (List D)} (h : g ρ s = some (ds, s1)) (hi : ρ[i]? = some (.o2 dss)) (hl : dss.length < lim) : app2S i g ρ s = some (.nx (ρ.set i (.o2 (dss ++ [ds]))), s1) := by
  unfold app2S
  rw [h]
  dsimp only [bO]
  rw [hi]
  exact if_pos hl
theorem appX_ev {i k : Nat} {gb ge : Y} {ρ : Rho} {s s1 s2 : Src} {d : D} {ds : List D} {dss : List (List D)} (h : gb ρ s = some (eN k, s1)) (h2 : ge ρ s1 = some (d, s2)) (hi : ρ[i]? = some (.o2 dss)) (hd : dss[k]? = some ds) (hl : ds.length < lim) :
    appXS i gb ge ρ s = some (.nx (ρ.set i (.o2 (dss.set k (ds ++ [d])))), s2) := by
  unfold appXS
  rw [h]
  dsimp only [bO]
  rw [h2]
  dsimp only [bO]
  rw [hi]
  show (if 0 ≤ (k : Int) ∧ (k : Int) < dss.length then _ else none) = _
  have hk : k < dss.length := (List.getElem?_eq_some_iff.mp hd).1
  rw [if_pos ⟨by omega, by omega⟩, Int.toNat_natCast, hd]
  exact if_pos hl
theorem encT_mod {q : Tab} {i : Nat} (h : i < q.length) (k : Nat) : (encT q).set i (q[i].map eN ++ [eN k]) = encT (q.modify i (· ++ [k])) := by
  unfold encT
  refine List.ext_getElem? fun j => ?_
  rw [List.getElem?_set, List.getElem?_map, List.getElem?_map, List.getElem?_modify, List.length_map]
  by_cases c : i = j
  · subst c
    rw [if_pos rfl, if_pos h, List.getElem?_eq_getElem h]
    simp
  · rw [if_neg c]
    cases q[j]? <;> simp [c]
theorem fill_ev (w : List Nat) (hw : w.length ≤ 800) : m_fill [eR w] = some (.tuple [eTb (fillT w).1, eTb (fillT w).2]) := by
  refine runD_rt (s := dummy) ?_
  unfold G_fill
  refine seq_s (ρ1 := [.fz (eR w), .fz (eTb []), .o2 (encT []), .un, .un, .un, .un]) (s1 := dummy) rfl ?_
  let I : Nat → Rho → Src → Prop := fun i ρ s => s = dummy ∧ ∃ a b c d, ρ = [.fz (eR w), .fz (eTb (stF w i).1), .o2 (encT (stF w i).2), a, b, c, d]
  have L := rel_s (fi := iEn (varY 0)) (bind := bP 3 4) (xs := (pairs w).map fun p => (eN p.1, eN p.2)) (ρ := [.fz (eR w), .fz (eTb []), .o2 (encT []), .un, .un, .un, .un]) (s := dummy) (s1 := dummy)
    (G := (seqS (asgGS (callY 2 m_put_in (aCons (varY 1) (aCons (varY 4) aNil))) (sqG 2 (consGs (nmG 1) (consGs (nmG 5) nilGs))))
      (seqS (ifS (bT (vwY (y2 eqD (y2 ixD (varY 5) (cY (.int 0))) (yC lenC (aCons (varY 2) aNil)))))
        (app2S 2 (lstY aNil))
        nxS)
      (appXS 2 (y2 ixD (varY 5) (cY (.int 0))) (varY 3)))))
    (rest := (frzS 2 (retS (tupY (aCons (varY 1) (aCons (yC tupleC (aCons (frY (lcY (iY (varY 2)) (bN 6) yesT (yC tupleC (aCons (varY 6) aNil)) [6])) aNil)) aNil)))))) (ien_ev rfl rfl) I (fun fl s => fl = .rt (.tuple [eTb (fillT w).1, eTb (fillT w).2]) ∧ s = dummy) ?st ⟨rfl, _, _, _, _, rfl⟩ ?en
  case st =>
    rintro i p ρ s hp ⟨rfl, a, b, c, d, rfl⟩
    rw [List.getElem?_map, pairs_eq, List.getElem?_map] at hp
    have hi : i < w.length := by
      rcases Nat.lt_or_ge i w.length with h | h
      · exact h
      · rw [List.getElem?_eq_none (by rw [List.length_range]; exact h)] at hp; cases hp
    rw [List.getElem?_eq_getElem (by rw [List.length_range]; exact hi), List.getElem_range] at hp
    cases hp
    have hx : w.getD i 0 = w[i] := getD_lt hi
    have ok := stF_ok w i (by omega)
    have stp := ok.step (k := i) (x := w[i])
    dsimp only
    rw [hx]
    have hput := put_ev (stF w i).1 w[i] (by have := ok.tl; omega) (fun r hr => by have := ok.tr r hr; omega)
    refine ⟨_, .nx [.fz (eR w), .fz (eTb (stF w (i + 1)).1), .o2 (encT (stF w (i + 1)).2), .fz (eN i), .fz (eN w[i]), .fz (.tuple [eN (putB (stF w i).1 w[i] 0).2.1, eN (putB (stF w i).1 w[i] 0).2.2]), d], dummy, rfl, ?_, rfl, _, _, _, _, rfl⟩
    refine seq_s (ρ1 := [.fz (eR w), .fz (eTb (putB (stF w i).1 w[i] 0).1), .o2 (encT (stF w i).2), .fz (eN i), .fz (eN w[i]), .fz (.tuple [eN (putB (stF w i).1 w[i] 0).2.1, eN (putB (stF w i).1 w[i] 0).2.2]), d]) (s1 := dummy) (asgG_ev (call_ev (ac_ev rfl (ac_ev rfl an_ev)) rfl hput) rfl) ?_
    have e1 : vwY (y2 eqD (y2 ixD (varY 5) (cY (.int 0))) (yC lenC (aCons (varY 2) aNil))) [.fz (eR w), .fz (eTb (putB (stF w i).1 w[i] 0).1), .o2 (encT (stF w i).2), .fz (eN i), .fz (eN w[i]), .fz (.tuple [eN (putB (stF w i).1 w[i] 0).2.1, eN (putB (stF w i).1 w[i] 0).2.2]), d] dummy = some (.bool (decide ((putB (stF w i).1 w[i] 0).2.1 = (stF w i).2.length)), dummy) := by
      refine vw_ev (y2_ev (y2_ev rfl rfl (En.nat.ixT [_, _] 0 (by simp))) (yC_ev (ac_ev rfl an_ev) (d := eN (stF w i).2.length) ?_) (En.nat.eqD (by decide) _ _)) rfl
      show some (PyData.int _) = some (PyData.int _)
      rw [List.length_map, List.length_map]
    have hq : (if (putB (stF w i).1 w[i] 0).2.1 = (stF w i).2.length then (stF w i).2 ++ [[]] else (stF w i).2).length ≤ i + 1 := by
      have := ok.ql
      have := ok.tl
      split
      · rw [List.length_append, List.length_singleton]; omega
      · omega
    refine seq_s (ρ1 := [.fz (eR w), .fz (eTb (putB (stF w i).1 w[i] 0).1), .o2 (encT (if (putB (stF w i).1 w[i] 0).2.1 = (stF w i).2.length then (stF w i).2 ++ [[]] else (stF w i).2)), .fz (eN i), .fz (eN w[i]), .fz (.tuple [eN (putB (stF w i).1 w[i] 0).2.1, eN (putB (stF w i).1 w[i] 0).2.2]), d]) (s1 := dummy) (if_s (bT_ev e1) ?_) ?_
    · by_cases c : (putB (stF w i).1 w[i] 0).2.1 = (stF w i).2.length
      · rw [decide_eq_true c, if_pos rfl, if_pos c]
        refine (app2_ev (lst_ev an_ev (by show 0 ≤ lim; decide)) rfl (by rw [List.length_map]; have := ok.ql; have := ok.tl; show _ < 100000; omega)).trans ?_
        have : encT ((stF w i).2 ++ [[]]) = encT (stF w i).2 ++ [[]] := by unfold encT; rw [List.map_append]; rfl
        rw [this]
        rfl
      · rw [decide_eq_false c, if_neg Bool.false_ne_true, if_neg c]
        rfl
    · have hrow : ∀ r ∈ (if (putB (stF w i).1 w[i] 0).2.1 = (stF w i).2.length then (stF w i).2 ++ [[]] else (stF w i).2), r.length ≤ i := fun r hr => by
        split at hr
        · rcases List.mem_append.mp hr with hr | hr
          · exact ok.qr r hr
          · rw [List.mem_singleton.mp hr]; exact Nat.zero_le _
        · exact ok.qr r hr
      have hk : (putB (stF w i).1 w[i] 0).2.1 < (if (putB (stF w i).1 w[i] 0).2.1 = (stF w i).2.length then (stF w i).2 ++ [[]] else (stF w i).2).length := by
        have := stp.2
        split
        · rw [List.length_append, List.length_singleton]; omega
        · omega
      refine (appX_ev (y2_ev rfl rfl (En.nat.ixT [_, _] 0 (by simp))) rfl rfl (by rw [List.getElem_cons_zero, List.getElem?_map, List.getElem?_eq_getElem hk]; rfl) (by
        rw [List.length_map]
        have := hrow _ (List.getElem_mem hk)
        show _ < 100000
        omega)).trans ?_
      rw [List.getElem_cons_zero, encT_mod hk, stF_succ hi]
      rfl
  case en =>
    rintro ρ s ⟨rfl, a, b, c, d, rfl⟩
    have hlen : ((pairs w).map fun p => (eN p.1, eN p.2)).length = w.length := by rw [List.length_map, pairs_eq, List.length_map, List.length_range]
    rw [hlen, stF_all]
    have ok := stF_ok w w.length (Nat.le_refl _)
    rw [stF_all] at ok
    refine ⟨_, dummy, frz2_s rfl (ret_ev (tup_ev (ac_ev rfl (ac_ev (rows_lc (t := (fillT w).2) rfl (fun _ => rfl) (by have := ok.ql; have := ok.tl; show _ ≤ 100000; omega) (fun r hr => by have := ok.qr r hr; omega)) an_ev)) (by show 2 ≤ lim; decide))), rfl, rfl⟩
  obtain ⟨fl, s2, e, rfl, rfl⟩ := L
  exact e
theorem eR_mod {q : Tab} {i : Nat} (h : i < q.length) (k : Nat) : (q.map eR).set i (eR (q[i] ++ [k])) = (q.modify i (· ++ [k])).map eR := by
  refine List.ext_getElem? fun j => ?_
  rw [List.getElem?_set, List.getElem?_map, List.getElem?_map, List.getElem?_modify, List.length_map]
  by_cases c : i = j
  · subst c
    rw [if_pos rfl, if_pos h, List.getElem?_eq_getElem h]
    simp
  · rw [if_neg c]
    cases q[j]? <;> simp [c]
theorem lfill_ev (w : List Nat) (hw : w.length ≤ 800) : m_law_fill [eR w] = some (.tuple [eTb (fillT w).1, eTb (fillT w).2]) := by
  refine runD_rt (s := dummy) ?_
  unfold G__law_fill
  refine seq_s (ρ1 := [.fz (eR w), .fz (eTb []), .ow (([] : Tab).map eR), .un, .un, .un]) (s1 := dummy) rfl ?_
  let I : Nat → Rho → Src → Prop := fun i ρ s => s = dummy ∧ ∃ a b c, ρ = [.fz (eR w), .fz (eTb (stF w i).1), .ow ((stF w i).2.map eR), a, b, c]
  have L := rel_s (fi := iEn (varY 0)) (bind := bP 3 4) (xs := (pairs w).map fun p => (eN p.1, eN p.2)) (ρ := [.fz (eR w), .fz (eTb []), .ow (([] : Tab).map eR), .un, .un, .un]) (s := dummy) (s1 := dummy)
    (G := (seqS (asgGS (callY 2 m_law_put (aCons (varY 1) (aCons (varY 4) aNil))) (sqG 2 (consGs (nmG 1) (consGs (nmG 5) nilGs))))
      (seqS (frzS 2 (asgS 2 (owU (yn2 catN (varY 2) (y2 mulB (frY (lstY (aCons (tupY aNil) aNil))) (yC intC (aCons (y2 eqD (y2 ixD (varY 5) (cY (.int 0))) (yC lenC (aCons (varY 2) aNil))) aNil)))))))
      (asgGS (y2 addD (oixY 2 (y2 ixD (varY 5) (cY (.int 0)))) (tupY (aCons (varY 3) aNil))) (subG 2 (y2 ixD (varY 5) (cY (.int 0))))))))
    (rest := (frzS 2 (retS (tupY (aCons (varY 1) (aCons (yC tupleC (aCons (varY 2) aNil)) aNil)))))) (ien_ev rfl rfl) I (fun fl s => fl = .rt (.tuple [eTb (fillT w).1, eTb (fillT w).2]) ∧ s = dummy) ?st ⟨rfl, _, _, _, rfl⟩ ?en
  case st =>
    rintro i p ρ s hp ⟨rfl, a, b, c, rfl⟩
    rw [List.getElem?_map, pairs_eq, List.getElem?_map] at hp
    have hi : i < w.length := by
      rcases Nat.lt_or_ge i w.length with h | h
      · exact h
      · rw [List.getElem?_eq_none (by rw [List.length_range]; exact h)] at hp; cases hp
    rw [List.getElem?_eq_getElem (by rw [List.length_range]; exact hi), List.getElem_range] at hp
    cases hp
    have hx : w.getD i 0 = w[i] := getD_lt hi
    have ok := stF_ok w i (by omega)
    have stp := ok.step (k := i) (x := w[i])
    dsimp only
    rw [hx]
    have hput := lput_ev (stF w i).1 w[i] (by have := ok.tl; omega) (fun r hr => by have := ok.tr r hr; omega)
    refine ⟨_, .nx [.fz (eR w), .fz (eTb (stF w (i + 1)).1), .ow ((stF w (i + 1)).2.map eR), .fz (eN i), .fz (eN w[i]), .fz (.tuple [eN (putB (stF w i).1 w[i] 0).2.1, eN (putB (stF w i).1 w[i] 0).2.2])], dummy, rfl, ?_, rfl, _, _, _, rfl⟩
    refine seq_s (ρ1 := [.fz (eR w), .fz (eTb (putB (stF w i).1 w[i] 0).1), .ow ((stF w i).2.map eR), .fz (eN i), .fz (eN w[i]), .fz (.tuple [eN (putB (stF w i).1 w[i] 0).2.1, eN (putB (stF w i).1 w[i] 0).2.2])]) (s1 := dummy) (asgG_ev (call_ev (ac_ev rfl (ac_ev rfl an_ev)) rfl hput) rfl) ?_
    have hrow : ∀ r ∈ (if (putB (stF w i).1 w[i] 0).2.1 = (stF w i).2.length then (stF w i).2 ++ [[]] else (stF w i).2), r.length ≤ i := fun r hr => by
      split at hr
      · rcases List.mem_append.mp hr with hr | hr
        · exact ok.qr r hr
        · rw [List.mem_singleton.mp hr]; exact Nat.zero_le _
      · exact ok.qr r hr
    have hk : (putB (stF w i).1 w[i] 0).2.1 < (if (putB (stF w i).1 w[i] 0).2.1 = (stF w i).2.length then (stF w i).2 ++ [[]] else (stF w i).2).length := by
      have := stp.2
      split
      · rw [List.length_append, List.length_singleton]; omega
      · omega
    refine seq_s (ρ1 := [.fz (eR w), .fz (eTb (putB (stF w i).1 w[i] 0).1), .ow ((if (putB (stF w i).1 w[i] 0).2.1 = (stF w i).2.length then (stF w i).2 ++ [[]] else (stF w i).2).map eR), .fz (eN i), .fz (eN w[i]), .fz (.tuple [eN (putB (stF w i).1 w[i] 0).2.1, eN (putB (stF w i).1 w[i] 0).2.2])]) (s1 := dummy) (frz_s rfl ?_) ?_
    · have e1 : y2 eqD (y2 ixD (varY 5) (cY (.int 0))) (yC lenC (aCons (varY 2) aNil)) [.fz (eR w), .fz (eTb (putB (stF w i).1 w[i] 0).1), .fz (.list ((stF w i).2.map eR)), .fz (eN i), .fz (eN w[i]), .fz (.tuple [eN (putB (stF w i).1 w[i] 0).2.1, eN (putB (stF w i).1 w[i] 0).2.2])] dummy = some (.bool (decide ((putB (stF w i).1 w[i] 0).2.1 = (stF w i).2.length)), dummy) :=
        y2_ev (y2_ev rfl rfl (En.nat.ixT [_, _] 0 (by simp))) (yC_ev (ac_ev rfl an_ev) ((En.tup En.nat).lenL _)) (En.nat.eqD (by decide) _ _)
      have hql : (stF w i).2.length ≤ 800 := by have := ok.ql; have := ok.tl; omega
      by_cases c : (putB (stF w i).1 w[i] 0).2.1 = (stF w i).2.length
      · rw [decide_eq_true c] at e1
        rw [if_pos c]
        refine (asgo_ev (d := (stF w i).2.map eR ++ [.tuple []]) (yn2_ev (y := .list [.tuple []]) rfl (y2_ev (fr_ev (lst_ev (ac_ev (tup_ev an_ev (by show 0 ≤ lim; decide)) an_ev) (by show 1 ≤ lim; decide))) (yC_ev (ac_ev e1 an_ev) rfl) (mulL_ev (ds := [.tuple []]) (m := 1) (by decide) (by decide))) ?_)).trans ?_
        · show (if ((stF w i).2.map eR).length + 1 ≤ lim then some ((stF w i).2.map eR ++ [.tuple []]) else none) = _
          rw [if_pos (by rw [List.length_map]; show _ ≤ 100000; omega)]
        · rw [List.map_append]
          rfl
      · rw [decide_eq_false c] at e1
        rw [if_neg c]
        refine (asgo_ev (d := (stF w i).2.map eR ++ []) (yn2_ev (y := .list []) rfl (y2_ev (fr_ev (lst_ev (ac_ev (tup_ev an_ev (by show 0 ≤ lim; decide)) an_ev) (by show 1 ≤ lim; decide))) (yC_ev (ac_ev e1 an_ev) rfl) (mulL_ev (ds := [.tuple []]) (m := 0) (by decide) (by decide))) ?_)).trans ?_
        · show (if ((stF w i).2.map eR).length + 0 ≤ lim then some ((stF w i).2.map eR ++ []) else none) = _
          rw [if_pos (by rw [List.length_map]; show _ ≤ 100000; omega)]
        · rw [List.append_nil]
          rfl
    · refine (asgG_ev (d := eR ((if (putB (stF w i).1 w[i] 0).2.1 = (stF w i).2.length then (stF w i).2 ++ [[]] else (stF w i).2)[(putB (stF w i).1 w[i] 0).2.1] ++ [i])) (y2_ev (oix_ev (e := En.tup En.nat) (xs := (if (putB (stF w i).1 w[i] 0).2.1 = (stF w i).2.length then (stF w i).2 ++ [[]] else (stF w i).2)) (y2_ev rfl rfl (En.nat.ixT [(putB (stF w i).1 w[i] 0).2.1, _] 0 (by simp))) rfl hk) (tup_ev (ac_ev rfl an_ev) (by show 1 ≤ lim; decide)) (addT_ev En.nat _ [i] (Nat.le_trans (Nat.add_le_add_right (hrow _ (List.getElem_mem hk)) 1) (by omega))))
        (sub_ev (y2_ev rfl rfl (En.nat.ixT [(putB (stF w i).1 w[i] 0).2.1, _] 0 (by simp))) rfl (by rw [List.length_map]; exact hk))).trans ?_
      rw [List.getElem_cons_zero]
      show some (Fl.nx [_, _, .ow (((if (putB (stF w i).1 w[i] 0).2.1 = (stF w i).2.length then (stF w i).2 ++ [[]] else (stF w i).2).map eR).set _ _), _, _, _], _) = _
      rw [eR_mod hk, stF_succ hi]
      rfl
  case en =>
    rintro ρ s ⟨rfl, a, b, c, rfl⟩
    have hlen : ((pairs w).map fun p => (eN p.1, eN p.2)).length = w.length := by rw [List.length_map, pairs_eq, List.length_map, List.length_range]
    rw [hlen, stF_all]
    exact ⟨_, dummy, frz_s rfl (ret_ev (tup_ev (ac_ev rfl (ac_ev (yC_ev (ac_ev rfl an_ev) rfl) an_ev)) (by show 2 ≤ lim; decide))), rfl, rfl⟩
  obtain ⟨fl, s2, e, rfl, rfl⟩ := L
  exact e
end W79

set_option Elab.async false
set_option linter.all false
set_option maxRecDepth 100000
set_option maxHeartbeats 4000000
namespace W79
open PySem L2 DL
theorem sw_eq {r : List Nat} {k : Nat} (hk : k + 1 < r.length) : r.take k ++ [r[k + 1], r[k]] ++ r.drop (k + 2) = swapN r k (k + 1) := by
  obtain ⟨A, a, b, C, e, hA⟩ := cut2 (n := r.length) rfl hk
  subst hA
  have e1 : swapN r A.length (A.length + 1) = A ++ b :: a :: C := by rw [e]; exact swap_app rfl
  rw [e1]
  have h1 : r.take A.length = A := by rw [e]; exact List.take_left' rfl
  have h2 : r.drop (A.length + 2) = C := by
    rw [e, ← List.drop_drop, List.drop_left' rfl]
    rfl
  have h3 : r[A.length]'(by omega) = a := by
    have : r[A.length]? = some a := by rw [e, List.getElem?_append_right (Nat.le_refl _), Nat.sub_self]; rfl
    obtain ⟨h, z⟩ := List.getElem?_eq_some_iff.mp this
    exact z
  have h4 : r[A.length + 1]'hk = b := by
    have : r[A.length + 1]? = some b := by rw [e, List.getElem?_append_right (by omega)]; simp
    obtain ⟨h, z⟩ := List.getElem?_eq_some_iff.mp this
    exact z
  rw [h1, h2, h3, h4, List.append_assoc]
  rfl
theorem swE {k : Nat} {r : List Nat} {a b : Nat} {g h : Y} {ρ : Rho} {s : Src} (hk : k + 1 < r.length) (h1 : g ρ s = some (eR r, s)) (h2 : h ρ s = some (eN k, s)) (hl : r.length ≤ 100) :
    y2 addD (y2 addD (slY slD g oNo (oYes h)) (tupY (aCons (y2 ixD g (y2 addD h (cY (.int 1)))) (aCons (y2 ixD g h) aNil)))) (slY slD g (oYes (y2 addD h (cY (.int 2)))) oNo) ρ s = some (eR (swapN r k (k + 1)), s) := by
  rw [← sw_eq hk]
  refine y2_ev (y2_ev (sl_ev h1 rfl (oy_ev h2) (sl_takeT En.nat r k)) (tup_ev (ds := [eN r[k + 1], eN r[k]]) (ac_ev (y2_ev h1 (y2_ev h2 rfl (add_N k 1)) (En.nat.ixT r (k + 1) hk)) (ac_ev (y2_ev h1 h2 (En.nat.ixT r k (by omega))) an_ev)) (by show 2 ≤ lim; decide)) (addT_ev En.nat (r.take k) [r[k + 1], r[k]] (by rw [List.length_take]; simp; omega)))
    (sl_ev h1 (oy_ev (y2_ev h2 rfl (add_N k 2))) rfl (sl_dropT En.nat r (k + 2))) (addT_ev En.nat _ _ (by simp; omega))
theorem swapped_ev {r : List Nat} {k : Nat} (hk : k + 1 < r.length) (hl : r.length ≤ 100) : m_law_swapped [eR r, eN k] = some (eR (swapN r k (k + 1))) := by
  refine runD_rt (s := dummy) ?_
  unfold G__law_swapped
  exact ret_ev (swE (a := 0) (b := 0) hk rfl rfl hl)
abbrev eKR : Nat × List Nat → D := (En.nat.pair (En.tup En.nat)).f
theorem drops_ev (r : List Nat) (h0 : 1 ≤ r.length) (hl : r.length ≤ 100) : m_law_drops [eR r] = some (.list ((dropsN r).map eN)) := by
  refine runD_rt (s := dummy) ?_
  unfold G__law_drops
  refine ret_ev (fr_ev (lcE_ev (e := eN) (xs := List.range (r.length - 1)) (fun k => decide (r.getD (k + 1) 0 < r.getD k 0)) eN (ir1_ev (y2_ev (yC_ev (ac_ev rfl an_ev) (En.nat.lenT r)) rfl (sub_N h0)) (by omega)) (fun k hk => ?_) (by rw [List.length_range]; show _ ≤ 100000; omega)))
  have hk := List.mem_range.mp hk
  refine ⟨?_, fun _ => rfl⟩
  rw [getD_lt (by omega), getD_lt (by omega)]
  exact bT_ev (y2_ev (y2_ev rfl rfl (En.nat.ixT r k (by omega))) (y2_ev rfl (y2_ev rfl rfl (add_N k 1)) (En.nat.ixT r (k + 1) (by omega))) (gt_N _ _))
theorem last_ev (r : List Nat) (h0 : 1 ≤ r.length) (hl : r.length ≤ 100) : m_last_swaps [eR r] = some (.list ((LS r).map eKR)) := by
  refine runD_rt (s := dummy) ?_
  unfold G_last_swaps
  refine seq_s (ρ1 := [.fz (eR r), .ow (([] : List (Nat × List Nat)).map eKR), .un]) (s1 := dummy) rfl ?_
  let F : Nat → List (Nat × List Nat) := fun i => ((List.range i).filter fun k => decide (r.getD (k + 1) 0 < r.getD k 0)).map fun k => (k, swapN r k (k + 1))
  have hF : ∀ i, (F i).length ≤ i := fun i => by
    show (((List.range i).filter _).map _).length ≤ i
    rw [List.length_map]
    exact Nat.le_trans (List.length_filter_le _ _) (by rw [List.length_range]; exact Nat.le_refl _)
  have L := rel_s (fi := iR1 (y2 subD (yC lenC (aCons (varY 0) aNil)) (cY (.int 1)))) (bind := bN 2) (xs := (List.range (r.length - 1)).map eN) (ρ := [.fz (eR r), .ow (([] : List (Nat × List Nat)).map eKR), .un]) (s := dummy) (s1 := dummy)
    (G := (ifS (bT (y2 gtD (y2 ixD (varY 0) (varY 2)) (y2 ixD (varY 0) (y2 addD (varY 2) (cY (.int 1))))))
        (appS 1 (tupY (aCons (varY 2) (aCons (y2 addD (y2 addD (slY slD (varY 0) oNo (oYes (varY 2))) (tupY (aCons (y2 ixD (varY 0) (y2 addD (varY 2) (cY (.int 1)))) (aCons (y2 ixD (varY 0) (varY 2)) aNil)))) (slY slD (varY 0) (oYes (y2 addD (varY 2) (cY (.int 2)))) oNo)) aNil))))
        nxS)) (rest := (frzS 1 (retS (varY 1)))) (ir1_ev (y2_ev (yC_ev (ac_ev rfl an_ev) (En.nat.lenT r)) rfl (sub_N h0)) (by omega))
    (fun i ρ s => s = dummy ∧ ∃ z, ρ = [.fz (eR r), .ow ((F i).map eKR), z]) (fun fl s => fl = .rt (.list ((LS r).map eKR)) ∧ s = dummy) ?st ⟨rfl, _, rfl⟩ ?en
  case st =>
    rintro i x ρ s hx ⟨rfl, z, rfl⟩
    rw [List.getElem?_map] at hx
    obtain ⟨k, hk, rfl⟩ := Option.map_eq_some_iff.mp hx
    obtain ⟨hi, hk2⟩ := List.getElem?_eq_some_iff.mp hk
    rw [List.getElem_range] at hk2
    subst hk2
    rw [List.length_range] at hi
    have hFs : F (i + 1) = F i ++ if r[i + 1] < r[i] then [(i, swapN r i (i + 1))] else [] := by
      show ((List.range (i + 1)).filter _).map _ = _
      rw [List.range_succ, List.filter_append, List.map_append]
      congr 1
      rw [List.filter_cons, getD_lt (by omega), getD_lt (by omega)]
      by_cases c : r[i + 1] < r[i]
      · rw [decide_eq_true c, if_pos c, if_pos rfl]; rfl
      · rw [decide_eq_false c, if_neg c, if_neg Bool.false_ne_true]; rfl
    refine ⟨_, .nx [.fz (eR r), .ow ((F (i + 1)).map eKR), .fz (eN i)], dummy, rfl, ?_, rfl, _, rfl⟩
    refine if_s (bT_ev (y2_ev (y2_ev rfl rfl (En.nat.ixT r i (by omega))) (y2_ev rfl (y2_ev rfl rfl (add_N i 1)) (En.nat.ixT r (i + 1) (by omega))) (gt_N _ _))) ?_
    by_cases c : r[i + 1] < r[i]
    · rw [decide_eq_true c, if_pos rfl]
      rw [if_pos c] at hFs
      have := hF i
      refine (app_ev (tup_ev (ac_ev rfl (ac_ev (swE (a := 0) (b := 0) (k := i) (r := r) (by omega) rfl rfl hl) an_ev)) (by show 2 ≤ lim; decide)) rfl (by rw [List.length_map]; show _ < 100000; omega)).trans ?_
      rw [hFs, List.map_append]
      rfl
    · rw [decide_eq_false c, if_neg Bool.false_ne_true]
      rw [if_neg c, List.append_nil] at hFs
      rw [hFs]
      rfl
  case en =>
    rintro ρ s ⟨rfl, z, rfl⟩
    rw [List.length_map, List.length_range]
    exact ⟨_, dummy, frz_s rfl (ret_ev rfl), rfl, rfl⟩
  obtain ⟨fl, s2, e, rfl, rfl⟩ := L
  exact e
end W79

set_option Elab.async false
set_option linter.all false
set_option maxRecDepth 100000
set_option maxHeartbeats 4000000
namespace W79
open PySem L2 DL
theorem some_ev {n : Nat} {r : List Nat} (h : IsRow n r) (h1 : 1 ≤ n) (hn : n ≤ 12) : m_some_word [eR r] = some (eR (swW (phi n 0 r + 1) r).reverse) := by
  refine runD_rt (s := dummy) ?_
  unfold G_some_word
  have hcube : n * n * n ≤ 1728 := by
    have h1 : n * n ≤ 12 * 12 := Nat.mul_le_mul hn hn
    have h2 : n * n * n ≤ 12 * 12 * 12 := Nat.mul_le_mul h1 hn
    omega
  have hphi : phi n 0 r ≤ 1728 := by
    have := phi_le n r 0
    rw [h.len, Nat.zero_add] at this
    omega
  refine seq_s (ρ1 := [.fz (eR r), .ow (([] : List Nat).map eN), .fz (.list ((LS r).map eKR))]) (s1 := dummy) ?_ ?_
  · show bO (bO (some ([], dummy)) _) _ = _
    have e := last_ev r (by rw [h.len]; exact h1) (by rw [h.len]; omega)
    show bO (bO (callY 1 m_last_swaps (aCons (varY 0) aNil) [.fz (eR r), .un, .un] dummy) _) _ = _
    have ec : callY 1 m_last_swaps (aCons (varY 0) aNil) [.fz (eR r), .un, .un] dummy = some (.list ((LS r).map eKR), dummy) := call_ev (ac_ev rfl an_ev) rfl e
    rw [ec]
    rfl
  let I : Nat → Rho → Src → Prop := fun m ρ s => s = dummy ∧ ∃ here found, ρ = [.fz (eR r), .ow (found.map eN), .fz (.list ((LS here).map eKR))] ∧ IsRow n here ∧ phi n 0 here ≤ m ∧ found ++ swW (m + 1) here = swW (phi n 0 r + 1) r ∧ found.length + m = phi n 0 r
  let Post : Fl → Src → Prop := fun fl s => s = dummy ∧ ∃ y, fl = .nx [.fz (eR r), .ow ((swW (phi n 0 r + 1) r).map eN), y]
  have L := whGo_rel (c := (bT (y2 neD (varY 2) (frY (lstY aNil))))) (G := (seqS (appS 1 (y2 ixD (y2 ixD (varY 2) (cY (.int 0))) (cY (.int 0))))
      (asgS 2 (fzU (callY 1 m_last_swaps (aCons (y2 ixD (y2 ixD (varY 2) (cY (.int 0))) (cY (.int 1))) aNil)))))) I Post ?_ (phi n 0 r) (fuel + dummy.cells.length) [.fz (eR r), .ow (([] : List Nat).map eN), .fz (.list ((LS r).map eKR))] dummy (by unfold fuel; omega)
      ⟨rfl, r, [], rfl, h, Nat.le_refl _, rfl, by simp⟩
  · obtain ⟨fl, s', e1, e2, y, e3⟩ := L
    subst e2 e3
    refine seq_s e1 (frz_s rfl (ret_ev (yC_ev (ac_ev rfl an_ev) ?_)))
    show some (PyData.tuple _) = some (PyData.tuple _)
    rw [List.map_reverse]
  · rintro m ρ s ⟨rfl, here, found, rfl, hr, hp, hf, hl⟩
    have ec : ∀ b, (!decide (LS here = [])) = b → bT (y2 neD (varY 2) (frY (lstY aNil))) [.fz (eR r), .ow (found.map eN), .fz (.list ((LS here).map eKR))] dummy = some (b, dummy) := fun b hb => by
      rw [← hb]
      exact bT_ev (y2_ev rfl rfl ((En.lst (En.nat.pair (En.tup En.nat))).neD (by decide) (LS here) []))
    cases hd : dropsN here with
    | nil =>
      refine .inl ⟨dummy, ec false (by rw [LS_nil hd]; rfl), rfl, .fz (.list ((LS here).map eKR)), ?_⟩
      rw [← hf]
      unfold swW
      rw [hd, List.append_nil]
    | cons k ks =>
      have hk : k ∈ dropsN here := by rw [hd]; exact List.mem_cons_self
      have hls := LS_cons hd
      refine .inr ⟨dummy, ec true (by rw [hls]; rfl), ?_⟩
      have hlt := phi_swap hr hk
      have hs := row_sw hr hk
      have e := last_ev (swapN here k (k + 1)) (by rw [hs.len]; exact h1) (by rw [hs.len]; omega)
      refine ⟨.nx [.fz (eR r), .ow ((found ++ [k]).map eN), .fz (.list ((LS (swapN here k (k + 1))).map eKR))], dummy, ?_, m - 1, by omega, rfl, swapN here k (k + 1), found ++ [k], rfl, hs, by omega, ?_, ?_⟩
      · have ei : ∀ (ρ : Rho), ρ[2]? = some (.fz (.list ((LS here).map eKR))) → y2 ixD (varY 2) (cY (.int 0)) ρ dummy = some (eKR (k, swapN here k (k + 1)), dummy) := fun ρ hρ => by
          have hv : varY 2 ρ dummy = some (.list ((LS here).map eKR), dummy) := by unfold varY; rw [hρ]
          refine y2_ev hv rfl ?_
          rw [hls]
          exact (En.nat.pair (En.tup En.nat)).ixL ((k, swapN here k (k + 1)) :: _) 0 (by simp)
        refine seq_s (app_ev (y2_ev (ei _ rfl) rfl (d := eN k) rfl) rfl (by rw [List.length_map]; show _ < 100000; omega)) ?_
        refine (asg_ev (call_ev (ac_ev (y2_ev (ei _ rfl) rfl (d := eR (swapN here k (k + 1))) rfl) an_ev) rfl e)).trans ?_
        rw [List.map_append]
        rfl
      · rw [← hf, List.append_assoc]
        refine congrArg (found ++ ·) ?_
        have : swW (m + 1) here = k :: swW m (swapN here k (k + 1)) := by
          show (match dropsN here with | [] => [] | k :: _ => k :: swW m (swapN here k (k + 1))) = _
          rw [hd]
        rw [this, show m - 1 + 1 = m by omega]
        rfl
      · rw [List.length_append, List.length_singleton]
        omega
end W79

set_option Elab.async false
set_option linter.all false
set_option maxRecDepth 100000
set_option maxHeartbeats 4000000
namespace W79
open PySem L2 DL
def leadAt (r : List Nat) (x : Nat) : Nat := ((r.take (r.idxOf x)).filter fun y => decide (x < y)).length
def leadsN (r : List Nat) : List Nat := (List.range r.length).map (leadAt r)
def shapeN (r : List Nat) : List Nat := (sortN ((leadsN r).filter fun x => decide (0 < x))).reverse
theorem leads_ev {n : Nat} {r : List Nat} (h : IsRow n r) (hn : n ≤ 12) : m_leads_of [eR r] = some (eR (leadsN r)) := by
  refine runD_rt (s := dummy) ?_
  unfold G_leads_of
  have hl := h.len
  refine ret_ev (yC_ev (ac_ev (fr_ev (lcE_ev (e := eN) (xs := List.range r.length) (fun _ => true) (fun x => eN (leadAt r x)) (ir1_ev (yC_ev (ac_ev rfl an_ev) (En.nat.lenT r)) (by omega)) (fun x hx => ⟨rfl, fun _ => ?_⟩) (by rw [List.length_range]; show _ ≤ 100000; omega))) an_ev) ?_)
  · have hx := List.mem_range.mp hx
    refine yC_ev (ac_ev (fr_ev (lcE_ev (e := eN) (xs := r.take (r.idxOf x)) (fun y => decide (x < y)) eN (iy_ev (sl_ev rfl rfl (oy_ev (y2_ev rfl rfl (idxT_N (h.mem x (by omega))))) (sl_takeT En.nat r (r.idxOf x))) rfl) (fun y _ => ⟨bT_ev (y2_ev rfl rfl (gt_N _ _)), fun _ => rfl⟩) (by rw [List.length_take]; show _ ≤ 100000; omega))) an_ev) (En.nat.lenL _)
  · rw [List.filter_eq_self.mpr fun _ _ => rfl]
    show some (PyData.tuple _) = some (PyData.tuple ((leadsN r).map eN))
    unfold leadsN
    rw [List.map_map]
    rfl
theorem lleads_ev {n : Nat} {r : List Nat} (h : IsRow n r) (hn : n ≤ 12) : m_law_leads [eR r] = some (eR (leadsN r)) := by
  refine runD_rt (s := dummy) ?_
  unfold G__law_leads
  have hl := h.len
  refine seq_s (ρ1 := [.fz (eR r), .ow (([] : List Nat).map eN), .un, .un]) (s1 := dummy) rfl ?_
  have L := rel_s (fi := iR1 (yC lenC (aCons (varY 0) aNil))) (bind := bN 2) (xs := (List.range r.length).map eN) (ρ := [.fz (eR r), .ow (([] : List Nat).map eN), .un, .un]) (s := dummy) (s1 := dummy)
    (G := (appS 1 (yC lenC (aCons (frY (lcY (iY (slY slD (varY 0) oNo (oYes (y2 idxD (varY 0) (varY 2))))) (bN 3) (bT (y2 gtD (varY 3) (varY 2))) (varY 3) [3])) aNil)))) (rest := (frzS 1 (retS (yC tupleC (aCons (varY 1) aNil))))) (ir1_ev (yC_ev (ac_ev rfl an_ev) (En.nat.lenT r)) (by omega))
    (fun i ρ s => s = dummy ∧ ∃ z y, ρ = [.fz (eR r), .ow (((List.range i).map (leadAt r)).map eN), z, y]) (fun fl s => fl = .rt (eR (leadsN r)) ∧ s = dummy) ?st ⟨rfl, _, _, rfl⟩ ?en
  case st =>
    rintro i x ρ s hx ⟨rfl, z, y, rfl⟩
    rw [List.getElem?_map] at hx
    obtain ⟨k, hk, rfl⟩ := Option.map_eq_some_iff.mp hx
    obtain ⟨hi, hk2⟩ := List.getElem?_eq_some_iff.mp hk
    rw [List.getElem_range] at hk2
    subst hk2
    rw [List.length_range] at hi
    refine ⟨_, .nx [.fz (eR r), .ow (((List.range (i + 1)).map (leadAt r)).map eN), .fz (eN i), y], dummy, rfl, ?_, rfl, _, _, rfl⟩
    refine (app_ev (yC_ev (ac_ev (fr_ev (lcE_ev (e := eN) (xs := r.take (r.idxOf i)) (fun y => decide (i < y)) eN (iy_ev (sl_ev rfl rfl (oy_ev (y2_ev rfl rfl (idxT_N (h.mem i (by omega))))) (sl_takeT En.nat r (r.idxOf i))) rfl) (fun y _ => ⟨bT_ev (y2_ev rfl rfl (gt_N _ _)), fun _ => rfl⟩) (by rw [List.length_take]; show _ ≤ 100000; omega))) an_ev) (En.nat.lenL _)) rfl (by rw [List.length_map, List.length_map, List.length_range]; show _ < 100000; omega)).trans ?_
    rw [List.range_succ, List.map_append, List.map_append]
    rfl
  case en =>
    rintro ρ s ⟨rfl, z, y, rfl⟩
    rw [List.length_map, List.length_range]
    exact ⟨_, dummy, frz_s rfl (ret_ev (yC_ev (ac_ev rfl an_ev) rfl)), rfl, rfl⟩
  obtain ⟨fl, s2, e, rfl, rfl⟩ := L
  exact e
theorem y1_ev {f : D → Option D} {g : Y} {ρ : Rho} {s s1 : Src} {x d : D} (h : g ρ s = some (x, s1)) (h2 : f x = some d) : y1 f g ρ s = some (d, s1) := by
  unfold y1
  rw [h]
  dsimp only [bO]
  rw [h2]
  rfl
theorem lshape_ev {n : Nat} {r : List Nat} (h : IsRow n r) (hn : n ≤ 12) : m_leads_shape [eR r] = some (eR (shapeN r)) := by
  refine runD_rt (s := dummy) ?_
  unfold G_leads_shape
  have hl : (leadsN r).length ≤ 12 := by unfold leadsN; rw [List.length_map, List.length_range, h.len]; exact hn
  refine ret_ev (yC_ev (ac_ev (y1_ev (fr_ev (ynC_ev (ac_ev (fr_ev (lcE_ev (e := eN) (xs := leadsN r) (fun x => decide (0 < x)) eN (iy_ev (call_ev (ac_ev rfl an_ev) rfl (leads_ev h hn)) rfl) (fun y _ => ⟨bT_ev (y2_ev rfl rfl (gt_N y 0)), fun _ => rfl⟩) (by show _ ≤ 100000; omega))) an_ev) (sortC_N _))) rfl) an_ev) ?_)
  show some (PyData.tuple _) = some (PyData.tuple ((shapeN r).map eN))
  unfold shapeN
  rw [List.map_reverse]
end W79

set_option Elab.async false
set_option linter.all false
set_option maxRecDepth 100000
set_option maxHeartbeats 4000000
namespace W79
open PySem L2 DL
/-- a loop that returns at the first thing with an answer -/
theorem find_go {γ : Type} {e : γ → D} {i : Nat} {G : Z} (R : Rho → Prop) (g : γ → Option D) {s : Src} : ∀ (xs : List γ) (ρ : Rho),
    (∀ x ρ, x ∈ xs → R ρ → match g x with
      | some d => G (ρ.set i (.fz (e x))) s = some (.rt d, s)
      | none => ∃ ρ2, G (ρ.set i (.fz (e x))) s = some (.nx ρ2, s) ∧ R ρ2) → R ρ →
      match xs.findSome? g with
      | some d => forGo (bN i) G (xs.map e) ρ s = some (.rt d, s)
      | none => ∃ ρ', forGo (bN i) G (xs.map e) ρ s = some (.nx ρ', s) ∧ R ρ'
  | [], ρ, _, h0 => ⟨ρ, rfl, h0⟩
  | x :: xs, ρ, h, h0 => by
    have b := h x ρ List.mem_cons_self h0
    rw [List.findSome?_cons]
    cases hg : g x with
    | some d =>
      rw [hg] at b
      dsimp only at b ⊢
      show bO (G (ρ.set i (.fz (e x))) s) _ = _
      rw [b]
      rfl
    | none =>
      rw [hg] at b
      dsimp only at b ⊢
      obtain ⟨ρ2, e2, e3⟩ := b
      have ih := find_go R g xs ρ2 (fun y ρ hy => h y ρ (List.mem_cons_of_mem _ hy)) e3
      have go : ∀ r, forGo (bN i) G (xs.map e) ρ2 s = r → forGo (bN i) G ((x :: xs).map e) ρ s = r := fun r hr => by
        show bO (G (ρ.set i (.fz (e x))) s) _ = _
        rw [e2]
        exact hr
      cases hf : xs.findSome? g with
      | some d =>
        rw [hf] at ih
        exact go _ ih
      | none =>
        rw [hf] at ih
        obtain ⟨ρ', k1, k2⟩ := ih
        exact ⟨ρ', go _ k1, k2⟩
end W79
namespace W79
open PySem L2 DL
theorem sl_dropL {α : Type} (e : En α) (xs : List α) (i : Nat) : slD (e.lst.f xs) (some (i : Int)) none = some (e.lst.f (xs.drop i)) := by
  show some (PyData.list (cutL (xs.map e.f) (some (i : Int)) none)) = _
  rw [cut_drop, ← List.map_drop]
  rfl
end W79
namespace W79
open PySem L2 DL
def fwd (n a : Nat) : List Nat := (List.range n).drop a
theorem mem_fwd {n a x : Nat} (h : x ∈ fwd n a) : x < n := List.mem_range.mp (List.mem_of_mem_drop h)
theorem fwd_len (n a : Nat) : (fwd n a).length ≤ n := by unfold fwd; rw [List.length_drop, List.length_range]; omega
def Jc (r : List Nat) (i : Nat) : List Nat := (fwd r.length (i + 1)).filter fun j => decide (r.getD j 0 < r.getD i 0)
def Kc (r : List Nat) (i j : Nat) : List Nat := (fwd r.length (j + 1)).filter fun k => decide (r.getD i 0 < r.getD k 0)
def Mc (r : List Nat) (i k : Nat) : List Nat := (fwd r.length (k + 1)).filter fun m => decide (r.getD i 0 < r.getD m 0) && decide (r.getD m 0 < r.getD k 0)
abbrev Four := Nat × Nat × Nat × Nat
abbrev e4 (p : Four) : D := .tuple [eN p.1, eN p.2.1, eN p.2.2.1, eN p.2.2.2]
def crsL (r : List Nat) : List Four := (List.range r.length).flatMap fun i => (Jc r i).flatMap fun j => (Kc r i j).flatMap fun k => (Mc r i k).map fun m => (i, j, k, m)
def crs1 (r : List Nat) : Option Four := (List.range r.length).findSome? fun i => (Jc r i).findSome? fun j => (Kc r i j).findSome? fun k => (Mc r i k).head?.map fun m => (i, j, k, m)
theorem head_flat {α β : Type} (f : α → List β) : ∀ l : List α, (l.flatMap f).head? = l.findSome? fun a => (f a).head?
  | [] => rfl
  | a :: l => by
    rw [List.flatMap_cons, List.findSome?_cons]
    cases h : f a with
    | nil => rw [List.nil_append]; exact head_flat f l
    | cons b bs => rfl
theorem crs_head (r : List Nat) : (crsL r).head? = crs1 r := by
  unfold crsL crs1
  rw [head_flat]
  congr 1
  funext i
  rw [head_flat]
  congr 1
  funext j
  rw [head_flat]
  congr 1
  funext k
  rw [List.head?_map]
end W79
namespace W79
open PySem L2 DL
theorem findSome_map {α β γ : Type} (f : α → Option β) (g : β → γ) : ∀ l : List α, (l.findSome? f).map g = l.findSome? fun a => (f a).map g
  | [] => rfl
  | a :: l => by
    rw [List.findSome?_cons, List.findSome?_cons]
    cases h : f a with
    | none => exact findSome_map f g l
    | some b => rfl
theorem crossed_ev {n : Nat} {r : List Nat} (h : IsRow n r) (hn : n ≤ 12) : m_crossed_places [eR r] = some ((crs1 r).elim .none e4) := by
  have hl := h.len
  unfold m_crossed_places runD outD
  have e0 : asgS 1 (fzU (frY (ynR (rg1 (yC lenC (aCons (varY 0) aNil)))))) [.fz (eR r), .un, .un, .un, .un, .un, .un] dummy = some (.nx [.fz (eR r), .fz (.list ((List.range r.length).map eN)), .un, .un, .un, .un, .un], dummy) := by
    refine asg_ev (d := .list ((List.range r.length).map eN)) (fr_ev ?_)
    show bO (bO (yC lenC (aCons (varY 0) aNil) [.fz (eR r), .un, .un, .un, .un, .un, .un] dummy) _) _ = _
    rw [yC_ev (ac_ev rfl an_ev) (En.nat.lenT r)]
    show (if rgOk 0 (r.length : Int) = true then some (rgD 0 (r.length : Int), dummy) else none) = _
    have h0 : rgOk 0 (r.length : Int) = true := rgOkN (a := 0) (by omega) (by omega)
    rw [if_pos h0, rgN0]
  have hi : ∀ {i : Nat} {ρ : Rho} {g : Y}, i < r.length → varY 0 ρ dummy = some (eR r, dummy) → g ρ dummy = some (eN i, dummy) → y2 ixD (varY 0) g ρ dummy = some (eN (r.getD i 0), dummy) := fun {i ρ g} hi h1 h2 => by
    rw [getD_lt hi]
    exact y2_ev h1 h2 (En.nat.ixT r i hi)
  have F := find_go (e := eN) (i := 2) (s := dummy) (G := (forS (iY (frY (lcY (iY (slY slD (varY 1) (oYes (y2 addD (varY 2) (cY (.int 1)))) oNo)) (bN 3) (bT (y2 ltD (y2 ixD (varY 0) (varY 3)) (y2 ixD (varY 0) (varY 2)))) (varY 3) [3]))) (bN 3)
        (forS (iY (frY (lcY (iY (slY slD (varY 1) (oYes (y2 addD (varY 3) (cY (.int 1)))) oNo)) (bN 4) (bT (y2 gtD (y2 ixD (varY 0) (varY 4)) (y2 ixD (varY 0) (varY 2)))) (varY 4) [4]))) (bN 4)
        (seqS (asgS 5 (fzU (frY (lcY (iY (slY slD (varY 1) (oYes (y2 addD (varY 4) (cY (.int 1)))) oNo)) (bN 6) (bT (chY ltD ltD (y2 ixD (varY 0) (varY 2)) (y2 ixD (varY 0) (varY 6)) (y2 ixD (varY 0) (varY 4)))) (varY 6) [6]))))
      (ifS (bT (y2 neD (varY 5) (frY (lstY aNil))))
        (retS (tupY (aCons (varY 2) (aCons (varY 3) (aCons (varY 4) (aCons (y2 ixD (varY 5) (cY (.int 0))) aNil))))))
        nxS))))) (fun ρ => ∃ a b c d e, ρ = [.fz (eR r), .fz (.list ((List.range r.length).map eN)), a, b, c, d, e]) (fun i => (Jc r i).findSome? fun j => (Kc r i j).findSome? fun k => (Mc r i k).head?.map fun m => e4 (i, j, k, m)) (List.range r.length) [.fz (eR r), .fz (.list ((List.range r.length).map eN)), .un, .un, .un, .un, .un] ?st ⟨_, _, _, _, _, rfl⟩
  case st =>
    rintro i ρ hir ⟨a, b, c, d, e, rfl⟩
    have hir := List.mem_range.mp hir
    have eJ : iY (frY (lcY (iY (slY slD (varY 1) (oYes (y2 addD (varY 2) (cY (.int 1)))) oNo)) (bN 3) (bT (y2 ltD (y2 ixD (varY 0) (varY 3)) (y2 ixD (varY 0) (varY 2)))) (varY 3) [3])) [.fz (eR r), .fz (.list ((List.range r.length).map eN)), .fz (eN i), b, c, d, e] dummy = some ((Jc r i).map eN, dummy) := by
      refine iy_ev (fr_ev (lcE_ev (e := eN) (xs := fwd r.length (i + 1)) (fun j => decide (r.getD j 0 < r.getD i 0)) eN (iy_ev (sl_ev rfl (oy_ev (y2_ev rfl rfl (add_N i 1))) rfl (sl_dropL En.nat (List.range r.length) (i + 1))) rfl) (fun j hj => ⟨bT_ev (y2_ev (hi (mem_fwd hj) rfl rfl) (hi hir rfl rfl) (lt_N _ _)), fun _ => rfl⟩) (by have := fwd_len r.length (i + 1); show _ ≤ 100000; omega))) rfl
    have F2 := find_go (e := eN) (i := 3) (s := dummy) (G := (forS (iY (frY (lcY (iY (slY slD (varY 1) (oYes (y2 addD (varY 3) (cY (.int 1)))) oNo)) (bN 4) (bT (y2 gtD (y2 ixD (varY 0) (varY 4)) (y2 ixD (varY 0) (varY 2)))) (varY 4) [4]))) (bN 4)
        (seqS (asgS 5 (fzU (frY (lcY (iY (slY slD (varY 1) (oYes (y2 addD (varY 4) (cY (.int 1)))) oNo)) (bN 6) (bT (chY ltD ltD (y2 ixD (varY 0) (varY 2)) (y2 ixD (varY 0) (varY 6)) (y2 ixD (varY 0) (varY 4)))) (varY 6) [6]))))
      (ifS (bT (y2 neD (varY 5) (frY (lstY aNil))))
        (retS (tupY (aCons (varY 2) (aCons (varY 3) (aCons (varY 4) (aCons (y2 ixD (varY 5) (cY (.int 0))) aNil))))))
        nxS)))) (fun ρ => ∃ b c d e, ρ = [.fz (eR r), .fz (.list ((List.range r.length).map eN)), .fz (eN i), b, c, d, e]) (fun j => (Kc r i j).findSome? fun k => (Mc r i k).head?.map fun m => e4 (i, j, k, m)) (Jc r i) [.fz (eR r), .fz (.list ((List.range r.length).map eN)), .fz (eN i), b, c, d, e] ?st2 ⟨_, _, _, _, rfl⟩
    case st2 =>
      rintro j ρ hjJ ⟨b, c, d, e, rfl⟩
      have hjr : j < r.length := mem_fwd (List.mem_filter.mp hjJ).1
      have eK : iY (frY (lcY (iY (slY slD (varY 1) (oYes (y2 addD (varY 3) (cY (.int 1)))) oNo)) (bN 4) (bT (y2 gtD (y2 ixD (varY 0) (varY 4)) (y2 ixD (varY 0) (varY 2)))) (varY 4) [4])) [.fz (eR r), .fz (.list ((List.range r.length).map eN)), .fz (eN i), .fz (eN j), c, d, e] dummy = some ((Kc r i j).map eN, dummy) := by
        refine iy_ev (fr_ev (lcE_ev (e := eN) (xs := fwd r.length (j + 1)) (fun k => decide (r.getD i 0 < r.getD k 0)) eN (iy_ev (sl_ev rfl (oy_ev (y2_ev rfl rfl (add_N j 1))) rfl (sl_dropL En.nat (List.range r.length) (j + 1))) rfl) (fun k hk => ⟨bT_ev (y2_ev (hi (mem_fwd hk) rfl rfl) (hi hir rfl rfl) (gt_N _ _)), fun _ => rfl⟩) (by have := fwd_len r.length (j + 1); show _ ≤ 100000; omega))) rfl
      have F3 := find_go (e := eN) (i := 4) (s := dummy) (G := (seqS (asgS 5 (fzU (frY (lcY (iY (slY slD (varY 1) (oYes (y2 addD (varY 4) (cY (.int 1)))) oNo)) (bN 6) (bT (chY ltD ltD (y2 ixD (varY 0) (varY 2)) (y2 ixD (varY 0) (varY 6)) (y2 ixD (varY 0) (varY 4)))) (varY 6) [6]))))
      (ifS (bT (y2 neD (varY 5) (frY (lstY aNil))))
        (retS (tupY (aCons (varY 2) (aCons (varY 3) (aCons (varY 4) (aCons (y2 ixD (varY 5) (cY (.int 0))) aNil))))))
        nxS))) (fun ρ => ∃ c d e, ρ = [.fz (eR r), .fz (.list ((List.range r.length).map eN)), .fz (eN i), .fz (eN j), c, d, e]) (fun k => (Mc r i k).head?.map fun m => e4 (i, j, k, m)) (Kc r i j) [.fz (eR r), .fz (.list ((List.range r.length).map eN)), .fz (eN i), .fz (eN j), c, d, e] ?st3 ⟨_, _, _, rfl⟩
      case st3 =>
        rintro k ρ hkK ⟨c, d, e, rfl⟩
        have hkr : k < r.length := mem_fwd (List.mem_filter.mp hkK).1
        have eM : asgS 5 (fzU (frY (lcY (iY (slY slD (varY 1) (oYes (y2 addD (varY 4) (cY (.int 1)))) oNo)) (bN 6) (bT (chY ltD ltD (y2 ixD (varY 0) (varY 2)) (y2 ixD (varY 0) (varY 6)) (y2 ixD (varY 0) (varY 4)))) (varY 6) [6]))) [.fz (eR r), .fz (.list ((List.range r.length).map eN)), .fz (eN i), .fz (eN j), .fz (eN k), d, e] dummy = some (.nx [.fz (eR r), .fz (.list ((List.range r.length).map eN)), .fz (eN i), .fz (eN j), .fz (eN k), .fz (.list ((Mc r i k).map eN)), e], dummy) := by
          refine asg_ev (fr_ev (lcE_ev (e := eN) (xs := fwd r.length (k + 1)) (fun m => decide (r.getD i 0 < r.getD m 0) && decide (r.getD m 0 < r.getD k 0)) eN (iy_ev (sl_ev rfl (oy_ev (y2_ev rfl rfl (add_N k 1))) rfl (sl_dropL En.nat (List.range r.length) (k + 1))) rfl) (fun m hm => ⟨bT_ev (ch_ev (hi hir rfl rfl) (hi (mem_fwd hm) rfl rfl) (lt_N _ _) (fun _ => ⟨hi hkr rfl rfl, lt_N _ _⟩) (fun _ => rfl)), fun _ => rfl⟩) (by have := fwd_len r.length (k + 1); show _ ≤ 100000; omega)))
        have ec := fun (ms : List Nat) => (En.lst En.nat).neD (by decide) ms []
        cases hm : Mc r i k with
        | nil =>
          rw [hm] at eM
          exact ⟨_, seq_s eM (if_s (bT_ev (y2_ev rfl rfl (ec []))) ((if_neg (by simp)).trans rfl)), _, _, _, rfl⟩
        | cons m ms =>
          rw [hm] at eM
          exact seq_s eM (if_s (bT_ev (y2_ev rfl rfl (ec (m :: ms)))) ((if_pos (by simp)).trans (ret_ev (tup_ev (ac_ev rfl (ac_ev rfl (ac_ev rfl (ac_ev (y2_ev rfl rfl (En.nat.ixL (m :: ms) 0 (by simp))) an_ev)))) (by show 4 ≤ lim; decide)))))
      cases hf : (Kc r i j).findSome? fun k => (Mc r i k).head?.map fun m => e4 (i, j, k, m) with
      | some d =>
        rw [hf] at F3
        exact for_s eK F3
      | none =>
        rw [hf] at F3
        obtain ⟨ρ', k1, c, d, e, rfl⟩ := F3
        exact ⟨_, for_s eK k1, _, _, _, _, rfl⟩
    cases hf : (Jc r i).findSome? fun j => (Kc r i j).findSome? fun k => (Mc r i k).head?.map fun m => e4 (i, j, k, m) with
    | some d =>
      rw [hf] at F2
      exact for_s eJ F2
    | none =>
      rw [hf] at F2
      obtain ⟨ρ', k1, b, c, d, e, rfl⟩ := F2
      exact ⟨_, for_s eJ k1, _, _, _, _, _, rfl⟩
  have hm : (List.range r.length).findSome? (fun i => (Jc r i).findSome? fun j => (Kc r i j).findSome? fun k => (Mc r i k).head?.map fun m => e4 (i, j, k, m)) = (crs1 r).map e4 := by
    unfold crs1
    rw [findSome_map]
    congr 1
    funext i
    rw [findSome_map]
    congr 1
    funext j
    rw [findSome_map]
    congr 1
    funext k
    rw [Option.map_map]
    rfl
  rw [hm] at F
  cases hc : crs1 r with
  | some p =>
    rw [hc] at F
    have : G_crossed_places (iniR [eR r] 6) dummy = some (.rt (e4 p), dummy) := seq_s e0 (seq_rt (for_s (iy_ev rfl rfl) F))
    rw [this]
    rfl
  | none =>
    rw [hc] at F
    obtain ⟨ρ', k1, a, b, c, d, e, rfl⟩ := F
    have : G_crossed_places (iniR [eR r] 6) dummy = some (.rt .none, dummy) := seq_s e0 (seq_s (for_s (iy_ev rfl rfl) k1) (ret_ev rfl))
    rw [this]
    rfl
end W79

set_option Elab.async false
set_option linter.all false
set_option maxRecDepth 100000
set_option maxHeartbeats 4000000
namespace W79
open PySem L2 DL
theorem fwd_add (n a : Nat) : (List.range (n - a)).map (fun i => eN (a + i)) = (fwd n a).map eN := by
  show _ = ((List.range n).drop a).map eN
  refine List.ext_getElem (by simp) fun k h1 h2 => ?_
  simp only [List.getElem_map, List.getElem_drop, List.getElem_range]
theorem Jc_len (r : List Nat) (i : Nat) : (Jc r i).length ≤ r.length := Nat.le_trans (List.length_filter_le _ _) (fwd_len _ _)
theorem Kc_len (r : List Nat) (i j : Nat) : (Kc r i j).length ≤ r.length := Nat.le_trans (List.length_filter_le _ _) (fwd_len _ _)
theorem Mc_len (r : List Nat) (i k : Nat) : (Mc r i k).length ≤ r.length := Nat.le_trans (List.length_filter_le _ _) (fwd_len _ _)
end W79
namespace W79
open PySem L2 DL
/-- a loop that adds g x to a list -/
theorem cat_go {γ δ : Type} {e : γ → D} {i : Nat} {G : Z} (st : List δ → Rho → Prop) (g : γ → List δ) (B N : Nat) {s : Src} : ∀ (xs : List γ) (acc : List δ) (ρ : Rho),
    (∀ x acc ρ, x ∈ xs → st acc ρ → acc.length + B ≤ N → ∃ ρ2, G (ρ.set i (.fz (e x))) s = some (.nx ρ2, s) ∧ st (acc ++ g x) ρ2) → (∀ x ∈ xs, (g x).length ≤ B) → acc.length + xs.length * B ≤ N → st acc ρ →
      ∃ ρ', forGo (bN i) G (xs.map e) ρ s = some (.nx ρ', s) ∧ st (acc ++ xs.flatMap g) ρ'
  | [], acc, ρ, _, _, _, h0 => ⟨ρ, rfl, by rw [List.flatMap_nil, List.append_nil]; exact h0⟩
  | x :: xs, acc, ρ, h, hB, hN, h0 => by
    rw [List.length_cons, Nat.succ_mul] at hN
    obtain ⟨ρ2, e2, e3⟩ := h x acc ρ List.mem_cons_self h0 (by omega)
    have hx := hB x List.mem_cons_self
    obtain ⟨ρ', e4, e5⟩ := cat_go st g B N xs (acc ++ g x) ρ2 (fun y a ρ hy => h y a ρ (List.mem_cons_of_mem _ hy)) (fun y hy => hB y (List.mem_cons_of_mem _ hy)) (by rw [List.length_append]; omega) e3
    refine ⟨ρ', ?_, by rw [List.flatMap_cons, ← List.append_assoc]; exact e5⟩
    show bO (G (ρ.set i (.fz (e x))) s) _ = _
    rw [e2]
    exact e4
end W79
namespace W79
open PySem L2 DL
theorem flat_le {α β : Type} (f : α → List β) (B : Nat) : ∀ l : List α, (∀ a ∈ l, (f a).length ≤ B) → (l.flatMap f).length ≤ l.length * B
  | [], _ => by simp
  | a :: l, h => by
    rw [List.flatMap_cons, List.length_append, List.length_cons, Nat.succ_mul]
    have h1 := h a List.mem_cons_self
    have h2 := flat_le f B l fun b hb => h b (List.mem_cons_of_mem _ hb)
    omega
theorem lcrossed_ev {n : Nat} {r : List Nat} (h : IsRow n r) (hn : n ≤ 12) : m_law_crossed [eR r] = some (.list ((crsL r).map e4)) := by
  have hl := h.len
  refine runD_rt (s := dummy) ?_
  unfold G__law_crossed
  have hi : ∀ {i : Nat} {ρ : Rho} {g : Y}, i < r.length → varY 0 ρ dummy = some (eR r, dummy) → g ρ dummy = some (eN i, dummy) → y2 ixD (varY 0) g ρ dummy = some (eN (r.getD i 0), dummy) := fun {i ρ g} hi h1 h2 => by
    rw [getD_lt hi]
    exact y2_ev h1 h2 (En.nat.ixT r i hi)
  have ir : ∀ {a : Nat} {ρ : Rho} {g : Y}, a < r.length → g ρ dummy = some (eN a, dummy) → varY 2 ρ dummy = some (eN r.length, dummy) → iR2 (y2 addD g (cY (.int 1))) (varY 2) ρ dummy = some ((fwd r.length (a + 1)).map eN, dummy) := fun {a ρ g} ha h1 h2 => by
    rw [← fwd_add]
    exact ir2_ev (y2_ev h1 rfl (add_N a 1)) h2 (by omega) (by omega)
  refine seq_s (ρ1 := [.fz (eR r), .fz (.list (([] : List Four).map e4)), .fz (eN r.length), .un, .un, .un, .un]) (s1 := dummy) (par_ev (fr_ev (lst_ev an_ev (by show 0 ≤ lim; decide))) (yC_ev (ac_ev rfl an_ev) (En.nat.lenT r))) ?_
  have hM : ∀ i k, (Mc r i k).length ≤ 12 := fun i k => by have := Mc_len r i k; omega
  have hK : ∀ i j, ((Kc r i j).flatMap fun k => (Mc r i k).map fun m => ((i, j, k, m) : Four)).length ≤ 144 := fun i j => by
    have h1 := flat_le (fun k => (Mc r i k).map fun m => ((i, j, k, m) : Four)) 12 (Kc r i j) fun k _ => by rw [List.length_map]; exact hM i k
    have h2 := Kc_len r i j
    omega
  have hJ : ∀ i, ((Jc r i).flatMap fun j => (Kc r i j).flatMap fun k => (Mc r i k).map fun m => ((i, j, k, m) : Four)).length ≤ 1728 := fun i => by
    have h1 := flat_le (fun j => (Kc r i j).flatMap fun k => (Mc r i k).map fun m => ((i, j, k, m) : Four)) 144 (Jc r i) fun j _ => hK i j
    have h2 := Jc_len r i
    omega
  let P (i : Nat) : List Four → Rho → Prop := fun acc ρ => ∃ a b c, ρ = [.fz (eR r), .fz (.list (acc.map e4)), .fz (eN r.length), .fz (eN i), a, b, c]
  have L := cat_go (e := eN) (i := 3) (s := dummy) (G := (forS (iY (frY (lcY (iR2 (y2 addD (varY 3) (cY (.int 1))) (varY 2)) (bN 4) (bT (y2 ltD (y2 ixD (varY 0) (varY 4)) (y2 ixD (varY 0) (varY 3)))) (varY 4) [4]))) (bN 4)
        (forS (iY (frY (lcY (iR2 (y2 addD (varY 4) (cY (.int 1))) (varY 2)) (bN 5) (bT (y2 gtD (y2 ixD (varY 0) (varY 5)) (y2 ixD (varY 0) (varY 3)))) (varY 5) [5]))) (bN 5)
        (asgS 1 (fzU (y2 addD (varY 1) (frY (lcY (iR2 (y2 addD (varY 5) (cY (.int 1))) (varY 2)) (bN 6) (bT (chY ltD ltD (y2 ixD (varY 0) (varY 3)) (y2 ixD (varY 0) (varY 6)) (y2 ixD (varY 0) (varY 5)))) (tupY (aCons (varY 3) (aCons (varY 4) (aCons (varY 5) (aCons (varY 6) aNil))))) [6])))))))) (fun acc ρ => ∃ a b c d, ρ = [.fz (eR r), .fz (.list (acc.map e4)), .fz (eN r.length), a, b, c, d])
    (fun i => (Jc r i).flatMap fun j => (Kc r i j).flatMap fun k => (Mc r i k).map fun m => ((i, j, k, m) : Four)) 1728 90000 (List.range r.length) [] [.fz (eR r), .fz (.list (([] : List Four).map e4)), .fz (eN r.length), .un, .un, .un, .un] ?st (fun i _ => hJ i) (by rw [List.length_range, List.length_nil]; omega) ⟨_, _, _, _, rfl⟩
  case st =>
    rintro i acc ρ hir ⟨a, b, c, d, rfl⟩ hacc
    have hir := List.mem_range.mp hir
    have eJ : iY (frY (lcY (iR2 (y2 addD (varY 3) (cY (.int 1))) (varY 2)) (bN 4) (bT (y2 ltD (y2 ixD (varY 0) (varY 4)) (y2 ixD (varY 0) (varY 3)))) (varY 4) [4])) [.fz (eR r), .fz (.list (acc.map e4)), .fz (eN r.length), .fz (eN i), b, c, d] dummy = some ((Jc r i).map eN, dummy) :=
      iy_ev (fr_ev (lcE_ev (e := eN) (xs := fwd r.length (i + 1)) (fun j => decide (r.getD j 0 < r.getD i 0)) eN (ir hir rfl rfl) (fun j hj => ⟨bT_ev (y2_ev (hi (mem_fwd hj) rfl rfl) (hi hir rfl rfl) (lt_N _ _)), fun _ => rfl⟩) (by have := fwd_len r.length (i + 1); show _ ≤ 100000; omega))) rfl
    have L2 := cat_go (e := eN) (i := 4) (s := dummy) (G := (forS (iY (frY (lcY (iR2 (y2 addD (varY 4) (cY (.int 1))) (varY 2)) (bN 5) (bT (y2 gtD (y2 ixD (varY 0) (varY 5)) (y2 ixD (varY 0) (varY 3)))) (varY 5) [5]))) (bN 5)
        (asgS 1 (fzU (y2 addD (varY 1) (frY (lcY (iR2 (y2 addD (varY 5) (cY (.int 1))) (varY 2)) (bN 6) (bT (chY ltD ltD (y2 ixD (varY 0) (varY 3)) (y2 ixD (varY 0) (varY 6)) (y2 ixD (varY 0) (varY 5)))) (tupY (aCons (varY 3) (aCons (varY 4) (aCons (varY 5) (aCons (varY 6) aNil))))) [6]))))))) (P i)
      (fun j => (Kc r i j).flatMap fun k => (Mc r i k).map fun m => ((i, j, k, m) : Four)) 144 99000 (Jc r i) acc [.fz (eR r), .fz (.list (acc.map e4)), .fz (eN r.length), .fz (eN i), b, c, d] ?st2 (fun j _ => hK i j) (by have := Jc_len r i; omega) ⟨_, _, _, rfl⟩
    case st2 =>
      rintro j acc ρ hjJ ⟨b, c, d, rfl⟩ hacc
      have hjr : j < r.length := mem_fwd (List.mem_filter.mp hjJ).1
      have eK : iY (frY (lcY (iR2 (y2 addD (varY 4) (cY (.int 1))) (varY 2)) (bN 5) (bT (y2 gtD (y2 ixD (varY 0) (varY 5)) (y2 ixD (varY 0) (varY 3)))) (varY 5) [5])) [.fz (eR r), .fz (.list (acc.map e4)), .fz (eN r.length), .fz (eN i), .fz (eN j), c, d] dummy = some ((Kc r i j).map eN, dummy) :=
        iy_ev (fr_ev (lcE_ev (e := eN) (xs := fwd r.length (j + 1)) (fun k => decide (r.getD i 0 < r.getD k 0)) eN (ir hjr rfl rfl) (fun k hk => ⟨bT_ev (y2_ev (hi (mem_fwd hk) rfl rfl) (hi hir rfl rfl) (gt_N _ _)), fun _ => rfl⟩) (by have := fwd_len r.length (j + 1); show _ ≤ 100000; omega))) rfl
      have L3 := cat_go (e := eN) (i := 5) (s := dummy) (G := (asgS 1 (fzU (y2 addD (varY 1) (frY (lcY (iR2 (y2 addD (varY 5) (cY (.int 1))) (varY 2)) (bN 6) (bT (chY ltD ltD (y2 ixD (varY 0) (varY 3)) (y2 ixD (varY 0) (varY 6)) (y2 ixD (varY 0) (varY 5)))) (tupY (aCons (varY 3) (aCons (varY 4) (aCons (varY 5) (aCons (varY 6) aNil))))) [6])))))) (fun acc ρ => ∃ a b, ρ = [.fz (eR r), .fz (.list (acc.map e4)), .fz (eN r.length), .fz (eN i), .fz (eN j), a, b])
        (fun k => (Mc r i k).map fun m => ((i, j, k, m) : Four)) 12 99500 (Kc r i j) acc [.fz (eR r), .fz (.list (acc.map e4)), .fz (eN r.length), .fz (eN i), .fz (eN j), c, d] ?st3 (fun k _ => by rw [List.length_map]; exact hM i k) (by have := Kc_len r i j; omega) ⟨_, _, rfl⟩
      case st3 =>
        rintro k acc ρ hkK ⟨c, d, rfl⟩ hacc
        have hkr : k < r.length := mem_fwd (List.mem_filter.mp hkK).1
        refine ⟨_, asg_ev (y2_ev rfl (fr_ev (lcE_ev (e := eN) (xs := fwd r.length (k + 1)) (fun m => decide (r.getD i 0 < r.getD m 0) && decide (r.getD m 0 < r.getD k 0)) (fun m => e4 (i, j, k, m)) (ir hkr rfl rfl) (fun m hm => ⟨bT_ev (ch_ev (hi hir rfl rfl) (hi (mem_fwd hm) rfl rfl) (lt_N _ _) (fun _ => ⟨hi hkr rfl rfl, lt_N _ _⟩) (fun _ => rfl)), fun _ => tup_ev (ac_ev rfl (ac_ev rfl (ac_ev rfl (ac_ev rfl an_ev)))) (by show 4 ≤ lim; decide)⟩) (by have := fwd_len r.length (k + 1); show _ ≤ 100000; omega))) (d := .list ((acc ++ (Mc r i k).map fun m => ((i, j, k, m) : Four)).map e4)) ?_), _, _, rfl⟩
        show (if (acc.map e4).length + ((Mc r i k).map fun m => e4 (i, j, k, m)).length ≤ lim then some (PyData.list (acc.map e4 ++ (Mc r i k).map fun m => e4 (i, j, k, m))) else none) = _
        have := hM i k
        rw [if_pos (by rw [List.length_map, List.length_map]; show _ ≤ 100000; omega), List.map_append, List.map_map]
        rfl
      obtain ⟨ρ', k1, a, b, rfl⟩ := L3
      exact ⟨_, for_s eK k1, _, _, _, rfl⟩
    obtain ⟨ρ', k1, a, b, c, rfl⟩ := L2
    exact ⟨_, for_s eJ k1, _, _, _, _, rfl⟩
  obtain ⟨ρ', k1, a, b, c, d, rfl⟩ := L
  exact seq_s (for_s (ir1_ev rfl (by omega)) k1) (ret_ev rfl)
end W79

set_option Elab.async false
set_option linter.all false
set_option maxRecDepth 100000
set_option maxHeartbeats 4000000
namespace W79
open PySem L2 DL
theorem llen_ev (r : List Nat) (hl : r.length ≤ 100) : m_law_length [eR r] = some (eN (invW r)) := by
  refine runD_rt (s := dummy) ?_
  unfold G__law_length
  have L := lcMt_ev (e := fun p : Nat × Nat => (eN p.1, eN p.2)) (fi := iEn (varY 0)) (bind := bP 1 2) (el := yC lenC (aCons (frY (lcY (iY (slY slD (varY 0) oNo (oYes (varY 1)))) (bN 3) (bT (y2 gtD (varY 3) (varY 2))) (varY 3) [3])) aNil)) (vs := [1, 2]) (ρ := [.fz (eR r), .un, .un, .un]) (s := dummy) (s1 := dummy) (xs := pairs r)
    (fun p => eN ((r.take p.1).filter fun y => decide (p.2 < y)).length) (ien_ev rfl rfl) (fun p hp => ⟨_, rfl, yC_ev (ac_ev (fr_ev (lcE_ev (e := eN) (xs := r.take p.1) (fun y => decide (p.2 < y)) eN (iy_ev (sl_ev rfl rfl (oy_ev rfl) (sl_takeT En.nat r p.1)) rfl) (fun y _ => ⟨bT_ev (y2_ev rfl rfl (gt_N _ _)), fun _ => rfl⟩) (by rw [List.length_take]; show _ ≤ 100000; omega))) an_ev) (En.nat.lenL _)⟩)
    (by rw [pairs_eq, List.length_map, List.length_range]; show _ ≤ 100000; omega)
  refine ret_ev (yC_ev (ac_ev (fr_ev L) an_ev) ?_)
  have e : (pairs r).map (fun p => eN ((r.take p.1).filter fun y => decide (p.2 < y)).length) = (((List.range r.length).map fun k => ((r.take k).filter fun y => decide (r.getD k 0 < y)).length).map eN) := by
    rw [pairs_eq, List.map_map, List.map_map]
    rfl
  rw [e, sum_N]
  rfl
end W79

set_option Elab.async false
set_option linter.all false
set_option maxRecDepth 100000
set_option maxHeartbeats 4000000
namespace W79
open PySem L2 DL
theorem cat_goM {α γ δ : Type} {e : γ → α} {bind : α → Rho → Option Rho} {G : Z} (st : List δ → Rho → Prop) (g : γ → List δ) (B N : Nat) {s : Src} : ∀ (xs : List γ) (acc : List δ) (ρ : Rho),
    (∀ x acc ρ, x ∈ xs → st acc ρ → acc.length + B ≤ N → ∃ ρ1 ρ2, bind (e x) ρ = some ρ1 ∧ G ρ1 s = some (.nx ρ2, s) ∧ st (acc ++ g x) ρ2) → (∀ x ∈ xs, (g x).length ≤ B) → acc.length + xs.length * B ≤ N → st acc ρ →
      ∃ ρ', forGo bind G (xs.map e) ρ s = some (.nx ρ', s) ∧ st (acc ++ xs.flatMap g) ρ'
  | [], acc, ρ, _, _, _, h0 => ⟨ρ, rfl, by rw [List.flatMap_nil, List.append_nil]; exact h0⟩
  | x :: xs, acc, ρ, h, hB, hN, h0 => by
    rw [List.length_cons, Nat.succ_mul] at hN
    obtain ⟨ρ1, ρ2, e1, e2, e3⟩ := h x acc ρ List.mem_cons_self h0 (by omega)
    have hx := hB x List.mem_cons_self
    obtain ⟨ρ', e4, e5⟩ := cat_goM st g B N xs (acc ++ g x) ρ2 (fun y a ρ hy => h y a ρ (List.mem_cons_of_mem _ hy)) (fun y hy => hB y (List.mem_cons_of_mem _ hy)) (by rw [List.length_append]; omega) e3
    refine ⟨ρ', ?_, by rw [List.flatMap_cons, ← List.append_assoc]; exact e5⟩
    rw [List.map_cons]
    unfold forGo
    rw [e1]
    dsimp only [mO]
    rw [e2]
    exact e4
abbrev WH := List Nat × List Nat
abbrev eWH : WH → D := ((En.tup En.nat).pair (En.tup En.nat)).f
def wStep (p : WH) : List WH := (dropsN p.2).map fun k => (k :: p.1, swapN p.2 k (k + 1))
def wordsL (r : List Nat) : Nat → List WH
  | 0 => [([], r)]
  | i + 1 => (wordsL r i).flatMap wStep
theorem wordsL_row {n : Nat} {r : List Nat} (hr : IsRow n r) : ∀ i, ∀ p ∈ wordsL r i, IsRow n p.2 ∧ p.1.length = i
  | 0, p, hp => by rw [List.mem_singleton.mp hp]; exact ⟨hr, rfl⟩
  | i + 1, p, hp => by
    obtain ⟨q, hq, hp⟩ := List.mem_flatMap.mp hp
    obtain ⟨k, hk, rfl⟩ := List.mem_map.mp hp
    obtain ⟨h1, h2⟩ := wordsL_row hr i q hq
    exact ⟨row_sw h1 hk, by rw [List.length_cons, h2]⟩
theorem wStep_len {n : Nat} {p : WH} (hr : IsRow n p.2) : (wStep p).length ≤ n := by
  unfold wStep dropsN
  rw [List.length_map]
  refine Nat.le_trans (List.length_filter_le _ _) ?_
  rw [List.length_range, hr.len]
  omega
theorem wordsL_rw {n : Nat} {r : List Nat} (hr : IsRow n r) : ∀ i, ∀ p ∈ wordsL r i, ∀ w, RW p.2 w → RW r (w ++ p.1)
  | 0, p, hp, w, hw => by
    rw [List.mem_singleton.mp hp] at hw ⊢
    rw [List.append_nil]
    exact hw
  | i + 1, p, hp, w, hw => by
    obtain ⟨q, hq, hp⟩ := List.mem_flatMap.mp hp
    obtain ⟨k, hk, rfl⟩ := List.mem_map.mp hp
    have := wordsL_rw hr i q hq (w ++ [k]) (.snoc hk hw)
    rw [List.append_assoc] at this
    exact this
theorem rw_wordsL {r : List Nat} {h w : List Nat} (hw : RW h w) : ∀ (u : List Nat) (i : Nat), (u, h) ∈ wordsL r i → ∃ h', (w ++ u, h') ∈ wordsL r (i + w.length) := by
  induction hw with
  | nil _ => exact fun u i hu => ⟨_, hu⟩
  | @snoc h w k hk _ ih =>
    intro u i hu
    have h1 : (k :: u, swapN h k (k + 1)) ∈ wordsL r (i + 1) := List.mem_flatMap.mpr ⟨_, hu, List.mem_map.mpr ⟨k, hk, rfl⟩⟩
    obtain ⟨h', h2⟩ := ih (k :: u) (i + 1) h1
    refine ⟨h', ?_⟩
    rw [List.append_assoc, List.length_append, List.length_singleton, show i + (w.length + 1) = i + 1 + w.length by omega]
    exact h2
theorem wordsL_inv {n : Nat} (h1 : 1 ≤ n) (h5 : n ≤ 5) {r : List Nat} (hr : IsRow n r) : ∀ i, ∀ p ∈ wordsL r i, invW p.2 + i = invW r
  | 0, p, hp => by rw [List.mem_singleton.mp hp]; rfl
  | i + 1, p, hp => by
    obtain ⟨q, hq, hp⟩ := List.mem_flatMap.mp hp
    obtain ⟨k, hk, rfl⟩ := List.mem_map.mp hp
    have a := wordsL_inv h1 h5 hr i q hq
    have b := inv_drop h1 h5 (wordsL_row hr i q hq).1 hk
    dsimp only
    omega
theorem rw_len {n : Nat} (h1 : 1 ≤ n) (h5 : n ≤ 5) {r w : List Nat} (hr : IsRow n r) (hw : RW r w) : w.length = invW r := by
  induction hw with
  | nil h => exact ((inv_zero h1 h5 hr).mpr h).symm
  | @snoc r w k hk _ ih =>
    rw [List.length_append, List.length_singleton, ih (row_sw hr hk), inv_drop h1 h5 hr hk]
/-- the law's words are the shortest words -/
theorem words_all {n : Nat} (h1 : 1 ≤ n) (h5 : n ≤ 5) {r : List Nat} (hr : IsRow n r) (w : List Nat) : w ∈ (wordsL r (invW r)).map (·.1) ↔ RW r w := by
  constructor
  · intro hw
    obtain ⟨p, hp, rfl⟩ := List.mem_map.mp hw
    have hz := wordsL_inv h1 h5 hr _ p hp
    have := wordsL_rw hr _ p hp [] (.nil ((inv_zero h1 h5 (wordsL_row hr _ p hp).1).mp (by omega)))
    exact this
  · intro hw
    obtain ⟨h', h2⟩ := rw_wordsL hw [] 0 (List.mem_singleton.mpr rfl)
    rw [List.append_nil, Nat.zero_add, rw_len h1 h5 hr hw] at h2
    exact List.mem_map.mpr ⟨_, h2, rfl⟩
end W79

set_option Elab.async false
set_option linter.all false
set_option maxRecDepth 100000
set_option maxHeartbeats 4000000
namespace W79
open PySem L2 DL
theorem keyR : KeyE enR := .inl tk_R
theorem parU_ev {i j : Nat} {a b : Yu} {ρ : Rho} {s s1 s2 : Src} {x y : Sl} (h1 : a ρ s = some (x, s1)) (h2 : b ρ s1 = some (y, s2)) : parS i j a b ρ s = some (.nx ((ρ.set i x).set j y), s2) := by
  unfold parS
  rw [h1]
  dsimp only [bO]
  rw [h2]
abbrev kvT (L : List (List Nat)) : List (List Nat × Bool) := L.map fun a => (a, true)
theorem kvT_keys (L : List (List Nat)) : (kvT L).map (·.1) = L := by
  unfold kvT
  rw [List.map_map]
  exact List.map_id _
theorem kvT_put {L : List (List Nat)} {a : List Nat} (h : a ∉ L) : putG (kvT L) a true = kvT (L ++ [a]) := by
  unfold putG
  rw [kvT_keys, if_neg h]
  unfold kvT
  rw [List.map_append]
  rfl
theorem begun_ev {n : Nat} {r : List Nat} (hr : IsRow n r) (h1 : 1 ≤ n) (h5 : n ≤ 5) : m_rows_begun [eR r] = some (eRs (bfs r 2000)) := by
  refine runD_rt (s := dummy) ?_
  unfold G_rows_begun
  let St : List (List Nat) → Sl → Sl → Sl → Rho := fun L a b c => [.fz (eR r), .dc (dT enR PyData.bool (kvT L)), .ow (L.map eR), a, b, c]
  refine seq_s (ρ1 := St [r] .un .un .un) (s1 := dummy) (parU_ev (x := .dc (dT enR PyData.bool (kvT [r]))) (y := .ow ([r].map eR)) (s1 := dummy) ?_ rfl) ?_
  · show bO (bO (some ([eR r, PyData.bool true], dummy)) fun xs s1 => mO (pairFl xs) fun ps => if (ps.map (·.1)).all isI = true ∨ (ps.map (·.1)).all isTk = true then some (putD [] ps, s1) else none) (fun kvs s1 => some (Sl.dc kvs, s1)) = _
    show bO (if ([eR r].all isI = true ∨ [eR r].all isTk = true) then some (putD [] [(eR r, PyData.bool true)], dummy) else none) (fun kvs s1 => some (Sl.dc kvs, s1)) = _
    rw [if_pos (.inr (by rw [List.all_cons, tk_R]; rfl))]
    rfl
  have L := rel_s (fi := iR1 (cY (.int 2000))) (bind := bN 3) (xs := (List.range 2000).map eN) (ρ := St [r] .un .un .un) (s := dummy) (s1 := dummy)
    (G := (seqS (ifS (bT (vwY (y2 ltD (varY 3) (yC lenC (aCons (varY 2) aNil)))))
        (forS (iY (callY 1 m_last_swaps (aCons (oixY 2 (varY 3)) aNil))) (bTp [4, 5])
        (ifS (bT (vwY (y2 (inX true) (varY 5) (varY 1))))
        (seqS (asgGS (cY (.bool true)) (subX 1 (varY 5)))
      (appS 2 (varY 5)))
        nxS))
        nxS)
      (ifS (bT (vwY (y2 gtD (yC lenC (aCons (varY 2) aNil)) (cY (.int 2000)))))
        noS
        nxS))) (rest := (frzS 2 (retS (varY 2)))) (ir1_ev (n := 2000) rfl (by decide))
    (fun i ρ s => s = dummy ∧ ∃ a b c, ρ = St (bfs r i) a b c) (fun fl s => fl = .rt (eRs (bfs r 2000)) ∧ s = dummy) ?st ⟨rfl, _, _, _, rfl⟩ ?en
  case st =>
    rintro i x ρ s hx ⟨rfl, a, b, c, rfl⟩
    rw [List.getElem?_map] at hx
    obtain ⟨k, hk, rfl⟩ := Option.map_eq_some_iff.mp hx
    obtain ⟨hi, hk2⟩ := List.getElem?_eq_some_iff.mp hk
    rw [List.getElem_range] at hk2
    subst hk2
    have B := bfs_ok h1 h5 hr i
    have B' := bfs_ok h1 h5 hr (i + 1)
    have hl := rows_len h1 h5 B.nd B.row
    have hl' := rows_len h1 h5 B'.nd B'.row
    · have lenE : ∀ (L : List (List Nat)) (a b c : Sl), yC lenC (aCons (varY 2) aNil) (viewR (St L a b c)) dummy = some (eN L.length, dummy) := fun L a b c => yC_ev (ac_ev rfl an_ev) (enR.lenL L)
      have sec : ∀ (L : List (List Nat)) (a b c : Sl), L.length ≤ 120 → ifS (bT (vwY (y2 gtD (yC lenC (aCons (varY 2) aNil)) (cY (.int 2000))))) noS nxS (St L a b c) dummy = some (.nx (St L a b c), dummy) := fun L a b c h =>
        ifno_e (bT_ev (vw_ev (y2_ev (lenE L a b c) rfl ((gt_N L.length 2000).trans (by rw [decide_eq_false (by omega)]))) rfl))
      have fst : ∃ b' c', ifS (bT (vwY (y2 ltD (varY 3) (yC lenC (aCons (varY 2) aNil)))))
        (forS (iY (callY 1 m_last_swaps (aCons (oixY 2 (varY 3)) aNil))) (bTp [4, 5])
        (ifS (bT (vwY (y2 (inX true) (varY 5) (varY 1))))
        (seqS (asgGS (cY (.bool true)) (subX 1 (varY 5)))
      (appS 2 (varY 5)))
        nxS))
        nxS (St (bfs r i) (.fz (eN i)) b c) dummy = some (.nx (St (bfs r (i + 1)) (.fz (eN i)) b' c'), dummy) := by
        have hc : bT (vwY (y2 ltD (varY 3) (yC lenC (aCons (varY 2) aNil)))) (St (bfs r i) (.fz (eN i)) b c) dummy = some (decide (i < (bfs r i).length), dummy) := bT_ev (vw_ev (y2_ev rfl (lenE _ _ _ _) (lt_N _ _)) rfl)
        rw [bfs_succ]
        by_cases hi2 : i < (bfs r i).length
        · have hg : (bfs r i)[i]? = some (bfs r i)[i] := List.getElem?_eq_getElem hi2
          have hrow := B.row _ (List.getElem_mem hi2)
          obtain ⟨ρ', e1, ⟨b', c', e2, _, _⟩⟩ := forM_fold (e := eKR) (bind := bTp [4, 5]) (s := dummy) (G := (ifS (bT (vwY (y2 (inX true) (varY 5) (varY 1))))
        (seqS (asgGS (cY (.bool true)) (subX 1 (varY 5)))
      (appS 2 (varY 5)))
        nxS)) (fun (L : List (List Nat)) ρ => ∃ b c, ρ = St L (.fz (eN i)) b c ∧ L.Nodup ∧ ∀ a ∈ L, IsRow n a) (fun L p => addK L p.2) (LS (bfs r i)[i]) (bfs r i) (St (bfs r i) (.fz (eN i)) b c) (by
            rintro L p ρ hp ⟨b, c, rfl, nd, hrs⟩
            obtain ⟨k, hk, rfl⟩ := List.mem_map.mp hp
            have hsw := row_sw hrow hk
            generalize hx : swapN (bfs r i)[i] k (k + 1) = x at hsw
            have hc : bT (vwY (y2 (inX true) (varY 5) (varY 1))) (St L (.fz (eN i)) (.fz (eN k)) (.fz (eR x))) dummy = some (!decide (x ∈ L), dummy) := by
              refine bT_ev (vw_ev (y2_ev rfl rfl ((inX_G keyR (f := PyData.bool) (kvT L) x true).trans ?_)) rfl)
              rw [kvT_keys, if_pos rfl]
              exact congrArg (fun b => some (PyData.bool !b)) (decide_eq_decide.mpr Iff.rfl)
            refine ⟨_, St (addK L x) (.fz (eN i)) (.fz (eN k)) (.fz (eR x)), rfl, if_s hc ?_, _, _, rfl, nd_addK nd, fun a ha => ?_⟩
            · by_cases c : x ∈ L
              · rw [decide_eq_true c]
                unfold addK
                rw [if_pos c]
                rfl
              · rw [decide_eq_false c]
                unfold addK
                rw [if_neg c]
                have hlen := rows_len h1 h5 nd hrs
                have e1 := subX_G keyR (f := PyData.bool) (i := 1) (g := varY 5) (ρ := St L (.fz (eN i)) (.fz (eN k)) (.fz (eR x))) (s := dummy) (s1 := dummy) (kv := kvT L) (a := x) (v := true) rfl rfl (by rw [List.length_map]; show _ < 100000; omega)
                rw [kvT_put c] at e1
                refine seq_s (asgG_ev rfl e1) ((app_ev rfl rfl (by rw [List.length_map]; show _ < 100000; omega)).trans ?_)
                show some (Fl.nx [_, _, Sl.ow (L.map eR ++ [eR x]), _, _, _], dummy) = some (Fl.nx [_, _, Sl.ow ((L ++ [x]).map eR), _, _, _], dummy)
                rw [List.map_append]
                rfl
            · rcases mem_addK.mp ha with ha | rfl
              · exact hrs a ha
              · exact hsw) ⟨b, c, rfl, B.nd, B.row⟩
          refine ⟨b', c', if_s hc ?_⟩
          rw [decide_eq_true hi2, if_pos rfl]
          refine for_s (iy_ev (call_ev (ac_ev (oix_ev (e := enR) rfl rfl hi2) an_ev) rfl (last_ev _ (by rw [hrow.len]; exact h1) (by rw [hrow.len]; omega))) rfl) (e1.trans ?_)
          rw [e2]
          have : (LS (bfs r i)[i]).foldl (fun L p => addK L p.2) (bfs r i) = bfsS (bfs r i) i := by
            unfold bfsS
            rw [hg]
            dsimp only
            unfold lates LS
            rw [List.foldl_map, List.foldl_map]
          rw [this]
        · refine ⟨b, c, if_s hc ?_⟩
          rw [decide_eq_false hi2, if_neg Bool.false_ne_true]
          have : bfsS (bfs r i) i = bfs r i := by
            unfold bfsS
            rw [List.getElem?_eq_none (by omega)]
          rw [this]
          rfl
      obtain ⟨b', c', fst⟩ := fst
      exact ⟨_, .nx (St (bfs r (i + 1)) (.fz (eN i)) b' c'), dummy, rfl, seq_s fst (sec _ _ _ _ hl'), rfl, _, _, _, rfl⟩
  case en =>
    rintro ρ s ⟨rfl, a, b, c, rfl⟩
    rw [List.length_map, List.length_range]
    exact ⟨_, dummy, frz_s rfl (ret_ev rfl), rfl, rfl⟩
  obtain ⟨fl, s2, e, rfl, rfl⟩ := L
  exact e
end W79

set_option Elab.async false
set_option linter.all false
set_option maxRecDepth 100000
set_option maxHeartbeats 4000000
set_option synthInstance.maxHeartbeats 2000000
set_option synthInstance.maxSize 100000
namespace W79
open PySem L2 DL
def enTO : EnO Tab := .tup (.tup .nat)
def chkT (r : List Nat) : Bool :=
  let T := tabs 200 r
  decide (T.length ≤ 100) && T.all (fun t => t.all fun r => r.all fun x => decide (x ≤ 10)) && (decide (T.length = 1) == (crsL r).isEmpty) && (!(crsL r).isEmpty || decide (T.map (fun t => t.map List.length) = [shapeN r])) && decide (phi r.length 0 r < 200) && decide (invW r ≤ 10)
theorem chk_all : ∀ n, n < 6 → ∀ r ∈ allR n, chkT r = true := by decide +kernel
end W79

set_option Elab.async false
set_option linter.all false
set_option maxRecDepth 100000
set_option maxHeartbeats 4000000
namespace W79
open PySem L2 DL
theorem nd_dups {α : Type} [BEq α] [LawfulBEq α] : ∀ (n : Nat) (l : List α), l.length ≤ n → l.eraseDups.Nodup
  | _, [], _ => by simp
  | 0, _ :: _, h => by simp at h
  | n + 1, a :: l, h => by
    rw [List.eraseDups_cons, List.nodup_cons]
    refine ⟨fun z => ?_, nd_dups n _ (Nat.le_trans (List.length_filter_le _ _) (by simpa using h))⟩
    rw [List.mem_eraseDups, List.mem_filter] at z
    simp at z
abbrev TT (r : List Nat) : List Tab := tabs 200 r
def tbl (r : List Nat) : List Tab := sortB enTO.lt (TT r)
structure TF (r : List Nat) : Prop where
  len : (TT r).length ≤ 100
  ent : ∀ t ∈ TT r, ∀ q ∈ t, ∀ x ∈ q, x ≤ 10
  one : (TT r).length = 1 ↔ crsL r = []
  shp : crsL r = [] → (TT r).map (fun t => t.map List.length) = [shapeN r]
  phi : phi r.length 0 r < 200
  inv : invW r ≤ 10
theorem tf {n : Nat} (h1 : 1 ≤ n) (h5 : n ≤ 5) {r : List Nat} (hr : IsRow n r) : TF r := by
  have := chk_all n (by omega) r (mem_all5 n h1 h5 r hr)
  unfold chkT at this
  simp only [Bool.and_eq_true, decide_eq_true_eq, Bool.or_eq_true, beq_iff_eq, Bool.not_eq_true'] at this
  obtain ⟨⟨⟨⟨⟨a, a2⟩, b⟩, c⟩, d⟩, e⟩ := this
  refine ⟨a, fun t ht q hq x hx => ?_, ?_, fun h => ?_, d, e⟩
  · have h1 := List.all_eq_true.mp a2 t ht
    have h2 := List.all_eq_true.mp h1 q hq
    exact of_decide_eq_true (List.all_eq_true.mp h2 x hx)
  · rw [← List.isEmpty_iff, ← b, decide_eq_true_iff]
  · rcases c with c | c
    · rw [h] at c; cases c
    · exact c
section
variable {n : Nat} (h1 : 1 ≤ n) (h5 : n ≤ 5) {r : List Nat} (hr : IsRow n r)
include h1 h5 hr
theorem mem_T (t : Tab) : t ∈ TT r ↔ ∃ w, RW r w ∧ insT w = t := by
  have F := tf h1 h5 hr
  have := F.phi
  rw [hr.len] at this
  exact mem_tabs 200 r hr this t
theorem mem_tbl (t : Tab) : t ∈ tbl r ↔ ∃ w, RW r w ∧ insT w = t := by
  unfold tbl
  rw [(sortB_perm _ _).mem_iff]
  exact mem_T h1 h5 hr t
theorem tbl_len : (tbl r).length ≤ 100 := by
  unfold tbl
  rw [(sortB_perm _ _).length_eq]
  exact (tf h1 h5 hr).len
theorem tab_sm {t : Tab} (h : t ∈ tbl r) : t.length ≤ 10 ∧ Lens t 10 := by
  obtain ⟨w, hw, rfl⟩ := (mem_tbl h1 h5 hr t).mp h
  have hl := rw_len h1 h5 hr hw
  have F := stF_ok w w.length (Nat.le_refl _)
  rw [stF_all] at F
  have := (tf h1 h5 hr).inv
  rw [← fillT_fst]
  exact ⟨Nat.le_trans F.tl (by omega), fun r hr => Nat.le_trans (F.tr r hr) (by omega)⟩
theorem T_nd : (TT r).Nodup := by
  show (tabs 200 r).Nodup
  unfold tabs
  split
  · simp
  · exact nd_dups _ _ (Nat.le_refl _)
theorem tbl_of {K : List Tab} (nd : K.Nodup) (h : ∀ t, t ∈ K ↔ ∃ w, RW r w ∧ insT w = t) : sortB enTO.lt K = tbl r := by
  unfold tbl
  exact enTO.sort_eq (perm_of_mem nd (T_nd h1 h5 hr) fun t => (h t).trans (mem_T h1 h5 hr t).symm)
end
abbrev eTs (ts : List Tab) : D := .list (ts.map eTb)
abbrev kvP (l : List (List Nat)) : List (List Nat × List Tab) := l.map fun a => (a, tbl a)
abbrev kvB (K : List Tab) : List (Tab × Bool) := K.map fun a => (a, true)
theorem kvB_put (K : List Tab) (x : Tab) : putG (kvB K) x true = kvB (addK K x) := by
  have hk : (kvB K).map (·.1) = K := by unfold kvB; rw [List.map_map]; exact List.map_id _
  unfold putG addK
  rw [hk]
  by_cases c : x ∈ K
  · rw [if_pos c, if_pos c]
    unfold kvB
    rw [List.map_map]
    refine List.map_congr_left fun a _ => ?_
    show (if a = x then (a, true) else (a, true)) = (a, true)
    split <;> rfl
  · rw [if_neg c, if_neg c]
    unfold kvB
    rw [List.map_append]
    rfl
theorem kvP_keys (l : List (List Nat)) : (kvP l).map (·.1) = l := by unfold kvP; rw [List.map_map]; exact List.map_id _
theorem kvP_get {l : List (List Nat)} {a : List Nat} (h : a ∈ l) : getG (kvP l) a = some (tbl a) := by
  unfold getG
  induction l with
  | nil => cases h
  | cons b l ih =>
    show ((((b, tbl b) :: kvP l).find? fun p => decide (p.1 = a)).map (·.2)) = _
    rw [List.find?_cons]
    by_cases c : b = a
    · rw [decide_eq_true c, c]; rfl
    · rw [decide_eq_false c]
      rcases List.mem_cons.mp h with h | h
      · exact absurd h.symm c
      · exact ih h
theorem kvP_put {l : List (List Nat)} {a : List Nat} (h : a ∉ l) : putG (kvP l) a (tbl a) = kvP (l ++ [a]) := by
  unfold putG
  rw [kvP_keys, if_neg h]
  unfold kvP
  rw [List.map_append]
  rfl
theorem keyTb : KeyE enTb := .inl fun t => by
  show keyD 6 (.tuple (t.map enR.f)) = true
  rw [keyD]
  induction t with
  | nil => simp [keyDs]
  | cons r t ih =>
    rw [List.map_cons, keyDs, ih]
    show (keyD 5 (.tuple (r.map En.nat.f)) && true) = true
    rw [keyD, keyDs_N]
    rfl
theorem odg_eT {i : Nat} {g : Y} {ρ : Rho} {s s1 : Src} {l : List (List Nat)} {a : List Nat} (h1 : g ρ s = some (eR a, s1)) (hi : ρ[i]? = some (.dc (dT enR eTs (kvP l)))) (h : a ∈ l) : odgY i g ρ s = some (eTs (tbl a), s1) :=
  odg_G keyR (f := eTs) h1 hi (kvP_get h)
theorem put_new_ne (t : Tab) (x : Nat) : (putB t x 0).1 ≠ [] := by
  have := putB_at t x 0
  intro z
  rw [z, Nat.zero_add] at this
  have h := this.2.2
  split at h
  · cases h
  · rename_i c
    have h' : t.length = 0 := h.symm
    omega
/-- all tables that come of the tables of the rows ahead -/
def allP (one : List Nat) : List Tab := (LS one).flatMap fun p => (tbl p.2).map fun t => (putB t p.1 0).1
theorem mem_allP {n : Nat} (h1 : 1 ≤ n) (h5 : n ≤ 5) {r : List Nat} (hr : IsRow n r) (hd : dropsN r ≠ []) (t : Tab) : t ∈ (allP r).foldl addK [] ↔ ∃ w, RW r w ∧ insT w = t := by
  rw [mem_addKs]
  constructor
  · rintro (h | h)
    · cases h
    · obtain ⟨p, hp, ht⟩ := List.mem_flatMap.mp h
      obtain ⟨t0, h0, rfl⟩ := List.mem_map.mp ht
      obtain ⟨k, hk, rfl⟩ := List.mem_map.mp hp
      obtain ⟨w, hw, rfl⟩ := (mem_tbl h1 h5 (row_sw hr hk) t0).mp h0
      exact ⟨w ++ [k], .snoc hk hw, insT_snoc w k⟩
  · rintro ⟨w, hw, rfl⟩
    right
    cases hw with
    | nil h => exact absurd h hd
    | @snoc _ w k hk hw =>
      refine List.mem_flatMap.mpr ⟨(k, swapN r k (k + 1)), List.mem_map.mpr ⟨k, hk, rfl⟩, List.mem_map.mpr ⟨insT w, (mem_tbl h1 h5 (row_sw hr hk) _).mpr ⟨w, hw, rfl⟩, (insT_snoc w k).symm⟩⟩
theorem keys_len {n : Nat} (h1 : 1 ≤ n) (h5 : n ≤ 5) {r : List Nat} (hr : IsRow n r) {K : List Tab} (nd : K.Nodup) (h : ∀ t ∈ K, t ∈ TT r) : K.length ≤ 1000 :=
  Nat.le_trans (nd.length_le_of_subset h) (Nat.le_trans (tf h1 h5 hr).len (by omega))
end W79

set_option Elab.async false
set_option linter.all false
set_option maxRecDepth 100000
set_option maxHeartbeats 4000000
namespace W79
open PySem L2 DL
theorem frzd_ev {i : Nat} {G : Z} {ρ : Rho} {s : Src} {kvs : List (D × D)} {r : Option (Fl × Src)} (hi : ρ[i]? = some (.dc kvs)) (h : G (ρ.set i (.fz (.dict kvs))) s = r) : frzS i G ρ s = r := frzd_s hi h
section
variable {n : Nat} (h1 : 1 ≤ n) (h5 : n ≤ 5) {r : List Nat}
/-- one row's tables, by those of the rows ahead -/
theorem tab_step {one : List Nat} (hr : IsRow n one) {l : List (List Nat)} (hl : ∀ k ∈ dropsN one, swapN one k (k + 1) ∈ l) (h1 : 1 ≤ n) (h5 : n ≤ 5) (a0 a4 a5 a6 : Sl) (hno : one ∉ l) (hll : l.length ≤ 120) (z3 : Sl) :
    ∃ b3 b4 b5 b6, (seqS (asgS 3 (dcU newD))
      (seqS (forS (iY (callY 1 m_last_swaps (aCons (varY 2) aNil))) (bTp [4, 5])
        (forS (iY (odgY 1 (varY 5))) (bN 6)
        (asgGS (cY (.bool true)) (subX 3 (y2 ixD (callY 2 m_put_in (aCons (varY 6) (aCons (varY 4) aNil))) (cY (.int 0)))))))
      (frzS 3 (asgGS (ifY (bT (y2 neB (varY 3) (frD newD))) (frY (ynC sortGC (aCons (varY 3) aNil))) (frY (lstY (aCons (tupY aNil) aNil)))) (subX 1 (varY 2)))))) [a0, .dc (dT enR eTs (kvP l)), .fz (eR one), z3, a4, a5, a6] dummy =
      some (.nx [a0, .dc (dT enR eTs (kvP (l ++ [one]))), .fz (eR one), b3, b4, b5, b6], dummy) := by
  have hsm : ∀ p ∈ LS one, IsRow n p.2 := fun p hp => by
    obtain ⟨k, hk, rfl⟩ := List.mem_map.mp hp
    exact row_sw hr hk
  have hin : ∀ p ∈ LS one, p.2 ∈ l := fun p hp => by
    obtain ⟨k, hk, rfl⟩ := List.mem_map.mp hp
    exact hl k hk
  have hT : ∀ p ∈ LS one, ∀ t ∈ tbl p.2, (putB t p.1 0).1 ∈ TT one := fun p hp t ht => by
    obtain ⟨k, hk, rfl⟩ := List.mem_map.mp hp
    obtain ⟨w, hw, rfl⟩ := (mem_tbl h1 h5 (row_sw hr hk) t).mp ht
    exact (mem_T h1 h5 hr _).mpr ⟨w ++ [k], .snoc hk hw, insT_snoc w k⟩
  let St : List Tab → Sl → Sl → Sl → Rho := fun K a b c => [a0, .dc (dT enR eTs (kvP l)), .fz (eR one), .dc (dT enTb PyData.bool (kvB K)), a, b, c]
  obtain ⟨ρ', e1, ⟨b4, b5, b6, e2, nd, hsub⟩⟩ := forM_fold (e := eKR) (bind := bTp [4, 5]) (s := dummy) (G := (forS (iY (odgY 1 (varY 5))) (bN 6)
        (asgGS (cY (.bool true)) (subX 3 (y2 ixD (callY 2 m_put_in (aCons (varY 6) (aCons (varY 4) aNil))) (cY (.int 0)))))))
    (fun (K : List Tab) ρ => ∃ a b c, ρ = St K a b c ∧ K.Nodup ∧ ∀ t ∈ K, t ∈ TT one) (fun K p => ((tbl p.2).map fun t => (putB t p.1 0).1).foldl addK K) (LS one) [] (St [] a4 a5 a6) (by
      rintro K p ρ hp ⟨a, b, c, rfl, nd, hs⟩
      obtain ⟨ρ2, e3, ⟨b6, e4, nd4, hs4⟩⟩ := forE_fold (e := eTb) (i := 6) (s := dummy) (G := (asgGS (cY (.bool true)) (subX 3 (y2 ixD (callY 2 m_put_in (aCons (varY 6) (aCons (varY 4) aNil))) (cY (.int 0))))))
        (fun (K : List Tab) ρ => ∃ c, ρ = St K (.fz (eN p.1)) (.fz (eR p.2)) c ∧ K.Nodup ∧ ∀ t ∈ K, t ∈ TT one) (fun K t => addK K (putB t p.1 0).1) (tbl p.2) K (St K (.fz (eN p.1)) (.fz (eR p.2)) c) (by
          rintro K t ρ ht ⟨c, rfl, nd, hs⟩
          have sm := tab_sm h1 h5 (hsm p hp) ht
          have hlen := keys_len h1 h5 hr nd hs
          have ec : callY 2 m_put_in (aCons (varY 6) (aCons (varY 4) aNil)) (St K (.fz (eN p.1)) (.fz (eR p.2)) (.fz (eTb t))) dummy = some (.tuple [eTb (putB t p.1 0).1, .tuple [eN (putB t p.1 0).2.1, eN (putB t p.1 0).2.2]], dummy) :=
            call_ev (ac_ev rfl (ac_ev rfl an_ev)) rfl (put_ev t p.1 (by omega) (fun r hr => Nat.le_trans (sm.2 r hr) (by omega)))
          have e5 := subX_G keyTb (f := PyData.bool) (i := 3) (g := y2 ixD (callY 2 m_put_in (aCons (varY 6) (aCons (varY 4) aNil))) (cY (.int 0))) (ρ := St K (.fz (eN p.1)) (.fz (eR p.2)) (.fz (eTb t))) (s := dummy) (s1 := dummy) (kv := kvB K) (a := (putB t p.1 0).1) (v := true)
            (y2_ev ec rfl rfl) rfl (by rw [List.length_map]; show _ < 100000; omega)
          rw [kvB_put] at e5
          refine ⟨St (addK K (putB t p.1 0).1) (.fz (eN p.1)) (.fz (eR p.2)) (.fz (eTb t)), asgG_ev rfl e5, _, rfl, nd_addK nd, fun x hx => ?_⟩
          rcases mem_addK.mp hx with hx | rfl
          · exact hs x hx
          · exact hT p hp t ht) ⟨c, rfl, nd, hs⟩
      have ei : iY (odgY 1 (varY 5)) (St K (.fz (eN p.1)) (.fz (eR p.2)) c) dummy = some ((tbl p.2).map eTb, dummy) := iy_ev (odg_eT rfl rfl (hin p hp)) rfl
      refine ⟨St K (.fz (eN p.1)) (.fz (eR p.2)) c, ρ2, rfl, for_s ei e3, ?_⟩
      rw [List.foldl_map]
      exact ⟨_, _, b6, e4, nd4, hs4⟩) ⟨a4, a5, a6, rfl, by simp, fun _ h => nomatch h⟩
  have eK : (LS one).foldl (fun K p => ((tbl p.2).map fun t => (putB t p.1 0).1).foldl addK K) [] = (allP one).foldl addK [] := by
    unfold allP
    rw [List.foldl_flatMap]
  rw [eK] at e2 nd hsub
  generalize hK : (allP one).foldl addK [] = K at e2 nd hsub
  have ef : ifY (bT (y2 neB (varY 3) (frD newD))) (frY (ynC sortGC (aCons (varY 3) aNil))) (frY (lstY (aCons (tupY aNil) aNil))) [a0, .dc (dT enR eTs (kvP l)), .fz (eR one), .fz (.dict (dT enTb PyData.bool (kvB K))), b4, b5, b6] dummy = some (eTs (tbl one), dummy) := by
    by_cases hd : dropsN one = []
    · have k0 : K = [] := by
        rw [← hK]
        unfold allP
        rw [LS_nil hd]
        rfl
      have et : tbl one = [[]] := by
        unfold tbl
        show sortB enTO.lt (tabs 200 one) = [[]]
        unfold tabs
        rw [if_pos hd]
        rfl
      rw [k0, et]
      rfl
    · have hmem : ∀ t, t ∈ K ↔ ∃ w, RW one w ∧ insT w = t := fun t => by rw [← hK]; exact mem_allP h1 h5 hr hd t
      have hne : K ≠ [] := fun z => by
        have hw := swW_rw (n := n) 200 one hr (by have := (tf h1 h5 hr).phi; rw [hr.len] at this; exact this)
        have := (hmem _).mpr ⟨_, hw, rfl⟩
        rw [z] at this
        cases this
      have hs : ∀ t ∈ K, t ≠ [] := fun t ht => by
        rw [← hK, mem_addKs] at ht
        rcases ht with h | h
        · cases h
        · obtain ⟨p, hp, ht⟩ := List.mem_flatMap.mp h
          obtain ⟨t0, h0, rfl⟩ := List.mem_map.mp ht
          exact put_new_ne t0 p.1
      have hlen := keys_len h1 h5 hr nd hsub
      have en : bT (y2 neB (varY 3) (frD newD)) [a0, .dc (dT enR eTs (kvP l)), .fz (eR one), .fz (.dict (dT enTb PyData.bool (kvB K))), b4, b5, b6] dummy = some (true, dummy) := by
        refine bT_ev (y2_ev rfl rfl ?_)
        cases K with
        | nil => exact absurd rfl hne
        | cons t K => rfl
      refine ifY_s en ?_
      rw [if_pos rfl]
      refine fr_ev (ynC_ev (ac_ev rfl an_ev) ?_)
      have := EnO.sortGd enTO (EnO.isT_tup _) (by decide) PyData.bool (kvB K) (.inl fun p hp => by
        obtain ⟨t, ht, rfl⟩ := List.mem_map.mp hp
        have := hs t ht
        cases t with
        | nil => exact absurd rfl this
        | cons r t => rfl) (by rw [List.length_map]; show _ ≤ 100000; omega)
      have hk : (kvB K).map (·.1) = K := by unfold kvB; rw [List.map_map]; exact List.map_id _
      rw [hk, tbl_of h1 h5 hr nd hmem] at this
      exact this
  refine ⟨.fz (.dict (dT enTb PyData.bool (kvB K))), b4, b5, b6, ?_⟩
  refine seq_s (ρ1 := St [] a4 a5 a6) (s1 := dummy) (asgd_ev rfl) ?_
  have ec : callY 1 m_last_swaps (aCons (varY 2) aNil) (St [] a4 a5 a6) dummy = some (.list ((LS one).map eKR), dummy) := call_ev (ac_ev rfl an_ev) rfl (last_ev one (by rw [hr.len]; exact h1) (by rw [hr.len]; omega))
  refine seq_s (for_s (iy_ev ec rfl) (e1.trans (by rw [e2]))) ?_
  refine frzd_s rfl ?_
  have e7 := subX_G keyR (f := eTs) (i := 1) (g := varY 2) (ρ := [a0, .dc (dT enR eTs (kvP l)), .fz (eR one), .fz (.dict (dT enTb PyData.bool (kvB K))), b4, b5, b6]) (s := dummy) (s1 := dummy) (kv := kvP l) (a := one) (v := tbl one) rfl rfl (by rw [List.length_map]; show _ < 100000; omega)
  rw [kvP_put hno] at e7
  exact asgG_ev ef e7
end
end W79

set_option Elab.async false
set_option linter.all false
set_option maxRecDepth 100000
set_option maxHeartbeats 4000000
namespace W79
open PySem L2 DL
theorem revA_list {ds : List D} : revAD (.list ds) = some (.list ds.reverse) := rfl
theorem crs_none {r : List Nat} : crs1 r = none ↔ crsL r = [] := by
  rw [← crs_head]
  cases crsL r <;> simp
theorem tbl_one {n : Nat} (h1 : 1 ≤ n) (h5 : n ≤ 5) {r : List Nat} (hr : IsRow n r) (hc : crsL r = []) {w : List Nat} (hw : RW r w) : tbl r = [insT w] := by
  have hl : (tbl r).length = 1 := by
    unfold tbl
    rw [(sortB_perm _ _).length_eq]
    exact (tf h1 h5 hr).one.mpr hc
  obtain ⟨t, ht⟩ := List.length_eq_one_iff.mp hl
  have := (mem_tbl h1 h5 hr (insT w)).mpr ⟨w, hw, rfl⟩
  rw [ht] at this ⊢
  rw [List.mem_singleton.mp this]
theorem tables_ev {n : Nat} (h1 : 1 ≤ n) (h5 : n ≤ 5) {r : List Nat} (hr : IsRow n r) : m_tables_of_row [eR r] = some (eTs (tbl r)) := by
  refine runD_rt (s := dummy) ?_
  unfold G_tables_of_row
  have hphi : phi n 0 r < 200 := by have := (tf h1 h5 hr).phi; rw [hr.len] at this; exact this
  have hcr := crossed_ev hr (by omega)
  have hsw := swW_rw (n := n) (phi n 0 r + 1) r hr (Nat.lt_succ_self _)
  have hlen := rw_len h1 h5 hr hsw
  have hinv := (tf h1 h5 hr).inv
  have ec : callY 1 m_crossed_places (aCons (varY 0) aNil) [.fz (eR r), .un, .un, .un, .un, .un, .un] dummy = some ((crs1 r).elim .none e4, dummy) := call_ev (ac_ev rfl an_ev) rfl hcr
  cases hc : crs1 r with
  | none =>
    rw [hc] at ec
    have e0 : bT (y2 isND (callY 1 m_crossed_places (aCons (varY 0) aNil)) (cY .none)) [.fz (eR r), .un, .un, .un, .un, .un, .un] dummy = some (true, dummy) := bT_ev (y2_ev ec rfl rfl)
    refine seq_rt (if_s e0 ?_)
    rw [if_pos rfl]
    have e1 := some_ev hr h1 (by omega)
    have e2 := fill_ev (swW (phi n 0 r + 1) r).reverse (by omega)
    refine ret_ev (fr_ev (lst_ev (ac_ev (y2_ev (call_ev (ac_ev (call_ev (ac_ev rfl an_ev) rfl e1) an_ev) rfl e2) rfl rfl) an_ev) (by show 1 ≤ 100000; decide))) |>.trans ?_
    rw [tbl_one h1 h5 hr (crs_none.mp hc) hsw, fillT_fst]
    rfl
  | some q =>
    rw [hc] at ec
    have e0 : bT (y2 isND (callY 1 m_crossed_places (aCons (varY 0) aNil)) (cY .none)) [.fz (eR r), .un, .un, .un, .un, .un, .un] dummy = some (false, dummy) := bT_ev (y2_ev ec rfl rfl)
    refine seq_s (if_s e0 (by rw [if_neg Bool.false_ne_true]; rfl)) ?_
    refine seq_s (ρ1 := [.fz (eR r), .dc (dT enR eTs (kvP [])), .un, .un, .un, .un, .un]) (s1 := dummy) (asgd_ev rfl) ?_
    have B := bfs_ok h1 h5 hr 2000
    have hall := bfs_all h1 h5 hr
    generalize hL : bfs r 2000 = L at B hall
    have hll := rows_len h1 h5 B.nd B.row
    have eb : callY 1 m_rows_begun (aCons (varY 0) aNil) [.fz (eR r), .dc (dT enR eTs (kvP [])), .un, .un, .un, .un, .un] dummy = some (eRs L, dummy) := call_ev (ac_ev rfl an_ev) rfl (by rw [begun_ev hr h1 h5, hL])
    have ei : iY (y1 revAD (callY 1 m_rows_begun (aCons (varY 0) aNil))) [.fz (eR r), .dc (dT enR eTs (kvP [])), .un, .un, .un, .un, .un] dummy = some (L.reverse.map eR, dummy) := by
      refine iy_ev (d := .list (L.reverse.map eR)) (y1_ev eb ?_) rfl
      rw [List.map_reverse]
      rfl
    have hrn : L.reverse.Nodup := (List.reverse_perm L).nodup_iff.mpr B.nd
    refine take_s (e := eR) (xs := L.reverse) ei (fun l ρ => ∃ a b c d e, ρ = [.fz (eR r), .dc (dT enR eTs (kvP l)), a, b, c, d, e]) (fun l x rest ρ hx => ?_) ⟨_, _, _, _, _, rfl⟩ fun ρ => ?_
    · rintro ⟨a, b, c, d, e, rfl⟩
      have hxL : x ∈ L := List.mem_reverse.mp (by rw [hx]; simp)
      have hxr := B.row x hxL
      have hso : L.reverse.Pairwise fun a b => invW a ≤ invW b := List.pairwise_reverse.mpr B.so
      have hnx : x ∉ l := fun z => by
        rw [hx] at hrn
        exact (List.nodup_append.mp hrn).2.2 x z x List.mem_cons_self rfl
      have hlate : ∀ k ∈ dropsN x, swapN x k (k + 1) ∈ l := fun k hk => by
        have hm : swapN x k (k + 1) ∈ L.reverse := List.mem_reverse.mpr (hall x hxL k hk)
        have hi := inv_drop h1 h5 hxr hk
        rw [hx] at hm hso
        rcases List.mem_append.mp hm with hm | hm
        · exact hm
        · rcases List.mem_cons.mp hm with hm | hm
          · rw [hm] at hi; omega
          · have := (List.pairwise_cons.mp (List.pairwise_append.mp hso).2.1).1 _ hm
            omega
      have hll' : l.length ≤ 120 := by
        have := congrArg List.length hx
        rw [List.length_reverse, List.length_append] at this
        omega
      obtain ⟨b3, b4, b5, b6, e1⟩ := tab_step hxr hlate h1 h5 (.fz (eR r)) c d e hnx hll' b
      exact ⟨[.fz (eR r), .dc (dT enR eTs (kvP l)), .fz (eR x), b, c, d, e], _, rfl, e1, _, _, _, _, _, rfl⟩
    · rintro ⟨a, b, c, d, e, rfl⟩
      exact ret_ev (odg_eT rfl rfl (List.mem_reverse.mpr B.mem))
/-! ### the law's words -/
theorem lwords_ev {n : Nat} (h1 : 1 ≤ n) (h5 : n ≤ 5) {r : List Nat} (hr : IsRow n r) : m_law_words [eR r, eN 600] = some .none ∨ ((wordsL r (invW r)).length ≤ 600 ∧ ∃ ws : List (List Nat), ws.Perm ((wordsL r (invW r)).map (·.1)) ∧ m_law_words [eR r, eN 600] = some (.list (ws.map eR))) := by
  have hinv := (tf h1 h5 hr).inv
  have I : ∃ fl s', G__law_words (iniR [eR r, eN 600] 6) dummy = some (fl, s') ∧ (fl = .rt .none ∨ ((wordsL r (invW r)).length ≤ 600 ∧ ∃ ws : List (List Nat), ws.Perm ((wordsL r (invW r)).map (·.1)) ∧ fl = .rt (.list (ws.map eR)))) := by
    unfold G__law_words
    let St : List WH → Sl → Sl → Sl → Sl → Sl → Rho := fun L a b c d e => [.fz (eR r), .fz (eN 600), .fz (.list (L.map eWH)), a, b, c, d, e]
    show ∃ fl s', seqS _ _ [.fz (eR r), .fz (eN 600), .un, .un, .un, .un, .un, .un] dummy = some (fl, s') ∧ _
    have e0 : asgS 2 (fzU (frY (lstY (aCons (tupY (aCons (tupY aNil) (aCons (varY 0) aNil))) aNil)))) [.fz (eR r), .fz (eN 600), .un, .un, .un, .un, .un, .un] dummy = some (.nx (St (wordsL r 0) .un .un .un .un .un), dummy) := rfl
    rw [seq_nx e0]
    refine rel_s (xs := (List.range (invW r)).map eN) (s1 := dummy) (ir1_ev (call_ev (ac_ev rfl an_ev) rfl (llen_ev r (by rw [hr.len]; omega))) (by omega)) (fun i ρ s => s = dummy ∧ (wordsL r i).length ≤ 600 ∧ ∃ a b c d e, ρ = St (wordsL r i) a b c d e)
      _ ?st ⟨rfl, by show 1 ≤ 600; decide, _, _, _, _, _, rfl⟩ ?en
    case st =>
      rintro i x ρ s hx ⟨rfl, hlen, a, b, c, d, e, rfl⟩
      rw [List.getElem?_map] at hx
      obtain ⟨k, hk, rfl⟩ := Option.map_eq_some_iff.mp hx
      obtain ⟨hi, hk2⟩ := List.getElem?_eq_some_iff.mp hk
      rw [List.getElem_range] at hk2
      subst hk2
      rw [List.length_range] at hi
      have hrows := wordsL_row hr i
      obtain ⟨ρ', e1, c', d', e', rfl⟩ := cat_goM (e := eWH) (bind := bTp [5, 6]) (s := dummy) (G := (asgS 4 (fzU (y2 addD (varY 4) (frY (lcY (iY (callY 1 m_law_drops (aCons (varY 6) aNil))) (bN 7) yesT (tupY (aCons (y2 addD (tupY (aCons (varY 7) aNil)) (varY 5)) (aCons (callY 2 m_law_swapped (aCons (varY 6) (aCons (varY 7) aNil))) aNil))) [7]))))))
        (fun (L : List WH) ρ => ∃ c d e, ρ = [.fz (eR r), .fz (eN 600), .fz (.list ((wordsL r i).map eWH)), .fz (eN i), .fz (.list (L.map eWH)), c, d, e]) wStep 5 5000 (wordsL r i) [] [.fz (eR r), .fz (eN 600), .fz (.list ((wordsL r i).map eWH)), .fz (eN i), .fz (.list (([] : List WH).map eWH)), c, d, e] (by
          rintro p acc ρ hp ⟨c, d, e, rfl⟩ hacc
          obtain ⟨hp1, hp2⟩ := hrows p hp
          refine ⟨[.fz (eR r), .fz (eN 600), .fz (.list ((wordsL r i).map eWH)), .fz (eN i), .fz (.list (acc.map eWH)), .fz (eR p.1), .fz (eR p.2), e], _, rfl, asg_ev (d := .list ((acc ++ wStep p).map eWH)) (y2_ev (y := .list ((wStep p).map eWH)) rfl (fr_ev ?_) ?_), _, _, _, rfl⟩
          · refine lcG_ev (e := eN) (e' := eWH) (xs := dropsN p.2) (fun k => (k :: p.1, swapN p.2 k (k + 1))) (iy_ev (call_ev (ac_ev rfl an_ev) rfl (drops_ev p.2 (by rw [hp1.len]; exact h1) (by rw [hp1.len]; omega))) rfl) (fun k hk => ?_) ?_
            · have hk1 := (mem_drops.mp hk).1
              exact tup_ev (ac_ev (y2_ev (tup_ev (ac_ev rfl an_ev) (by show 1 ≤ 100000; decide)) rfl (addT_ev En.nat [k] p.1 (by rw [hp2]; show 1 + i ≤ 1000; omega))) (ac_ev (call_ev (ac_ev rfl (ac_ev rfl an_ev)) rfl (swapped_ev hk1 (by rw [hp1.len]; omega))) an_ev)) (by show 2 ≤ 100000; decide)
            · have := wStep_len (p := p) hp1
              unfold wStep at this
              rw [List.length_map] at this
              show _ ≤ 100000
              omega
          · show (if (acc.map eWH).length + ((wStep p).map eWH).length ≤ lim then some (PyData.list (acc.map eWH ++ (wStep p).map eWH)) else none) = _
            have := wStep_len (p := p) hp1
            rw [if_pos (by rw [List.length_map, List.length_map]; show _ ≤ 100000; omega), ← List.map_append]) (fun p hp => Nat.le_trans (wStep_len (hrows p hp).1) h5) (by simp; omega) ⟨c, d, e, rfl⟩
      rw [List.nil_append] at e1
      have ew : (wordsL r i).flatMap wStep = wordsL r (i + 1) := rfl
      rw [ew] at e1
      have e2 : iY (varY 2) [.fz (eR r), .fz (eN 600), .fz (.list ((wordsL r i).map eWH)), .fz (eN i), .fz (.list (([] : List WH).map eWH)), c, d, e] dummy = some ((wordsL r i).map eWH, dummy) := rfl
      have e3 : bT (y2 gtD (yC lenC (aCons (varY 4) aNil)) (varY 1)) [.fz (eR r), .fz (eN 600), .fz (.list ((wordsL r i).map eWH)), .fz (eN i), .fz (.list ((wordsL r (i + 1)).map eWH)), c', d', e'] dummy = some (decide (600 < (wordsL r (i + 1)).length), dummy) :=
        bT_ev (y2_ev (yC_ev (ac_ev rfl an_ev) ((En.pair (En.tup En.nat) (En.tup En.nat)).lenL _)) rfl (gt_N _ 600))
      refine ⟨_, if 600 < (wordsL r (i + 1)).length then .rt .none else .nx (St (wordsL r (i + 1)) (.fz (eN i)) (.fz (.list ((wordsL r (i + 1)).map eWH))) c' d' e'), dummy, rfl, ?_, ?_⟩
      · refine seq_s (asg_ev rfl) (seq_s (for_s e2 e1) ?_)
        by_cases hc : 600 < (wordsL r (i + 1)).length
        · rw [if_pos hc]
          rw [decide_eq_true hc] at e3
          exact seq_rt ((if_t e3).trans rfl)
        · rw [if_neg hc]
          rw [decide_eq_false hc] at e3
          exact seq_s ((if_f e3).trans rfl) (asg_ev rfl)
      · by_cases hc : 600 < (wordsL r (i + 1)).length
        · rw [if_pos hc]
          exact .inl rfl
        · rw [if_neg hc]
          exact ⟨rfl, by omega, _, _, _, _, _, rfl⟩
    case en =>
      rintro ρ s ⟨rfl, hlen, a, b, c, d, e, rfl⟩
      rw [List.length_map, List.length_range] at *
      let eo : EnO (List Nat) := .tup .nat
      have hrows := wordsL_row hr (invW r)
      have es := eo.sortG (EnO.isT_tup _) (by decide) ((wordsL r (invW r)).map (·.1)) (by
        by_cases h0 : invW r = 0
        · rw [h0]
          exact .inr (by rw [List.length_map]; exact Nat.le_refl 1)
        · refine .inl fun w hw => ?_
          obtain ⟨p, hp, rfl⟩ := List.mem_map.mp hw
          have := (hrows p hp).2
          cases hq : p.1 with
          | nil => rw [hq] at this; exact absurd this.symm h0
          | cons k w => rfl) (by rw [List.length_map]; show _ ≤ 100000; omega)
      refine ⟨_, dummy, ret_ev (fr_ev (ynC_ev (ac_ev (fr_ev ?_) an_ev) es)), .inr ⟨hlen, sortB eo.lt ((wordsL r (invW r)).map (·.1)), sortB_perm _ _, rfl⟩⟩
      have L := lcMt_ev (e := eWH) (fi := iY (varY 2)) (bind := bTp [5, 6]) (el := varY 5) (vs := [5, 6]) (ρ := St (wordsL r (invW r)) a b c d e) (s := dummy) (s1 := dummy) (xs := wordsL r (invW r)) (fun p => eR p.1) rfl (fun p _ => ⟨_, rfl, rfl⟩) (by show _ ≤ 100000; omega)
      rw [L, List.map_map]
      rfl
  obtain ⟨fl, s', e1, rfl | ⟨hl, ws, hp, rfl⟩⟩ := I
  · exact .inl (runD_rt e1)
  · exact .inr ⟨hl, ws, hp, runD_rt e1⟩
end W79

set_option Elab.async false
set_option linter.all false
set_option maxRecDepth 100000
set_option maxHeartbeats 4000000
namespace W79
open PySem L2 DL
theorem ltab_ev {n : Nat} (h1 : 1 ≤ n) (h5 : n ≤ 5) {r : List Nat} (hr : IsRow n r) : m_law_tables [eR r, eN 600] = some .none ∨ m_law_tables [eR r, eN 600] = some (eTs (tbl r)) := by
  have hinv := (tf h1 h5 hr).inv
  rcases lwords_ev h1 h5 hr with hw | ⟨hlen, ws, hp, hw⟩
  · refine .inl (runD_rt (s := dummy) ?_)
    unfold G__law_tables
    exact seq_s (asg_ev (call_ev (ac_ev rfl (ac_ev rfl an_ev)) rfl hw)) (seq_rt rfl)
  · refine .inr (runD_rt (s := dummy) ?_)
    unfold G__law_tables
    have hwl : ws.length ≤ 600 := by rw [hp.length_eq, List.length_map]; exact hlen
    have hmem : ∀ w, w ∈ ws ↔ RW r w := fun w => hp.mem_iff.trans (words_all h1 h5 hr w)
    refine seq_s (asg_ev (call_ev (ac_ev rfl (ac_ev rfl an_ev)) rfl hw)) (seq_s (ρ1 := [.fz (eR r), .fz (eN 600), .fz (.list (ws.map eR)), .un]) (s1 := dummy) rfl ?_)
    let us : List (Tab × Nat) := ws.map fun w => (insT w, 0)
    have L := lcG_ev (e := eR) (e' := fun p : Tab × Nat => .tuple [eTb p.1, eN p.2]) (fi := iY (varY 2)) (i := 3) (el := (tupY (aCons (y2 ixD (callY 1 m_law_fill (aCons (varY 3) aNil)) (cY (.int 0))) (aCons (cY (.int 0)) aNil)))) (vs := [3])
      (ρ := [.fz (eR r), .fz (eN 600), .fz (.list (ws.map eR)), .un]) (s := dummy) (s1 := dummy) (xs := ws) (fun w => (insT w, 0)) rfl (fun w hw => by
        have hl := rw_len h1 h5 hr ((hmem w).mp hw)
        refine tup_ev (ac_ev (y2_ev (call_ev (ac_ev rfl an_ev) rfl (lfill_ev w (by omega))) rfl (d := eTb (insT w)) ?_) (ac_ev rfl an_ev)) (by show 2 ≤ 100000; decide)
        rw [fillT_fst]
        rfl) (by show _ ≤ 100000; omega)
    have hd := dictC_G keyTb (f := eN) (x := .list (us.map fun p => .tuple [eTb p.1, eN p.2])) (us := us) rfl (by rw [List.length_map]; show _ ≤ 100000; omega)
    let K : List Tab := (us.foldl (fun kv p => putG kv p.1 p.2) []).map (·.1)
    have hK : K = (ws.map insT).foldl addK [] := by
      show (us.foldl (fun kv p => putG kv p.1 p.2) []).map (·.1) = _
      rw [keys_fold, List.map_map]
      rfl
    have hKm : ∀ t, t ∈ K ↔ ∃ w, RW r w ∧ insT w = t := fun t => by
      rw [hK, mem_addKs]
      constructor
      · rintro (h | h)
        · cases h
        · obtain ⟨w, hw, rfl⟩ := List.mem_map.mp h
          exact ⟨w, (hmem w).mp hw, rfl⟩
      · rintro ⟨w, hw, rfl⟩
        exact .inr (List.mem_map.mpr ⟨w, (hmem w).mpr hw, rfl⟩)
    have hKn : K.Nodup := by rw [hK]; exact nd_addKs (by simp)
    have hKl : K.length ≤ 1000 := keys_len h1 h5 hr hKn fun t ht => (mem_T h1 h5 hr t).mpr ((hKm t).mp ht)
    have hs := enTO.sortG (EnO.isT_tup _) (by decide) K (by
      by_cases hdr : dropsN r = []
      · refine .inr (Nat.le_trans (hKn.length_le_of_subset (l₂ := [[]]) fun t ht => ?_) (Nat.le_refl 1))
        obtain ⟨w, hw, rfl⟩ := (hKm t).mp ht
        cases hw with
        | nil _ => exact List.mem_singleton.mpr rfl
        | snoc hk _ => rw [hdr] at hk; cases hk
      · refine .inl fun t ht => ?_
        obtain ⟨w, hw, rfl⟩ := (hKm t).mp ht
        cases hw with
        | nil h => exact absurd h hdr
        | @snoc _ w k hk _ =>
          rw [insT_snoc]
          cases hq : (putB (insT w) k 0).1 with
          | nil => exact absurd hq (put_new_ne _ _)
          | cons q t => rfl) (by show _ ≤ 100000; omega)
    rw [tbl_of h1 h5 hr hKn hKm] at hs
    have hkk : ∀ kv : List (Tab × Nat), listX [.dict (dT enTb eN kv)] = some ((kv.map (·.1)).map eTb) := fun kv => by
      show some ((dT enTb eN kv).map (·.1)) = _
      unfold dT
      rw [List.map_map, List.map_map]
      rfl
    exact ret_ev (fr_ev (ynC_ev (ac_ev (fr_ev (ynC_ev (ac_ev (frD_ev (dcC_ev (ac_ev (fr_ev L) an_ev) hd)) an_ev) (hkk _))) an_ev) hs))
theorem lsh_ev (t : Tab) (hl : t.length ≤ 1000) : m_law_shape [eTb t] = some (eR (t.map List.length)) := by
  refine runD_rt (s := dummy) ?_
  unfold G__law_shape
  have L := lcG_ev (e := eR) (e' := eN) (fi := iY (varY 0)) (i := 1) (el := yC lenC (aCons (varY 1) aNil)) (vs := [1]) (ρ := [.fz (eTb t), .un]) (s := dummy) (s1 := dummy) (xs := t) List.length rfl (fun q _ => yC_ev (ac_ev rfl an_ev) (En.nat.lenT q)) (by show _ ≤ 100000; omega)
  exact ret_ev (yC_ev (ac_ev (fr_ev L) an_ev) rfl)
theorem trange_ev {n : Nat} (hn : n ≤ 12) {g : Y} {ρ : Rho} {s s1 : Src} (h : g ρ s = some (eN n, s1)) : yR (rg1 g) ρ s = some (eR (List.range n), s1) := by
  unfold yR rg1
  rw [h]
  show (if rgOk 0 (n : Int) = true then some (PyData.tuple (rgD 0 (n : Int)), s1) else none) = _
  have h0 : rgOk 0 (n : Int) = true := rgOkN (a := 0) (by omega) (by omega)
  rw [if_pos h0, rgN0]
  rfl
theorem mulB_N (a b : Nat) (h : a < 1000) : mulB (eN a) (eN b) = some (eN (a * b)) := by
  show mulD (.int a) (.int b) = _
  unfold mulD
  dsimp only
  have h1 : (decide (-(2 ^ 64) < (a : Int)) && decide ((a : Int) < 2 ^ 64)) = true := by
    rw [decide_eq_true (show -(2 ^ 64) < (a : Int) by omega), decide_eq_true (show (a : Int) < 2 ^ 64 by omega)]
    rfl
  rw [h1, Bool.true_or, if_pos rfl]
  show some (PyData.int ((a : Int) * b)) = some (.int ((a * b : Nat) : Int))
  rw [Int.natCast_mul]
theorem row_ev {n : Nat} (h1 : 1 ≤ n) (hn : n ≤ 12) (s : Src) : ∃ r s', IsRow n r ∧ m_law_row [eN n] s = some (eR r, s') := by
  obtain ⟨way, s1, hw, hp⟩ := pick_ev (n := 4) (by decide) (by decide) s
  have e0 : asgS 2 (fzU (drawY 0 1 pickM (aCons (cY (.int 4)) aNil))) [.sr, .fz (eN n), .un, .un, .un] s = some (.nx [.sr, .fz (eN n), .fz (eN way), .un, .un], s1) := asg_ev (draw_ev rfl (ac_ev rfl an_ev) rfl hp)
  have et : bT (y2 ltD (varY 2) (cY (.int 2))) [.sr, .fz (eN n), .fz (eN way), .un, .un] s1 = some (decide (way < 2), s1) := bT_ev (y2_ev rfl rfl (lt_N way 2))
  by_cases c : way < 2
  · obtain ⟨r, s2, g1, g2⟩ := mix_ev (f := eN) (List.range n) s1 (by rw [List.length_range]; omega)
    have er : frY (ynR (rg1 (varY 1))) [.sr, .fz (eN n), .fz (eN way), .un, .un] s1 = some (.list ((List.range n).map eN), s1) := by
      refine fr_ev ?_
      show (if rgOk 0 (n : Int) = true then some (rgD 0 (n : Int), s1) else none) = _
      have h0 : rgOk 0 (n : Int) = true := rgOkN (a := 0) (by omega) (by omega)
      rw [if_pos h0, rgN0]
    refine ⟨r, s2, isRow_of_perm g1, runY_rt (seq_s e0 (seq_rt (if_s et ?_)))⟩
    rw [decide_eq_true c, if_pos rfl]
    exact ret_ev (yC_ev (ac_ev (draw_ev rfl (ac_ev er an_ev) rfl g2) an_ev) rfl)
  · obtain ⟨r0, hr0, e2⟩ : ∃ r0, IsRow n r0 ∧ (ifY (bT (y2 eqD (varY 2) (cY (.int 2)))) (yR (rg1 (varY 1))) (y1 revAD (yR (rg1 (varY 1))))) [.sr, .fz (eN n), .fz (eN way), .un, .un] s1 = some (eR r0, s1) := by
      have tst : bT (y2 eqD (varY 2) (cY (.int 2))) [.sr, .fz (eN n), .fz (eN way), .un, .un] s1 = some (decide (way = 2), s1) := bT_ev (y2_ev rfl rfl (En.nat.eqD (by decide) way 2))
      by_cases c2 : way = 2
      · refine ⟨List.range n, isRow_of_perm (.refl _), ifY_s tst ?_⟩
        rw [decide_eq_true c2]
        exact trange_ev hn rfl
      · refine ⟨(List.range n).reverse, isRow_of_perm (List.reverse_perm _), ifY_s tst ?_⟩
        rw [decide_eq_false c2]
        refine y1_ev (trange_ev hn rfl) ?_
        show some (PyData.tuple _) = some (PyData.tuple _)
        rw [List.map_reverse]
    obtain ⟨m, s2, hm, e3⟩ : ∃ m s2, m ≤ 100 ∧ (m = 0 ∨ 1 < n) ∧ ifY (bT (y2 gtD (varY 1) (cY (.int 1)))) (drawY 0 1 pickM (aCons (y2 mulB (cY (.int 2)) (varY 1)) aNil)) (cY (.int 0)) [.sr, .fz (eN n), .fz (eN way), .fz (eR r0), .un] s1 = some (eN m, s2) := by
      have tst : bT (y2 gtD (varY 1) (cY (.int 1))) [.sr, .fz (eN n), .fz (eN way), .fz (eR r0), .un] s1 = some (decide (1 < n), s1) := bT_ev (y2_ev rfl rfl (gt_N n 1))
      by_cases c2 : 1 < n
      · obtain ⟨m, s2, hm, hp2⟩ := pick_ev (n := 2 * n) (by omega) (by omega) s1
        refine ⟨m, s2, by omega, .inr c2, ifY_s tst ?_⟩
        rw [decide_eq_true c2]
        have em : y2 mulB (cY (.int 2)) (varY 1) [.sr, .fz (eN n), .fz (eN way), .fz (eR r0), .un] s1 = some (eN (2 * n), s1) := y2_ev (x := eN 2) (y := eN n) rfl rfl (mulB_N 2 n (by decide))
        rw [if_pos rfl]
        exact draw_ev (xs := [eN (2 * n)]) rfl (ac_ev em an_ev) rfl hp2
      · refine ⟨0, s1, by omega, .inl rfl, ifY_s tst ?_⟩
        rw [decide_eq_false c2]
        rfl
    obtain ⟨hm0, e3⟩ := e3
    have L := rel_x (fi := iR1 (ifY (bT (y2 gtD (varY 1) (cY (.int 1)))) (drawY 0 1 pickM (aCons (y2 mulB (cY (.int 2)) (varY 1)) aNil)) (cY (.int 0)))) (bind := bN 4) (xs := (List.range m).map eN)
      (G := (asgS 3 (fzU (callY 2 m_law_swapped (aCons (varY 3) (aCons (drawY 0 1 pickM (aCons (y2 subD (varY 1) (cY (.int 1))) aNil)) aNil)))))) (ρ := [.sr, .fz (eN n), .fz (eN way), .fz (eR r0), .un]) (s := s1) (s1 := s2)
      (ir1_ev e3 (by omega)) (fun _ ρ _ => ∃ r z, IsRow n r ∧ ρ = [.sr, .fz (eN n), .fz (eN way), .fz (eR r), z]) (by
        rintro i x ρ s hx ⟨r, z, hr, rfl⟩
        have hn1 : 1 < n := by
          rcases hm0 with rfl | h
          · simp at hx
          · exact h
        obtain ⟨k, s3, hk, hp3⟩ := pick_ev (n := n - 1) (by omega) (by omega) s
        refine ⟨[.sr, .fz (eN n), .fz (eN way), .fz (eR r), .fz x], _, s3, rfl, asg_ev (call_ev (ac_ev rfl (ac_ev (draw_ev rfl (ac_ev (y2_ev rfl rfl (sub_N h1)) an_ev) rfl hp3) an_ev)) rfl (swapped_ev (by rw [hr.len]; omega) (by rw [hr.len]; omega))), _, _, hr.swapN (by omega) (by omega), rfl⟩) ⟨r0, _, hr0, rfl⟩
    obtain ⟨ρ2, s3, e4, r, z, hr, rfl⟩ := L
    refine ⟨r, s3, hr, runY_rt (seq_s e0 (seq_s (if_s et ?_) (seq_s (asg_ev e2) (seq_s e4 (ret_ev rfl)))))⟩
    rw [decide_eq_false c]
    rfl
end W79

set_option Elab.async false
set_option linter.all false
set_option maxRecDepth 100000
set_option maxHeartbeats 4000000
namespace W79
open PySem L2 DL
theorem rep_same {x : D} {st : Str} {g h : Y} {ρ : Rho} {s s1 s2 : Src} (hg : g ρ s = some (x, s1)) (hh : h ρ s1 = some (x, s2)) (hr : reprC [x] = some (.str st)) : bT (y2 neD (yC reprC (aCons g aNil)) (yC reprC (aCons h aNil))) ρ s = some (false, s2) :=
  bT_ev (y2_ev (yC_ev (ac_ev hg an_ev) hr) (yC_ev (ac_ev hh an_ev) hr) (neS_same st))
theorem szR {q : List Nat} {N : Nat} (hl : q.length ≤ N) (hq : ∀ x ∈ q, x ≤ 1000) : Sz (N * 41) (eR q) := sz_tup (fun x hx => sz_N (by have := hq x hx; omega)) hl
theorem lead_lt {n : Nat} {r : List Nat} (hr : IsRow n r) : ∀ x ∈ leadsN r, x ≤ n := fun x hx => by
  unfold leadsN at hx
  obtain ⟨k, hk, rfl⟩ := List.mem_map.mp hx
  unfold leadAt
  refine Nat.le_trans (List.length_filter_le _ _) ?_
  rw [List.length_take, hr.len]
  omega
theorem shape_lt {n : Nat} {r : List Nat} (hr : IsRow n r) : (shapeN r).length ≤ n ∧ ∀ x ∈ shapeN r, x ≤ n := by
  unfold shapeN
  refine ⟨?_, fun x hx => ?_⟩
  · rw [List.length_reverse, (sortN_perm _).length_eq]
    refine Nat.le_trans (List.length_filter_le _ _) ?_
    unfold leadsN
    rw [List.length_map, List.length_range, hr.len]
    exact Nat.le_refl _
  · have := (sortN_perm _).mem_iff.mp (List.mem_reverse.mp hx)
    exact lead_lt hr x (List.mem_filter.mp this).1
theorem crs_lt {n : Nat} {r : List Nat} (hr : IsRow n r) : ∀ p ∈ crsL r, p.1 ≤ n ∧ p.2.1 ≤ n ∧ p.2.2.1 ≤ n ∧ p.2.2.2 ≤ n := fun p hp => by
  unfold crsL at hp
  obtain ⟨i, hi, hp⟩ := List.mem_flatMap.mp hp
  obtain ⟨j, hj, hp⟩ := List.mem_flatMap.mp hp
  obtain ⟨k, hk, hp⟩ := List.mem_flatMap.mp hp
  obtain ⟨m, hm, rfl⟩ := List.mem_map.mp hp
  have h1 := List.mem_range.mp hi
  have h2 : j < r.length := mem_fwd (List.mem_filter.mp hj).1
  have h3 : k < r.length := mem_fwd (List.mem_filter.mp hk).1
  have h4 : m < r.length := mem_fwd (List.mem_filter.mp hm).1
  rw [hr.len] at h1 h2 h3 h4
  exact ⟨by omega, by dsimp only; omega, by dsimp only; omega, by dsimp only; omega⟩
theorem e4_eR (p : Four) : e4 p = eR [p.1, p.2.1, p.2.2.1, p.2.2.2] := rfl
def fl4 (p : Four) : List Nat := [p.1, p.2.1, p.2.2.1, p.2.2.2]
theorem told_repr {n : Nat} (hn : n ≤ 12) {r : List Nat} (hr : IsRow n r) : ∃ st, reprC [.list [(crs1 r).elim .none e4, eR (leadsN r), eR (shapeN r)]] = some (.str st) := by
  have hl : (leadsN r).length ≤ 12 := by unfold leadsN; rw [List.length_map, List.length_range, hr.len]; exact hn
  have s1 : Sz (12 * 41) (eR (leadsN r)) := szR hl fun x hx => by have := lead_lt hr x hx; omega
  have s2 : Sz (12 * 41) (eR (shapeN r)) := szR (Nat.le_trans (shape_lt hr).1 hn) fun x hx => by have := (shape_lt hr).2 x hx; omega
  cases hc : crs1 r with
  | none =>
    refine ⟨_, repr_evD (W := 1500) ?_ ?_ ⟨?_, ?_⟩ (by decide)⟩
    · have a := enR.can (leadsN r)
      have b := enR.can (shapeN r)
      show PyData.canLay0 (.list [.none, eR (leadsN r), eR (shapeN r)]) = true
      simp only [PyData.canLay0, PyData.canLayAll0]
      rw [a, b]
      rfl
    · have a : PyData.depth (eR (leadsN r)) ≤ 1 := enR.hdp (leadsN r)
      have b : PyData.depth (eR (shapeN r)) ≤ 1 := enR.hdp (shapeN r)
      show PyData.depth (.list [.none, eR (leadsN r), eR (shapeN r)]) ≤ 64
      simp only [PyData.depth, PyData.depthAll]
      omega
    · show PyData.weight (.list [.none, eR (leadsN r), eR (shapeN r)]) ≤ 1500
      have a := s1.w
      have b := s2.w
      simp only [PyData.weight, PyData.weightAll]
      omega
    · show shortD (.list [.none, eR (leadsN r), eR (shapeN r)]) = true
      unfold shortD shortAll shortAll shortAll shortAll
      rw [s1.s, s2.s]
      simp [shortD]
  | some q =>
    have hq : q ∈ crsL r := by
      have := crs_head r
      rw [hc] at this
      exact List.mem_of_mem_head? (by rw [this]; exact rfl)
    have hb := crs_lt hr q hq
    have s0 : Sz (4 * 41) (e4 q) := by
      rw [e4_eR]
      refine szR (by simp) fun x hx => ?_
      simp at hx
      omega
    have hst := En.repr (En.lst enR) (by decide) (a := [fl4 q, leadsN r, shapeN r]) (W := 3 * (12 * 41 + 1)) (sz_lst (f := eR) (xs := [fl4 q, leadsN r, shapeN r]) (fun x hx => by
      simp at hx
      rcases hx with rfl | rfl | rfl
      · exact s0.mono (by decide)
      · exact s1
      · exact s2) (by simp)) (by decide)
    exact ⟨_, hst⟩
theorem tbl_repr {n : Nat} (h1 : 1 ≤ n) (h5 : n ≤ 5) {r : List Nat} (hr : IsRow n r) : ∃ st, reprC [eTs (tbl r)] = some (.str st) := by
  refine ⟨_, En.repr (En.lst enTb) (by decide) (a := tbl r) (W := 100 * (10 * (10 * 41 + 1) + 1)) (sz_lst (f := eTb) (fun t ht => ?_) (tbl_len h1 h5 hr)) (by decide)⟩
  have sm := tab_sm h1 h5 hr ht
  have he := (tf h1 h5 hr).ent t ((sortB_perm _ _).mem_iff.mp ht)
  exact sz_tup (f := eR) (fun q hq => szR (sm.2 q hq) fun x hx => by have := he q hq x hx; omega) sm.1
/-- the law's slots: the source stands in the second -/
def Sh (ρ : Rho) : Prop := ρ.length = 11 ∧ ρ[1]? = some .sr
theorem hlaw (ns : List Int) (hns : ns.length ≤ 63) : ∃ s, G_law ((List.replicate 11 Sl.un).set 1 .sr) (mkSrc ns) = some (.rt (.bool true), s) := by
  unfold G_law
  refine rel_nx (ir1_ev (n := 4) rfl (by omega)) Sh (fun x ρ s hx hS => ?_) ⟨rfl, rfl⟩ (fun ρ s hS => ⟨s, rfl⟩)
  obtain ⟨hl, h1⟩ := hS
  match ρ, hl, h1 with
  | [a0, a1, a2, a3, a4, a5, a6, a7, a8, a9, a10], _, h1 =>
  cases h1
  obtain ⟨i, hi, rfl⟩ := List.mem_map.mp hx
  have hi := List.mem_range.mp hi
  obtain ⟨m, hm, hm1, hm12, hm5⟩ : ∃ m, [4, 5, 9, 12][i]? = some m ∧ 1 ≤ m ∧ m ≤ 12 ∧ (i < 2 → m ≤ 5) := by
    match i, hi with
    | 0, _ => exact ⟨4, rfl, by omega, by omega, by omega⟩
    | 1, _ => exact ⟨5, rfl, by omega, by omega, by omega⟩
    | 2, _ => exact ⟨9, rfl, by omega, by omega, by omega⟩
    | 3, _ => exact ⟨12, rfl, by omega, by omega, by omega⟩
  obtain ⟨k, s1, hk, hp⟩ := pick_ev (n := m) (by omega) (by omega) s
  obtain ⟨r, s2, hr, e_r⟩ := row_ev (n := 1 + k) (by omega) (by omega) s1
  have b1 : 1 ≤ 1 + k := by omega
  have b12 : 1 + k ≤ 12 := by omega
  refine body_e ?_
  have ei : y2 ixD (frY (lstY (aCons (cY (.int 4)) (aCons (cY (.int 5)) (aCons (cY (.int 9)) (aCons (cY (.int 12)) aNil)))))) (varY 2) [a0, .sr, .fz (eN i), a3, a4, a5, a6, a7, a8, a9, a10] s = some (eN m, s) := by
    refine y2_ev (x := (En.lst En.nat).f [4, 5, 9, 12]) (y := eN i) rfl rfl ?_
    obtain ⟨hlt, hge⟩ := List.getElem?_eq_some_iff.mp hm
    rw [En.nat.ixL [4, 5, 9, 12] i hlt, hge]
  refine seq_e (asg_ev (draw_ev rfl (ac_ev (y2_ev rfl (draw_ev rfl (ac_ev ei an_ev) rfl hp) (add_N 1 k)) an_ev) rfl e_r)) ?_
  obtain ⟨kept, hkept⟩ : ∃ st, reprC [eR r] = some (.str st) := ⟨_, En.repr enR (by decide) (W := 12 * 41) (szR (by rw [hr.len]; exact b12) fun x hx => by have := hr.lt x hx; omega) (by decide)⟩
  refine seq_e (par3_ev (call_ev (ac_ev rfl an_ev) rfl (lcrossed_ev hr b12)) (call_ev (ac_ev rfl an_ev) rfl (lleads_ev hr b12)) (yC_ev (ac_ev rfl an_ev) hkept)) ?_
  have hll : (leadsN r).length ≤ 12 := by unfold leadsN; rw [List.length_map, List.length_range, hr.len]; exact b12
  have esh : yC tupleC (aCons (y1 revAD (frY (ynC sortC (aCons (frY (lcY (iY (varY 5)) (bN 10) (bT (y2 gtD (varY 10) (cY (.int 0)))) (varY 10) [10])) aNil)))) aNil) [a0, .sr, .fz (eN i), .fz (eR r), .fz (.list ((crsL r).map e4)), .fz (eR (leadsN r)), .fz (.str kept), a7, a8, a9, a10] s2 = some (eR (shapeN r), s2) := by
    refine yC_ev (ac_ev (y1_ev (fr_ev (ynC_ev (ac_ev (fr_ev (lcE_ev (e := eN) (xs := leadsN r) (fun x => decide (0 < x)) eN (iy_ev rfl rfl) (fun y _ => ⟨bT_ev (y2_ev rfl rfl (gt_N y 0)), fun _ => rfl⟩) (by show _ ≤ 100000; omega))) an_ev) (sortC_N _))) rfl) an_ev) ?_
    show some (PyData.tuple _) = some (PyData.tuple ((shapeN r).map eN))
    unfold shapeN
    rw [List.map_reverse]
  refine seq_e (asg_ev esh) ?_
  refine seq_e (asg_ev (fr_ev (lst_ev (ac_ev (call_ev (ac_ev rfl an_ev) rfl (crossed_ev hr b12)) (ac_ev (call_ev (ac_ev rfl an_ev) rfl (leads_ev hr b12)) (ac_ev (call_ev (ac_ev rfl an_ev) rfl (lshape_ev hr b12)) an_ev))) (by show 3 ≤ 100000; decide)))) ?_
  obtain ⟨st, hst⟩ := told_repr b12 hr
  let St : Sl → Rho := fun a9 => [a0, .sr, .fz (eN i), .fz (eR r), .fz (.list ((crsL r).map e4)), .fz (eR (leadsN r)), .fz (.str kept), .fz (eR (shapeN r)), .fz (.list [(crs1 r).elim .none e4, eR (leadsN r), eR (shapeN r)]), a9, a10]
  have hne : ∀ a9, bT (y2 neD (varY 4) (frY (lstY aNil))) (St a9) s2 = some (!decide (crsL r = []), s2) := fun a9 => by
    have := (En.lst enR).neD (by decide) ((crsL r).map fl4) []
    refine bT_ev (y2_ev (x := (En.lst enR).f ((crsL r).map fl4)) ?_ rfl (this.trans ?_))
    · show some (PyData.list ((crsL r).map e4), s2) = some (PyData.list (((crsL r).map fl4).map eR), s2)
      rw [List.map_map]
      rfl
    · exact congrArg (fun b => some (PyData.bool (!b))) (by cases crsL r <;> simp)
  have heq : ∀ a9 (s : Src), y2 eqD (varY 4) (frY (lstY aNil)) (St a9) s = some (.bool (decide (crsL r = [])), s) := fun a9 s => by
    have := (En.lst enR).eqD (by decide) ((crsL r).map fl4) []
    refine y2_ev (x := (En.lst enR).f ((crsL r).map fl4)) ?_ rfl (this.trans ?_)
    · show some (PyData.list ((crsL r).map e4), s) = some (PyData.list (((crsL r).map fl4).map eR), s)
      rw [List.map_map]
      rfl
    · exact congrArg (fun b => some (PyData.bool b)) (by cases crsL r <;> simp)
  have hfirst : ifY (bT (y2 neD (varY 4) (frY (lstY aNil)))) (y2 ixD (varY 4) (cY (.int 0))) (cY .none) (St a9) s2 = some ((crs1 r).elim .none e4, s2) := by
    refine ifY_s (hne a9) ?_
    rw [← crs_head]
    show (if (!decide (crsL r = [])) = true then y2 ixD (varY 4) (cY (.int 0)) (St a9) s2 else cY .none (St a9) s2) = _
    have hix : ∀ q qs, crsL r = q :: qs → y2 ixD (varY 4) (cY (.int 0)) (St a9) s2 = some (e4 q, s2) := fun q qs h => by
      show y2 ixD (varY 4) (cY (.int 0)) [a0, .sr, .fz (eN i), .fz (eR r), .fz (.list ((crsL r).map e4)), .fz (eR (leadsN r)), .fz (.str kept), .fz (eR (shapeN r)), .fz (.list [(crs1 r).elim .none e4, eR (leadsN r), eR (shapeN r)]), a9, a10] s2 = _
      rw [h]
      refine y2_ev (x := (En.lst enR).f ((q :: qs).map fl4)) (y := eN 0) ?_ rfl (enR.ixL _ 0 (by simp))
      show some (PyData.list ((q :: qs).map e4), s2) = some (PyData.list (((q :: qs).map fl4).map eR), s2)
      rw [List.map_map]
      rfl
    cases hq : crsL r with
    | nil => rw [decide_eq_true rfl]; rfl
    | cons q qs =>
      rw [decide_eq_false (fun z => nomatch z)]
      exact hix q qs hq
  refine seq_e (ifno_e (rep_same rfl (fr_ev (lst_ev (ac_ev hfirst (ac_ev rfl (ac_ev rfl an_ev))) (by show 3 ≤ 100000; decide))) hst)) ?_
  -- the tables
  have elt : bT (y2 ltD (varY 2) (cY (.int 2))) (St a9) s2 = some (decide (i < 2), s2) := bT_ev (y2_ev rfl rfl (lt_N i 2))
  have fin : ∀ b, ∃ ρ2 s3, ifS (bT (y2 neD (yC reprC (aCons (varY 3) aNil)) (varY 6))) (retS (cY (.bool false))) nxS (St b) s2 = some (.nx ρ2, s3) ∧ Sh ρ2 := fun b =>
    ⟨St b, s2, ifno_e (bT_ev (y2_ev (yC_ev (ac_ev rfl an_ev) hkept) rfl (neS_same kept))), rfl, rfl⟩
  obtain ⟨b9, e9, hb9⟩ : ∃ b9, asgS 9 (fzU (ifY (bT (y2 ltD (varY 2) (cY (.int 2)))) (callY 2 m_law_tables (aCons (varY 3) (aCons (cY (.int 600)) aNil))) (cY .none))) (St a9) s2 = some (.nx (St (.fz b9)), s2) ∧ (b9 = .none ∨ (i < 2 ∧ b9 = eTs (tbl r))) := by
    by_cases c : i < 2
    · rw [decide_eq_true c] at elt
      rcases ltab_ev b1 (by have := hm5 c; omega) hr with h | h
      · exact ⟨.none, asg_ev (ifY_s elt (by rw [if_pos rfl]; exact call_ev (ac_ev rfl (ac_ev rfl an_ev)) rfl h)), .inl rfl⟩
      · exact ⟨eTs (tbl r), asg_ev (ifY_s elt (by rw [if_pos rfl]; exact call_ev (ac_ev rfl (ac_ev rfl an_ev)) rfl h)), .inr ⟨c, rfl⟩⟩
    · rw [decide_eq_false c] at elt
      exact ⟨.none, asg_ev (ifY_s elt rfl), .inl rfl⟩
  refine seq_e e9 ?_
  rcases hb9 with rfl | ⟨c, rfl⟩
  · exact seq_e (ifno_e (bT_ev (y2_ev rfl rfl rfl))) (fin _)
  · have h5 : 1 + k ≤ 5 := by have := hm5 c; omega
    have hone := (tf b1 h5 hr).one
    have hlen : (tbl r).length = (TT r).length := by unfold tbl; rw [(sortB_perm _ _).length_eq]
    obtain ⟨st2, hst2⟩ := tbl_repr b1 h5 hr
    have e10 : bT (y2 neD (y2 eqD (yC lenC (aCons (varY 9) aNil)) (cY (.int 1))) (y2 eqD (varY 4) (frY (lstY aNil)))) (St (.fz (eTs (tbl r)))) s2 = some (false, s2) := by
      refine bT_ev (y2_ev (y2_ev (yC_ev (ac_ev rfl an_ev) (enTb.lenL (tbl r))) rfl (En.nat.eqD (by decide) (tbl r).length 1)) (heq _ _) ((En.bool.neD (by decide) _ _).trans ?_))
      rw [hlen]
      exact congrArg (fun b => some (PyData.bool b)) (by simp [hone])
    have e11 := rep_same (ρ := St (.fz (eTs (tbl r)))) (s := s2) (g := callY 1 m_tables_of_row (aCons (varY 3) aNil)) (h := varY 9) (call_ev (ac_ev rfl an_ev) rfl (tables_ev b1 h5 hr)) rfl hst2
    have e12 : bT (y2 notND (varY 9) (cY .none)) (St (.fz (eTs (tbl r)))) s2 = some (true, s2) := bT_ev (y2_ev rfl rfl rfl)
    have e13 : andT (bT (y2 eqD (varY 4) (frY (lstY aNil)))) (bT (y2 neD (callY 1 m_law_shape (aCons (y2 ixD (varY 9) (cY (.int 0))) aNil)) (varY 7))) (St (.fz (eTs (tbl r)))) s2 = some (false, s2) := by
      by_cases hc : crsL r = []
      · have hsp := (tf b1 h5 hr).shp hc
        have hT : tbl r = TT r := by
          have h1' := hone.mpr hc
          obtain ⟨t, ht⟩ := List.length_eq_one_iff.mp h1'
          unfold tbl
          rw [ht]
          rfl
        obtain ⟨t, ht⟩ := List.length_eq_one_iff.mp (hone.mpr hc)
        rw [ht] at hsp
        have hts : t.map List.length = shapeN r := by
          have := hsp
          simp only [List.map_cons, List.map_nil, List.cons.injEq, and_true] at this
          exact this
        have htm : t ∈ tbl r := by rw [hT, ht]; exact List.mem_singleton.mpr rfl
        have sm := tab_sm b1 h5 hr htm
        have ex : callY 1 m_law_shape (aCons (y2 ixD (varY 9) (cY (.int 0))) aNil) (St (.fz (eTs (tbl r)))) s2 = some (eR (shapeN r), s2) := by
          rw [hT, ht, ← hts]
          exact call_ev (ac_ev (y2_ev rfl rfl (d := eTb t) rfl) an_ev) rfl (lsh_ev t (by omega))
        have := and_ev (h := bT (y2 neD (callY 1 m_law_shape (aCons (y2 ixD (varY 9) (cY (.int 0))) aNil)) (varY 7))) (bT_ev (heq (.fz (eTs (tbl r))) s2)) (fun _ => bT_ev (y2_ev ex rfl (enR.neD (by decide) (shapeN r) (shapeN r)))) (fun z => by rw [decide_eq_true hc] at z)
        rw [this, decide_eq_true rfl, decide_eq_true hc]
        rfl
      · have := and_ev (h := bT (y2 neD (callY 1 m_law_shape (aCons (y2 ixD (varY 9) (cY (.int 0))) aNil)) (varY 7))) (c := false) (s2 := s2) (bT_ev (heq (.fz (eTs (tbl r))) s2)) (fun z => absurd (of_decide_eq_true z) hc) (fun _ => rfl)
        rw [this, decide_eq_false hc]
        rfl
    refine seq_e ((if_s e12 ?_)) (fin (.fz (eTs (tbl r))))
    rw [if_pos rfl]
    exact seq_s (ifno_e (or_no e10 e11)) (ifno_e e13)
end W79

open PySem PySem.W PyProof.Rows in
set_option maxRecDepth 100000 in
set_option maxHeartbeats 0 in
theorem PySem.Challenge.cw_leastlattices_k79_whole_one_table_or_mor_holds : PySem.Challenge.rw_leastlattices_k79_whole_one_table_or_mor.Holds := by
  w_on; o_law; k_head; (case hw => w_witness2)
  k_fill
  refine W79.walk (l := PySem.Challenge.rw_leastlattices_k79_whole_one_table_or_mor) rfl rfl (fun w h Y => PySem.W.kIn_of Y) ?F
  case F =>
    intro w mg fa h KX G hmg
    refine' W79.all_mk W79.hlaw KX G hmg ?a1 ?l1 ?c1 ?k1 ?a2 ?l2 ?c2 ?k2 ?a3 ?l3 ?c3 ?k3 ?a4 ?l4 ?c4 ?k4 ?a5 ?l5 ?c5 ?k5 ?a6 ?l6 ?c6 ?k6 ?a7 ?l7 ?c7 ?k7 ?a8 ?l8 ?c8 ?k8 ?a9 ?l9 ?c9 ?k9 ?a10 ?l10 ?c10 ?k10 ?a11 ?l11 ?c11 ?k11 ?a12 ?l12 ?c12 ?k12 ?a13 ?l13 ?c13 ?k13 ?a14 ?l14 ?c14 ?k14 ?a15 ?l15 ?c15 ?k15 ?a16 ?l16 ?c16 ?k16 ?a17 ?l17 ?c17 ?k17 ?a18 ?l18 ?c18 ?k18 ?a19 ?l19 ?c19 ?k19 ?a20 ?l20 ?c20 ?k20 ?a21 ?l21 ?c21 ?k21 ?a22 ?l22 ?c22 ?k22 ?a23 ?l23 ?c23 ?k23 ?a24 ?l24 ?c24 ?k24 ?z_list ?z_enumerate ?z_tuple ?z_len ?z_range ?z_sorted ?z_int ?z_abs ?z_max ?z_sum ?z_dict ?z_repr ?v_MOST_BELOW
    (case a1 => k_is)
    (case l1 => k_is)
    (case c1 => k_is)
    (case k1 => k_is)
    (case a2 => k_is)
    (case l2 => k_is)
    (case c2 => k_is)
    (case k2 => k_is)
    (case a3 => k_is)
    (case l3 => k_is)
    (case c3 => k_is)
    (case k3 => k_is)
    (case a4 => k_is)
    (case l4 => k_is)
    (case c4 => k_is)
    (case k4 => k_is)
    (case a5 => k_is)
    (case l5 => k_is)
    (case c5 => k_is)
    (case k5 => k_is)
    (case a6 => k_is)
    (case l6 => k_is)
    (case c6 => k_is)
    (case k6 => k_is)
    (case a7 => k_is)
    (case l7 => k_is)
    (case c7 => k_is)
    (case k7 => k_is)
    (case a8 => k_is)
    (case l8 => k_is)
    (case c8 => k_is)
    (case k8 => k_is)
    (case a9 => k_is)
    (case l9 => k_is)
    (case c9 => k_is)
    (case k9 => k_is)
    (case a10 => k_is)
    (case l10 => k_is)
    (case c10 => k_is)
    (case k10 => k_is)
    (case a11 => k_is)
    (case l11 => k_is)
    (case c11 => k_is)
    (case k11 => k_is)
    (case a12 => k_is)
    (case l12 => k_is)
    (case c12 => k_is)
    (case k12 => k_is)
    (case a13 => k_is)
    (case l13 => k_is)
    (case c13 => k_is)
    (case k13 => k_is)
    (case a14 => k_is)
    (case l14 => k_is)
    (case c14 => k_is)
    (case k14 => k_is)
    (case a15 => k_is)
    (case l15 => k_is)
    (case c15 => k_is)
    (case k15 => k_is)
    (case a16 => k_is)
    (case l16 => k_is)
    (case c16 => k_is)
    (case k16 => k_is)
    (case a17 => k_is)
    (case l17 => k_is)
    (case c17 => k_is)
    (case k17 => k_is)
    (case a18 => k_is)
    (case l18 => k_is)
    (case c18 => k_is)
    (case k18 => k_is)
    (case a19 => k_is)
    (case l19 => k_is)
    (case c19 => k_is)
    (case k19 => k_is)
    (case a20 => k_is)
    (case l20 => k_is)
    (case c20 => k_is)
    (case k20 => k_is)
    (case a21 => k_is)
    (case l21 => k_is)
    (case c21 => k_is)
    (case k21 => k_is)
    (case a22 => k_is)
    (case l22 => k_is)
    (case c22 => k_is)
    (case k22 => k_is)
    (case a23 => k_is)
    (case l23 => k_is)
    (case c23 => k_is)
    (case k23 => k_is)
    (case a24 => k_is)
    (case l24 => k_is)
    (case c24 => k_is)
    (case k24 => k_is)
    (case z_list => k_is)
    (case z_enumerate => k_is)
    (case z_tuple => k_is)
    (case z_len => k_is)
    (case z_range => k_is)
    (case z_sorted => k_is)
    (case z_int => k_is)
    (case z_abs => k_is)
    (case z_max => k_is)
    (case z_sum => k_is)
    (case z_dict => k_is)
    (case z_repr => k_is)
    (case v_MOST_BELOW => k_is)

