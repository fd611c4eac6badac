import PyProof.Rows.All
import Wide.All
import OpenK.AllK
import Wide.FinOn
import HandS.ForMost
import HandS.Evl
import HandS.TupAny
import HandS.Style
import HandS.Walk
import HandS.Zip
import HandS.IsInst
import HandS.Conv
import HandS.Deep
import HandS.SetFor
import HandS.TupLe
import HandS.DictTup
import HandS.BoundDict
import HandS.SetKeys
import HandS.RaiseMore
import PyProof.AutoSeq1
import PyProof.DictMoreH
import KE.KDictWalk
import KE.KDictPairs
import KE.DatumOrd
import KE.KDictCopyH
import KE.KSortTupG
import KE.KDictSum
import PySem.Challenge.RW_dueturns_k65_whole_waits_and_rows
import KE.KStateDown
import Lean
import HandS.Head0
import HandS.Head1
import HandS.Head2
import HandS.HeadEnd
import HandS.HeadHook1
import HandS.HeadHook2
import HandS.Words
section
set_option Elab.async false
set_option linter.all false
set_option maxRecDepth 100000
set_option maxHeartbeats 4000000
namespace Dx
open PySem PySem.Spec PyProof.Rows L2 Evl RZ
/-! rules that the layer lacks: extend by a tuple, count of a tuple -/

theorem meets_extT (l : Addr) (xs : Array Value) (n : Nat) (b : Addr) (ys : Array Value) (m : Nat) (dd : Option Addr) (sl : Array (Option Value))
    (z0 : ¬ (!xs.isEmpty && Builtin.List.listTooLong (xs.size + ys.size)) = true) (z1 : xs.size ≤ sizeLine) (z2 : xs.size + ys.size ≤ sizeLine + 1) :
    Meets (Builtin.«list.extend» ⟨[.ref l, .ref b], []⟩) (fun _ R s =>
      s.heap.get? l = some ⟨.type "list", none, .seq xs n, #[]⟩ ∧
      s.heap.get? b = some ⟨.type "tuple", dd, .seq ys m, sl⟩ ∧
      R (.ok (.ret .none)) { s with heap := s.heap.update l (Obj.mapSeq fun x => x ++ ys), toks := s.toks }) :=
  .of_wp fun prog w A R s h => by
    obtain ⟨hp, g, d, tk, os⟩ := s
    obtain ⟨hl, hb, h⟩ := h
    have f1 := PySem.AutoSeq1.sub_tuple_tuple
    have f2 := PySem.AutoSeq1.sub_list_list
    have f3 := PySem.AutoSeq1.sub_tuple_list
    have f4 := PySem.AutoSeq1.sub_list_tuple
    have zz : (xs ++ ys).size ≤ sizeLine + 1 := by
      rw [Array.size_append]
      exact z2
    wp_walk using (wpAny_updateSeq hl rfl (hz := z1) (_hz' := zz)),
      wpAny_loadPart' hl, wpAny_loadPart' hb
    exact ⟨_, rfl, h⟩
section
variable {X : Cx}
def rExtT (K : PySem.W.Frag) : V → List V → Hp → VK → Prop := fun x vs H Q => ∃ l b xs zs, x = .ref l ∧ vs = [.ref b] ∧ H l = some (.lst xs) ∧ SqT K H b zs ∧ xs.length + zs.length ≤ sizeLine ∧ Q .non (upd H l (.lst (xs ++ zs)))
theorem mt_extT : MtR X "list.extend" (rExtT X.K) := by
  intro pins s σ H x vs v us Q I rx rv h
  obtain ⟨l, b, xs, zs, rfl, rfl, hH, hB, hz, q⟩ := h
  cases rx
  obtain ⟨u, rfl, ru⟩ := rv.one
  cases ru
  obtain ⟨z, its, n, r, hl, e⟩ := I.lstM hH
  obtain ⟨its2, r2, ⟨⟨cls, dd, data, sl⟩, e2, hc, n2, hd⟩, hz2⟩ := I.tuple hB
  simp only at hc hd
  subst hc hd
  have hl2 := r2.length
  have hsz : its.toArray.size + its2.toArray.size ≤ sizeLine := by
    rw [List.size_toArray, List.size_toArray]
    omega
  have hlong : ¬ (!its.toArray.isEmpty && Builtin.List.listTooLong (its.toArray.size + its2.toArray.size)) = true := by
    rw [notLongL hsz, Bool.and_false]
    exact Bool.false_ne_true
  refine call_meets F.slot_list_extend ⟨_, e, rfl⟩ F.entry_list_extend (F.args_list_extend_2 _ _)
    (meets_extT l its.toArray n b its2.toArray n2 dd sl hlong (by rw [List.size_toArray]; omega) (by omega)) ⟨e, e2, ?_⟩
  refine ⟨.non, _, I.lset (its' := its ++ its2) hH e (by simp) (r.append r2) ?_, rfl, q⟩
  rw [List.length_append]
  omega
def rCntT (K : PySem.W.Frag) : V → List V → Hp → VK → Prop := fun x xs H Q => ∃ (p : Addr) (ns : List Int) (k : Int), x = .ref p ∧ xs = [.int k] ∧ SqT K H p (ns.map V.int) ∧ Q (.int (ns.count k : Nat)) H
theorem mt_tcount : MtR X "tuple.count" (rCntT X.K) := by
  intro pins s σ H x xs v us Q I rx rxs h
  obtain ⟨p, ns, k, rfl, rfl, hs, q⟩ := h
  cases rx
  obtain ⟨u, rfl, ru⟩ := rxs.one
  obtain ⟨t, rfl⟩ := ru
  obtain ⟨its, rv, ⟨⟨cls, dd, data, sl⟩, ho, hc, n, hd⟩, hlen⟩ := I.tuple hs
  simp only at hc hd
  subst hc hd
  have hi := ints_of_vals rv
  refine call_meets F.slot_tuple_count ⟨_, ho, rfl⟩ F.entry_tuple_count (F.args_tuple_count_2 _ _)
    (SeqAt.tuple_countAt p its.toArray n dd sl (.int k t) (eqk k)) ⟨ho, fun y hy => (eqk_gives hi y (by simpa using hy)).at _ _, ?_⟩
  have ec : its.toArray.toList.countP (eqk k) = ns.count k := eqk_count hi
  refine ⟨.int (ns.count k : Nat), H, I.tok _, ⟨s.toks, ?_⟩, q⟩
  show Value.int ((its.toArray.toList.countP (eqk k) : Nat) : Int) s.toks = Value.int ((ns.count k : Nat) : Int) s.toks
  rw [ec]
end
/-! ### tuples that are known to be nothing but tuples -/
def BareT (o : Obj) : Prop := o.cls = .type "tuple" ∧ o.dict = none
/-- such a tuple of ints -/
def KeyT (H : Hp) (a : Addr) (xs : List V) : Prop := ∃ o, H a = some (.frz o (.tup xs)) ∧ BareT o
theorem KeyT.sq {K : PySem.W.Frag} {H : Hp} {a : Addr} {xs : List V} (h : KeyT H a xs) : SqT K H a xs := let ⟨o, e, _⟩ := h; .inl (.inr ⟨o, e⟩)
theorem KeyT.up {H H' : Hp} {a : Addr} {xs : List V} (h : KeyT H a xs) (e : Ex H H') : KeyT H' a xs := let ⟨o, h1, h2⟩ := h; ⟨o, e _ _ h1, h2⟩
section
variable {X : Cx}
theorem laidK {pins : List (Addr × Obj)} {σ : List (Option V)} {H : Hp} {s : Shared} {xs : List V} {its : List Value} (I : Inv X pins σ H s) (r : Vals xs its) (hz : xs.length ≤ sizeLine) :
    Inv X pins σ (upd H s.heap.objs.size (.frz { cls := .type "tuple", data := .seq its.toArray } (.tup xs))) { s with heap := s.heap.push { cls := .type "tuple", data := .seq its.toArray } } :=
  I.laid (t' := s.toks) (fun _ _ q => Heap.get?_push_of_some _ q) (Nat.le_refl _) ⟨Heap.get?_push_size _ rfl, hz, its, r, IsTup.new _ _⟩
/-- what is said of a new one -/
def NewK (H : Hp) (xs : List V) (Q : VK) : Prop := ∀ p o, H p = none → BareT o → Q (.ref p) (upd H p (.frz o (.tup xs)))
theorem ep_newK {pins : List (Addr × Obj)} {σ : List (Option V)} {H : Hp} {s : Shared} {xs : List V} {its : List Value} {Q : VK} (I : Inv X pins σ H s) (r : Vals xs its) (hz : xs.length ≤ sizeLine) (q : NewK H xs Q) :
    EP X pins σ Q (.ref s.heap.objs.size) { s with heap := s.heap.push { cls := .type "tuple", data := .seq its.toArray } } :=
  ⟨.ref s.heap.objs.size, _, laidK I r hz, rfl, q _ _ (I.hok.fresh (Nat.le_refl _)) ⟨rfl, rfl⟩⟩
def tTupK (t : TA) : TE := fun σ H Q => t σ H fun xs H1 => xs.length ≤ sizeLine ∧ NewK H1 xs Q
theorem pe_tupK {es : List Expr} {x1 : Nat} {pos : Pos} {t : TA} (h : PA X es t) : PE X (.Tuple es x1 pos) (tTupK t) :=
  ⟨fun pins s σ H Q I hq => wpAny_Tuple_spliced (thn (h.run pos pins s σ H _ I hq) fun us s1 ⟨xs, H1, I1, r, z, q⟩ => ⟨by rw [← r.length]; exact z, ep_newK I1 r z q⟩)⟩
def rCatK (K : PySem.W.Frag) : R2 := fun x y H Q => ∃ a b xs ys, x = .ref a ∧ y = .ref b ∧ SqT K H a xs ∧ SqT K H b ys ∧ xs.length + ys.length ≤ sizeLine ∧
  (xs = [] → Q (.ref b) H) ∧ (ys = [] → Q (.ref a) H) ∧ NewK H (xs ++ ys) Q
theorem op_catK : OpR X (binaryOp .Add) (rCatK X.K) := by
  intro pins s σ H x y v u Q I rx ry h
  obtain ⟨a, b, xs, ys, rfl, rfl, ha, hb, hz, q0, q1, q2⟩ := h
  cases rx
  cases ry
  obtain ⟨its, r1, p1, _⟩ := I.tuple ha
  obtain ⟨its2, r2, p2, _⟩ := I.tuple hb
  by_cases hx : xs = []
  · subst hx
    cases r1
    exact cat_tup0 p1 p2 ⟨.ref b, H, I, rfl, q0 rfl⟩
  · refine HT.cat_tup p1 p2 (fun z => hx (r1.nil_iff.mp z)) (fun z => ⟨.ref a, H, I, rfl, q1 (r2.nil_iff.mp z)⟩) (fun z => ?_) (by rw [← r1.length, ← r2.length]; exact hz)
    exact ep_newK I (r1.append r2) (by rw [List.length_append]; exact hz) q2
def rSlK (K : PySem.W.Frag) : V → Option Int → Option Int → Hp → VK → Prop := fun x lo hi H Q => ∃ a xs, x = .ref a ∧ SqT K H a xs ∧
  (HT.sIx xs.length 0 lo = 0 ∧ HT.sIx xs.length xs.length hi = xs.length → Q (.ref a) H) ∧ NewK H (cutV xs lo hi) Q
theorem sl_tupK : SlR X (rSlK X.K) := by
  intro pins s σ H x v vl vu lo hi sl Q I rx hs pl pu h
  obtain ⟨a, xs, rfl, hx, q1, q2⟩ := h
  cases rx
  obtain ⟨its, r, ht, hz⟩ := I.tuple hx
  have hlen : its.toArray.size = xs.length := by rw [List.size_toArray]; exact r.length.symm
  refine ⟨"tuple", _, PyProof.Rows.slot_tuple_getitem.lookup, ht.typeIs, ?_⟩
  by_cases hw : HT.sIx xs.length 0 lo = 0 ∧ HT.sIx xs.length xs.length hi = xs.length
  · exact getItem_tuple_whole ht hs pl pu (by rw [hlen]; exact hw) ⟨.ref a, H, I, rfl, q1 hw⟩
  · refine HT.getItem_tuple_cut ht hs pl pu (by rw [hlen]; exact hw) ?_ (by rw [hlen]; exact hz)
    rw [hlen]
    exact ep_newK I ((r.drop (HT.sIx xs.length 0 lo)).take (HT.sIx xs.length xs.length hi - HT.sIx xs.length 0 lo)) (Nat.le_trans (cutV_length xs lo hi) hz) q2
def rTupK (K : PySem.W.Frag) : List V → Hp → VK → Prop := fun xs H Q => ∃ p ys, xs = [.ref p] ∧ ((SqL K H p ys ∧ NewK H ys Q) ∨ (SqT K H p ys ∧ Q (.ref p) H))
theorem cr_tupK : CallR X (.type "tuple") (rTupK X.K) := by
  intro pins s σ H xs us Q I r h
  obtain ⟨p, ys, rfl, h⟩ := h
  obtain ⟨u, rfl, rx⟩ := vals1 r
  cases rx
  rcases h with ⟨hq, q⟩ | ⟨hq, q⟩
  · obtain ⟨its, r', pl, hz⟩ := I.list hq
    have hlen := r'.length
    refine call_tuple_list pl.isList (fun h' kp => ?_) (by simp only [List.size_toArray] <;> omega)
    have I1 : Inv X pins σ H { s with heap := h' } := I.kept (t' := s.toks) kp
    exact ep_newK I1 r' hz q
  · obtain ⟨its, _, pl, _⟩ := I.tuple hq
    exact call_tuple_same pl ⟨.ref p, H, I, rfl, q⟩
/-! ### a method's call, the receiver told in one's own words -/
def TyR (X : Cx) (T : String) (ty : V → Hp → Prop) : Prop := ∀ (pins : List (Addr × Obj)) (σ : List (Option V)) (H : Hp) (s : Shared) (x : V) (v : Value), Inv X pins σ H s → RelV x v → ty x H →
  s.TypeIs v T ∧ ∀ a, v = .ref a → ∃ ob, s.heap.get? a = some ob ∧ ob.dict = none
def tBMY (ty : V → Hp → Prop) (r : V → List V → Hp → VK → Prop) (to : TE) (t : TA) : TE := fun σ H Q => to σ H fun x H1 => ty x H1 ∧ t σ H1 fun xs H2 => r x xs H2 Q
theorem pe_bmY {o e : Expr} {es : List Expr} {to : TE} {t : TA} {name : Str} {apos cpos : Pos} {T id : String} {ty : V → Hp → Prop} {r : V → List V → Hp → VK → Prop} (tr : TyR X T ty) (pa : PlainAttrs T) (slot : Slot T name id) (hty : typeOf (.builtin id) = pure (.type "method_descriptor"))
    (hm : MtR X id r) (ho : PE X o to) (ha : PA X (e :: es) t) (hbase : attributeBase o name X.env (eval o X.env) = eval o X.env := by rfl)
    (hfew : ((backTo cpos (starEach (e :: es) X.env)).all (fun x => !x.1) && (backToKw cpos (keywordEach [] X.env)).all (fun x => x.1.isSome) && decide ((e :: es).length + ([] : List Keyword).length + (if ([] : List Keyword).isEmpty then 0 else 1) < 30)) = true := by rfl)
    (hline : (apos.endLine == cpos.line) = true := by rfl) (hs : starEach (e :: es) X.env = (false, eval e X.env) :: starEach es X.env := by rfl) (hplain : (backTo cpos (starEach es X.env)).any (·.1) = false := by rfl) :
    PE X (.Call (.Attribute o name apos) (e :: es) [] cpos) (tBMY ty r to t) := by
  refine ⟨fun pins s σ H Q I h => wpAny_Call_method_late hbase hfew hline rfl (thn (ho.run pins s σ H _ I h) fun v s1 ⟨x, H1, I1, r1, w, q1⟩ => ?_)⟩
  obtain ⟨h1, h2⟩ := tr pins σ H1 s1 x v I1 r1 w
  have hA := ha.run cpos pins s1 σ H1 _ I1 q1
  rw [hs] at hA
  refine ⟨T, id, pa, slot, hty, h1, h2, ?_⟩
  rw [hs]
  exact Calls.callWith_builtin (by show (false || (backTo cpos (starEach es X.env)).any (·.1)) = false; rw [hplain] <;> rfl) (Calls.evalArgs_plain (thn hA fun us s2 ⟨vs, H2, I2, r2, q2⟩ => hm pins s2 σ H2 x vs v us Q I2 r1 r2 q2))
def tyKey : V → Hp → Prop := fun x H => ∃ a xs, x = .ref a ∧ KeyT H a xs
theorem ty_key : TyR X "tuple" tyKey := by
  intro pins σ H s x v I r h
  obtain ⟨a, xs, rfl, o, e, h1, h2⟩ := h
  cases r
  obtain ⟨g, _⟩ := I.hok a _ e
  exact ⟨⟨o, g, h1⟩, fun b z => by cases z; exact ⟨o, g, h2⟩⟩
/-! ### dicts whose keys are such tuples of ints -/
def hashI (ns : List Int) : Int := reduceHash (Builtin.Tuple.tupleHashOf (ns.map hashInt))
abbrev Kws := List (List Int × Addr × V)
def entI (x : List Int × Addr × Value) : DictEntry := ⟨hashI x.1, .ref x.2.1, x.2.2⟩
abbrev Ents : Kws → List (List Int × Addr × Value) → Prop := Paired fun p q => p.1 = q.1 ∧ p.2.1 = q.2.1 ∧ RelV p.2.2 q.2.2
def rawP (a : Addr) (kws : Kws) (h : Heap) : Prop := kws.length ≤ sizeLine ∧ (a == sysModules) = false ∧ ∃ xs : List (List Int × Addr × Value), Ents kws xs ∧
  ∃ o es ep, h.get? a = some o ∧ o.ExactDict ∧ o.data = .dict es ep ∧ es.toList = xs.map entI ∧ (xs.map (·.1)).Nodup
def rawO (a : Addr) (kws : Kws) : HO := .ext (rawP a kws)
theorem raw_ok {P : Program} {w : World} {H : Hp} {h : Heap} {a : Addr} {kws : Kws} (x : rawP a kws h) : ObjOk P w H h a (rawO a kws) := by
  obtain ⟨_, _, _, _, o, _, _, e, _⟩ := id x
  refine ⟨x, ⟨o, e⟩, fun h1 h2 q k => ?_⟩
  obtain ⟨z, y, xs, r, o, es, ep, e, c⟩ := q
  exact ⟨z, y, xs, r, o, es, ep, k o e, c⟩
theorem raw_of {pins : List (Addr × Obj)} {σ : List (Option V)} {H : Hp} {s : Shared} {a : Addr} {kws : Kws} (I : Inv X pins σ H s) (e : Rd H a (rawO a kws)) : rawP a kws s.heap := (show ObjOk X.prog X.w H s.heap a (rawO a kws) from e.ok I.hok).1
def atW (kws : Kws) (k : List Int) : Option V := (kws.find? fun p => decide (p.1 = k)).map (·.2.2)
def putW (kws : Kws) (k : List Int) (b : Addr) (v : V) : Kws := if (atW kws k).isSome then kws.map (fun p => if p.1 = k then (p.1, p.2.1, v) else p) else kws ++ [(k, b, v)]
theorem putW_le (kws : Kws) (k : List Int) (b : Addr) (v : V) : (putW kws k b v).length ≤ kws.length + 1 := by
  unfold putW
  split
  · rw [List.length_map]
    omega
  · rw [List.length_append]
    exact Nat.le_refl _
theorem ents_at {kws : Kws} {xs : List (List Int × Addr × Value)} (r : Ents kws xs) (k : List Int) : RelO (atW kws k) ((atKey xs k).map (·.2)) := by
  induction r with
  | nil => exact True.intro
  | @cons p q ps qs h t ih =>
    unfold atW atKey at ih ⊢
    obtain ⟨e1, e2, e3⟩ := h
    rw [List.find?_cons, List.find?_cons, ← e1]
    by_cases c : p.1 = k
    · rw [decide_eq_true c]
      exact e3
    · rw [decide_eq_false c]
      exact ih
theorem ents_sm {kws : Kws} {xs : List (List Int × Addr × Value)} (r : Ents kws xs) (k : List Int) : (atW kws k).isSome = (atKey xs k).isSome := by
  rw [(ents_at r k).isSome_eq, Option.isSome_map]
theorem ents_rep {kws : Kws} {xs : List (List Int × Addr × Value)} (r : Ents kws xs) (k : List Int) {v : V} {u : Value} (rv : RelV v u) : Ents (kws.map (fun p => if p.1 = k then (p.1, p.2.1, v) else p)) (xs.map (putAt k u)) := by
  induction r with
  | nil => exact .nil
  | @cons p q ps qs h t ih =>
    obtain ⟨e1, e2, e3⟩ := h
    rw [List.map_cons, List.map_cons]
    refine .cons ?_ ih
    unfold putAt
    rw [← e1]
    split
    · exact ⟨rfl, e2, rv⟩
    · exact ⟨e1, e2, e3⟩
theorem ents_put {kws : Kws} {xs : List (List Int × Addr × Value)} (r : Ents kws xs) (k : List Int) (b : Addr) {v : V} {u : Value} (rv : RelV v u) : Ents (putW kws k b v) (storedH xs k b u) := by
  unfold putW storedH
  rw [ents_sm r k]
  split
  · exact ents_rep r k rv
  · exact Paired.snoc r ⟨rfl, rfl, rv⟩
theorem ints_are {P : Program} {w : World} : ∀ {ns : List Int} {us : List Value}, Vals (ns.map V.int) us → ItemsAre (intKind P w) ns us
  | [], _, r => by
    cases r
    exact .nil
  | k :: ks, _, r => by
    cases r with
    | cons h t =>
      obtain ⟨tk, rfl⟩ := h
      exact .cons (by show Value.isInt k (.int k tk) = true; simp [Value.isInt]) (ints_are t)
abbrev kd (X : Cx) : HeapKind X.prog X.w (List Int) := tupleKind (intKind X.prog X.w)
theorem keyI {pins : List (Addr × Obj)} {σ : List (Option V)} {H : Hp} {s : Shared} {b : Addr} {ns : List Int} (I : Inv X pins σ H s) (h : SqT X.K H b (ns.map V.int)) : (kd X).is s.heap ns b := by
  obtain ⟨its, r, ⟨o, e, c, n, d⟩, _⟩ := I.tuple h
  exact ⟨o, its.toArray, n, e, c, d, by simpa using ints_are r⟩
/-- the dict at a, and what its keys are -/
def DG (K : PySem.W.Frag) (H : Hp) (a : Addr) (kws : Kws) : Prop := Rd H a (rawO a kws) ∧ ∀ p ∈ kws, SqT K H p.2.1 (p.1.map V.int)
theorem ents_mem {kws : Kws} {xs : List (List Int × Addr × Value)} (r : Ents kws xs) : ∀ x ∈ xs, ∃ p ∈ kws, p.1 = x.1 ∧ p.2.1 = x.2.1 := by
  induction r with
  | nil => exact fun x hx => nomatch hx
  | @cons p q ps qs h t ih =>
    intro x hx
    rcases List.mem_cons.mp hx with rfl | hx
    · exact ⟨p, List.mem_cons_self, h.1, h.2.1⟩
    · obtain ⟨p', hp, e⟩ := ih x hx
      exact ⟨p', List.mem_cons_of_mem _ hp, e⟩
theorem DG.dict {pins : List (Addr × Obj)} {σ : List (Option V)} {H : Hp} {s : Shared} {a : Addr} {kws : Kws} (I : Inv X pins σ H s) (g : DG X.K H a kws) : kws.length ≤ sizeLine ∧ (a == sysModules) = false ∧ ∃ xs, Ents kws xs ∧ s.heap.DictOfH (kd X) a xs := by
  obtain ⟨z, y, xs, r, o, es, ep, h1, h2, h3, h4, h5⟩ := raw_of I g.1
  refine ⟨z, y, xs, r, o, es, ep, h1, h2, h3, h4, fun x hx => ?_, h5⟩
  obtain ⟨p, hp, e1, e2⟩ := ents_mem r x hx
  rw [← e1, ← e2]
  exact keyI I (g.2 p hp)
theorem raw_new {h : Heap} {a : Addr} {kws : Kws} {xs : List (List Int × Addr × Value)} {X : Cx} (z : kws.length ≤ sizeLine) (y : (a == sysModules) = false) (r : Ents kws xs) (d : h.DictOfH (kd X) a xs) : rawP a kws h := by
  obtain ⟨o, es, ep, h1, h2, h3, h4, _, h5⟩ := d
  exact ⟨z, y, xs, r, o, es, ep, h1, h2, h3, h4, h5⟩
/-! its operations -/
def tRNew : TE := fun _ H Q => ∀ p, H p = none → Q (.ref p) (upd H p (rawO p []))
theorem pe_rnew {pos : Pos} : PE X (.Dict [] [] pos) tRNew := ⟨fun pins s σ H Q I h =>
  wpAny_Dict_empty ⟨.ref s.heap.objs.size, _, I.laid (t' := s.toks) (o := rawO s.heap.objs.size []) (fun _ _ q => Heap.get?_push_of_some _ q) (Nat.le_refl _)
    (raw_ok ⟨Nat.zero_le _, beq_eq_false_iff_ne.mpr (Ne.symm (Nat.ne_of_lt I.big)), [], .nil, _, #[], 0, Heap.get?_push_size _ rfl, ⟨rfl, rfl, rfl⟩, rfl, rfl, List.nodup_nil⟩), rfl, h _ (I.hok.fresh (Nat.le_refl _))⟩⟩
def tRGet (K : PySem.W.Frag) (td ty : TE) : TE := fun σ H Q => td σ H fun x H1 => ty σ H1 fun y H2 => ∃ a b kws k v, x = .ref a ∧ y = .ref b ∧ DG K H2 a kws ∧ SqT K H2 b (k.map V.int) ∧ atW kws k = some v ∧ Q v H2
theorem pe_rget {o i : Expr} {pos : Pos} {td ty : TE} (hu : X.A.units + 1 < cLine) (ho : PE X o td) (hi : PE X i ty) (hs : NoSl i) : PE X (.Subscript o i pos) (tRGet X.K td ty) := by
  refine ⟨fun pins s σ H Q I h => subD_of PySem.F.slot_dict_getitem.lookup hs (thn (ho.run pins s σ H _ I h) fun u s1 ⟨x, H1, I1, rx, q1⟩ => thn (hi.run pins s1 σ H1 _ I1 q1) fun iv s2 ⟨y, H2, I2, ry, a, b, kws, k, v, ex, ey, g, hb, l, q2⟩ => ?_)⟩
  subst ex ey
  cases rx
  cases ry
  obtain ⟨z, hd, xs, rel, dd⟩ := g.dict I2
  obtain ⟨w', hw, rw'⟩ := RelO.some_of (v := v) (o := (atKey xs k).map (·.2)) (by rw [← l]; exact ents_at rel k)
  obtain ⟨p, hp, hp2⟩ := Option.map_eq_some_iff.mp hw
  refine ⟨dd.typeIs, wpAny_getItem_heap (tupleKind_room_in1 hu) (keyI I2 hb) dd hp ?_⟩
  rw [hp2]
  exact ⟨v, H2, I2.tok _, rw', q2⟩
def tRIn (K : PySem.W.Frag) (neg : Bool) (ty td : TE) : TE := fun σ H Q => ty σ H fun y H1 => td σ H1 fun x H2 => ∃ a b kws k, x = .ref a ∧ y = .ref b ∧ DG K H2 a kws ∧ SqT K H2 b (k.map V.int) ∧ Q (.bl (neg ^^ (atW kws k).isSome)) H2
theorem pc_rin {o i : Expr} {td ty : TE} (hu : X.A.units + 1 < cLine) (hi : PE X i ty) (ho : PE X o td) : PC X .In i o (tRIn X.K false ty td) := by
  refine ⟨fun pins s σ H Q I h => thn (hi.run pins s σ H _ I h) fun iv s1 ⟨y, H1, I1, ry, q1⟩ => thn (ho.run pins s1 σ H1 _ I1 q1) fun u s2 ⟨x, H2, I2, rx, a, b, kws, k, ex, ey, g, hb, q2⟩ => ?_⟩
  subst ex ey
  cases rx
  cases ry
  obtain ⟨z, hd, xs, rel, dd⟩ := g.dict I2
  refine wpAny_in_heap (tupleKind_room_in1 hu) (keyI I2 hb) hd dd ⟨_, H2, I2.tok _, ?_, q2⟩
  rw [ents_sm rel, Bool.false_xor]
  exact rfl
theorem pc_rnotin {o i : Expr} {td ty : TE} (hu : X.A.units + 1 < cLine) (hi : PE X i ty) (ho : PE X o td) : PC X .NotIn i o (tRIn X.K true ty td) := by
  refine ⟨fun pins s σ H Q I h => thn (hi.run pins s σ H _ I h) fun iv s1 ⟨y, H1, I1, ry, q1⟩ => thn (ho.run pins s1 σ H1 _ I1 q1) fun u s2 ⟨x, H2, I2, rx, a, b, kws, k, ex, ey, g, hb, q2⟩ => ?_⟩
  subst ex ey
  cases rx
  cases ry
  obtain ⟨z, hd, xs, rel, dd⟩ := g.dict I2
  refine wpAny_notIn_heap (tupleKind_room_in1 hu) (keyI I2 hb) hd dd ⟨_, H2, I2.tok _, ?_, q2⟩
  rw [ents_sm rel, Bool.true_xor]
  exact rfl
theorem raw_write {pins : List (Addr × Obj)} {σ : List (Option V)} {H : Hp} {s : Shared} {a : Addr} {kws kws' : Kws} {h' : Heap} {t' : Nat} (I : Inv X pins σ H s) (e : H a = some (rawO a kws)) (hs : Heap.SameBut a s.heap h') (he : ∃ q, h'.get? a = some q) (new : rawP a kws' h') :
    Inv X pins σ (upd H a (rawO a kws')) { s with heap := h', toks := t' } := d_write I (by rw [e]; exact True.intro) hs he (raw_ok new)
def sRPut (K : PySem.W.Frag) (td ty tv : TE) : TS := fun D σ H => tv σ H fun v H1 => td σ H1 fun x H2 => ty σ H2 fun y H3 => ∃ a b kws k, x = .ref a ∧ y = .ref b ∧ H3 a = some (rawO a kws) ∧ DG K H3 a kws ∧ SqT K H3 b (k.map V.int) ∧ kws.length < sizeLine ∧ D.nx σ (upd H3 a (rawO a (putW kws k b v)))
theorem ps_rput {o i value : Expr} {pos pos' : Pos} {td ty tv : TE} (hu : X.A.units + 1 < cLine) (ho : PE X o td) (hi : PE X i ty) (hv : PE X value tv) (hs : swapsWith value (some (.Subscript o i pos')) pos.line X.env = pure false) :
    PS X (.Assign [.Subscript o i pos'] value pos) (sRPut X.K td ty tv) := by
  refine ⟨fun pins s σ H D I h => wpAny_Assign_Subscript (thn (hv.run pins s σ H _ I h) fun r s1 ⟨v, H1, I1, rv, q1⟩ => thn (ho.run pins s1 σ H1 _ I1 q1) fun u s2 ⟨x, H2, I2, rx, q2⟩ => thn (hi.run pins s2 σ H2 _ I2 q2) fun iv s3 ⟨y, H3, I3, ry, a, b, kws, k, ex, ey, e, g, hb, hl, q3⟩ => ?_) hs⟩
  subst ex ey
  cases rx
  cases ry
  obtain ⟨z, hd, xs, rel, dd⟩ := g.dict I3
  have hz : xs.length ≤ sizeLine := by rw [← Paired.length rel]; exact z
  have hl2 : (putW kws k b v).length ≤ sizeLine := by have := putW_le kws k b v; omega
  refine wpAny_setItem_heap (hsz := hz) (tupleKind_room_in1 hu) (keyI I3 hb) dd fun h' dd' hs => ?_
  have he : ∃ q, h'.get? a = some q := let ⟨q, _, _, hq, _⟩ := dd'; ⟨q, hq⟩
  exact ⟨σ, _, raw_write I3 e hs he (raw_new hl2 hd (ents_put rel k b rv) dd'), q3⟩
def tyRaw (K : PySem.W.Frag) : V → Hp → Prop := fun x H => ∃ a kws, x = .ref a ∧ DG K H a kws
theorem ty_raw : TyR X "dict" (tyRaw X.K) := by
  intro pins σ H s x v I r h
  obtain ⟨a, kws, rfl, g⟩ := h
  cases r
  obtain ⟨z, hd, xs, rel, o, es, ep, e, c, _⟩ := g.dict I
  exact ⟨⟨o, e, c.1⟩, fun b z => by cases z; exact ⟨o, e, c.2.1⟩⟩
def rGetR1 (K : PySem.W.Frag) : V → List V → Hp → VK → Prop := fun x xs H Q => ∃ a b kws k, x = .ref a ∧ xs = [.ref b] ∧ DG K H a kws ∧ SqT K H b (k.map V.int) ∧ Q ((atW kws k).getD .non) H
theorem mt_rget1 (hu : X.A.units + 1 < cLine) : MtR X "dict.get" (rGetR1 X.K) := by
  intro pins s σ H x xs v us Q I rx rxs h
  obtain ⟨a, b, kws, k, rfl, rfl, g, hb, q⟩ := h
  cases rx
  obtain ⟨u, rfl, ru⟩ := rxs.one
  cases ru
  obtain ⟨z, hd, xs, rel, dd⟩ := g.dict I
  exact call_meetsIn PySem.F.slot_dict_get dd.typeIs PySem.F.entry_dict_get (PySem.F.args_dict_get_2 _ _) (meetsH_dict_get (kd X) a b hd) ⟨tupleKind_room_in1 hu, k, xs, keyI I hb, dd, _, H, I.tok _, (ents_at rel k).getD (show RelV .non .none from rfl), q⟩
def rGetR2 (K : PySem.W.Frag) : V → List V → Hp → VK → Prop := fun x xs H Q => ∃ a b d kws k, x = .ref a ∧ xs = [.ref b, d] ∧ DG K H a kws ∧ SqT K H b (k.map V.int) ∧ Q ((atW kws k).getD d) H
theorem mt_rget2 (hu : X.A.units + 1 < cLine) : MtR X "dict.get" (rGetR2 X.K) := by
  intro pins s σ H x xs v us Q I rx rxs h
  obtain ⟨a, b, d, kws, k, rfl, rfl, g, hb, q⟩ := h
  cases rx
  obtain ⟨u1, u2, rfl, r1, r2⟩ := vals2 rxs
  cases r1
  obtain ⟨z, hd, xs, rel, dd⟩ := g.dict I
  exact call_meetsIn PySem.F.slot_dict_get dd.typeIs PySem.F.entry_dict_get (PySem.F.args_dict_get_3 _ _ _) (meetsH_dict_get_default (kd X) a b hd u2) ⟨tupleKind_room_in1 hu, k, xs, keyI I hb, dd, _, H, I.tok _, (ents_at rel k).getD r2, q⟩
def rSetD (K : PySem.W.Frag) : V → List V → Hp → VK → Prop := fun x xs H Q => ∃ a b d kws k, x = .ref a ∧ xs = [.ref b, d] ∧ H a = some (rawO a kws) ∧ DG K H a kws ∧ SqT K H b (k.map V.int) ∧ kws.length < sizeLine ∧
  (∀ v, atW kws k = some v → Q v H) ∧ (atW kws k = none → Q d (upd H a (rawO a (putW kws k b d))))
theorem mt_setd (hu : X.A.units + 1 < cLine) : MtR X "dict.setdefault" (rSetD X.K) := by
  intro pins s σ H x xs v us Q I rx rxs h
  obtain ⟨a, b, d, kws, k, rfl, rfl, e, g, hb, hl, q1, q2⟩ := h
  cases rx
  obtain ⟨u1, u2, rfl, r1, r2⟩ := vals2 rxs
  cases r1
  obtain ⟨z, hd, xs, rel, dd⟩ := g.dict I
  have hz : xs.length ≤ sizeLine := by rw [← Paired.length rel]; exact z
  have ra := ents_at rel k
  refine call_setdefault_heap (hsz := hz) (tupleKind_room_in1 hu) (keyI I hb) hd dd (fun p hp => ?_) fun hn h' dd' hs => ?_
  · rw [hp] at ra
    cases ev : atW kws k with
    | none =>
      rw [ev] at ra
      exact (show False from ra).elim
    | some v0 =>
      rw [ev] at ra
      exact ⟨v0, H, I.tok _, ra, q1 v0 ev⟩
  · rw [hn] at ra
    have en : atW kws k = none := by
      cases ev : atW kws k with
      | none => rfl
      | some v0 =>
        rw [ev] at ra
        exact (show False from ra).elim
    have hl2 : (putW kws k b d).length ≤ sizeLine := by have := putW_le kws k b d; omega
    have he : ∃ q, h'.get? a = some q := let ⟨q, _, _, hq, _⟩ := dd'; ⟨q, hq⟩
    exact ⟨d, _, raw_write I e hs he (raw_new hl2 hd (ents_put rel k b r2) dd'), r2, q2 en⟩
end
end Dx
end

section
set_option Elab.async false
set_option linter.all false
set_option maxRecDepth 100000
set_option maxHeartbeats 4000000
namespace Dx
open PySem PySem.Spec PyProof.Rows L2 Evl RZ
/-! ### a dict that is changed no more: its object is known from here on -/
def tLockP (t : TS) : TS := fun D σ H => ∃ d u, H d = some u ∧ Mut (some u) ∧ ∀ od, t D σ (upd H d (.frz od u))
theorem ps_lockP {X : Cx} {st : Stmt} {t : TS} (h : PS X st t) : PS X st (tLockP t) :=
  ⟨fun pins s σ H D I ⟨d, u, hd, mu, hw⟩ => let ⟨od, I1⟩ := I.lock hd mu; h.run pins s σ _ D I1 (hw od)⟩
/-! ### its pairs, one by one -/
def Iri (d : Addr) (o : Obj) (kws : Kws) : It :=
  ⟨fun i H => H d = some (.frz o (rawO d kws)) ∧ i < kws.length, fun i H x H' => ∃ T p, kws[i]? = some p ∧ x = .ref T ∧ H T = none ∧ H' = upd H T (.tup [.ref p.2.1, p.2.2]), fun i H => H d = some (.frz o (rawO d kws)) ∧ kws.length ≤ i⟩
theorem frz_raw {X : Cx} {pins : List (Addr × Obj)} {σ : List (Option V)} {H : Hp} {s : Shared} {d : Addr} {o : Obj} {kws : Kws} (I : Inv X pins σ H s) (e : H d = some (.frz o (rawO d kws))) :
    (d == sysModules) = false ∧ s.heap.get? d = some o ∧ o.ExactDict ∧ ∃ es ep, o.data = .dict es ep ∧ es.size = kws.length ∧ ∀ (i : Nat) p, kws[i]? = some p → ∃ en : DictEntry, es[i]? = some en ∧ en.key = .ref p.2.1 ∧ RelV p.2.2 en.val := by
  obtain ⟨g, q, _⟩ := I.hok d _ e
  obtain ⟨_, hs, xs, r, o', es, ep, g', hx, hdt, he, _⟩ := q
  rw [g] at g'
  cases g'
  refine ⟨hs, g, hx, es, ep, hdt, ?_, fun i p hp => ?_⟩
  · rw [← Array.length_toList, he, List.length_map]
    exact (Paired.length r).symm
  · obtain ⟨x, hx', e1, e2, e3⟩ := paired_get r hp
    refine ⟨entI x, ?_, ?_, e3⟩
    · rw [← Array.getElem?_toList, he, List.getElem?_map, hx']
      rfl
    · show Value.ref x.2.1 = _
      rw [e2]
theorem turn_raw {P : Program} {w : World} {K : PySem.W.Frag} {d : Addr} {o : Obj} {es : Array DictEntry} {ep : Nat} {kws : Kws} {elts : List Expr} {kk : Nat} {tpos : Pos} (it : Addr) (hod : o.data = .dict es ep) :
    Turn P w K (.Tuple elts kk tpos) (Iri d o kws) [it] it (fun i h => ∃ k v, IsItemIter h it d i kws.length ep k v) where
  mem := List.mem_cons_self
  obj := by
    rintro i h ⟨k, v, e⟩ b hb
    rw [List.mem_singleton.mp hb]
    exact ⟨_, e, fun v z => nomatch z⟩
  keep := by
    rintro i h h' ⟨k, v, e⟩ keep
    exact ⟨k, v, keep it List.mem_cons_self _ e⟩
  item := by
    intro X hP hw hK hc i pins s σ H E I hf st hg
    subst hP hw hK
    obtain ⟨hd, hi⟩ := hg
    obtain ⟨hs, g, hx, es', ep', hdt, hz, ent⟩ := frz_raw I hd
    rw [hod] at hdt
    cases hdt
    obtain ⟨p, hp⟩ : ∃ p, kws[i]? = some p := ⟨_, List.getElem?_eq_getElem hi⟩
    obtain ⟨en, he, ek, ev⟩ := ent i p hp
    have hlt : i < es.size := by omega
    rw [Array.getElem?_eq_getElem hlt] at he
    cases he
    obtain ⟨k0, v0, hit⟩ := st
    rw [← hz] at hit
    have itl : it < s.heap.objs.size := Heap.lt_size hit
    refine wpAny_pyNext_items_item_raw hit ⟨o, g, hx, hod⟩ hlt fun h' out tup sz kp => ⟨_, rfl, wpAny_letOwnedTupleGo_items (s := { s with heap := h' }) out fun h2 it2 sb => ?_⟩
    have tup2 : h2.get? s.heap.objs.size = some { cls := .type "tuple", data := .seq #[es[i].key, es[i].val] } := (sb.2 _ (Nat.ne_of_gt itl)).trans tup
    have new : ObjOk X.prog X.w (upd H s.heap.objs.size (.tup [.ref p.2.1, p.2.2])) h2 s.heap.objs.size (.tup [.ref p.2.1, p.2.2]) :=
      ⟨by show 2 ≤ sizeLine; decide, [es[i].key, es[i].val], .cons ek (.cons ev .nil), _, tup2, rfl, _, rfl⟩
    have I2 : Inv X pins σ (upd H s.heap.objs.size (.tup [.ref p.2.1, p.2.2])) { s with heap := h2 } :=
      I.turnedNew (t' := s.toks) (ch := [it]) (fun b ob hb e => (sb.2 b (fun z => hb (by rw [z]; exact List.mem_cons_self))).trans (kp b ob (fun z => hb (by rw [z]; exact List.mem_cons_self)) e)) hf (Nat.le_refl _) new
    refine ⟨.ref s.heap.objs.size, _, I2, rfl, ⟨_, p, hp, rfl, I.hok.fresh (Nat.le_refl _), rfl⟩, ⟨_, _, hz ▸ it2⟩, fun b hb => ?_⟩
    rw [List.mem_singleton.mp hb, upd_ne (Nat.ne_of_lt itl)]
    exact (hf it List.mem_cons_self).1
  done := by
    intro X hP hw hK hc i pins s σ H E I hf st hg
    subst hP hw hK
    obtain ⟨hd, hi⟩ := hg
    obtain ⟨f0, f1, f2, f3, f4, f5⟩ := hf it List.mem_cons_self
    obtain ⟨hs, g, hx, es', ep', hdt, hz, ent⟩ := frz_raw I hd
    rw [hod] at hdt
    cases hdt
    obtain ⟨k0, v0, hit⟩ := st
    rw [← hz] at hit
    exact wpAny_pyNext_items_end_raw (I.ok.hd hc) hit ⟨o, g, hx, hod⟩ (by omega) fun h' eb => ⟨rfl, I.turned (t' := s.toks) eb f0 f1 f3 f4 f5⟩
  self := by
    rintro A i s Q E ⟨k, v, e⟩ h
    exact PySem.W.kcp_self e h
def iRItems (td : TE) : TI := fun σ H R => td σ H fun x H1 => ∃ d o kws, x = .ref d ∧ H1 d = some (.frz o (rawO d kws)) ∧ R (Iri d o kws) H1
theorem pi_ritems {X : Cx} {e : Expr} {td : TE} {apos cpos : Pos} {elts : List Expr} {kk : Nat} {tpos : Pos} (he : PE X e td) (hbase : attributeBase e "items" X.env (eval e X.env) = eval e X.env := by rfl) (hline : (apos.endLine == cpos.line) = true := by rfl) :
    PI X (.Tuple elts kk tpos) (.Call (.Attribute e "items" apos) [] [] cpos) (iRItems td) := by
  refine ⟨fun pins s σ H R I h => wpAny_Call_method (T := "dict") (id := "dict.items") hbase rfl hline F.plainAttrs_dict F.slot_dict_items F.type_dict_items (thn (he.run pins s σ H _ I h) fun u s1 ⟨x, H1, I1, rx, d, o, kws, ex, hd, q⟩ => ?_)⟩
  subst ex
  cases rx
  obtain ⟨hs, g, hx, es, ep, hdt, hz, ent⟩ := frz_raw I1 hd
  have ty : s1.TypeIs (.ref d) "dict" := ⟨o, g, hx.1⟩
  have raw : Heap.DictRaw s1.heap d es ep := ⟨o, g, hx, hdt⟩
  refine ⟨ty, fun b z => by cases z; exact ⟨o, g, hx.2.1⟩, ?_⟩
  have I2 : Inv X pins σ H1 { s1 with heap := s1.heap.push { cls := .type "dict_items", data := .fields #[.ref d] } } := I1.kept (t' := s1.toks) fun b ob q => Heap.get?_push_of_some _ q
  have fin : wpAny (model X.prog X.w) X.A (pyIter (.ref s1.heap.objs.size)) (PIE X pins σ (.Tuple elts kk tpos) R) X.xe { s1 with heap := s1.heap.push { cls := .type "dict_items", data := .fields #[.ref d] } } := by
    refine wpAny_pyIter_items_raw (d := d) ⟨_, Heap.get?_push_size _ rfl, rfl, rfl⟩ (raw.at fun ob e => Heap.get?_push_of_some _ e) (pi_one (tk := s1.toks) I2 _ (turn_raw _ hdt) ⟨.none, .none, ?_⟩ q)
    rw [← hz]
    exact Heap.get?_push_size _ rfl
  show wpAny _ _ (callWith cpos (.builtin "dict.items") [.ref d] [] []) _ X.xe s1
  exact method_meetsIn F.slot_dict_items F.entry_dict_items rfl (PySem.evalArgs_none ⟨rfl, ty, F.args_dict_items_1 _, _, meets_dict_items_raw d hs, ⟨es, ep, raw⟩, fin⟩)
end Dx
end

section
set_option Elab.async false
set_option linter.all false
set_option maxRecDepth 100000
set_option maxHeartbeats 4000000
namespace Dx
open PySem PySem.Spec PyProof.Rows L2 Evl RZ
section
variable {X : Cx}
/-! ### the least of a list of alike data -/
theorem toD_inj {α : Type} [DecidableEq α] [PySem.W.DatumOrd α] {a b : α} (h : PySem.W.Datum.toD a = PySem.W.Datum.toD b) : a = b := by
  have e1 := PySem.W.Datum.eqv a b
  have e2 := PySem.W.Datum.eqv a a
  rw [← h, e2, decide_eq_true rfl] at e1
  exact of_decide_eq_true e1.symm
def rMinA (α : Type) [DecidableEq α] [PySem.W.DatumOrd α] (K : PySem.W.Frag) : List V → Hp → VK → Prop := fun us H Q => ∃ (a : Addr) (vs : List V) (x : α) (xs : List α), us = [.ref a] ∧ SqL K H a vs ∧ DpAll K H vs ((x :: xs).map PySem.W.Datum.toD) ∧ PySem.W.Datum.depth α ≤ 60 ∧
  ∀ (i : Nat) v, vs[i]? = some v → (x :: xs)[i]? = some (PySem.W.minOf x xs) → Q v H
theorem cr_minA {α : Type} [DecidableEq α] [PySem.W.DatumOrd α] (hc : X.calm = true) (hu : X.A.units + 64 < cLine) : CallR X (.builtin "min") (rMinA α X.K) := by
  intro pins s σ H us ws Q I r h
  obtain ⟨a, vs, x, xs, rfl, hl, hd, hdep, q⟩ := h
  obtain ⟨u, rfl, ru⟩ := vals1 r
  cases ru
  obtain ⟨its, rv, pl, hz⟩ := I.list hl
  obtain ⟨as, ra⟩ := Dp.readsAll I _ _ _ hd rv
  rw [List.map_cons] at ra
  have ra' : ReadsAll s.heap its.toArray.toList (PySem.W.Datum.toD x :: xs.map PySem.W.Datum.toD) as := by simpa using ra
  have hdp : PyData.depthAll (PySem.W.Datum.toD x :: xs.map PySem.W.Datum.toD) ≤ 60 := by
    have : ∀ l : List α, PyData.depthAll (l.map PySem.W.Datum.toD) ≤ 60 := by
      intro l
      induction l with
      | nil => exact Nat.zero_le _
      | cons y l ih =>
        show max (PySem.W.Datum.toD y).depth (PyData.depthAll (l.map PySem.W.Datum.toD)) ≤ 60
        have := PySem.W.Datum.depth_le y
        omega
    exact this (x :: xs)
  refine PySem.W.min_list_data (I.ok.hd hc) pl.isList ra' (by have := PySem.W.alikeAll_datum (x :: xs); rw [List.map_cons] at this; exact this) (by omega) fun i v h' tk bs hv rd kp => ?_
  rw [PySem.W.minD_map] at rd
  have hv2 : its[i]? = some v := by simpa using hv
  obtain ⟨bs', rd2, hi, _, _⟩ := PySem.W.readsAll_at ra i v hv2
  have e := (Reads.unique rd _ _ (PySem.W.reads_keeps kp rd2)).1
  have hi2 : i < (x :: xs).length := by simpa using hi
  have e2 : (PySem.W.Datum.toD x :: xs.map PySem.W.Datum.toD).getD i .none = PySem.W.Datum.toD ((x :: xs)[i]) := by
    rw [← List.map_cons, List.getD_eq_getElem?_getD, List.getElem?_map, List.getElem?_eq_getElem hi2]
    rfl
  rw [e2] at e
  have e3 := toD_inj e
  have hiv : i < vs.length := by rw [rv.length]; exact (List.getElem?_eq_some_iff.mp hv2).1
  obtain ⟨u', hu', ru'⟩ := rv.get (List.getElem?_eq_getElem hiv)
  rw [hv2] at hu'
  cases hu'
  exact ⟨vs[i], H, I.kept (t' := tk) kp, ru', q i _ (List.getElem?_eq_getElem hiv) (by rw [List.getElem?_eq_getElem hi2, e3])⟩
/-! ### dict(pairs), d.update(d2), sorted(d) -/
theorem stored_nodup {xs : List (List Int × Addr × Value)} : ∀ {ps : List (List Int × Addr × Value)}, (xs ++ ps).map (·.1) |>.Nodup → storedAllH xs ps = xs ++ ps
  | ps, h => by
    induction ps generalizing xs with
    | nil => exact (List.append_nil xs).symm
    | cons p ps ih =>
      have e : storedAllH xs (p :: ps) = storedAllH (storedH xs p.1 p.2.1 p.2.2) ps := rfl
      have hn : atKey xs p.1 = none := by
        unfold atKey
        rw [Option.map_eq_none_iff, List.find?_eq_none]
        intro x hx he
        rw [List.map_append, List.nodup_append] at h
        exact h.2.2 x.1 (List.mem_map.mpr ⟨x, hx, rfl⟩) p.1 (List.mem_map.mpr ⟨p, List.mem_cons_self, rfl⟩) (of_decide_eq_true he)
      rw [e, storedH_new hn, ih (by rw [List.append_assoc]; exact h), List.append_assoc]
      rfl
def PairsR (K : PySem.W.Frag) (H : Hp) : List Addr → Kws → Prop := Paired fun T p => SqT K H T [.ref p.2.1, p.2.2] ∧ SqT K H p.2.1 (p.1.map V.int)
def rDictP (K : PySem.W.Frag) : List V → Hp → VK → Prop := fun us H Q => ∃ a Ts ps, us = [.ref a] ∧ SqL K H a (Ts.map V.ref) ∧ PairsR K H Ts ps ∧ (ps.map (·.1)).Nodup ∧ ∀ q, H q = none → Q (.ref q) (upd H q (rawO q ps))
theorem pairs_vals {pins : List (Addr × Obj)} {σ : List (Option V)} {H : Hp} {s : Shared} (I : Inv X pins σ H s) : ∀ {Ts : List Addr} {ps : Kws}, PairsR X.K H Ts ps → ∃ xs : List (List Int × Addr × Value), Ents ps xs ∧ xs.length = Ts.length ∧ ∀ (j : Nat) (T : Addr) (x : List Int × Addr × Value), Ts[j]? = some T → xs[j]? = some x → IsTup s.heap T #[.ref x.2.1, x.2.2] := by
  intro Ts ps r
  induction r with
  | nil => exact ⟨[], .nil, rfl, fun j T x h => by simp at h⟩
  | @cons T p Ts ps h t ih =>
    obtain ⟨xs, e, l, f⟩ := ih
    obtain ⟨its, rv, ht, _⟩ := I.tuple h.1
    obtain ⟨u1, u2, rfl, r1, r2⟩ := vals2 rv
    cases r1
    refine ⟨(p.1, p.2.1, u2) :: xs, .cons ⟨rfl, rfl, r2⟩ e, by rw [List.length_cons, List.length_cons, l], fun j T' x h1 h2 => ?_⟩
    cases j with
    | zero =>
      cases h1
      cases h2
      exact ht
    | succ j => exact f j T' x h1 h2
theorem ents_keys {ps : Kws} {xs : List (List Int × Addr × Value)} (r : Ents ps xs) : ps.map (·.1) = xs.map (·.1) := by
  induction r with
  | nil => rfl
  | cons h t ih => rw [List.map_cons, List.map_cons, h.1, ih]
theorem refs_eq : ∀ {Ts : List Addr} {its : List Value}, Vals (Ts.map V.ref) its → its = Ts.map Value.ref
  | [], _, r => by
    cases r
    rfl
  | T :: Ts, _, r => by
    cases r with
    | cons h t =>
      cases h
      rw [List.map_cons, refs_eq t]
theorem cr_dictP (hc : X.calm = true) (hu : X.A.units + 3 < cLine) : CallR X (.type "dict") (rDictP X.K) := by
  intro pins s σ H us ws Q I r h
  obtain ⟨a, Ts, ps, rfl, hl, hp, hn, q⟩ := h
  obtain ⟨u, rfl, ru⟩ := vals1 r
  cases ru
  obtain ⟨its, rv, pl, hz⟩ := I.list hl
  obtain ⟨xs, re, lx, hx⟩ := pairs_vals I hp
  have lT : Ts.length = ps.length := Paired.length hp
  have ei : its = Ts.map Value.ref := refs_eq rv
  subst ei
  have lz : (Ts.map V.ref).length = Ts.length := List.length_map _
  rw [lz] at hz
  obtain ⟨o, n, e, c, dn, dt⟩ := pl
  have keyOk : ∀ x ∈ xs, ∃ p ∈ ps, p.1 = x.1 ∧ p.2.1 = x.2.1 := ents_mem re
  have allK : ∀ {ps : Kws} {Ts : List Addr}, PairsR X.K H Ts ps → ∀ p ∈ ps, SqT X.K H p.2.1 (p.1.map V.int) := by
    intro ps Ts hp
    induction hp with
    | nil => exact fun p hp => nomatch hp
    | cons h t ih =>
      intro p hp
      rcases List.mem_cons.mp hp with rfl | hp
      · exact h.2
      · exact ih p hp
  have items : PairItems s.heap (Ts.map Value.ref).toArray (fun j => Ts.getD j 0) (xs.map fun x => (Value.ref x.2.1, x.2.2)) := by
    refine ⟨by rw [List.size_toArray, List.length_map, List.length_map, lx], fun j k v hj => ?_⟩
    rw [List.getElem?_map] at hj
    obtain ⟨x, hxj, ex⟩ := Option.map_eq_some_iff.mp hj
    cases ex
    have hjl : j < Ts.length := by rw [← lx]; exact (List.getElem?_eq_some_iff.mp hxj).1
    have hT : Ts[j]? = some (Ts.getD j 0) := by rw [List.getD_eq_getElem?_getD, List.getElem?_eq_getElem hjl] <;> rfl
    refine ⟨by simp only [List.getElem?_toArray]; rw [List.getElem?_map, hT] <;> rfl, .inl ?_⟩
    obtain ⟨o', e', c', n', d'⟩ := hx j _ x hT hxj
    exact ⟨o', e', c', n', d'⟩
  have kst : ∀ h', (∀ b o, s.heap.get? b = some o → b ≠ s.heap.objs.size → h'.get? b = some o) → ∀ x ∈ xs, (kd X).is h' x.1 x.2.1 := fun h' k x hx => by
    obtain ⟨p, hp', e1, e2⟩ := keyOk x hx
    obtain ⟨o1, it1, n1, g1, g2, g3, g4⟩ := keyI I (allK hp p hp')
    rw [e1, e2] at *
    exact ⟨o1, it1, n1, k _ _ g1 (Nat.ne_of_lt (Heap.lt_size g1)), g2, g3, g4⟩
  have hlen : (xs.map fun x => (Value.ref x.2.1, x.2.2)).length = xs.length := List.length_map _
  refine call_dict_pairsH (knd := kd X) (ps := xs) (PairArg.list a (Ts.map Value.ref).toArray (fun j => Ts.getD j 0) (xs.map fun x => (Value.ref x.2.1, x.2.2))) (I.ok.hd hc) (by show X.A.units + 1 + 1 < cLine; omega) ⟨⟨o, n, e, c, dn, dt⟩, items⟩ ⟨by rw [hlen], fun i key v hr => ?_⟩ (fun h' hk x hx => kst h' (fun b o e hb => hk b o hb (fun z => nomatch z) e) x hx) (by rw [hlen, lx]; exact hz) fun h' tk dd hk => ?_
  · have hr' : (xs.map fun x => (Value.ref x.2.1, x.2.2))[i]? = some (key, v) := hr
    rw [List.getElem?_map] at hr'
    obtain ⟨x, h1, h2⟩ := Option.map_eq_some_iff.mp hr'
    cases h2
    exact ⟨x.1, x.2.1, h1, rfl⟩
  · have en : storedAllH [] xs = xs := stored_nodup (xs := []) (by rw [List.nil_append, ← ents_keys re]; exact hn)
    rw [en] at dd
    have big := I.big
    refine ⟨.ref s.heap.objs.size, _, I.laid (t' := tk) (o := rawO s.heap.objs.size ps) (fun b o e => hk b o (fun z => nomatch z) e) (Nat.le_refl _) (raw_ok (raw_new (X := X) (by rw [← lT]; exact hz) (beq_eq_false_iff_ne.mpr (Ne.symm (Nat.ne_of_lt big))) re dd)), rfl, q _ (I.hok.fresh (Nat.le_refl _))⟩
/-- d.update(d2) -/
def putAll (kws more : Kws) : Kws := more.foldl (fun acc p => putW acc p.1 p.2.1 p.2.2) kws
theorem putAll_le (more : Kws) : ∀ kws : Kws, (putAll kws more).length ≤ kws.length + more.length := by
  induction more with
  | nil => exact fun kws => Nat.le_refl _
  | cons p more ih =>
    intro kws
    have h1 := ih (putW kws p.1 p.2.1 p.2.2)
    have h2 := putW_le kws p.1 p.2.1 p.2.2
    show (putAll (putW kws p.1 p.2.1 p.2.2) more).length ≤ _
    rw [List.length_cons]
    omega
theorem ents_all {more : Kws} {ys : List (List Int × Addr × Value)} (r2 : Ents more ys) : ∀ {kws : Kws} {xs : List (List Int × Addr × Value)}, Ents kws xs → Ents (putAll kws more) (storedAllH xs ys) := by
  induction r2 with
  | nil => exact fun r => r
  | @cons p y ps ys h t ih =>
    intro kws xs r
    obtain ⟨e1, e2, e3⟩ := h
    have := ents_put r p.1 p.2.1 e3
    rw [e1, e2] at this
    show Ents (putAll (putW kws p.1 p.2.1 p.2.2) ps) (storedAllH (storedH xs y.1 y.2.1 y.2.2) ys)
    rw [e1, e2]
    exact ih this
def rUpdR (K : PySem.W.Frag) : V → List V → Hp → VK → Prop := fun x xs H Q => ∃ d o kws more, x = .ref d ∧ xs = [.ref o] ∧ H d = some (rawO d kws) ∧ DG K H d kws ∧ DG K H o more ∧ d ≠ o ∧ (more.map fun p => hashI p.1).Nodup ∧ kws.length + more.length ≤ sizeLine ∧
  Q .non (upd H d (rawO d (putAll kws more)))
theorem mt_rupd (hu : X.A.units + 1 < cLine) : MtR X "dict.update" (rUpdR X.K) := by
  intro pins s σ H x xs v us Q I rx rxs h
  obtain ⟨d, o, kws, more, rfl, rfl, e, g1, g2, hne, hh, hl, q⟩ := h
  cases rx
  obtain ⟨u, rfl, ru⟩ := rxs.one
  cases ru
  obtain ⟨z1, hd1, xs1, rel1, dd1⟩ := g1.dict I
  obtain ⟨z2, hd2, xs2, rel2, dd2⟩ := g2.dict I
  have l1 := Paired.length rel1
  have l2 := Paired.length rel2
  refine call_update_dictH (knd := kd X) (tupleKind_room_in1 hu) hne hd2 dd1 dd2 (.inr ⟨fun x hx => ?_, ?_⟩) (by omega) fun h' dd' dd2' hs => ?_
  · obtain ⟨_, _, _, _, _, _, _, his, _⟩ := dd2
    obtain ⟨ob, it, n, h1, h2, _⟩ := his x hx
    exact ⟨ob, h1, h2⟩
  · have : (xs2.map fun x => (kd X).hash x.1) = more.map fun p => hashI p.1 := by
      have e := congrArg (List.map hashI) (ents_keys rel2)
      rw [List.map_map, List.map_map] at e
      exact e.symm
    rw [this]
    exact hh
  · have he : ∃ q, h'.get? d = some q := let ⟨q, _, _, hq, _⟩ := dd'; ⟨q, hq⟩
    exact ⟨.non, _, raw_write (t' := s.toks) I e hs he (raw_new (Nat.le_trans (putAll_le more kws) hl) hd1 (ents_all rel2 rel1) dd'), rfl, q⟩
/-- sorted(d): the keys, none of them empty, in some order -/
def rSortR (K : PySem.W.Frag) : List V → Hp → VK → Prop := fun us H Q => ∃ a kws, us = [.ref a] ∧ DG K H a kws ∧ (∀ p ∈ kws, p.1 ≠ []) ∧ ∀ ys p, ys.Perm (kws.map fun w => V.ref w.2.1) → H p = none → Q (.ref p) (upd H p (.lst ys))
theorem items_ints {i : Nat} : ∀ {ns : List Int} {us : List Value}, Vals (ns.map V.int) us → ∃ l, PyProof.Rows.tupItems (fun _ => false) i us = some l
  | [], _, r => by
    cases r
    exact ⟨[], rfl⟩
  | n :: ns, _, r => by
    cases r with
    | cons h t =>
      obtain ⟨tk, rfl⟩ := h
      obtain ⟨l, hl⟩ := items_ints (i := i + 1) t
      exact ⟨_, by show (if false = true then none else (PyProof.Rows.tupItems (fun _ => false) (i + 1) _).map _) = _; rw [if_neg (by decide), hl]; rfl⟩
theorem tup_one {pins : List (Addr × Obj)} {σ : List (Option V)} {H : Hp} {s : Shared} {b : Addr} {ns : List Int} (I : Inv X pins σ H s) (h : SqT X.K H b (ns.map V.int)) (hn : ns ≠ []) : (∃ f, PyProof.Rows.TupOf s.heap (fun _ => false) (.ref b) f) ∧ ∃ l, PyProof.Rows.G.tupKeyC s.heap (fun _ => false) (.ref b) = some l := by
  obtain ⟨its, r, ⟨o, e, c, n, d⟩, _⟩ := I.tuple h
  obtain ⟨l, hl⟩ := items_ints (i := 0) r
  refine ⟨?_, l, ?_⟩
  · cases ns with
    | nil => exact absurd rfl hn
    | cons k ns =>
      cases r with
      | @cons _ f _ _ h1 t =>
        obtain ⟨tk, rfl⟩ := h1
        exact ⟨_, b, o, _, n, rfl, e, c, d, rfl, fun _ => ⟨k, tk, rfl⟩, fun z => nomatch z⟩
  · unfold PyProof.Rows.G.tupKeyC PyProof.Rows.G.isTupObj PyProof.Rows.tupKey
    simp only [e, c, d]
    rw [if_pos (by decide)]
    exact hl
theorem tups_all {h : Heap} : ∀ {vs : List Value}, (∀ v ∈ vs, ∃ f, PyProof.Rows.TupOf h (fun _ => false) v f) → ∃ fs, PyProof.Rows.TupsOf h (fun _ => false) vs fs
  | [], _ => ⟨[], .nil⟩
  | v :: vs, hv => by
    obtain ⟨f, hf⟩ := hv v List.mem_cons_self
    obtain ⟨fs, hfs⟩ := tups_all fun u hu => hv u (List.mem_cons_of_mem _ hu)
    exact ⟨f :: fs, .cons hf hfs⟩
theorem cr_sortR (hc : X.calm = true) : CallR X (.builtin "sorted") (rSortR X.K) := by
  intro pins s σ H us ws Q I r h
  obtain ⟨a, kws, rfl, g, hne, q⟩ := h
  obtain ⟨u, rfl, ru⟩ := vals1 r
  cases ru
  obtain ⟨z, lo, xs, rel, o, es, ep, ho, hx, hdt, hes, his, hn⟩ := g.dict I
  have lk : kws.length = xs.length := Paired.length rel
  have le : es.size = xs.length := size_of_entries hes
  refine Calls.call_function_entry PyProof.Rows.kind_sorted PyProof.Rows.plain_sorted PyProof.Rows.entry_sorted (PyProof.Rows.args_sorted1 _) ?_
  unfold Builtin.«sorted»
  refine wpAny_bind (m := checkCount "sorted" 1 1 _) (wpAny_pure ?_)
  refine wpAny_bind (PySem.W.kdu_collect (A := X.A.in1) (KdlSrc.rawDict (d := a) (es := es) (ep := ep) lo) (I.ok.hd hc) ⟨o, ho, hx, hdt⟩ (by omega) fun h' tk acc hk hacc => ?_)
  have el : acc.toList = kws.map fun w => Value.ref w.2.1 := by
    apply List.ext_getElem?
    intro j
    rw [Array.getElem?_toList, List.getElem?_map]
    by_cases hj : j < es.size
    · obtain ⟨v, hv⟩ : ∃ v, acc[j]? = some v := ⟨_, Array.getElem?_eq_getElem (by rw [hacc.1]; exact hj)⟩
      obtain ⟨_, ev⟩ := hacc.2 j v hv
      have e2 := entry_at hes j
      rw [Array.getElem?_eq_getElem hj] at e2
      obtain ⟨x, hx1, hx2⟩ := Option.map_eq_some_iff.mp e2.symm
      obtain ⟨w, hw⟩ : ∃ w, kws[j]? = some w := ⟨_, List.getElem?_eq_getElem (by omega)⟩
      obtain ⟨x', hx', e1, e3, _⟩ := paired_get rel hw
      rw [hx1] at hx'
      cases hx'
      rw [hv, hw, ev, ← hx2]
      show some (Value.ref x.2.1) = some (Value.ref w.2.1)
      rw [e3]
    · rw [Array.getElem?_eq_none (by rw [hacc.1]; omega), List.getElem?_eq_none (by omega)]
      rfl
  have I1 : Inv X pins σ H { s with heap := h', toks := tk } := I.kept hk
  have hal : acc.toList.length = kws.length := by rw [el, List.length_map]
  refine wpAny_bind (wpAny_newList ?_ (by rw [hal]; exact z))
  have hoL : (h'.push (seqObj "list" acc.toList.toArray 0)).get? h'.objs.size = some (seqObj "list" acc.toList.toArray 0) := Heap.get?_push_size _ rfl
  show wpAny _ _ _ _ _ { s with heap := h'.push (seqObj "list" acc.toList.toArray 0), toks := tk }
  have one : ∀ v ∈ acc.toList, (∃ f, PyProof.Rows.TupOf (h'.push (seqObj "list" acc.toList.toArray 0)) (fun _ => false) v f) ∧ ∃ l, PyProof.Rows.G.tupKeyC (h'.push (seqObj "list" acc.toList.toArray 0)) (fun _ => false) v = some l := by
    intro v hv
    rw [el] at hv
    obtain ⟨w, hw, rfl⟩ := List.mem_map.mp hv
    have I2 : Inv X pins σ H { s with heap := h'.push (seqObj "list" acc.toList.toArray 0), toks := tk } := I.kept (t' := tk) fun b ob e => Heap.get?_push_of_some _ (hk b ob e)
    exact tup_one I2 (g.2 w hw) (hne w hw)
  obtain ⟨fs, hfs⟩ := tups_all fun v hv => (one v hv).1
  refine wpAny_bind (wpAny_holding (wpAny_call_entry PyProof.Rows.slot_list_sort ⟨_, hoL, rfl⟩ PyProof.Rows.entry_list_sort
    (PyProof.Rows.G.list_sort_tups (s := { s with heap := h'.push (seqObj "list" acc.toList.toArray 0), toks := tk }) hoL hfs (fun v hv => (one v hv).2) (by rw [hal]; exact z) fun st' p1 _ _ => ⟨_, rfl, ?_⟩) (PyProof.Rows.args_list_sort _)))
  obtain ⟨e', he'⟩ := PyProof.Rows.sortedHeap_at (vs := acc.toList) (out := (arrOf st').map (·.2)) hoL
  have pm : ((arrOf st').map (·.2)).toList.Perm (kws.map fun w => Value.ref w.2.1) := by
    have e1 := (Array.perm_iff_toList_perm.mp p1).map Prod.snd
    rw [pairsOf_toList, List.map_snd_zip (Nat.le_refl _), el] at e1
    rw [Array.toList_map]
    exact e1
  obtain ⟨l', hp, em⟩ := perm_lift (fun w : List Int × Addr × V => Value.ref w.2.1) pm kws rfl
  have hlen : (l'.map fun w => V.ref w.2.1).length ≤ sizeLine := by
    rw [List.length_map, hp.length_eq]
    exact z
  have rv : Vals (l'.map fun w => V.ref w.2.1) ((arrOf st').map (·.2)).toList := by
    rw [← em]
    exact vals_maps (fun w : List Int × Addr × V => V.ref w.2.1) (fun w => Value.ref w.2.1) l' fun _ _ => rfl
  refine wpAny_pure ⟨_, rfl, .ref h'.objs.size, upd H h'.objs.size (.lst (l'.map fun w => V.ref w.2.1)), I1.laid (t' := tk) (fun b u e => ?_) (Nat.le_refl _)
    (show ObjOk X.prog X.w _ _ _ (.lst (l'.map fun w => V.ref w.2.1)) from ⟨hlen, _, e', rv, by rw [Array.toArray_toList]; exact he'⟩), rfl, q _ _ (hp.map _) (I1.hok.fresh (Nat.le_refl _))⟩
  have hb : b < h'.objs.size := Heap.lt_size e
  rw [PyProof.Rows.sortedHeap_old (Nat.ne_of_lt hb) (by rw [size_push']; exact Nat.lt_succ_of_lt hb)]
  exact Heap.get?_push_of_some _ e
end
end Dx
end

section
set_option Elab.async false
set_option linter.all false
set_option maxRecDepth 100000
set_option maxHeartbeats 4000000
/-! Dx: a logic of data over the hand layer: values are data, the heap stays out of sight. -/
namespace Dx
open PySem PySem.Spec PyProof.Rows L2 Evl

/-- data: what a value stands for. tup, lst: objects that the run has made and nobody changes; rtup, rlst: such as may be read only -/
inductive D where
  | non | bl (b : Bool) | int (i : Int) | str (x : Str) | tup (ds : List D) | lst (ds : List D) | rtup (ds : List D) | rlst (ds : List D) | key (ns : List Int)
instance : Inhabited D := ⟨.non⟩

mutual
inductive Da (K : PySem.W.Frag) (H : Hp) : V → D → Prop
  | non : Da K H .non .non
  | bl (b : Bool) : Da K H (.bl b) (.bl b)
  | int (i : Int) : Da K H (.int i) (.int i)
  | str (x : Str) : Da K H (.str x) (.str x)
  | tup {a : Addr} {xs : List V} {ds : List D} : H a = some (.tup xs) → DaAll K H xs ds → Da K H (.ref a) (.tup ds)
  | lst {a : Addr} {xs : List V} {ds : List D} : H a = some (.lst xs) → DaAll K H xs ds → Da K H (.ref a) (.lst ds)
  | rtup {a : Addr} {xs : List V} {ds : List D} : SqT K H a xs → DaAll K H xs ds → Da K H (.ref a) (.rtup ds)
  | rlst {a : Addr} {xs : List V} {ds : List D} : SqL K H a xs → DaAll K H xs ds → Da K H (.ref a) (.rlst ds)
  | key {a : Addr} {ns : List Int} : KeyT H a (ns.map V.int) → Da K H (.ref a) (.key ns)
inductive DaAll (K : PySem.W.Frag) (H : Hp) : List V → List D → Prop
  | nil : DaAll K H [] []
  | cons {v : V} {vs : List V} {d : D} {ds : List D} : Da K H v d → DaAll K H vs ds → DaAll K H (v :: vs) (d :: ds)
end

section
variable {K : PySem.W.Frag} {G H : Hp}
mutual
theorem Da.up (e : Ex G H) : ∀ (d : D) (v : V), Da K G v d → Da K H v d
  | .non, _, h => by cases h; exact .non
  | .bl b, _, h => by cases h; exact .bl b
  | .int i, _, h => by cases h; exact .int i
  | .str x, _, h => by cases h; exact .str x
  | .tup ds, _, h => by
    cases h with
    | tup h1 h2 => exact .tup (e _ _ h1) (DaAll.up e ds _ h2)
  | .lst ds, _, h => by
    cases h with
    | lst h1 h2 => exact .lst (e _ _ h1) (DaAll.up e ds _ h2)
  | .rtup ds, _, h => by
    cases h with
    | rtup h1 h2 => exact .rtup (ex_t e h1) (DaAll.up e ds _ h2)
  | .rlst ds, _, h => by
    cases h with
    | rlst h1 h2 => exact .rlst (ex_l e h1) (DaAll.up e ds _ h2)
  | .key ns, _, h => by
    cases h with
    | key h1 => exact .key (h1.up e)
theorem DaAll.up (e : Ex G H) : ∀ (ds : List D) (vs : List V), DaAll K G vs ds → DaAll K H vs ds
  | [], _, h => by cases h; exact .nil
  | d :: ds, _, h => by
    cases h with
    | cons h1 h2 => exact .cons (Da.up e d _ h1) (DaAll.up e ds _ h2)
end
theorem Da.mono {v : V} {d : D} (h : Da K G v d) (e : Ex G H) : Da K H v d := Da.up e d v h
theorem DaAll.mono {vs : List V} {ds : List D} (h : DaAll K G vs ds) (e : Ex G H) : DaAll K H vs ds := DaAll.up e ds vs h

theorem DaAll.length : ∀ {vs : List V} {ds : List D}, DaAll K H vs ds → vs.length = ds.length
  | [], _, h => by cases h; rfl
  | v :: vs, _, h => by
    cases h with
    | cons h1 h2 => rw [List.length_cons, List.length_cons, DaAll.length h2]
theorem DaAll.get : ∀ {vs : List V} {ds : List D} {i : Nat} {d : D}, DaAll K H vs ds → ds[i]? = some d → ∃ v, vs[i]? = some v ∧ Da K H v d
  | _, _, i, d, .nil, e => by simp at e
  | _, _, 0, d, .cons h1 h2, e => by
    cases (Option.some.inj e)
    exact ⟨_, rfl, h1⟩
  | _, _, i + 1, d, .cons h1 h2, e => DaAll.get (i := i) h2 e
theorem DaAll.getV : ∀ {vs : List V} {ds : List D} {i : Nat} {v : V}, DaAll K H vs ds → vs[i]? = some v → ∃ d, ds[i]? = some d ∧ Da K H v d
  | _, _, i, d, .nil, e => by simp at e
  | _, _, 0, d, .cons h1 h2, e => by
    cases (Option.some.inj e)
    exact ⟨_, rfl, h1⟩
  | _, _, i + 1, d, .cons h1 h2, e => DaAll.getV (i := i) h2 e
theorem DaAll.append : ∀ {vs ws : List V} {ds es : List D}, DaAll K H vs ds → DaAll K H ws es → DaAll K H (vs ++ ws) (ds ++ es)
  | _, _, _, _, .nil, h => h
  | _, _, _, _, .cons h1 h2, h => .cons h1 (DaAll.append h2 h)
theorem DaAll.take : ∀ {vs : List V} {ds : List D} (n : Nat), DaAll K H vs ds → DaAll K H (vs.take n) (ds.take n)
  | _, _, 0, _ => .nil
  | _, _, n + 1, .nil => .nil
  | _, _, n + 1, .cons h1 h2 => .cons h1 (DaAll.take n h2)
theorem DaAll.drop : ∀ {vs : List V} {ds : List D} (n : Nat), DaAll K H vs ds → DaAll K H (vs.drop n) (ds.drop n)
  | _, _, 0, h => h
  | _, _, n + 1, .nil => .nil
  | _, _, n + 1, .cons h1 h2 => DaAll.drop n h2
theorem DaAll.one {v : V} {d : D} (h : Da K H v d) : DaAll K H [v] [d] := .cons h .nil
theorem DaAll.dropLast : ∀ {vs : List V} {ds : List D}, DaAll K H vs ds → DaAll K H vs.dropLast ds.dropLast
  | _, _, .nil => .nil
  | _, _, .cons h1 .nil => .nil
  | _, _, .cons h1 (.cons h2 h3) => .cons h1 (DaAll.dropLast (.cons h2 h3))
theorem DaAll.reverse {vs : List V} {ds : List D} (h : DaAll K H vs ds) : DaAll K H vs.reverse ds.reverse := by
  induction ds generalizing vs with
  | nil => cases h; exact .nil
  | cons d ds ih =>
    cases h with
    | cons h1 h2 =>
      rw [List.reverse_cons, List.reverse_cons]
      exact (ih h2).append (.one h1)
theorem DaAll.flatten_rep {vs : List V} {ds : List D} (h : DaAll K H vs ds) : ∀ n : Nat, DaAll K H (List.replicate n vs).flatten (List.replicate n ds).flatten
  | 0 => .nil
  | n + 1 => by
    rw [List.replicate_succ, List.replicate_succ, List.flatten_cons, List.flatten_cons]
    exact h.append (DaAll.flatten_rep h n)
theorem DaAll.of_get : ∀ {vs : List V} {ds : List D}, vs.length = ds.length → (∀ (i : Nat) (v : V) (d : D), vs[i]? = some v → ds[i]? = some d → Da K H v d) → DaAll K H vs ds
  | [], [], _, _ => .nil
  | v :: vs, d :: ds, h, f => .cons (f 0 v d rfl rfl) (DaAll.of_get (by simpa using h) fun i w e h1 h2 => f (i + 1) w e h1 h2)
theorem DaAll.ints : ∀ ns : List Int, DaAll K H (ns.map V.int) (ns.map D.int)
  | [] => .nil
  | n :: ns => .cons (.int n) (DaAll.ints ns)
theorem DaAll.bools : ∀ ns : List Bool, DaAll K H (ns.map V.bl) (ns.map D.bl)
  | [] => .nil
  | n :: ns => .cons (.bl n) (DaAll.bools ns)
theorem DaAll.int_eq : ∀ {vs : List V} {ns : List Int}, DaAll K H vs (ns.map D.int) → vs = ns.map V.int
  | [], [], _ => rfl
  | v :: vs, n :: ns, .cons h1 h2 => by
    cases h1
    rw [List.map_cons, DaAll.int_eq h2]
theorem DaAll.bool_eq : ∀ {vs : List V} {ns : List Bool}, DaAll K H vs (ns.map D.bl) → vs = ns.map V.bl
  | [], [], _ => rfl
  | v :: vs, n :: ns, .cons h1 h2 => by
    cases h1
    rw [List.map_cons, DaAll.bool_eq h2]
theorem Da.int_eq {v : V} {i : Int} (h : Da K H v (.int i)) : v = .int i := by cases h; rfl
theorem Da.bl_eq {v : V} {b : Bool} (h : Da K H v (.bl b)) : v = .bl b := by cases h; rfl
theorem Da.str_eq {v : V} {x : Str} (h : Da K H v (.str x)) : v = .str x := by cases h; rfl
theorem Da.non_eq {v : V} (h : Da K H v .non) : v = .non := by cases h; rfl

/-! as the layer's own data -/
mutual
def D.py : D → PyData
  | .non => .none | .bl b => .bool b | .int i => .int i | .str x => .str x
  | .tup ds => .tuple (D.pys ds) | .lst ds => .list (D.pys ds) | .rtup ds => .tuple (D.pys ds) | .rlst ds => .list (D.pys ds) | .key ns => .tuple (ns.map PyData.int)
def D.pys : List D → List PyData
  | [] => []
  | d :: ds => d.py :: D.pys ds
end
theorem dp_ints : ∀ ns : List Int, DpAll K H (ns.map V.int) (ns.map PyData.int)
  | [] => .nil
  | n :: ns => .cons (.int n) (dp_ints ns)
mutual
theorem Da.dp : ∀ (d : D) (v : V), Da K H v d → Dp K H v d.py
  | .non, _, h => by cases h; exact .non
  | .bl b, _, h => by cases h; exact .bl b
  | .int i, _, h => by cases h; exact .int i
  | .str x, _, h => by cases h; exact .str x
  | .tup ds, _, h => by
    cases h with
    | tup h1 h2 => exact .tup (st_of h1) (DaAll.dp ds _ h2)
  | .lst ds, _, h => by
    cases h with
    | lst h1 h2 => exact .lst (sq_of h1) (DaAll.dp ds _ h2)
  | .rtup ds, _, h => by
    cases h with
    | rtup h1 h2 => exact .tup h1 (DaAll.dp ds _ h2)
  | .rlst ds, _, h => by
    cases h with
    | rlst h1 h2 => exact .lst h1 (DaAll.dp ds _ h2)
  | .key ns, _, h => by
    cases h with
    | key h1 => exact .tup h1.sq (dp_ints ns)
theorem DaAll.dp : ∀ (ds : List D) (vs : List V), DaAll K H vs ds → DpAll K H vs (D.pys ds)
  | [], _, h => by cases h; exact .nil
  | d :: ds, _, h => by
    cases h with
    | cons h1 h2 => exact .cons (Da.dp d _ h1) (DaAll.dp ds _ h2)
end
end

/-! ### heaps: G holds what nobody changes, H all -/
structure Adv (G H G' H' : Hp) : Prop where
  g : Ex G G'
  h : Ex H H'
  i : Ex G' H'
  o : ∀ a u, H a = some u → G a = none → G' a = none
theorem Adv.refl {G H : Hp} (e : Ex G H) : Adv G H G H := ⟨Ex.refl G, Ex.refl H, e, fun _ _ _ h => h⟩
theorem Adv.trans {G H G1 H1 G2 H2 : Hp} (a : Adv G H G1 H1) (b : Adv G1 H1 G2 H2) : Adv G H G2 H2 :=
  ⟨a.g.trans b.g, a.h.trans b.h, b.i, fun x u h1 h2 => b.o x u (a.h x u h1) (a.o x u h1 h2)⟩
/-- a new object that nobody changes -/
theorem Adv.new {G H : Hp} {p : Addr} {o : HO} (e : Ex G H) (hp : H p = none) : Adv G H (upd G p o) (upd H p o) := by
  refine ⟨Ex.new (fresh_back e hp), Ex.new hp, fun a u h => ?_, fun a u h1 h2 => ?_⟩
  · by_cases ha : a = p
    · subst ha
      rw [upd_same] at h ⊢
      exact h
    · rw [upd_ne ha] at h ⊢
      exact e a u h
  · rw [upd_ne (ne_of_none h1 hp)]
    exact h2
/-- a new object that is somebody's own -/
theorem Adv.own {G H : Hp} {p : Addr} {o : HO} (e : Ex G H) (hp : H p = none) : Adv G H G (upd H p o) :=
  ⟨Ex.refl G, Ex.new hp, e.trans (Ex.new hp), fun _ _ _ h => h⟩

/-! ### slots -/
abbrev Kvs := List (List Int × D)
inductive Sl where
  /-- nothing is known -/
  | u
  | d (x : D)
  /-- an own list -/
  | l (xs : List D)
  /-- an own dict, its keys tuples of ints -/
  | t (kvs : Kvs)
  /-- a dict that nobody changes -/
  | c (kvs : Kvs)
  /-- a value -/
  | v (x : V)
/-- a dict's pairs -/
def KvOk (K : PySem.W.Frag) (G : Hp) : Kws → Kvs → Prop := Paired fun p q => p.1 = q.1 ∧ KeyT G p.2.1 (q.1.map V.int) ∧ Da K G p.2.2 q.2
theorem KvOk.mono {K : PySem.W.Frag} {G H : Hp} {a : Kws} {b : Kvs} (h : KvOk K G a b) (e : Ex G H) : KvOk K H a b := Paired.mapP h fun _ _ q => ⟨q.1, q.2.1.up e, q.2.2.mono e⟩
def SlOk (K : PySem.W.Frag) (H0 G H : Hp) : Sl → Option V → Prop
  | .u, _ => True
  | .d x, o => ∃ v, o = some v ∧ Da K G v x
  | .l xs, o => ∃ p vs, o = some (.ref p) ∧ H0 p = none ∧ G p = none ∧ H p = some (.lst vs) ∧ DaAll K G vs xs
  | .t kvs, o => ∃ p ws, o = some (.ref p) ∧ H0 p = none ∧ G p = none ∧ H p = some (rawO p ws) ∧ KvOk K G ws kvs
  | .c kvs, o => ∃ p ob ws, o = some (.ref p) ∧ G p = some (.frz ob (rawO p ws)) ∧ KvOk K G ws kvs
  | .v x, o => o = some x
def Sl.own : Sl → Bool
  | .u => false | .d _ => false | .l _ => true | .t _ => true | .c _ => false | .v _ => false
structure SR (K : PySem.W.Frag) (H0 G H : Hp) (σ : L2.St) (ρ : List Sl) : Prop where
  len : σ.length = ρ.length
  ok : ∀ (i : Nat) (s : Sl), ρ[i]? = some s → ∃ o, σ[i]? = some o ∧ SlOk K H0 G H s o
  sep : ∀ (i j : Nat) (s s' : Sl) (p : Addr), ρ[i]? = some s → ρ[j]? = some s' → s.own = true → s'.own = true → σ[i]? = some (some (.ref p)) → σ[j]? = some (some (.ref p)) → i = j
section
variable {K : PySem.W.Frag} {H0 G H G' H' : Hp} {σ : L2.St} {ρ : List Sl}
theorem SlOk.adv (A : Adv G H G' H') : ∀ {s : Sl} {o : Option V}, SlOk K H0 G H s o → SlOk K H0 G' H' s o
  | .u, _, _ => trivial
  | .d x, _, ⟨v, e, h⟩ => ⟨v, e, h.mono A.g⟩
  | .l xs, _, ⟨p, vs, e, h0, h1, h2, h3⟩ => ⟨p, vs, e, h0, A.o p _ h2 h1, A.h p _ h2, h3.mono A.g⟩
  | .t kvs, _, ⟨p, vs, e, h0, h1, h2, h3⟩ => ⟨p, vs, e, h0, A.o p _ h2 h1, A.h p _ h2, h3.mono A.g⟩
  | .c kvs, _, ⟨p, ob, vs, e, h1, h3⟩ => ⟨p, ob, vs, e, A.g p _ h1, h3.mono A.g⟩
  | .v x, _, e => e
theorem SR.adv (r : SR K H0 G H σ ρ) (A : Adv G H G' H') : SR K H0 G' H' σ ρ :=
  ⟨r.len, fun i s e => by
    obtain ⟨o, h1, h2⟩ := r.ok i s e
    exact ⟨o, h1, h2.adv A⟩, r.sep⟩
theorem SlOk.isOwn {s : Sl} {o : Option V} (h : SlOk K H0 G H s o) (w : s.own = true) : ∃ p u, o = some (.ref p) ∧ H0 p = none ∧ G p = none ∧ H p = some u := by
  cases s with
  | u => cases w
  | d x => cases w
  | l xs =>
    obtain ⟨p, vs, e, h0, h1, h2, h3⟩ := h
    exact ⟨p, _, e, h0, h1, h2⟩
  | t kvs =>
    obtain ⟨p, vs, e, h0, h1, h2, h3⟩ := h
    exact ⟨p, _, e, h0, h1, h2⟩
  | c kvs => cases w
  | v x => cases w
/-- a slot is set to a value that is no own object, or a new own one -/
theorem SR.set (r : SR K H0 G H σ ρ) {i : Nat} {s : Sl} {v : V} (hs : SlOk K H0 G H s (some v)) (hf : s.own = true → ∀ (p : Addr) (j : Nat) (s' : Sl), v = .ref p → j ≠ i → ρ[j]? = some s' → s'.own = true → σ[j]? ≠ some (some (.ref p))) :
    SR K H0 G H (σ.set i (some v)) (ρ.set i s) := by
  have look : ∀ (j : Nat) (t : Sl), (ρ.set i s)[j]? = some t → (j = i ∧ t = s ∧ i < ρ.length) ∨ (j ≠ i ∧ ρ[j]? = some t) := fun j t e => by
    by_cases hj : j = i
    · subst hj
      by_cases hl : j < ρ.length
      · rw [List.getElem?_set_self hl] at e
        exact .inl ⟨rfl, (Option.some.inj e).symm, hl⟩
      · rw [List.getElem?_eq_none (by simpa using hl)] at e
        cases e
    · rw [List.getElem?_set_ne (fun z => hj z.symm)] at e
      exact .inr ⟨hj, e⟩
  refine ⟨by rw [List.length_set, List.length_set]; exact r.len, fun j t e => ?_, fun j k t t' p e e' w w' g g' => ?_⟩
  · rcases look j t e with ⟨rfl, rfl, hl⟩ | ⟨hj, e⟩
    · exact ⟨some v, List.getElem?_set_self (by rw [r.len]; exact hl), hs⟩
    · obtain ⟨o, h1, h2⟩ := r.ok j t e
      exact ⟨o, by rw [List.getElem?_set_ne (fun z => hj z.symm)]; exact h1, h2⟩
  · rcases look j t e with ⟨rfl, rfl, hl⟩ | ⟨hj, e1⟩
    · rcases look k t' e' with ⟨rfl, _, _⟩ | ⟨hk, e2⟩
      · rfl
      · rw [List.getElem?_set_self (by rw [r.len]; exact hl)] at g
        rw [List.getElem?_set_ne (fun z => hk z.symm)] at g'
        exact absurd g' (hf w p k t' (Option.some.inj (Option.some.inj g)) hk e2 w')
    · rw [List.getElem?_set_ne (fun z => hj z.symm)] at g
      rcases look k t' e' with ⟨rfl, rfl, hl⟩ | ⟨hk, e2⟩
      · rw [List.getElem?_set_self (by rw [r.len]; exact hl)] at g'
        exact absurd g (hf w' p j t (Option.some.inj (Option.some.inj g')) hj e1 w)
      · rw [List.getElem?_set_ne (fun z => hk z.symm)] at g'
        exact r.sep j k t t' p e1 e2 w w' g g'
theorem SR.setD (r : SR K H0 G H σ ρ) {i : Nat} {x : D} {v : V} (h : Da K G v x) : SR K H0 G H (σ.set i (some v)) (ρ.set i (.d x)) := r.set ⟨v, rfl, h⟩ fun w => nomatch w
/-- a slot is forgotten -/
theorem SR.forget (r : SR K H0 G H σ ρ) {i : Nat} {o : Option V} : SR K H0 G H (σ.set i o) (ρ.set i .u) := by
  have look : ∀ (j : Nat) (t : Sl), (ρ.set i Sl.u)[j]? = some t → (j = i ∧ t = .u ∧ i < ρ.length) ∨ (j ≠ i ∧ ρ[j]? = some t) := fun j t e => by
    by_cases hj : j = i
    · subst hj
      by_cases hl : j < ρ.length
      · rw [List.getElem?_set_self hl] at e
        exact .inl ⟨rfl, (Option.some.inj e).symm, hl⟩
      · rw [List.getElem?_eq_none (by simpa using hl)] at e
        cases e
    · rw [List.getElem?_set_ne (fun z => hj z.symm)] at e
      exact .inr ⟨hj, e⟩
  refine ⟨by rw [List.length_set, List.length_set]; exact r.len, fun j t e => ?_, fun j k t t' p e e' w w' g g' => ?_⟩
  · rcases look j t e with ⟨rfl, rfl, hl⟩ | ⟨hj, e⟩
    · exact ⟨o, List.getElem?_set_self (by rw [r.len]; exact hl), trivial⟩
    · obtain ⟨o', h1, h2⟩ := r.ok j t e
      exact ⟨o', by rw [List.getElem?_set_ne (fun z => hj z.symm)]; exact h1, h2⟩
  · rcases look j t e with ⟨rfl, rfl, hl⟩ | ⟨hj, e⟩
    · cases w
    · rcases look k t' e' with ⟨rfl, rfl, hl⟩ | ⟨hk, e'⟩
      · cases w'
      · rw [List.getElem?_set_ne (fun z => hj z.symm)] at g
        rw [List.getElem?_set_ne (fun z => hk z.symm)] at g'
        exact r.sep j k t t' p e e' w w' g g'
def wipeS (ρ : List Sl) : List Nat → List Sl
  | [] => ρ
  | v :: vs => (wipeS ρ vs).set v .u
theorem SR.wipe (r : SR K H0 G H σ ρ) : ∀ vs : List Nat, SR K H0 G H (L2.wipe σ vs) (wipeS ρ vs)
  | [] => r
  | _ :: vs => (SR.wipe r vs).forget
/-- an own object is changed -/
theorem SR.change (r : SR K H0 G H σ ρ) {i : Nat} {s t : Sl} {p : Addr} {u : HO} (e : ρ[i]? = some s) (w : s.own = true) (ep : σ[i]? = some (some (.ref p))) (ht : SlOk K H0 G (upd H p u) t (some (.ref p))) :
    SR K H0 G (upd H p u) σ (ρ.set i t) := by
  have hil : i < ρ.length := (List.getElem?_eq_some_iff.mp e).1
  have look : ∀ (j : Nat) (t' : Sl), (ρ.set i t)[j]? = some t' → (j = i ∧ t' = t) ∨ (j ≠ i ∧ ρ[j]? = some t') := fun j t' e => by
    by_cases hj : j = i
    · subst hj
      rw [List.getElem?_set_self hil] at e
      exact .inl ⟨rfl, (Option.some.inj e).symm⟩
    · rw [List.getElem?_set_ne (fun z => hj z.symm)] at e
      exact .inr ⟨hj, e⟩
  refine ⟨by rw [List.length_set]; exact r.len, fun j t' e' => ?_, fun j k t1 t2 q e1 e2 w1 w2 g1 g2 => ?_⟩
  · rcases look j t' e' with ⟨rfl, rfl⟩ | ⟨hj, e'⟩
    · exact ⟨_, ep, ht⟩
    · obtain ⟨o, h1, h2⟩ := r.ok j t' e'
      refine ⟨o, h1, ?_⟩
      cases t' with
      | u => trivial
      | d x => exact h2
      | l xs =>
        obtain ⟨q, vs, eq, q0, q1, q2, q3⟩ := h2
        have nq : q ≠ p := fun z => by
          subst z
          exact hj (r.sep j i _ _ q e' e rfl w (by rw [h1, eq]) ep)
        exact ⟨q, vs, eq, q0, q1, by rw [upd_ne nq]; exact q2, q3⟩
      | t kvs =>
        obtain ⟨q, vs, eq, q0, q1, q2, q3⟩ := h2
        have nq : q ≠ p := fun z => by
          subst z
          exact hj (r.sep j i _ _ q e' e rfl w (by rw [h1, eq]) ep)
        exact ⟨q, vs, eq, q0, q1, by rw [upd_ne nq]; exact q2, q3⟩
      | c kvs => exact h2
      | v x => exact h2
  · have back : ∀ (j : Nat) (t' : Sl), (ρ.set i t)[j]? = some t' → t'.own = true → ∃ t'', ρ[j]? = some t'' ∧ t''.own = true := fun j t' e' w' => by
      rcases look j t' e' with ⟨rfl, rfl⟩ | ⟨hj, e'⟩
      · exact ⟨s, e, w⟩
      · exact ⟨t', e', w'⟩
    obtain ⟨a, ha, wa⟩ := back j t1 e1 w1
    obtain ⟨b, hb, wb⟩ := back k t2 e2 w2
    exact r.sep j k a b q ha hb wa wb g1 g2
end
end Dx
end

section
set_option Elab.async false
set_option linter.all false
set_option maxRecDepth 100000
set_option maxHeartbeats 4000000
namespace Dx
open PySem PySem.Spec PyProof.Rows L2 Evl

/-! ### expressions -/
/-- the reading te, at slots ρ, gives a datum of R -/
def XE (K : PySem.W.Frag) (te : TE) (ρ : List Sl) (R : D → Prop) : Prop := ∀ (H0 G H : Hp) (σ : L2.St), Ex G H → SR K H0 G H σ ρ → ∀ Q : VK, (∀ v x G' H', Adv G H G' H' → R x → Da K G' v x → Q v H') → te σ H Q
abbrev XD (K : PySem.W.Frag) (te : TE) (ρ : List Sl) (x : D) : Prop := XE K te ρ (Eq x)
/-- .. a list that may be read -/
def XL (K : PySem.W.Frag) (te : TE) (ρ : List Sl) (xs : List D) : Prop := ∀ (H0 G H : Hp) (σ : L2.St), Ex G H → SR K H0 G H σ ρ → ∀ Q : VK, (∀ a vs G' H', Adv G H G' H' → SqL K H' a vs → DaAll K G' vs xs → Q (.ref a) H') → te σ H Q
/-- .. a list of the run's own -/
def XM (K : PySem.W.Frag) (te : TE) (ρ : List Sl) (xs : List D) : Prop := ∀ (H0 G H : Hp) (σ : L2.St), Ex G H → SR K H0 G H σ ρ → ∀ Q : VK, (∀ a vs G' H', Adv G H G' H' → H' a = some (.lst vs) → DaAll K G' vs xs → Q (.ref a) H') → te σ H Q
/-- .. a tuple that may be read -/
def XU (K : PySem.W.Frag) (te : TE) (ρ : List Sl) (xs : List D) : Prop := ∀ (H0 G H : Hp) (σ : L2.St), Ex G H → SR K H0 G H σ ρ → ∀ Q : VK, (∀ a vs G' H', Adv G H G' H' → SqT K H' a vs → DaAll K G' vs xs → Q (.ref a) H') → te σ H Q
/-- .. a tuple of ints that the run has made: a key -/
def XKey (K : PySem.W.Frag) (te : TE) (ρ : List Sl) (ns : List Int) : Prop := XD K te ρ (.tup (ns.map D.int))
/-- .. a dict of one's own -/
def XT (K : PySem.W.Frag) (tt : TT) (ρ : List Sl) (b : Bool) : Prop := ∀ (H0 G H : Hp) (σ : L2.St), Ex G H → SR K H0 G H σ ρ → ∀ Q : Bool → Hp → Prop, (∀ G' H', Adv G H G' H' → Q b H') → tt σ H Q
def XA (K : PySem.W.Frag) (ta : TA) (ρ : List Sl) (ds : List D) : Prop := ∀ (H0 G H : Hp) (σ : L2.St), Ex G H → SR K H0 G H σ ρ → ∀ Q : List V → Hp → Prop, (∀ vs G' H', Adv G H G' H' → DaAll K G' vs ds → Q vs H') → ta σ H Q
def XO (K : PySem.W.Frag) (to : TO) (ρ : List Sl) (o : Option Int) : Prop := ∀ (H0 G H : Hp) (σ : L2.St), Ex G H → SR K H0 G H σ ρ → ∀ Q : Option Int → Hp → Prop, (∀ G' H', Adv G H G' H' → Q o H') → to σ H Q
/-- an operation on two data -/
def OX (K : PySem.W.Frag) (r : R2) (a b : D) (R : D → Prop) : Prop := ∀ (G H : Hp) (va vb : V), Ex G H → Da K G va a → Da K G vb b → ∀ Q : VK, (∀ v x G' H', Adv G H G' H' → R x → Da K G' v x → Q v H') → r va vb H Q
/-- a call on data -/
def CX' (K : PySem.W.Frag) (r : List V → Hp → VK → Prop) (ds : List D) (R : D → Prop) : Prop := ∀ (G H : Hp) (vs : List V), Ex G H → DaAll K G vs ds → ∀ Q : VK, (∀ v x G' H', Adv G H G' H' → R x → Da K G' v x → Q v H') → r vs H Q

section
variable {K : PySem.W.Frag} {ρ : List Sl} {ta tb tc te : TE} {t u : TT} {R R' : D → Prop} {r : R2}
theorem XE.imp (h : XE K te ρ R) (f : ∀ x, R x → R' x) : XE K te ρ R' := fun H0 G H σ e s Q q => h H0 G H σ e s Q fun v x G' H' A rx d => q v x G' H' A (f x rx) d
theorem XD.to {x : D} (h : XD K te ρ x) (rx : R x) : XE K te ρ R := h.imp fun _ e => e ▸ rx
theorem XD.eq {x y : D} (h : XD K te ρ x) (e : x = y) : XD K te ρ y := e ▸ h
theorem xd_var {i : Nat} {x : D} (h : ρ[i]? = some (.d x)) : XD K (tVar i) ρ x := fun H0 G H σ e s Q q => by
  obtain ⟨o, h1, v, h2, h3⟩ := s.ok i _ h
  subst h2
  exact ⟨v, h1, q v x G H (Adv.refl e) rfl h3⟩
theorem xd_c {v : V} {x : D} (h : ∀ G, Da K G v x) : XD K (tC v) ρ x := fun H0 G H σ e s Q q => q v x G H (Adv.refl e) rfl (h G)
theorem xd_int {i : Int} : XD K (tC (.int i)) ρ (.int i) := xd_c fun _ => .int i
theorem xd_bl {i : Bool} : XD K (tC (.bl i)) ρ (.bl i) := xd_c fun _ => .bl i
theorem xd_str {i : Str} : XD K (tC (.str i)) ρ (.str i) := xd_c fun _ => .str i
theorem xd_non : XD K (tC .non) ρ .non := xd_c fun _ => .non
theorem xe_op {Ra Rb : D → Prop} (ha : XE K ta ρ Ra) (hb : XE K tb ρ Rb) (h : ∀ a b, Ra a → Rb b → OX K r a b R) : XE K (tOp r ta tb) ρ R := fun H0 G H σ e s Q q =>
  ha H0 G H σ e s _ fun v x G1 H1 A1 rx dx => hb H0 G1 H1 σ A1.i (s.adv A1) _ fun w y G2 H2 A2 ry dy =>
    h x y rx ry G2 H2 v w A2.i (dx.mono A2.g) dy Q fun z d G3 H3 A3 rd dd => q z d G3 H3 ((A1.trans A2).trans A3) rd dd
theorem xd_op {a b : D} (ha : XD K ta ρ a) (hb : XD K tb ρ b) (h : OX K r a b R) : XE K (tOp r ta tb) ρ R := xe_op ha hb fun _ _ e1 e2 => by
  subst e1 e2
  exact h
theorem ox_of {a b x : D} (h : ∀ (G H : Hp) (va vb : V), Ex G H → Da K G va a → Da K G vb b → ∀ Q : VK, (∀ v G' H', Adv G H G' H' → Da K G' v x → Q v H') → r va vb H Q) : OX K r a b (Eq x) :=
  fun G H va vb e da db Q q => h G H va vb e da db Q fun v G' H' A d => q v x G' H' A rfl d
theorem ox_I0 {g : Int → Int → V} {i j : Int} {x : D} (h : ∀ G, Da K G (g i j) x) : OX K (rI0 g) (.int i) (.int j) (Eq x) := ox_of fun G H va vb e da db Q q => by
  cases da
  cases db
  exact ⟨i, j, rfl, rfl, q _ G H (Adv.refl e) (h G)⟩
theorem ox_I {C : Int → Int → Prop} {g : Int → Int → V} {i j : Int} {x : D} (hc : C i j) (h : ∀ G, Da K G (g i j) x) : OX K (rI C g) (.int i) (.int j) (Eq x) := ox_of fun G H va vb e da db Q q => by
  cases da
  cases db
  exact ⟨i, j, rfl, rfl, hc, q _ G H (Adv.refl e) (h G)⟩
theorem xd_add {i j : Int} (ha : XD K ta ρ (.int i)) (hb : XD K tb ρ (.int j)) : XD K (tOp (rI0 fun i j => .int (i + j)) ta tb) ρ (.int (i + j)) := xd_op ha hb (ox_I0 fun _ => .int _)
theorem xd_sub {i j : Int} (ha : XD K ta ρ (.int i)) (hb : XD K tb ρ (.int j)) : XD K (tOp (rI0 fun i j => .int (i - j)) ta tb) ρ (.int (i - j)) := xd_op ha hb (ox_I0 fun _ => .int _)
theorem xd_mul {i j : Int} (ha : XD K ta ρ (.int i)) (hb : XD K tb ρ (.int j)) (h : CMul i j) : XD K (tOp (rI CMul fun i j => .int (i * j)) ta tb) ρ (.int (i * j)) := xd_op ha hb (ox_I h fun _ => .int _)
theorem xd_fdiv {i j : Int} (ha : XD K ta ρ (.int i)) (hb : XD K tb ρ (.int j)) (h : CDivN i j) : XD K (tOp (rI CDivN fun i j => .int (i.fdiv j)) ta tb) ρ (.int (i.fdiv j)) := xd_op ha hb (ox_I h fun _ => .int _)
theorem xd_mod {i j : Int} (ha : XD K ta ρ (.int i)) (hb : XD K tb ρ (.int j)) (h : j ≠ 0) : XD K (tOp (rI (fun _ j => j ≠ 0) fun i j => .int (i.fmod j)) ta tb) ρ (.int (i.fmod j)) := xd_op ha hb (ox_I h fun _ => .int _)
theorem xd_pow {i j : Int} (ha : XD K ta ρ (.int i)) (hb : XD K tb ρ (.int j)) (h : CPow i j) : XD K (tOp (rI CPow fun i j => .int (i ^ j.toNat)) ta tb) ρ (.int (i ^ j.toNat)) := xd_op ha hb (ox_I h fun _ => .int _)
theorem xd_lt {i j : Int} (ha : XD K ta ρ (.int i)) (hb : XD K tb ρ (.int j)) : XD K (tOp (rI0 fun i j => .bl (decide (i < j))) ta tb) ρ (.bl (decide (i < j))) := xd_op ha hb (ox_I0 fun _ => .bl _)
theorem xd_le {i j : Int} (ha : XD K ta ρ (.int i)) (hb : XD K tb ρ (.int j)) : XD K (tOp (rI0 fun i j => .bl (decide (i ≤ j))) ta tb) ρ (.bl (decide (i ≤ j))) := xd_op ha hb (ox_I0 fun _ => .bl _)
theorem xd_gt {i j : Int} (ha : XD K ta ρ (.int i)) (hb : XD K tb ρ (.int j)) : XD K (tOp (rI0 fun i j => .bl (decide (j < i))) ta tb) ρ (.bl (decide (j < i))) := xd_op ha hb (ox_I0 fun _ => .bl _)
theorem xd_ge {i j : Int} (ha : XD K ta ρ (.int i)) (hb : XD K tb ρ (.int j)) : XD K (tOp (rI0 fun i j => .bl (decide (j ≤ i))) ta tb) ρ (.bl (decide (j ≤ i))) := xd_op ha hb (ox_I0 fun _ => .bl _)
theorem dec_int {i j : Int} : decide (V.int i = V.int j) = decide (i = j) := by
  by_cases h : i = j
  · subst h; simp
  · rw [decide_eq_false h, decide_eq_false fun z => h (V.int.inj z)]
theorem dec_str {i j : Str} : decide (V.str i = V.str j) = decide (i = j) := by
  by_cases h : i = j
  · subst h; simp
  · rw [decide_eq_false h, decide_eq_false fun z => h (V.str.inj z)]
theorem xd_eqI {i j : Int} (ha : XD K ta ρ (.int i)) (hb : XD K tb ρ (.int j)) : XD K (tOp rEq ta tb) ρ (.bl (decide (i = j))) := xd_op ha hb (ox_of fun G H va vb e da db Q q => by
  cases da
  cases db
  refine ⟨rfl, ?_⟩
  rw [dec_int]
  exact q _ G H (Adv.refl e) (.bl _))
theorem xd_neI {i j : Int} (ha : XD K ta ρ (.int i)) (hb : XD K tb ρ (.int j)) : XD K (tOp rNe ta tb) ρ (.bl (!decide (i = j))) := xd_op ha hb (ox_of fun G H va vb e da db Q q => by
  cases da
  cases db
  refine ⟨rfl, ?_⟩
  rw [dec_int]
  exact q _ G H (Adv.refl e) (.bl _))
theorem xd_eqS {i j : Str} (ha : XD K ta ρ (.str i)) (hb : XD K tb ρ (.str j)) : XD K (tOp rEq ta tb) ρ (.bl (decide (i = j))) := xd_op ha hb (ox_of fun G H va vb e da db Q q => by
  cases da
  cases db
  refine ⟨rfl, ?_⟩
  rw [dec_str]
  exact q _ G H (Adv.refl e) (.bl _))
theorem xd_neS {i j : Str} (ha : XD K ta ρ (.str i)) (hb : XD K tb ρ (.str j)) : XD K (tOp rNe ta tb) ρ (.bl (!decide (i = j))) := xd_op ha hb (ox_of fun G H va vb e da db Q q => by
  cases da
  cases db
  refine ⟨rfl, ?_⟩
  rw [dec_str]
  exact q _ G H (Adv.refl e) (.bl _))
/-- is None -/
def D.isN : D → Bool
  | .non => true
  | _ => false
theorem Da.isN {H : Hp} {v : V} {x : D} (h : Da K H v x) : decide (v = .non) = x.isN := by cases h <;> rfl
def rIsNo : R2 := fun x y H Q => y = .non ∧ Q (.bl (decide (x = .non))) H
def rNotNo : R2 := fun x y H Q => y = .non ∧ Q (.bl (!decide (x = .non))) H
theorem op_isNo {X : Cx} : OpR X (compareOp .Is) rIsNo := op_isN
theorem op_notNo {X : Cx} : OpR X (compareOp .IsNot) rNotNo := op_notN
theorem xd_isN {x : D} (ha : XD K ta ρ x) (hb : XD K tb ρ .non) : XD K (tOp rIsNo ta tb) ρ (.bl x.isN) := xd_op ha hb (ox_of fun G H va vb e da db Q q => by
  cases db
  refine ⟨rfl, ?_⟩
  rw [da.isN]
  exact q _ G H (Adv.refl e) (.bl _))
theorem xd_notN {x : D} (ha : XD K ta ρ x) (hb : XD K tb ρ .non) : XD K (tOp rNotNo ta tb) ρ (.bl (!x.isN)) := xd_op ha hb (ox_of fun G H va vb e da db Q q => by
  cases db
  refine ⟨rfl, ?_⟩
  rw [da.isN]
  exact q _ G H (Adv.refl e) (.bl _))
theorem xd_isB {a b : Bool} (ha : XD K ta ρ (.bl a)) (hb : XD K tb ρ (.bl b)) : XD K (tOp rIsB ta tb) ρ (.bl (decide (a = b))) := xd_op ha hb (ox_of fun G H va vb e da db Q q => by
  cases da
  cases db
  exact ⟨a, b, rfl, rfl, q _ G H (Adv.refl e) (.bl _)⟩)
/-- == of data -/
def CEq (a b : PyData) (c : Bool) : Prop := SeqAt.shaped a = true ∧ SeqAt.shaped b = true ∧ PyData.eqv a b = c
theorem xd_eqD {a b : D} {c : Bool} (ha : XD K ta ρ a) (hb : XD K tb ρ b) (h : CEq a.py b.py c) : XD K (tOp (rEqD K) ta tb) ρ (.bl c) := xd_op ha hb (ox_of fun G H va vb e da db Q q => by
  refine ⟨a.py, b.py, (da.mono e).dp, (db.mono e).dp, h.1, h.2.1, ?_⟩
  rw [h.2.2]
  exact q _ G H (Adv.refl e) (.bl _))
theorem xd_neD {a b : D} {c : Bool} (ha : XD K ta ρ a) (hb : XD K tb ρ b) (h : CEq a.py b.py c) : XD K (tOp (rNeD K) ta tb) ρ (.bl (!c)) := xd_op ha hb (ox_of fun G H va vb e da db Q q => by
  refine ⟨a.py, b.py, (da.mono e).dp, (db.mono e).dp, h.1, h.2.1, ?_⟩
  rw [h.2.2]
  exact q _ G H (Adv.refl e) (.bl _))
/-- .. with an own list at the left -/
theorem xd_eqDM {xs : List D} {b : D} {c : Bool} (ha : XM K ta ρ xs) (hb : XD K tb ρ b) (h : CEq (.list (D.pys xs)) b.py c) : XD K (tOp (rEqD K) ta tb) ρ (.bl c) := fun H0 G H σ e s Q q =>
  ha H0 G H σ e s _ fun a vs G1 H1 A1 h1 d1 => hb H0 G1 H1 σ A1.i (s.adv A1) _ fun w y G2 H2 A2 ry dy => by
    subst ry
    refine ⟨_, _, .lst (sq_of (A2.h a _ h1)) (DaAll.dp _ _ (d1.mono (A2.g.trans A2.i))), (dy.mono A2.i).dp, h.1, h.2.1, ?_⟩
    rw [h.2.2]
    exact q _ _ G2 H2 (A1.trans A2) rfl (.bl _)
theorem xd_neDM {xs : List D} {b : D} {c : Bool} (ha : XM K ta ρ xs) (hb : XD K tb ρ b) (h : CEq (.list (D.pys xs)) b.py c) : XD K (tOp (rNeD K) ta tb) ρ (.bl (!c)) := fun H0 G H σ e s Q q =>
  ha H0 G H σ e s _ fun a vs G1 H1 A1 h1 d1 => hb H0 G1 H1 σ A1.i (s.adv A1) _ fun w y G2 H2 A2 ry dy => by
    subst ry
    refine ⟨_, _, .lst (sq_of (A2.h a _ h1)) (DaAll.dp _ _ (d1.mono (A2.g.trans A2.i))), (dy.mono A2.i).dp, h.1, h.2.1, ?_⟩
    rw [h.2.2]
    exact q _ _ G2 H2 (A1.trans A2) rfl (.bl _)
/-- -a, not a -/
theorem xd_neg {i : Int} (ha : XD K ta ρ (.int i)) : XD K (tUn (rU fun i => .int (-i)) ta) ρ (.int (-i)) := fun H0 G H σ e s Q q =>
  ha H0 G H σ e s _ fun v x G1 H1 A1 rx dx => by
    subst rx
    cases dx
    exact ⟨i, rfl, q _ _ G1 H1 A1 rfl (.int _)⟩
theorem xd_not {b : Bool} (ha : XD K ta ρ (.bl b)) : XD K (tNotV ta) ρ (.bl (!b)) := fun H0 G H σ e s Q q =>
  ha H0 G H σ e s _ fun v x G1 H1 A1 rx dx => by
    subst rx
    cases dx
    exact ⟨b, rfl, q _ _ G1 H1 A1 rfl (.bl _)⟩
theorem xd_and {a b : Bool} (ha : XD K ta ρ (.bl a)) (hb : a = true → XD K tb ρ (.bl b)) : XD K (tAndV ta tb) ρ (.bl (a && b)) := fun H0 G H σ e s Q q =>
  ha H0 G H σ e s _ fun v x G1 H1 A1 rx dx => by
    subst rx
    cases dx
    refine ⟨a, rfl, ?_⟩
    cases a with
    | true => exact iteT (hb rfl H0 G1 H1 σ A1.i (s.adv A1) _ fun w y G2 H2 A2 ry dy => q _ _ G2 H2 (A1.trans A2) ry dy)
    | false => exact iteF (q _ _ G1 H1 A1 rfl (.bl _))
theorem xd_or {a b : Bool} (ha : XD K ta ρ (.bl a)) (hb : a = false → XD K tb ρ (.bl b)) : XD K (tOrV ta tb) ρ (.bl (a || b)) := fun H0 G H σ e s Q q =>
  ha H0 G H σ e s _ fun v x G1 H1 A1 rx dx => by
    subst rx
    cases dx
    refine ⟨a, rfl, ?_⟩
    cases a with
    | true => exact iteT (q _ _ G1 H1 A1 rfl (.bl _))
    | false => exact iteF (hb rfl H0 G1 H1 σ A1.i (s.adv A1) _ fun w y G2 H2 A2 ry dy => q _ _ G2 H2 (A1.trans A2) ry dy)
/-- the first part False: the rest is not asked -/
theorem xd_andF (ha : XD K ta ρ (.bl false)) : XD K (tAndV ta tb) ρ (.bl false) := xd_and (b := false) ha fun h => nomatch h
theorem xd_orT (ha : XD K ta ρ (.bl true)) : XD K (tOrV ta tb) ρ (.bl true) := xd_or (b := false) ha fun h => nomatch h
theorem xd_andT {b : Bool} (ha : XD K ta ρ (.bl true)) (hb : XD K tb ρ (.bl b)) : XD K (tAndV ta tb) ρ (.bl b) := xd_and (a := true) ha fun _ => hb
theorem xd_orF {b : Bool} (ha : XD K ta ρ (.bl false)) (hb : XD K tb ρ (.bl b)) : XD K (tOrV ta tb) ρ (.bl b) := xd_or (a := false) ha fun _ => hb
theorem xd_chain {r' : R2} {a b c : D} {k m : Bool} (ha : XD K ta ρ a) (hb : XD K tb ρ b) (h1 : OX K r a b (Eq (.bl k))) (hc : k = true → XD K tc ρ c) (h2 : k = true → OX K r' b c (Eq (.bl m))) : XD K (tChain r r' ta tb tc) ρ (.bl (k && m)) := fun H0 G H σ e s Q q =>
  ha H0 G H σ e s _ fun v x G1 H1 A1 rx dx => hb H0 G1 H1 σ A1.i (s.adv A1) _ fun w y G2 H2 A2 ry dy => by
    subst rx ry
    refine h1 G2 H2 v w A2.i (dx.mono A2.g) dy _ fun z d G3 H3 A3 rd dd => ?_
    subst rd
    cases dd
    refine ⟨k, rfl, ?_⟩
    cases k with
    | false => exact iteF (q _ _ G3 H3 ((A1.trans A2).trans A3) rfl (.bl _))
    | true =>
      refine iteT (hc rfl H0 G3 H3 σ A3.i (s.adv ((A1.trans A2).trans A3)) _ fun w' y' G4 H4 A4 ry' dy' => ?_)
      subst ry'
      exact h2 rfl G4 H4 w w' A4.i (dy.mono (A3.g.trans A4.g)) dy' Q fun z' d' G5 H5 A5 rd' dd' => q z' d' G5 H5 ((((A1.trans A2).trans A3).trans A4).trans A5) rd' dd'
theorem xd_chainLe {a b c : Int} (ha : XD K ta ρ (.int a)) (hb : XD K tb ρ (.int b)) (hc : XD K tc ρ (.int c)) : XD K (tChain (rI0 fun i j => .bl (decide (i ≤ j))) (rI0 fun i j => .bl (decide (i ≤ j))) ta tb tc) ρ (.bl (decide (a ≤ b) && decide (b ≤ c))) :=
  xd_chain ha hb (ox_I0 fun _ => .bl _) (fun _ => hc) fun _ => ox_I0 fun _ => .bl _
/-- tests -/
theorem xt_B {b : Bool} (h : XD K te ρ (.bl b)) : XT K (tB te) ρ b := fun H0 G H σ e s Q q => h H0 G H σ e s _ fun v x G1 H1 A1 rx dx => by
  subst rx
  cases dx
  exact ⟨b, rfl, q G1 H1 A1⟩
theorem xt_and {a b : Bool} (h1 : XT K t ρ a) (h2 : a = true → XT K u ρ b) : XT K (tAnd t u) ρ (a && b) := fun H0 G H σ e s Q q => h1 H0 G H σ e s _ fun G1 H1 A1 => by
  cases a with
  | true => exact iteT (h2 rfl H0 G1 H1 σ A1.i (s.adv A1) _ fun G2 H2 A2 => q G2 H2 (A1.trans A2))
  | false => exact iteF (q G1 H1 A1)
theorem xt_or {a b : Bool} (h1 : XT K t ρ a) (h2 : a = false → XT K u ρ b) : XT K (tOr t u) ρ (a || b) := fun H0 G H σ e s Q q => h1 H0 G H σ e s _ fun G1 H1 A1 => by
  cases a with
  | true => exact iteT (q G1 H1 A1)
  | false => exact iteF (h2 rfl H0 G1 H1 σ A1.i (s.adv A1) _ fun G2 H2 A2 => q G2 H2 (A1.trans A2))
theorem xt_andF (h1 : XT K t ρ false) : XT K (tAnd t u) ρ false := xt_and (b := false) h1 fun h => nomatch h
theorem xt_andT {b : Bool} (h1 : XT K t ρ true) (h2 : XT K u ρ b) : XT K (tAnd t u) ρ b := xt_and (a := true) h1 fun _ => h2
theorem xt_orT (h1 : XT K t ρ true) : XT K (tOr t u) ρ true := xt_or (b := false) h1 fun h => nomatch h
theorem xt_orF {b : Bool} (h1 : XT K t ρ false) (h2 : XT K u ρ b) : XT K (tOr t u) ρ b := xt_or (a := false) h1 fun _ => h2
theorem xt_not {b : Bool} (h : XT K t ρ b) : XT K (tNot t) ρ (!b) := fun H0 G H σ e s Q q => h H0 G H σ e s _ fun G1 H1 A1 => q G1 H1 A1
theorem xt_yes : XT K tYes ρ true := fun H0 G H σ e s Q q => q G H (Adv.refl e)
theorem XT.eq {a b : Bool} (h : XT K t ρ a) (e : a = b) : XT K t ρ b := e ▸ h
theorem xd_if {b : Bool} {x : D} (h : XT K t ρ b) (h1 : b = true → XD K ta ρ x) (h2 : b = false → XD K tb ρ x) : XD K (tIf t ta tb) ρ x := fun H0 G H σ e s Q q => h H0 G H σ e s _ fun G1 H1 A1 => by
  cases b with
  | true => exact iteT (h1 rfl H0 G1 H1 σ A1.i (s.adv A1) _ fun w y G2 H2 A2 ry dy => q _ _ G2 H2 (A1.trans A2) ry dy)
  | false => exact iteF (h2 rfl H0 G1 H1 σ A1.i (s.adv A1) _ fun w y G2 H2 A2 ry dy => q _ _ G2 H2 (A1.trans A2) ry dy)
/-- arguments, displays -/
theorem xa_nil : XA K tNil ρ [] := fun H0 G H σ e s Q q => q [] G H (Adv.refl e) .nil
theorem xa_cons {tr : TA} {x : D} {xs : List D} (h : XD K te ρ x) (hr : XA K tr ρ xs) : XA K (tCons te tr) ρ (x :: xs) := fun H0 G H σ e s Q q =>
  h H0 G H σ e s _ fun v y G1 H1 A1 ry dy => hr H0 G1 H1 σ A1.i (s.adv A1) _ fun vs G2 H2 A2 ds => by
    subst ry
    exact q _ G2 H2 (A1.trans A2) (.cons (dy.mono A2.g) ds)
theorem xd_tup {ta : TA} {ds : List D} (h : XA K ta ρ ds) (hl : ds.length ≤ 100000) : XD K (tTup ta) ρ (.tup ds) := fun H0 G H σ e s Q q => h H0 G H σ e s _ fun vs G1 H1 A1 d =>
  ⟨by rw [d.length]; exact sz_of hl, fun p hp => q _ _ _ _ (A1.trans (Adv.new A1.i hp)) rfl (.tup upd_same (d.mono (Adv.new A1.i hp).g))⟩
theorem xd_lst {ta : TA} {ds : List D} (h : XA K ta ρ ds) (hl : ds.length ≤ 100000) : XD K (tLst ta) ρ (.lst ds) := fun H0 G H σ e s Q q => h H0 G H σ e s _ fun vs G1 H1 A1 d =>
  ⟨by rw [d.length]; exact sz_of hl, fun p hp => q _ _ _ _ (A1.trans (Adv.new A1.i hp)) rfl (.lst upd_same (d.mono (Adv.new A1.i hp).g))⟩
/-- operands -/
theorem xm_of {xs : List D} (h : XD K te ρ (.lst xs)) : XM K te ρ xs := fun H0 G H σ e s Q q => h H0 G H σ e s _ fun v y G1 H1 A1 ry dy => by
  subst ry
  cases dy with
  | lst h1 h2 => exact q _ _ G1 H1 A1 (A1.i _ _ h1) h2
theorem xm_own {i : Nat} {xs : List D} (h : ρ[i]? = some (.l xs)) : XM K (tVar i) ρ xs := fun H0 G H σ e s Q q => by
  obtain ⟨o, h1, p, vs, h2, h3, h4, h5, h6⟩ := s.ok i _ h
  subst h2
  exact ⟨_, h1, q p vs G H (Adv.refl e) h5 h6⟩
theorem xl_m {xs : List D} (h : XM K te ρ xs) : XL K te ρ xs := fun H0 G H σ e s Q q => h H0 G H σ e s _ fun a vs G1 H1 A1 h1 h2 => q a vs G1 H1 A1 (sq_of h1) h2
theorem xl_r {xs : List D} (h : XD K te ρ (.rlst xs)) : XL K te ρ xs := fun H0 G H σ e s Q q => h H0 G H σ e s _ fun v y G1 H1 A1 ry dy => by
  subst ry
  cases dy with
  | rlst h1 h2 => exact q _ _ G1 H1 A1 (ex_l A1.i h1) h2
theorem xl_of {xs : List D} (h : XD K te ρ (.lst xs)) : XL K te ρ xs := xl_m (xm_of h)
theorem xl_own {i : Nat} {xs : List D} (h : ρ[i]? = some (.l xs)) : XL K (tVar i) ρ xs := xl_m (xm_own h)
theorem xu_of {xs : List D} (h : XD K te ρ (.tup xs)) : XU K te ρ xs := fun H0 G H σ e s Q q => h H0 G H σ e s _ fun v y G1 H1 A1 ry dy => by
  subst ry
  cases dy with
  | tup h1 h2 => exact q _ _ G1 H1 A1 (st_of (A1.i _ _ h1)) h2
theorem xu_r {xs : List D} (h : XD K te ρ (.rtup xs)) : XU K te ρ xs := fun H0 G H σ e s Q q => h H0 G H σ e s _ fun v y G1 H1 A1 ry dy => by
  subst ry
  cases dy with
  | rtup h1 h2 => exact q _ _ G1 H1 A1 (ex_t A1.i h1) h2
/-- subscripts -/
theorem at_da {H : Hp} {vs : List V} {ds : List D} {i : Int} {x : D} (h : DaAll K H vs ds) (e : atI ds i = some x) : ∃ v, atI vs i = some v ∧ Da K H v x := by
  unfold atI at e ⊢
  rw [h.length]
  cases hj : ixN ds.length i with
  | none =>
    rw [hj] at e
    cases e
  | some j =>
    rw [hj] at e
    exact h.get e
theorem xd_ixL {xs : List D} {i : Int} {x : D} (ha : XL K ta ρ xs) (hb : XD K tb ρ (.int i)) (h : atI xs i = some x) : XD K (tOp (rIxL K) ta tb) ρ x := fun H0 G H σ e s Q q =>
  ha H0 G H σ e s _ fun a vs G1 H1 A1 h1 d1 => hb H0 G1 H1 σ A1.i (s.adv A1) _ fun w y G2 H2 A2 ry dy => by
    subst ry
    cases dy
    obtain ⟨v, hv, dv⟩ := at_da d1 h
    exact ⟨a, vs, i, v, rfl, rfl, ex_l A2.h h1, hv, q v x G2 H2 (A1.trans A2) rfl (dv.mono A2.g)⟩
theorem xd_ixT {xs : List D} {i : Int} {x : D} (ha : XU K ta ρ xs) (hb : XD K tb ρ (.int i)) (h : atI xs i = some x) : XD K (tOp (rIxT K) ta tb) ρ x := fun H0 G H σ e s Q q =>
  ha H0 G H σ e s _ fun a vs G1 H1 A1 h1 d1 => hb H0 G1 H1 σ A1.i (s.adv A1) _ fun w y G2 H2 A2 ry dy => by
    subst ry
    cases dy
    obtain ⟨v, hv, dv⟩ := at_da d1 h
    exact ⟨a, vs, i, v, rfl, rfl, ex_t A2.h h1, hv, q v x G2 H2 (A1.trans A2) rfl (dv.mono A2.g)⟩
theorem xo_none : XO K tNoPart ρ none := fun H0 G H σ e s Q q => q G H (Adv.refl e)
theorem xo_some {i : Int} (h : XD K te ρ (.int i)) : XO K (tPart te) ρ (some i) := fun H0 G H σ e s Q q => h H0 G H σ e s _ fun v y G1 H1 A1 ry dy => by
  subst ry
  cases dy
  exact ⟨i, rfl, q G1 H1 A1⟩
/-- xs[lo:hi] -/
def cutD {α : Type} (xs : List α) (lo hi : Option Int) : List α := (xs.drop (HT.sIx xs.length 0 lo)).take (HT.sIx xs.length xs.length hi - HT.sIx xs.length 0 lo)
theorem cut_da {H : Hp} {vs : List V} {ds : List D} {lo hi : Option Int} (h : DaAll K H vs ds) : DaAll K H (cutV vs lo hi) (cutD ds lo hi) := by
  unfold cutV cutD
  rw [h.length]
  exact (h.drop _).take _
theorem xd_slL {tl th : TO} {xs : List D} {lo hi : Option Int} (h : XL K te ρ xs) (h1 : XO K tl ρ lo) (h2 : XO K th ρ hi) : XD K (tSl (rSlL K) te tl th) ρ (.lst (cutD xs lo hi)) := fun H0 G H σ e s Q q =>
  h H0 G H σ e s _ fun a vs G1 H1 A1 g1 d1 => h1 H0 G1 H1 σ A1.i (s.adv A1) _ fun G2 H2 A2 => h2 H0 G2 H2 σ A2.i (s.adv (A1.trans A2)) _ fun G3 H3 A3 =>
    ⟨a, vs, rfl, ex_l (A2.h.trans A3.h) g1, fun p hp => q _ _ _ _ (((A1.trans A2).trans A3).trans (Adv.new A3.i hp)) rfl (.lst upd_same (cut_da (d1.mono ((A2.g.trans A3.g).trans (Adv.new A3.i hp).g))))⟩
/-- a tuple's slice: perhaps the tuple itself -/
theorem cut_all {α : Type} {xs : List α} {lo hi : Option Int} (h : HT.sIx xs.length 0 lo = 0 ∧ HT.sIx xs.length xs.length hi = xs.length) : cutD xs lo hi = xs := by
  unfold cutD
  rw [h.1, h.2, List.drop_zero, Nat.sub_zero, List.take_length]
theorem xd_slT {tl th : TO} {xs : List D} {lo hi : Option Int} (h : XD K te ρ (.tup xs)) (h1 : XO K tl ρ lo) (h2 : XO K th ρ hi) : XD K (tSl (rSlA K) te tl th) ρ (.tup (cutD xs lo hi)) := fun H0 G H σ e s Q q =>
  h H0 G H σ e s _ fun v y G1 H1 A1 ry dy => by
    subst ry
    cases dy with
    | @tup a vs _ g1 d1 =>
      refine h1 H0 G1 H1 σ A1.i (s.adv A1) _ fun G2 H2 A2 => h2 H0 G2 H2 σ A2.i (s.adv (A1.trans A2)) _ fun G3 H3 A3 =>
        ⟨a, vs, rfl, st_of (A3.i _ _ ((A2.g.trans A3.g) _ _ g1)), fun w => ?_, fun _ p hp => q _ _ _ _ (((A1.trans A2).trans A3).trans (Adv.new A3.i hp)) rfl (.tup upd_same (cut_da (d1.mono ((A2.g.trans A3.g).trans (Adv.new A3.i hp).g))))⟩
      rw [d1.length] at w
      rw [cut_all w] at q
      exact q _ _ G3 H3 ((A1.trans A2).trans A3) rfl (.tup ((A2.g.trans A3.g) _ _ g1) (d1.mono (A2.g.trans A3.g)))
/-- + of lists, of tuples; lists repeated -/
theorem xd_cat {xs ys : List D} (ha : XM K ta ρ xs) (hb : XM K tb ρ ys) (hl : xs.length + ys.length ≤ 100000) : XD K (tOp rCat ta tb) ρ (.lst (xs ++ ys)) := fun H0 G H σ e s Q q =>
  ha H0 G H σ e s _ fun a vs G1 H1 A1 h1 d1 => hb H0 G1 H1 σ A1.i (s.adv A1) _ fun b ws G2 H2 A2 h2 d2 =>
    ⟨a, b, vs, ws, rfl, rfl, A2.h _ _ h1, h2, by rw [d1.length, d2.length]; exact sz_of hl, fun p hp =>
      q _ _ _ _ ((A1.trans A2).trans (Adv.new A2.i hp)) rfl (.lst upd_same ((d1.mono A2.g).append d2 |>.mono (Adv.new A2.i hp).g))⟩
theorem xd_rep {xs : List D} {k : Int} (ha : XM K ta ρ xs) (hb : XD K tb ρ (.int k)) (h0 : 0 ≤ k) (h1 : k ≤ 100000) (hl : xs.length * k.toNat ≤ 100000) : XD K (tOp rRep ta tb) ρ (.lst (List.replicate k.toNat xs).flatten) := fun H0 G H σ e s Q q =>
  ha H0 G H σ e s _ fun a vs G1 H1 A1 g1 d1 => hb H0 G1 H1 σ A1.i (s.adv A1) _ fun w y G2 H2 A2 ry dy => by
    subst ry
    cases dy
    exact ⟨a, k, vs, rfl, rfl, A2.h _ _ g1, by omega, by omega, by rw [d1.length]; exact sz_of hl, fun p hp =>
      q _ _ _ _ ((A1.trans A2).trans (Adv.new A2.i hp)) rfl (.lst upd_same ((d1.flatten_rep k.toNat).mono (A2.g.trans (Adv.new A2.i hp).g)))⟩
theorem xd_catT {xs ys : List D} (ha : XD K ta ρ (.tup xs)) (hb : XD K tb ρ (.tup ys)) (hl : xs.length + ys.length ≤ 100000) : XD K (tOp (rCatA K) ta tb) ρ (.tup (xs ++ ys)) := xd_op ha hb (ox_of fun G H va vb e da db Q q => by
  cases da with
  | @tup a vs _ g1 d1 =>
    cases db with
    | @tup b ws _ g2 d2 =>
      refine ⟨a, b, vs, ws, rfl, rfl, st_of (e _ _ g1), st_of (e _ _ g2), by rw [d1.length, d2.length]; exact sz_of hl, fun z => ?_, fun _ z => ?_, fun _ _ p hp => q _ _ _ (Adv.new e hp) (.tup upd_same ((d1.append d2).mono (Adv.new e hp).g))⟩
      · subst z
        cases d1
        exact q _ G H (Adv.refl e) (.tup g2 d2)
      · subst z
        cases d2
        rw [List.append_nil] at q
        exact q _ G H (Adv.refl e) (.tup g1 d1))
end
end Dx
end

section
set_option Elab.async false
set_option linter.all false
set_option maxRecDepth 100000
set_option maxHeartbeats 4000000
namespace Dx
open PySem PySem.Spec PyProof.Rows L2 Evl RZ

/-! ### promises -/
abbrev Sg := List D → (D → Prop) → Prop
def spX (K : PySem.W.Frag) (S : Sg) : Sp := fun vs H Q _ => ∃ G ds R, Ex G H ∧ DaAll K G vs ds ∧ S ds R ∧ ∀ v x G' H', Adv G H G' H' → R x → Da K G' v x → Q v H'
/-- .. a dict is handed back that nobody changes -/
def spT (K : PySem.W.Frag) (S : List D → (Kvs → Prop) → Prop) : Sp := fun vs H Q _ => ∃ G ds R, Ex G H ∧ DaAll K G vs ds ∧ S ds R ∧ ∀ p ob ws kvs G' H', Adv G H G' H' → R kvs → G' p = some (.frz ob (rawO p ws)) → KvOk K G' ws kvs → Q (.ref p) H'
section
variable {K : PySem.W.Frag} {ρ : List Sl} {ta tb tc te : TE} {t u : TT} {R R' : D → Prop} {r : R2}
theorem xe_call {S : Sg} {E : XK} {ta : TA} {ds : List D} (h : XA K ta ρ ds) (hs : S ds R) : XE K (tCall (spX K S) [] E ta) ρ R := fun H0 G H σ e s Q q => h H0 G H σ e s _ fun vs G1 H1 A1 d =>
  ⟨G1, ds, R, A1.i, by rw [List.append_nil]; exact d, hs, fun v x G2 H2 A2 rx dx => q v x G2 H2 (A1.trans A2) rx dx⟩
/-! ### built-ins -/
theorem xd_len {xs : List D} (h : XL K te ρ xs) : XD K (tCB (rLenS K) (tCons te tNil)) ρ (.int (xs.length : Nat)) := fun H0 G H σ e s Q q => h H0 G H σ e s _ fun a vs G1 H1 A1 h1 d1 =>
  ⟨a, vs, rfl, .inl h1, by rw [d1.length]; exact q _ _ G1 H1 A1 rfl (.int _)⟩
theorem xd_lenU {xs : List D} (h : XU K te ρ xs) : XD K (tCB (rLenS K) (tCons te tNil)) ρ (.int (xs.length : Nat)) := fun H0 G H σ e s Q q => h H0 G H σ e s _ fun a vs G1 H1 A1 h1 d1 =>
  ⟨a, vs, rfl, .inr h1, by rw [d1.length]; exact q _ _ G1 H1 A1 rfl (.int _)⟩
theorem cr_lenS {X : Cx} : CallR X (.builtin "len") (rLenS X.K) := call_len_seq
theorem cr_listS {X : Cx} : CallR X (.type "list") (rListS X.K) := call_list_of
def rTupS (K : PySem.W.Frag) : List V → Hp → VK → Prop := fun xs H Q => ∃ p ys, xs = [.ref p] ∧ ((SqL K H p ys ∧ ∀ l, H l = none → Q (.ref l) (upd H l (.tup ys))) ∨ (SqT K H p ys ∧ Q (.ref p) H))
theorem cr_tupS {X : Cx} : CallR X (.type "tuple") (rTupS X.K) := call_tuple_of
theorem xd_list {xs : List D} (h : XL K te ρ xs) : XD K (tCB (rListS K) (tCons te tNil)) ρ (.lst xs) := fun H0 G H σ e s Q q => h H0 G H σ e s _ fun a vs G1 H1 A1 h1 d1 =>
  ⟨a, vs, rfl, .inl h1, fun l hl => q _ _ _ _ (A1.trans (Adv.new A1.i hl)) rfl (.lst upd_same (d1.mono (Adv.new A1.i hl).g))⟩
theorem xd_listU {xs : List D} (h : XU K te ρ xs) : XD K (tCB (rListS K) (tCons te tNil)) ρ (.lst xs) := fun H0 G H σ e s Q q => h H0 G H σ e s _ fun a vs G1 H1 A1 h1 d1 =>
  ⟨a, vs, rfl, .inr h1, fun l hl => q _ _ _ _ (A1.trans (Adv.new A1.i hl)) rfl (.lst upd_same (d1.mono (Adv.new A1.i hl).g))⟩
theorem xd_tuple {xs : List D} (h : XL K te ρ xs) : XD K (tCB (rTupS K) (tCons te tNil)) ρ (.tup xs) := fun H0 G H σ e s Q q => h H0 G H σ e s _ fun a vs G1 H1 A1 h1 d1 =>
  ⟨a, vs, rfl, .inl ⟨h1, fun l hl => q _ _ _ _ (A1.trans (Adv.new A1.i hl)) rfl (.tup upd_same (d1.mono (Adv.new A1.i hl).g))⟩⟩
theorem xd_tupleT {xs : List D} (h : XD K te ρ (.tup xs)) : XD K (tCB (rTupS K) (tCons te tNil)) ρ (.tup xs) := fun H0 G H σ e s Q q => h H0 G H σ e s _ fun v x G1 H1 A1 rx dx => by
  subst rx
  cases dx with
  | @tup a vs _ h1 d1 => exact ⟨a, vs, rfl, .inr ⟨st_of (A1.i _ _ h1), q _ _ G1 H1 A1 rfl (.tup h1 d1)⟩⟩
/-- a built-in of one list of intsD, of bools -/
def rSumQ (K : PySem.W.Frag) : List V → Hp → VK → Prop := rSum K
theorem xd_sum {ns : List Int} (h : XL K te ρ (ns.map D.int)) : XD K (tCB (rSum K) (tCons te tNil)) ρ (.int ns.sum) := fun H0 G H σ e s Q q => h H0 G H σ e s _ fun a vs G1 H1 A1 h1 d1 =>
  ⟨a, ns, rfl, d1.int_eq ▸ h1, q _ _ G1 H1 A1 rfl (.int _)⟩
theorem xe_max {ns : List Int} (h : XL K te ρ (ns.map D.int)) (h0 : 0 < ns.length) : XE K (tCB (rMax K) (tCons te tNil)) ρ (fun x => ∃ m, x = .int m ∧ m ∈ ns ∧ ∀ y ∈ ns, y ≤ m) := fun H0 G H σ e s Q q => h H0 G H σ e s _ fun a vs G1 H1 A1 h1 d1 =>
  ⟨a, ns, rfl, d1.int_eq ▸ h1, h0, fun m hm hle => q _ _ G1 H1 A1 ⟨m, rfl, hm, hle⟩ (.int _)⟩
theorem xe_min {ns : List Int} (h : XL K te ρ (ns.map D.int)) (h0 : 0 < ns.length) : XE K (tCB (rMin K) (tCons te tNil)) ρ (fun x => ∃ m, x = .int m ∧ m ∈ ns ∧ ∀ y ∈ ns, m ≤ y) := fun H0 G H σ e s Q q => h H0 G H σ e s _ fun a vs G1 H1 A1 h1 d1 =>
  ⟨a, ns, rfl, d1.int_eq ▸ h1, h0, fun m hm hle => q _ _ G1 H1 A1 ⟨m, rfl, hm, hle⟩ (.int _)⟩
theorem xd_all {bs : List Bool} (h : XL K te ρ (bs.map D.bl)) : XD K (tCB (rAll K) (tCons te tNil)) ρ (.bl (bs.all id)) := fun H0 G H σ e s Q q => h H0 G H σ e s _ fun a vs G1 H1 A1 h1 d1 =>
  ⟨a, bs, rfl, d1.bool_eq ▸ h1, q _ _ G1 H1 A1 rfl (.bl _)⟩
theorem xd_any {bs : List Bool} (h : XL K te ρ (bs.map D.bl)) : XD K (tCB (rAny K) (tCons te tNil)) ρ (.bl (bs.any id)) := fun H0 G H σ e s Q q => h H0 G H σ e s _ fun a vs G1 H1 A1 h1 d1 =>
  ⟨a, bs, rfl, d1.bool_eq ▸ h1, q _ _ G1 H1 A1 rfl (.bl _)⟩
/-- a built-in on arguments -/
theorem xe_cb {r : List V → Hp → VK → Prop} {ta : TA} {ds : List D} (h : XA K ta ρ ds) (hr : CX' K r ds R) : XE K (tCB r ta) ρ R := fun H0 G H σ e s Q q => h H0 G H σ e s _ fun vs G1 H1 A1 d =>
  hr G1 H1 vs A1.i d Q fun v x G2 H2 A2 rx dx => q v x G2 H2 (A1.trans A2) rx dx
def rAbs : List V → Hp → VK → Prop := fun xs H Q => ∃ i, xs = [.int i] ∧ Q (.int (if i < 0 then -i else i)) H
theorem cr_abs {X : Cx} : CallR X (.builtin "abs") rAbs := by
  have h := @call_abs X
  exact h
theorem xd_abs {i : Int} (h : XD K te ρ (.int i)) : XD K (tCB rAbs (tCons te tNil)) ρ (.int (if i < 0 then -i else i)) := xe_cb (xa_cons h xa_nil) fun G H vs e d Q q => by
  cases d with
  | cons d1 d2 =>
    cases d1
    cases d2
    exact ⟨i, rfl, q _ _ G H (Adv.refl e) rfl (.int _)⟩
def rMin2 : List V → Hp → VK → Prop := fun xs H Q => ∃ i j, xs = [.int i, .int j] ∧ Q (.int (if j < i then j else i)) H
theorem cr_min2 {X : Cx} (hc : X.calm = true) : CallR X (.builtin "min") rMin2 := call_min2 hc
theorem xd_min2 {i j : Int} (h : XD K te ρ (.int i)) (h' : XD K tb ρ (.int j)) : XD K (tCB rMin2 (tCons te (tCons tb tNil))) ρ (.int (if j < i then j else i)) := xe_cb (xa_cons h (xa_cons h' xa_nil)) fun G H vs e d Q q => by
  cases d with
  | cons d1 d2 =>
    cases d2 with
    | cons d2 d3 =>
      cases d1
      cases d2
      cases d3
      exact ⟨i, j, rfl, q _ _ G H (Adv.refl e) rfl (.int _)⟩
/-- isinstance -/
def D.ty : D → String
  | .non => "NoneType" | .bl _ => "bool" | .int _ => "int" | .str _ => "str" | .tup _ => "tuple" | .rtup _ => "tuple" | .lst _ => "list" | .rlst _ => "list" | .key _ => "tuple"
theorem Da.tyx {H : Hp} {v : V} {x : D} (h : Da K H v x) : TyX K H v (.type x.ty) := by
  cases h with
  | non => exact .base .non
  | bl b => exact .base (.bl b)
  | int i => exact .base (.int i)
  | str x => exact .base (.str x)
  | tup h1 h2 => exact .base (.tup h1)
  | lst h1 h2 => exact .base (.lst h1)
  | rtup h1 h2 =>
    rcases h1 with (h1 | ⟨o, h1⟩) | ⟨o, its, n, h1, h3, h4⟩
    · exact .base (.tup h1)
    · exact .fTuple h1
    · exact .kTuple h1 h3
  | rlst h1 h2 =>
    rcases h1 with (h1 | ⟨o, h1⟩) | ⟨o, its, n, h1, h3, h4⟩
    · exact .base (.lst h1)
    · exact .base (.frz h1)
    · exact .kList h1 h3
  | key h1 =>
    obtain ⟨o, e, _⟩ := h1
    exact .fTuple e
theorem xd_isi {x : D} {n : String} {b : Bool} (h : XD K te ρ x) (hk : kitB x.ty n = some b) : XD K (tCB (rIsi K) (tCons te (tCons (tC (.ty n)) tNil))) ρ (.bl b) := fun H0 G H σ e s Q q => h H0 G H σ e s _ fun v x G1 H1 A1 rx dx => by
  subst rx
  exact ⟨v, .ty n, _, _, b, rfl, .ty n, (dx.mono A1.i).tyx, kit_ty hk, q _ _ G1 H1 A1 rfl (.bl _)⟩
theorem kb_int : kitB "int" "int" = some true := by decide +kernel
theorem kb_int_bool : kitB "int" "bool" = some false := by decide +kernel
theorem kb_bool_bool : kitB "bool" "bool" = some true := by decide +kernel
theorem kb_tuple : kitB "tuple" "tuple" = some true := by decide +kernel
theorem kb_list : kitB "list" "list" = some true := by decide +kernel
theorem kb_str : kitB "str" "str" = some true := by decide +kernel
/-- int(flag) -/
def rIntB : List V → Hp → VK → Prop := fun xs H Q => ∃ b, xs = [.bl b] ∧ Q (.int (if b = true then 1 else 0)) H
end

/-! ### walks of data -/
/-- at turn i the datum ys[i] is given -/
def YD (K : PySem.W.Frag) (G1 : Hp) (ys : List D) : Nat → Hp → V → Hp → Prop := fun i H x H' => ∀ G2, Ex G1 G2 → Ex G2 H → ∃ G3 y, ys[i]? = some y ∧ Adv G2 H G3 H' ∧ Da K G3 x y
def IX (K : PySem.W.Frag) (wi : TI) (ρ : List Sl) (ys : List D) : Prop := ∀ (H0 G H : Hp) (σ : L2.St), Ex G H → SR K H0 G H σ ρ → ∀ R : It → Hp → Prop, (∀ J G' H', Adv G H G' H' → Walk J ys.length (fun H2 => Ex G' H2) (YD K G' ys) → R J H') → wi σ H R
section
variable {K : PySem.W.Frag} {ρ : List Sl} {ta tb tc te tl : TE} {t u : TT}
theorem yd_at {G1 : Hp} {vs : List V} {ys : List D} (d : DaAll K G1 vs ys) {i : Nat} {H H' : Hp} {x : V} (h : YAt vs i H x H') : YD K G1 ys i H x H' := fun G2 e1 e2 => by
  obtain ⟨rfl, h⟩ := h
  obtain ⟨y, h1, h2⟩ := d.getV h
  exact ⟨G2, y, h1, Adv.refl e2, h2.mono e1⟩
theorem ix_listD {xs : List D} (h : XD K tl ρ (.lst xs)) : IX K (iList K tl) ρ xs := fun H0 G H σ e s R q => h H0 G H σ e s _ fun v x G1 H1 A1 rx dx => by
  subst rx
  cases dx with
  | @lst a vs _ g1 d1 =>
    refine ⟨a, rfl, ⟨vs, sq_of (A1.i _ _ g1)⟩, q _ G1 H1 A1 ?_⟩
    have w := walk_list (K := K) (a := a) (xs := vs)
    rw [d1.length] at w
    exact w.mono (fun H2 e2 => sq_of (e2 _ _ g1)) fun i H x H' _ _ y => yd_at d1 y
theorem ix_tupD {xs : List D} (h : XD K tl ρ (.tup xs)) : IX K (iTup K tl) ρ xs := fun H0 G H σ e s R q => h H0 G H σ e s _ fun v x G1 H1 A1 rx dx => by
  subst rx
  cases dx with
  | @tup a vs _ g1 d1 =>
    refine ⟨a, rfl, ⟨vs, st_of (A1.i _ _ g1)⟩, q _ G1 H1 A1 ?_⟩
    have w := walk_tup (K := K) (a := a) (xs := vs)
    rw [d1.length] at w
    exact w.mono (fun H2 e2 => st_of (e2 _ _ g1)) fun i H x H' _ _ y => yd_at d1 y
def intsD (lo : Int) (n : Nat) : List D := (List.range n).map fun i => .int (lo + (i : Nat))
theorem ints_len {lo : Int} {n : Nat} : (intsD lo n).length = n := by unfold intsD; rw [List.length_map, List.length_range]
theorem ints_at {lo : Int} {n i : Nat} (h : i < n) : (intsD lo n)[i]? = some (.int (lo + (i : Nat))) := by
  unfold intsD
  rw [List.getElem?_map, List.getElem?_range h]
  rfl
theorem walk_rg {G' : Hp} {lo : Int} {n : Nat} : Walk (Itr lo n) (intsD lo n).length (fun H2 => Ex G' H2) (YD K G' (intsD lo n)) := by
  have w := walk_range (lo := lo) (n := n)
  rw [ints_len]
  refine w.mono (fun _ _ => trivial) fun i H x H' hi _ y G2 e1 e2 => ?_
  obtain ⟨rfl, rfl⟩ := y
  exact ⟨G2, _, ints_at hi, Adv.refl e2, .int _⟩
theorem ix_rng1 {ta : TA} {n : Int} (h : XA K ta ρ [.int n]) (hn : n ≤ 100000) (hn' : -100000 ≤ n) : IX K (iRng1 ta) ρ (intsD 0 n.toNat) := fun H0 G H σ e s R q => h H0 G H σ e s _ fun vs G1 H1 A1 d => by
  cases d with
  | cons d1 d2 =>
    cases d1
    cases d2
    exact ⟨n, rfl, by omega, by omega, q _ G1 H1 A1 walk_rg⟩
theorem ix_rng2 {ta : TA} {lo n : Int} (h : XA K ta ρ [.int lo, .int n]) (hn : n ≤ 100000) (hn' : -100000 ≤ n) (hl : lo ≤ 100000) (hl' : -100000 ≤ lo) : IX K (iRng2 ta) ρ (intsD lo (n - lo).toNat) := fun H0 G H σ e s R q => h H0 G H σ e s _ fun vs G1 H1 A1 d => by
  cases d with
  | cons d1 d2 =>
    cases d2 with
    | cons d2 d3 =>
      cases d1
      cases d2
      cases d3
      exact ⟨lo, n, rfl, ⟨by omega, by omega, by omega, by omega⟩, q _ G1 H1 A1 walk_rg⟩
theorem yd_pair {G1 : Hp} {xs ys : Nat → Option V} {ps : List D} {i : Nat} {H H' : Hp} {v : V} (hx : ∀ x y, xs i = some x → ys i = some y → ∃ dx dy, ps[i]? = some (.tup [dx, dy]) ∧ Da K G1 x dx ∧ Da K G1 y dy) (h : YPair xs ys i H v H') : YD K G1 ps i H v H' := fun G2 e1 e2 => by
  obtain ⟨T, x, y, rfl, hT, rfl, h1, h2⟩ := h
  obtain ⟨dx, dy, h3, h4, h5⟩ := hx x y h1 h2
  have A := Adv.new (o := .tup [x, y]) e2 hT
  exact ⟨_, _, h3, A, .tup upd_same (.cons (h4.mono (e1.trans A.g)) (.cons (h5.mono (e1.trans A.g)) .nil))⟩
/-- enumerate -/
def enumD (xs : List D) : List D := (List.range xs.length).zipWith (fun i x => .tup [.int (i : Nat), x]) xs
theorem enumD_len {xs : List D} : (enumD xs).length = xs.length := by unfold enumD; rw [List.length_zipWith, List.length_range, Nat.min_self]
theorem enumD_at {xs : List D} {i : Nat} {x : D} (h : xs[i]? = some x) : (enumD xs)[i]? = some (.tup [.int (i : Nat), x]) := by
  have hi : i < xs.length := (List.getElem?_eq_some_iff.mp h).1
  unfold enumD
  rw [List.getElem?_zipWith, List.getElem?_range hi, h]
theorem ix_enum {ta : TE} {xs : List D} (h : XD K ta ρ (.lst xs)) : IX K (iEnum K (tCons ta tNil)) ρ (enumD xs) := fun H0 G H σ e s R q => h H0 G H σ e s _ fun v x G1 H1 A1 rx dx => by
  subst rx
  cases dx with
  | @lst a vs _ g1 d1 =>
    refine ⟨a, vs, rfl, sq_of (A1.i _ _ g1), q _ G1 H1 A1 ?_⟩
    have w := walk_enum (K := K) (a := a) (xs := vs)
    rw [d1.length] at w
    rw [enumD_len]
    refine w.mono (fun H2 e2 => sq_of (e2 _ _ g1)) fun i H x H' hi _ y => yd_pair (fun x y h1 h2 => ?_) y
    cases h1
    obtain ⟨dy, h3, h4⟩ := d1.getV h2
    exact ⟨_, dy, enumD_at h3, .int _, h4⟩
/-- zip of two lists, of two tuples -/
def zipD (xs ys : List D) : List D := xs.zipWith (fun x y => .tup [x, y]) ys
theorem zipD_at {xs ys : List D} {i : Nat} {x y : D} (h : xs[i]? = some x) (h' : ys[i]? = some y) : (zipD xs ys)[i]? = some (.tup [x, y]) := by
  unfold zipD
  rw [List.getElem?_zipWith, h, h']
theorem ix_zipL {ta tb : TE} {xs ys : List D} (h : XD K ta ρ (.lst xs)) (h' : XD K tb ρ (.lst ys)) : IX K (iZipA K (tCons ta (tCons tb tNil))) ρ (zipD xs ys) := fun H0 G H σ e s R q => h H0 G H σ e s _ fun v x G1 H1 A1 rx dx => by
  subst rx
  cases dx with
  | @lst a vs _ g1 d1 =>
    refine h' H0 G1 H1 σ A1.i (s.adv A1) _ fun v x G2 H2 A2 rx dx => ?_
    subst rx
    cases dx with
    | @lst b ws _ g2 d2 =>
      have g1' := A2.g _ _ g1
      refine ⟨a, b, vs, ws, rfl, .inl ⟨sq_of (A2.i _ _ g1'), sq_of (A2.i _ _ g2), q _ G2 H2 (A1.trans A2) ?_⟩⟩
      have w := walk_zip (K := K) (a := a) (b := b) (xs := vs) (ys := ws) rfl
      rw [d1.length, d2.length] at w
      have el : (zipD xs ys).length = min xs.length ys.length := by unfold zipD; rw [List.length_zipWith]
      rw [el]
      refine w.mono (fun H2 e2 => ⟨sq_of (e2 _ _ g1'), sq_of (e2 _ _ g2)⟩) fun i H x H' hi _ y => yd_pair (fun x y h1 h2 => ?_) y
      obtain ⟨dx, h5, h6⟩ := (d1.mono A2.g).getV h1
      obtain ⟨dy, h3, h4⟩ := d2.getV h2
      exact ⟨dx, dy, zipD_at h5 h3, h6, h4⟩
theorem walk_zipT {a b : Addr} {xs ys : List V} {n : Nat} (hn : n = min xs.length ys.length) : Walk (ItzT K a b) n (fun H => SqT K H a xs ∧ SqT K H b ys) (YPair (fun i => xs[i]?) (fun i => ys[i]?)) := by
  subst hn
  refine ⟨fun i _ hi q => ?_, fun _ q => ⟨xs, ys, q.1, q.2, by omega⟩, fun i H v H' _ q y => ?_⟩
  · have h1 : i < xs.length := by omega
    have h2 : i < ys.length := by omega
    exact ⟨xs, ys, xs[i], ys[i], q.1, q.2, by simp [h1], by simp [h2]⟩
  · obtain ⟨T, x, z, h1, h2, h3, h4, h5⟩ := y
    exact ⟨T, x, z, h1, h2, h3, h4 xs q.1, h5 ys q.2⟩
theorem ix_zipT {ta tb : TE} {xs ys : List D} (h : XD K ta ρ (.tup xs)) (h' : XD K tb ρ (.tup ys)) : IX K (iZipA K (tCons ta (tCons tb tNil))) ρ (zipD xs ys) := fun H0 G H σ e s R q => h H0 G H σ e s _ fun v x G1 H1 A1 rx dx => by
  subst rx
  cases dx with
  | @tup a vs _ g1 d1 =>
    refine h' H0 G1 H1 σ A1.i (s.adv A1) _ fun v x G2 H2 A2 rx dx => ?_
    subst rx
    cases dx with
    | @tup b ws _ g2 d2 =>
      have g1' := A2.g _ _ g1
      refine ⟨a, b, vs, ws, rfl, .inr ⟨st_of (A2.i _ _ g1'), st_of (A2.i _ _ g2), q _ G2 H2 (A1.trans A2) ?_⟩⟩
      have w := walk_zipT (K := K) (a := a) (b := b) (xs := vs) (ys := ws) rfl
      rw [d1.length, d2.length] at w
      have el : (zipD xs ys).length = min xs.length ys.length := by unfold zipD; rw [List.length_zipWith]
      rw [el]
      refine w.mono (fun H2 e2 => ⟨st_of (e2 _ _ g1'), st_of (e2 _ _ g2)⟩) fun i H x H' hi _ y => yd_pair (fun x y h1 h2 => ?_) y
      obtain ⟨dx, h5, h6⟩ := (d1.mono A2.g).getV h1
      obtain ⟨dy, h3, h4⟩ := d2.getV h2
      exact ⟨dx, dy, zipD_at h5 h3, h6, h4⟩

/-! ### targets -/
/-- the target g, given y, takes the slots ρ to ρ'; it stores at js alone -/
def XG (K : PySem.W.Frag) (g : TG) (js : List Nat) (y : D) (ρ ρ' : List Sl) : Prop := ∀ (H0 G H : Hp) (σ : L2.St) (v : V), Ex G H → SR K H0 G H σ ρ → Da K G v y → ∀ Q : L2.St → Hp → Prop,
  (∀ σ', SR K H0 G H σ' ρ' → (∀ vs, (∀ j ∈ js, j ∈ vs) → L2.wipe σ' vs = L2.wipe σ vs) → Q σ' H) → g v σ H Q
theorem wipe_at {σ : L2.St} {i : Nat} : ∀ {vs : List Nat}, (L2.wipe σ vs)[i]? = if i ∈ vs ∧ i < σ.length then some none else σ[i]?
  | [] => by simp [L2.wipe]
  | v :: vs => by
    unfold L2.wipe
    by_cases hi : v = i
    · subst hi
      by_cases hl : v < σ.length
      · rw [List.getElem?_set_self (by rw [L2.wipe_length]; exact hl), if_pos ⟨List.mem_cons_self, hl⟩]
      · rw [if_neg (fun z => hl z.2), List.getElem?_eq_none (by rw [List.length_set, L2.wipe_length]; omega), List.getElem?_eq_none (by omega)]
    · rw [List.getElem?_set_ne hi, wipe_at]
      by_cases hm : i ∈ vs ∧ i < σ.length
      · rw [if_pos hm, if_pos ⟨List.mem_cons_of_mem _ hm.1, hm.2⟩]
      · rw [if_neg hm, if_neg fun z => hm ⟨(List.mem_cons.mp z.1).resolve_left fun w => hi w.symm, z.2⟩]
theorem wipe_set {σ : L2.St} {j : Nat} {o : Option V} {vs : List Nat} (h : j ∈ vs) : L2.wipe (σ.set j o) vs = L2.wipe σ vs := by
  apply List.ext_getElem?
  intro i
  rw [wipe_at, wipe_at, List.length_set]
  by_cases hi : i ∈ vs ∧ i < σ.length
  · rw [if_pos hi, if_pos hi]
  · rw [if_neg hi, if_neg hi]
    by_cases e : j = i
    · subst e
      have hl : ¬ j < σ.length := fun z => hi ⟨h, z⟩
      rw [List.getElem?_eq_none (by rw [List.length_set]; omega), List.getElem?_eq_none (by omega)]
    · rw [List.getElem?_set_ne e]
theorem xg_name {i : Nat} {y : D} : XG K (gName i) [i] y ρ (ρ.set i (.d y)) := fun H0 G H σ v e s d Q q => q _ (s.setD d) fun vs hv => wipe_set (hv i List.mem_cons_self)
/-- .. of a tuple's items, one by one -/
def XGs (K : PySem.W.Frag) (g : TGs) (js : List Nat) (ys : List D) (ρ ρ' : List Sl) : Prop := ∀ (H0 G H : Hp) (σ : L2.St) (vs : List V), Ex G H → SR K H0 G H σ ρ → DaAll K G vs ys → ∀ Q : L2.St → Hp → Prop,
  (∀ σ', SR K H0 G H σ' ρ' → (∀ ws, (∀ j ∈ js, j ∈ ws) → L2.wipe σ' ws = L2.wipe σ ws) → Q σ' H) → g vs σ H Q
theorem xgs_nil : XGs K gNil [] [] ρ ρ := fun H0 G H σ vs e s d Q q => by
  cases d
  exact ⟨rfl, q σ s fun _ _ => rfl⟩
theorem xgs_cons {i : Nat} {gs : TGs} {js : List Nat} {y : D} {ys : List D} {ρ' : List Sl} (h : XGs K gs js ys (ρ.set i (.d y)) ρ') : XGs K (gCons (gName i) gs) (i :: js) (y :: ys) ρ ρ' := fun H0 G H σ vs e s d Q q => by
  cases d with
  | cons d1 d2 =>
    refine ⟨_, _, rfl, h H0 G H _ _ e (s.setD d1) d2 _ fun σ' s' hw => q σ' s' fun ws hv => ?_⟩
    rw [hw ws fun j hj => hv j (List.mem_cons_of_mem _ hj)]
    exact wipe_set (hv i List.mem_cons_self)
theorem xg_tup {n : Nat} {gs : TGs} {js : List Nat} {ys : List D} {ρ' : List Sl} (h : XGs K gs js ys ρ ρ') (hn : ys.length = n) : XG K (gTup K n gs) js (.tup ys) ρ ρ' := fun H0 G H σ v e s d Q q => by
  cases d with
  | @tup a vs _ g1 d1 => exact ⟨a, vs, rfl, st_of (e _ _ g1), by rw [d1.length]; exact hn, h H0 G H σ vs e s d1 Q q⟩

/-! ### comprehensions -/
/-- what a comprehension keeps of turn i: nothing, or a datum -/
def gathered (n : Nat) (f : Nat → Bool) (v : Nat → D) : List D := ((List.range n).filter f).map v
theorem gathered_yes {n : Nat} {f : Nat → Bool} {v : Nat → D} (h : f n = true) : gathered (n + 1) f v = gathered n f v ++ [v n] := by
  unfold gathered
  rw [List.range_succ, List.filter_append, List.map_append, List.filter_cons, if_pos h] <;> rfl
theorem gathered_no {n : Nat} {f : Nat → Bool} {v : Nat → D} (h : f n = false) : gathered (n + 1) f v = gathered n f v := by
  unfold gathered
  rw [List.range_succ, List.filter_append, List.map_append, List.filter_cons, if_neg (by rw [h]; decide)]
  show _ ++ [] = _
  rw [List.append_nil]
theorem gathered_len (n : Nat) (f : Nat → Bool) (v : Nat → D) : (gathered n f v).length ≤ n := by
  unfold gathered
  rw [List.length_map]
  have h := List.length_filter_le f (List.range n)
  rw [List.length_range] at h
  exact h
theorem gathered_all {n : Nat} {v : Nat → D} : gathered n (fun _ => true) v = (List.range n).map v := by
  unfold gathered
  rw [List.filter_eq_self.mpr fun _ _ => rfl]
theorem xd_lc {wi : TI} {g : TG} {tt : TT} {vs js : List Nat} {ys : List D} {ρ' : Nat → List Sl} (f : Nat → Bool) (v : Nat → D) (hw : IX K wi ρ ys) (hj : ∀ j ∈ js, j ∈ vs) (hz : ys.length ≤ 40000) (hg : ∀ i y, ys[i]? = some y → XG K g js y (wipeS ρ vs) (ρ' i))
    (ht : ∀ i y, ys[i]? = some y → XT K tt (ρ' i) (f i)) (he : ∀ i y, ys[i]? = some y → f i = true → XD K te (ρ' i) (v i)) : XD K (tLc wi g tt te vs) ρ (.lst (gathered ys.length f v)) := fun H0 G H σ e s Q q =>
  hw H0 G H σ e s _ fun J G1 H1 A1 W Dl hD => by
    have s1 := s.adv A1
    -- Pv: the list so far stands at Dl, its items are frozen
    let Pv : Nat → Hp → Prop := fun i H2 => ∃ G2 ws, Ex G1 G2 ∧ Ex G2 H2 ∧ G2 Dl = none ∧ (∀ a u, H1 a = some u → H2 a = some u) ∧ (∀ a u, H1 a = some u → G1 a = none → G2 a = none) ∧ H2 Dl = some (.lst ws) ∧ DaAll K G2 ws (gathered i f v)
    have hG1 : G1 Dl = none := fresh_back A1.i hD
    refine lc_it W Pv ⟨G1, [], Ex.refl G1, A1.i.trans (Ex.new hD), hG1, Ex.new hD, fun _ _ _ h => h, upd_same, .nil⟩ (fun i H2 _ p => ?_) (fun i x H2 H3 hi p hy => ?_) (fun H2 p => ?_)
    · obtain ⟨G2, ws, a, b, _⟩ := p
      exact a.trans b
    · obtain ⟨G2, ws, a, b, c, d, o, l, dl⟩ := p
      obtain ⟨G3, y, h1, A3, dx⟩ := hy G2 a b
      have A2 : Adv G1 H1 G2 H2 := ⟨a, d, b, o⟩
      have A13 : Adv G1 H1 G3 H3 := A2.trans A3
      refine hg i y h1 H0 G3 H3 (L2.wipe σ vs) x A3.i ((s1.adv A13).wipe vs) dx _ fun σ' s' hσ => ⟨?_, ?_⟩
      · rw [hσ vs hj]
        apply List.ext_getElem?
        intro k
        rw [wipe_at, wipe_at, L2.wipe_length]
        split <;> rfl
      · refine ht i y h1 H0 G3 H3 σ' A3.i s' _ fun G4 H4 A4 => ?_
        have lD : H4 Dl = some (.lst ws) := A4.h _ _ (A3.h _ _ l)
        cases hf : f i with
        | false =>
          refine iteF ⟨G4, ws, (a.trans A3.g).trans A4.g, A4.i, A4.o _ _ (A3.h _ _ l) (A3.o _ _ l c), fun k w z => A4.h _ _ (A3.h _ _ (d _ _ z)), fun k w z z' => (A13.trans A4).o k w z z', lD, ?_⟩
          rw [gathered_no hf]
          exact dl.mono (A3.g.trans A4.g)
        | true =>
          refine iteT (he i y h1 hf H0 G4 H4 σ' A4.i (s'.adv A4) _ fun z x' G5 H5 A5 rx dz => ?_)
          subst rx
          have cD : G5 Dl = none := A5.o _ _ lD (A4.o _ _ (A3.h _ _ l) (A3.o _ _ l c))
          refine ⟨ws, A5.h _ _ lD, sz_lt ?_, G5, ws ++ [z], ((a.trans A3.g).trans A4.g).trans A5.g, Ex.mut A5.i cD, cD, fun k w hk => ?_, fun k w z1 z2 => ((A13.trans A4).trans A5).o k w z1 z2, upd_same, ?_⟩
          · rw [dl.length]
            have := gathered_len i f v
            omega
          · rw [upd_ne (ne_of_none hk hD)]
            exact A5.h _ _ (A4.h _ _ (A3.h _ _ (d _ _ hk)))
          · rw [gathered_yes hf]
            exact (dl.mono ((A3.g.trans A4.g).trans A5.g)).append (.one dz)
    · obtain ⟨G2, ws, a, b, c, d, o, l, dl⟩ := p
      have A2 : Adv G1 H1 G2 H2 := ⟨a, d, b, o⟩
      have nw : Ex G2 (upd G2 Dl (.lst ws)) := Ex.new c
      refine q (.ref Dl) _ (upd G2 Dl (.lst ws)) H2 (A1.trans ⟨a.trans nw, d, fun k w z => ?_, fun k w z z' => ?_⟩) rfl (.lst upd_same (dl.mono nw))
      · by_cases hk : k = Dl
        · subst hk
          rw [upd_same] at z
          rw [← z]
          exact l
        · rw [upd_ne hk] at z
          exact b _ _ z
      · rw [upd_ne (ne_of_none z hD)]
        exact o _ _ z z'
end
end Dx
end

section
set_option Elab.async false
set_option linter.all false
set_option maxRecDepth 100000
set_option maxHeartbeats 4000000
namespace Dx
open PySem PySem.Spec PyProof.Rows L2 Evl RZ

/-! ### statements -/
structure Po where
  nx : List Sl → Prop
  rt : D → Prop
  bk : List Sl → Prop := fun _ => False
  ct : List Sl → Prop := fun _ => False
  /-- a dict of one's own is handed back -/
  rd : Kvs → Prop := fun _ => False
def Rdy (K : PySem.W.Frag) (G0 H0 : Hp) (ρ : List Sl) (σ : L2.St) (H : Hp) : Prop := ∃ G, Adv G0 H0 G H ∧ SR K H0 G H σ ρ
structure Fits (K : PySem.W.Frag) (G0 H0 : Hp) (P : Po) (E : Ends) : Prop where
  nx : ∀ ρ σ H, P.nx ρ → Rdy K G0 H0 ρ σ H → E.nx σ H
  rt : ∀ x v G H, P.rt x → Adv G0 H0 G H → Da K G v x → E.rt v H
  bk : ∀ ρ σ H, P.bk ρ → Rdy K G0 H0 ρ σ H → E.bk σ H
  ct : ∀ ρ σ H, P.ct ρ → Rdy K G0 H0 ρ σ H → E.ct σ H
  rd : ∀ kvs p ob ws G H, P.rd kvs → Adv G0 H0 G H → G p = some (.frz ob (rawO p ws)) → KvOk K G ws kvs → E.rt (.ref p) H
def XS (K : PySem.W.Frag) (t : TS) (ρ : List Sl) (P : Po) : Prop := ∀ (G0 H0 : Hp) (σ : L2.St) (H : Hp) (E : Ends), Rdy K G0 H0 ρ σ H → Fits K G0 H0 P E → t E σ H
section
variable {K : PySem.W.Frag} {ρ : List Sl} {ta tb tc te tl : TE} {tt : TT} {t u : TS} {P P' : Po} {R : D → Prop}
theorem Fits.imp {G0 H0 : Hp} {E : Ends} (f : Fits K G0 H0 P' E) (h1 : ∀ r, P.nx r → P'.nx r) (h2 : ∀ x, P.rt x → P'.rt x) (h3 : ∀ r, P.bk r → P'.bk r) (h4 : ∀ r, P.ct r → P'.ct r) (h5 : ∀ r, P.rd r → P'.rd r) : Fits K G0 H0 P E :=
  ⟨fun r σ H q => f.nx r σ H (h1 r q), fun x v G H q => f.rt x v G H (h2 x q), fun r σ H q => f.bk r σ H (h3 r q), fun r σ H q => f.ct r σ H (h4 r q), fun k p ob ws G H q => f.rd k p ob ws G H (h5 k q)⟩
theorem XS.imp (h : XS K t ρ P) (h1 : ∀ r, P.nx r → P'.nx r) (h2 : ∀ x, P.rt x → P'.rt x) (h3 : ∀ r, P.bk r → P'.bk r) (h4 : ∀ r, P.ct r → P'.ct r) (h5 : ∀ r, P.rd r → P'.rd r) : XS K t ρ P' :=
  fun G0 H0 σ H E r f => h G0 H0 σ H E r (f.imp h1 h2 h3 h4 h5)
theorem xs_seq (h : XS K t ρ { P with nx := fun ρ' => XS K u ρ' P }) : XS K (tSeq t u) ρ P := fun G0 H0 σ H E r f =>
  h G0 H0 σ H { E with nx := u E } r ⟨fun ρ' σ' H' q r' => q G0 H0 σ' H' E r' f, f.rt, f.bk, f.ct, f.rd⟩
theorem xs_next (h : P.nx ρ) : XS K tNext ρ P := fun G0 H0 σ H E r f => f.nx ρ σ H h r
theorem xs_never (h : False) : XS K tNever ρ P := h.elim
theorem xs_asg {i : Nat} (h : XE K te ρ R) (k : ∀ x, R x → P.nx (ρ.set i (.d x))) : XS K (tAsg te (gName i)) ρ P := fun G0 H0 σ H E ⟨G, A, s⟩ f =>
  h H0 G H σ A.i s _ fun v x G1 H1 A1 rx dx => f.nx _ _ _ (k x rx) ⟨G1, A.trans A1, (s.adv A1).setD dx⟩
theorem xs_asgD {i : Nat} {x : D} (h : XD K te ρ x) (k : P.nx (ρ.set i (.d x))) : XS K (tAsg te (gName i)) ρ P := xs_asg h fun y e => e ▸ k
/-- any target -/
theorem xs_asgG {g : TG} {js : List Nat} {x : D} {ρ' : List Sl} (h : XD K te ρ x) (hg : XG K g js x ρ ρ') (k : P.nx ρ') : XS K (tAsg te g) ρ P := fun G0 H0 σ H E ⟨G, A, s⟩ f =>
  h H0 G H σ A.i s _ fun v y G1 H1 A1 rx dx => by
    subst rx
    exact hg H0 G1 H1 σ v A1.i (s.adv A1) dx _ fun σ' s' _ => f.nx _ _ _ k ⟨G1, A.trans A1, s'⟩
/-- a new own list -/
theorem xs_asgM {i : Nat} {ta : TA} {ds : List D} (h : XA K ta ρ ds) (hl : ds.length ≤ 100000) (k : P.nx (ρ.set i (.l ds))) : XS K (tAsg (tLst ta) (gName i)) ρ P := fun G0 H0 σ H E ⟨G, A, s⟩ f =>
  h H0 G H σ A.i s _ fun vs G1 H1 A1 d => ⟨by rw [d.length]; exact sz_of hl, fun p hp => by
    have A2 := Adv.own (o := .lst vs) A1.i hp
    refine f.nx _ _ _ k ⟨G1, (A.trans A1).trans A2, ((s.adv A1).adv A2).set ⟨p, vs, rfl, fresh_back ((A.trans A1).h) hp, fresh_back A1.i hp, upd_same, d⟩ fun _ q j s' eq hj e w z => ?_⟩
    cases eq
    obtain ⟨o, h1, h2⟩ := (s.adv A1).ok j s' e
    obtain ⟨q', u, e1, e2, e3, e4⟩ := h2.isOwn w
    subst e1
    rw [h1] at z
    cases z
    rw [hp] at e4
    cases e4⟩
/-- a new own dict -/
theorem xs_asgT {i : Nat} (k : P.nx (ρ.set i (.t []))) : XS K (tAsg tRNew (gName i)) ρ P := fun G0 H0 σ H E ⟨G, A, s⟩ f => fun p hp => by
  have A2 := Adv.own (o := rawO p []) A.i hp
  refine f.nx _ _ _ k ⟨G, A.trans A2, (s.adv A2).set ⟨p, [], rfl, fresh_back A.h hp, fresh_back A.i hp, upd_same, .nil⟩ fun _ q j s' eq hj e w z => ?_⟩
  cases eq
  obtain ⟨o, h1, h2⟩ := s.ok j s' e
  obtain ⟨q', u, e1, e2, e3, e4⟩ := h2.isOwn w
  subst e1
  rw [h1] at z
  cases z
  rw [hp] at e4
  cases e4
/-- a dict that a call hands back -/
theorem xs_asgC {i : Nat} {S : List D → (Kvs → Prop) → Prop} {E' : XK} {ta : TA} {ds : List D} {Rk : Kvs → Prop} (h : XA K ta ρ ds) (hs : S ds Rk) (k : ∀ kvs, Rk kvs → P.nx (ρ.set i (.c kvs))) : XS K (tAsg (tCall (spT K S) [] E' ta) (gName i)) ρ P := fun G0 H0 σ H E ⟨G, A, s⟩ f =>
  h H0 G H σ A.i s _ fun vs G1 H1 A1 d => ⟨G1, ds, Rk, A1.i, by rw [List.append_nil]; exact d, hs, fun p ob ws kvs G2 H2 A2 rk hG ok =>
    f.nx _ _ _ (k kvs rk) ⟨G2, (A.trans A1).trans A2, (s.adv (A1.trans A2)).set ⟨p, ob, ws, rfl, hG, ok⟩ fun w => nomatch w⟩⟩
theorem xs_ret (h : XE K te ρ R) (k : ∀ x, R x → P.rt x) : XS K (tRet te) ρ P := fun G0 H0 σ H E ⟨G, A, s⟩ f =>
  h H0 G H σ A.i s _ fun v x G1 H1 A1 rx dx => f.rt x v G1 H1 (k x rx) (A.trans A1) dx
theorem xs_retD {x : D} (h : XD K te ρ x) (k : P.rt x) : XS K (tRet te) ρ P := xs_ret h fun y e => e ▸ k
theorem xs_retN (k : P.rt .non) : XS K tRetN ρ P := fun G0 H0 σ H E ⟨G, A, s⟩ f => f.rt .non .non G H k A .non
theorem xs_if {b : Bool} (h : XT K tt ρ b) (h1 : b = true → XS K t ρ P) (h2 : b = false → XS K u ρ P) : XS K (tIfS tt t u) ρ P := fun G0 H0 σ H E ⟨G, A, s⟩ f =>
  h H0 G H σ A.i s _ fun G1 H1 A1 => by
    cases b with
    | true => exact iteT (h1 rfl G0 H0 σ H1 E ⟨G1, A.trans A1, s.adv A1⟩ f)
    | false => exact iteF (h2 rfl G0 H0 σ H1 E ⟨G1, A.trans A1, s.adv A1⟩ f)
theorem xs_ifT (h : XT K tt ρ true) (h1 : XS K t ρ P) : XS K (tIfS tt t u) ρ P := xs_if h (fun _ => h1) fun z => nomatch z
theorem xs_ifF (h : XT K tt ρ false) (h1 : XS K u ρ P) : XS K (tIfS tt t u) ρ P := xs_if h (fun z => nomatch z) fun _ => h1
theorem xs_drop (h : XE K te ρ R) (k : P.nx ρ) : XS K (tDrop te) ρ P := fun G0 H0 σ H E ⟨G, A, s⟩ f =>
  h H0 G H σ A.i s _ fun v x G1 H1 A1 rx dx => f.nx ρ σ H1 k ⟨G1, A.trans A1, s.adv A1⟩
theorem xs_aug {i : Nat} {f : Int → Int → Int} {a b : Int} (hx : ρ[i]? = some (.d (.int a))) (h : XD K te ρ (.int b)) (k : P.nx (ρ.set i (.d (.int (f a b))))) : XS K (tAug i te (ipI f)) ρ P := fun G0 H0 σ H E ⟨G, A, s⟩ ff => by
  obtain ⟨o, h1, v, h2, h3⟩ := s.ok i _ hx
  subst h2
  cases h3
  refine ⟨_, h1, h H0 G H σ A.i s _ fun v x G1 H1 A1 rx dx => ?_⟩
  subst rx
  cases dx
  exact ⟨a, b, rfl, rfl, ff.nx _ _ _ k ⟨G1, A.trans A1, (s.adv A1).setD (.int _)⟩⟩
theorem xs_par {i j : Nat} {ta : TA} {x y : D} (h : XA K ta ρ [x, y]) (k : P.nx ((ρ.set i (.d x)).set j (.d y))) : XS K (tPar i j ta) ρ P := fun G0 H0 σ H E ⟨G, A, s⟩ f =>
  h H0 G H σ A.i s _ fun vs G1 H1 A1 d => by
    cases d with
    | cons d1 d2 =>
      cases d2 with
      | cons d2 d3 =>
        cases d3
        exact ⟨_, _, rfl, f.nx _ _ _ k ⟨G1, A.trans A1, ((s.adv A1).setD d1).setD d2⟩⟩
/-- an own list grows by one, by a list, loses its last -/
theorem xs_app {i : Nat} {xs : List D} {x : D} (hi : ρ[i]? = some (.l xs)) (h : XD K te ρ x) (hz : xs.length < 100000) (k : P.nx (ρ.set i (.l (xs ++ [x])))) : XS K (tDrop (tBM K "list" rAppend (tVar i) (tCons te tNil))) ρ P := fun G0 H0 σ H E ⟨G, A, s⟩ f => by
  obtain ⟨o, h1, p, vs, h2, h3, h4, h5, h6⟩ := s.ok i _ hi
  subst h2
  refine ⟨_, h1, .inl ⟨rfl, vs, sq_of h5⟩, h H0 G H σ A.i s _ fun v y G1 H1 A1 ry dy => ?_⟩
  subst ry
  have g1 := A1.o _ _ h5 h4
  refine ⟨p, vs, v, rfl, rfl, A1.h _ _ h5, by rw [h6.length]; exact sz_lt hz, f.nx _ _ _ k ⟨G1, ?_, (s.adv A1).change hi rfl h1 ⟨p, vs ++ [v], rfl, h3, g1, upd_same, (h6.mono A1.g).append (.one dy)⟩⟩⟩
  have A2 := A.trans A1
  exact ⟨A2.g, Ex.mut A2.h h3, Ex.mut A2.i g1, A2.o⟩
theorem xs_ext {i : Nat} {xs ys : List D} (hi : ρ[i]? = some (.l xs)) (h : XD K te ρ (.lst ys)) (hz : xs.length + ys.length ≤ 100000) (k : P.nx (ρ.set i (.l (xs ++ ys)))) : XS K (tDrop (tBM K "list" rExtend (tVar i) (tCons te tNil))) ρ P := fun G0 H0 σ H E ⟨G, A, s⟩ f => by
  obtain ⟨o, h1, p, vs, h2, h3, h4, h5, h6⟩ := s.ok i _ hi
  subst h2
  refine ⟨_, h1, .inl ⟨rfl, vs, sq_of h5⟩, h H0 G H σ A.i s _ fun v y G1 H1 A1 ry dy => ?_⟩
  subst ry
  have g1 := A1.o _ _ h5 h4
  cases dy with
  | @lst a ws _ e1 e2 =>
    refine ⟨p, a, vs, ws, rfl, rfl, A1.h _ _ h5, A1.i _ _ e1, by rw [h6.length, e2.length]; exact sz_of hz, f.nx _ _ _ k ⟨G1, ?_, (s.adv A1).change hi rfl h1 ⟨p, vs ++ ws, rfl, h3, g1, upd_same, (h6.mono A1.g).append e2⟩⟩⟩
    have A2 := A.trans A1
    exact ⟨A2.g, Ex.mut A2.h h3, Ex.mut A2.i g1, A2.o⟩
/-- v = xs.pop() -/
theorem getLast_dl {α : Type} {xs : List α} {x : α} (h : xs.getLast? = some x) : xs.dropLast ++ [x] = xs := by
  cases xs with
  | nil => cases h
  | cons a r =>
    have e := List.dropLast_concat_getLast (l := a :: r) (by simp)
    rw [List.getLast?_eq_some_getLast (by simp)] at h
    rw [← Option.some.inj h]
    exact e
theorem xs_pop {i j : Nat} {xs : List D} {x : D} (hi : ρ[i]? = some (.l (xs ++ [x]))) (hij : j ≠ i) (k : P.nx ((ρ.set i (.l xs)).set j (.d x))) : XS K (tAsg (tBM0 K "list" rPop (tVar i)) (gName j)) ρ P := fun G0 H0 σ H E ⟨G, A, s⟩ f => by
  obtain ⟨o, h1, p, vs, h2, h3, h4, h5, h6⟩ := s.ok i _ hi
  subst h2
  have el := h6.length
  rw [List.length_append, List.length_singleton] at el
  obtain ⟨v, hv, dv⟩ := h6.get (i := xs.length) (d := x) (by rw [List.getElem?_append_right (Nat.le_refl _), Nat.sub_self] <;> rfl)
  refine ⟨_, h1, .inl ⟨rfl, vs, sq_of h5⟩, p, vs, v, rfl, rfl, h5, by rw [el, Nat.add_sub_cancel]; exact hv, ?_⟩
  have d2 : DaAll K G vs.dropLast xs := by
    have q := h6.dropLast
    rw [List.dropLast_concat] at q
    exact q
  have s2 := s.change (t := .l xs) (u := .lst vs.dropLast) hi rfl h1 ⟨p, _, rfl, h3, h4, upd_same, d2⟩
  exact f.nx _ _ _ k ⟨G, ⟨A.g, Ex.mut A.h h3, Ex.mut A.i h4, A.o⟩, s2.setD dv⟩
/-- an own list is changed no more -/
theorem xs_frz (i : Nat) {xs : List D} (hi : ρ[i]? = some (.l xs)) (h : XS K t (ρ.set i (.d (.lst xs))) P) : XS K t ρ P := fun G0 H0 σ H E ⟨G, A, s⟩ f => by
  obtain ⟨o, h1, p, vs, h2, h3, h4, h5, h6⟩ := s.ok i _ hi
  subst h2
  have nw : Ex G (upd G p (.lst vs)) := Ex.new h4
  have eg : Ex (upd G p (.lst vs)) H := fun k w z => by
    by_cases hk : k = p
    · subst hk
      rw [upd_same] at z
      rw [← z]
      exact h5
    · rw [upd_ne hk] at z
      exact A.i _ _ z
  refine h G0 H0 σ H E ⟨upd G p (.lst vs), ⟨A.g.trans nw, A.h, eg, fun k w z z' => ?_⟩, ?_⟩ f
  · rw [upd_ne (ne_of_none z h3)]
    exact A.o _ _ z z'
  · have hil : i < ρ.length := (List.getElem?_eq_some_iff.mp hi).1
    have look : ∀ (j : Nat) (t' : Sl), (ρ.set i (.d (.lst xs)))[j]? = some t' → (j = i ∧ t' = .d (.lst xs)) ∨ (j ≠ i ∧ ρ[j]? = some t') := fun j t' e => by
      by_cases hj : j = i
      · subst hj
        rw [List.getElem?_set_self hil] at e
        exact .inl ⟨rfl, (Option.some.inj e).symm⟩
      · rw [List.getElem?_set_ne (fun z => hj z.symm)] at e
        exact .inr ⟨hj, e⟩
    refine ⟨by rw [List.length_set]; exact s.len, fun j t' e' => ?_, fun j k t1 t2 q e1 e2 w1 w2 g1 g2 => ?_⟩
    · rcases look j t' e' with ⟨rfl, rfl⟩ | ⟨hj, e'⟩
      · exact ⟨_, h1, _, rfl, .lst upd_same (h6.mono nw)⟩
      · obtain ⟨o, k1, k2⟩ := s.ok j t' e'
        refine ⟨o, k1, ?_⟩
        cases t' with
        | u => trivial
        | d x =>
          obtain ⟨v, a, b⟩ := k2
          exact ⟨v, a, b.mono nw⟩
        | l ys =>
          obtain ⟨q, ws, eq, q0, q1, q2, q3⟩ := k2
          have nq : q ≠ p := fun z => by
            subst z
            exact hj (s.sep j i _ _ q e' hi rfl rfl (by rw [k1, eq]) h1)
          exact ⟨q, ws, eq, q0, by rw [upd_ne nq]; exact q1, q2, q3.mono nw⟩
        | t kvs =>
          obtain ⟨q, ws, eq, q0, q1, q2, q3⟩ := k2
          have nq : q ≠ p := fun z => by
            subst z
            exact hj (s.sep j i _ _ q e' hi rfl rfl (by rw [k1, eq]) h1)
          exact ⟨q, ws, eq, q0, by rw [upd_ne nq]; exact q1, q2, q3.mono nw⟩
        | c kvs =>
          obtain ⟨q, ob, ws, eq, q1, q3⟩ := k2
          exact ⟨q, ob, ws, eq, nw _ _ q1, q3.mono nw⟩
        | v x => exact k2
    · rcases look j t1 e1 with ⟨rfl, rfl⟩ | ⟨_, e1'⟩
      · cases w1
      · rcases look k t2 e2 with ⟨rfl, rfl⟩ | ⟨_, e2'⟩
        · cases w2
        · exact s.sep j k _ _ q e1' e2' w1 w2 g1 g2
/-- the base may be moved up to what is known -/
theorem Adv.base {G0 H0 G1 G H : Hp} (a : Adv G0 H0 G H) (e0 : Ex G0 G1) (e : Ex G1 G) : Adv G1 H0 G H :=
  ⟨e, a.h, a.i, fun k w h h' => a.o k w h (by
    cases q : G0 k with
    | none => rfl
    | some o =>
      rw [e0 k o q] at h'
      cases h')⟩
/-- the base moved down again -/
theorem Adv.down {G0 H0 G1 H1 G H : Hp} (a : Adv G0 H0 G1 H1) (b : Adv G1 H0 G H) : Adv G0 H0 G H :=
  ⟨a.g.trans b.g, b.h, b.i, fun k w h h' => b.o k w h (a.o k w h h')⟩
/-- for: Iv by the turn and the slots -/
theorem xs_for {wi : TI} {g : TG} {js : List Nat} {ys : List D} (Iv : Nat → List Sl → Prop) (hw : IX K wi ρ ys) (h0 : Iv 0 ρ) (hg : ∀ i y r, ys[i]? = some y → Iv i r → ∃ r', XG K g js y r r' ∧ XS K t r' { P with nx := Iv (i + 1), ct := Iv (i + 1), bk := P.nx })
    (hd : ∀ r, Iv ys.length r → P.nx r) : XS K (tFor wi g t) ρ P := fun G0 H0 σ H E ⟨G, A, s⟩ f =>
  hw H0 G H σ A.i s _ fun J G1 H1 A1 W => by
    have A01 := A.trans A1
    refine for_it W (fun i σ' H' => ∃ r G2, Iv i r ∧ Ex G1 G2 ∧ Adv G0 H0 G2 H' ∧ SR K H0 G2 H' σ' r) ⟨ρ, G1, h0, Ex.refl _, A01, s.adv A1⟩ (fun i σ' H' _ p => ?_) (fun i x σ' H' H'' hi p hy => ?_) (fun σ' H' p => ?_)
    · obtain ⟨r, G2, _, a, b, _⟩ := p
      exact a.trans b.i
    · obtain ⟨r, G2, iv, a, b, s2⟩ := p
      obtain ⟨G3, y, h1, A3, dx⟩ := hy G2 a b.i
      obtain ⟨r', hx, hs⟩ := hg i y r h1 iv
      refine hx H0 G3 H'' σ' x A3.i (s2.adv A3) dx _ fun σ2 s3 _ => ?_
      have base : ∀ {ρ' : List Sl} {σ' : L2.St} {H' : Hp}, Rdy K G1 H0 ρ' σ' H' → ∃ G2, Ex G1 G2 ∧ Adv G0 H0 G2 H' ∧ SR K H0 G2 H' σ' ρ' := fun ⟨G4, A4, s4⟩ => ⟨G4, A4.g, A01.down A4, s4⟩
      refine hs G1 H0 σ2 H'' _ ⟨G3, (b.trans A3).base A01.g (a.trans A3.g), s3⟩ ⟨fun ρ' σ' H' q r' => ?_, fun x v G H q A5 dx => f.rt x v G H q (A01.down A5) dx, fun ρ' σ' H' q r' => ?_, fun ρ' σ' H' q r' => ?_, fun kvs p ob ws G H q A5 => f.rd kvs p ob ws G H q (A01.down A5)⟩
      · obtain ⟨G4, x1, x2, x3⟩ := base r'
        exact ⟨ρ', G4, q, x1, x2, x3⟩
      · obtain ⟨G4, x1, x2, x3⟩ := base r'
        exact f.nx ρ' σ' H' q ⟨G4, x2, x3⟩
      · obtain ⟨G4, x1, x2, x3⟩ := base r'
        exact ⟨ρ', G4, q, x1, x2, x3⟩
    · obtain ⟨r, G2, iv, a, b, s2⟩ := p
      exact f.nx r σ' H' (hd r iv) ⟨G2, b, s2⟩
/-- .. whose target is a name -/
theorem xs_forN {wi : TI} {j : Nat} {ys : List D} (Iv : Nat → List Sl → Prop) (hw : IX K wi ρ ys) (h0 : Iv 0 ρ) (hs : ∀ i y r, ys[i]? = some y → Iv i r → XS K t (r.set j (.d y)) { P with nx := Iv (i + 1), ct := Iv (i + 1), bk := P.nx })
    (hd : ∀ r, Iv ys.length r → P.nx r) : XS K (tFor wi (gName j) t) ρ P := xs_for Iv hw h0 (fun i y r h p => ⟨_, xg_name, hs i y r h p⟩) hd
/-- while: Iv by a measure and the slots -/
theorem xs_while (Iv : Nat → List Sl → Prop) (m0 : Nat) (h0 : Iv m0 ρ) (hs : ∀ m r, Iv m r → ∃ b, XT K tt r b ∧ (b = true → XS K t r { P with nx := fun r' => ∃ m', m' < m ∧ Iv m' r', ct := fun r' => ∃ m', m' < m ∧ Iv m' r', bk := P.nx }) ∧ (b = false → P.nx r)) : XS K (tWhile tt t) ρ P :=
  fun G0 H0 σ H E r0 f => ⟨fun m σ' H' => ∃ r, Iv m r ∧ Rdy K G0 H0 r σ' H', ⟨m0, ρ, h0, r0⟩, fun m σ' H' ⟨r, iv, G, A, s⟩ => by
    obtain ⟨b, hb, h1, h2⟩ := hs m r iv
    refine hb H0 G H' σ' A.i s _ fun G1 H1 A1 => ?_
    have r1 : Rdy K G0 H0 r σ' H1 := ⟨G1, A.trans A1, s.adv A1⟩
    cases b with
    | false => exact f.nx r σ' H1 (h2 rfl) r1
    | true => exact ⟨fun σ2 H2 => ∃ m', m' < m ∧ ∃ r', Iv m' r' ∧ Rdy K G0 H0 r' σ2 H2, fun _ _ z => z, h1 rfl G0 H0 σ' H1 _ r1
        ⟨fun r' σ2 H2 ⟨m', l, iv'⟩ z => ⟨m', l, r', iv', z⟩, f.rt, f.nx, fun r' σ2 H2 ⟨m', l, iv'⟩ z => ⟨m', l, r', iv', z⟩, f.rd⟩⟩⟩
end

/-! ### a def by its body -/
def st0 (N : List Str) (ds : List D) : List Sl := ds.map .d ++ List.replicate (N.length - ds.length) .u
theorem sr_start {K : PySem.W.Frag} {N : List Str} {G H : Hp} {vs : List V} {ds : List D} (d : DaAll K G vs ds) : SR K H G H (L2.start N vs) (st0 N ds) := by
  have el := d.length
  have len : ∀ i, i < vs.length → (L2.start N vs)[i]? = (vs[i]?).map some := fun i hi => by
    unfold L2.start
    rw [List.getElem?_append_left (by rw [List.length_map]; exact hi), List.getElem?_map]
  have noOwn : ∀ (i : Nat) (s : Sl), (st0 N ds)[i]? = some s → s.own = false := fun i s e => by
    unfold st0 at e
    by_cases hi : i < ds.length
    · rw [List.getElem?_append_left (by rw [List.length_map]; exact hi), List.getElem?_map] at e
      obtain ⟨x, _, h⟩ := Option.map_eq_some_iff.mp e
      rw [← h] <;> rfl
    · rw [List.getElem?_append_right (by rw [List.length_map]; omega)] at e
      rw [(List.mem_replicate.mp (List.mem_of_getElem? e)).2] <;> rfl
  refine ⟨?_, fun i s e => ?_, fun i j s s' p e e' w w' _ _ => ?_⟩
  · unfold L2.start st0
    rw [List.length_append, List.length_append, List.length_map, List.length_map, List.length_replicate, List.length_replicate, el]
  · unfold st0 at e
    by_cases hi : i < ds.length
    · rw [List.getElem?_append_left (by rw [List.length_map]; exact hi), List.getElem?_map] at e
      obtain ⟨x, h1, h2⟩ := Option.map_eq_some_iff.mp e
      obtain ⟨v, h3, h4⟩ := d.get h1
      subst h2
      exact ⟨some v, by rw [len i (by omega), h3] <;> rfl, v, rfl, h4⟩
    · rw [List.getElem?_append_right (by rw [List.length_map]; omega)] at e
      have hl : i - (ds.map Sl.d).length < N.length - ds.length := by
        have := (List.getElem?_eq_some_iff.mp e).1
        rw [List.length_replicate] at this
        exact this
      rw [List.length_map] at hl
      rw [(List.mem_replicate.mp (List.mem_of_getElem? e)).2]
      refine ⟨none, ?_, trivial⟩
      unfold L2.start
      rw [List.getElem?_append_right (by rw [List.length_map]; omega), List.getElem?_replicate, if_pos (by rw [List.length_map]; omega)]
  · rw [noOwn i s e] at w
    cases w
section
variable {Pr : Program} {w : World} {K : PySem.W.Frag} {mg : Str → Option Value} {base : Heap}
theorem fn_ok {x qual : Str} {st : Stmt} {f : Addr} {fd : FuncData} {N ps : List Str} {k : Nat} {S : Sg} (F : Fun K x qual st f fd) (Sc : FnScope N ps (defScope st)) (hlen : ∀ ds R, S ds R → ds.length = ps.length)
    (hbody : ∀ (cdv : Value) (A : Around) (outer : List Env) (s : Shared) (H : Hp) (E : XK), Room k (A.deeper (envOfC qual (defScope st) s.heap.objs.size f cdv)) →
      ∃ t, PSs (cxOf CX0 Pr w K mg base N qual (defScope st) f cdv A outer s H E).nox (defBody st) t ∧ ∀ ds R, S ds R → XS K t (st0 N ds) { nx := fun _ => R .non, rt := R }) :
    FnOk Pr w K mg base CX0 (k + 1) f fd ps (spX K S) := by
  refine F.ok Sc (fun vs H Q E h => ?_) (fun cdv A outer s H vs Q E hr h => ?_)
  · obtain ⟨G, ds, R, _, d, hs, _⟩ := h
    rw [d.length]
    exact hlen ds R hs
  · obtain ⟨G, ds, R, e, d, hs, q⟩ := h
    obtain ⟨t, h1, h2⟩ := hbody cdv A outer s H E hr
    refine ⟨t, h1, h2 ds R hs G H _ H _ ⟨G, Adv.refl e, sr_start d⟩ ⟨fun ρ σ H1 hn ⟨G1, A1, _⟩ => q .non .non G1 H1 A1 hn .non, fun y v G1 H1 hx A1 dx => q v y G1 H1 A1 hx dx, fun _ _ _ z _ => z.elim, fun _ _ _ z _ => z.elim, fun _ _ _ _ _ _ z => z.elim⟩⟩
theorem fn_okT {x qual : Str} {st : Stmt} {f : Addr} {fd : FuncData} {N ps : List Str} {k : Nat} {S : List D → (Kvs → Prop) → Prop} (F : Fun K x qual st f fd) (Sc : FnScope N ps (defScope st)) (hlen : ∀ ds R, S ds R → ds.length = ps.length)
    (hbody : ∀ (cdv : Value) (A : Around) (outer : List Env) (s : Shared) (H : Hp) (E : XK), Room k (A.deeper (envOfC qual (defScope st) s.heap.objs.size f cdv)) →
      ∃ t, PSs (cxOf CX0 Pr w K mg base N qual (defScope st) f cdv A outer s H E).nox (defBody st) t ∧ ∀ ds R, S ds R → XS K t (st0 N ds) { nx := fun _ => False, rt := fun _ => False, rd := R }) :
    FnOk Pr w K mg base CX0 (k + 1) f fd ps (spT K S) := by
  refine F.ok Sc (fun vs H Q E h => ?_) (fun cdv A outer s H vs Q E hr h => ?_)
  · obtain ⟨G, ds, R, _, d, hs, _⟩ := h
    rw [d.length]
    exact hlen ds R hs
  · obtain ⟨G, ds, R, e, d, hs, q⟩ := h
    obtain ⟨t, h1, h2⟩ := hbody cdv A outer s H E hr
    refine ⟨t, h1, h2 ds R hs G H _ H _ ⟨G, Adv.refl e, sr_start d⟩ ⟨fun ρ σ H1 hn _ => hn.elim, fun y v G1 H1 hx _ _ => hx.elim, fun _ _ _ z _ => z.elim, fun _ _ _ z _ => z.elim, fun kvs p ob ws G1 H1 rk A1 hG ok => q p ob ws kvs G1 H1 A1 rk hG ok⟩⟩
end
end Dx
end

section
set_option Elab.async false
set_option linter.all false
set_option maxRecDepth 100000
set_option maxHeartbeats 4000000
namespace Dx
open PySem PySem.Spec PyProof.Rows L2 Evl RZ
/-! ### the program's text, its defs as they stand behind the top -/
def top (i : Nat) : Stmt := PySem.Challenge.pw_dueturns_k65_whole_waits_and_rows.main.body.getD i (.Pass ⟨0, 0, 0, 0⟩)
/-- a def that keeps its promise -/
def Has (P : Program) (w : World) (K : PySem.W.Frag) (mg : Str → Option Value) (base : Heap) (x : Str) (k : Nat) (ps : List Str) (sp : Sp) : Prop :=
  ∃ (f : Addr) (fd : FuncData), FnOk P w K mg base CX0 k f fd ps sp ∧ mg x = some (.ref f) ∧ PySem.W.keepIn K (.ref f) = true ∧ Binds K fd ps []
/-- a def of the top -/
def Dfd (K : PySem.W.Frag) (mg : Str → Option Value) (x : Str) (i : Nat) : Prop := ∃ (f : Addr) (fd : FuncData), Fun K x x (top i) f fd ∧ mg x = some (.ref f)
section
variable {P : Program} {w : World} {K : PySem.W.Frag} {mg : Str → Option Value} {base : Heap}
theorem has_mk {x : Str} {i k : Nat} {ps : List Str} {sp : Sp} (D : Dfd K mg x i)
    (hb : ∀ (kV doc pm : Value) (an : Option Addr) (cdv ct : Value) (us : List Value), us.length = ps.length → bindArgs (PySem.W.fnOf x x (defArgs (top i)) (defBody (top i)) (defScope (top i)) .none kV doc pm an cdv ct) ⟨us, []⟩ = pure (ps.zip us))
    (h : ∀ f fd, Fun K x x (top i) f fd → FnOk P w K mg base CX0 k f fd ps sp) : Has P w K mg base x k ps sp := by
  obtain ⟨f, fd, F, m⟩ := D
  exact ⟨f, fd, h f fd F, m, F.kp, F.binds hb⟩
theorem Has.mono {x : Str} {j k : Nat} {ps : List Str} {sp : Sp} (h : Has P w K mg base x j ps sp) (l : j ≤ k) : Has P w K mg base x k ps sp := by
  obtain ⟨f, fd, F, m, kp, b⟩ := h
  exact ⟨f, fd, F.mono l, m, kp, b⟩
end
theorem pe_callH {X : Cx} {k : Nat} {ps : List Str} {sp : Sp} {x : Str} {p pos : Pos} {e : Expr} {es : List Expr} {t : TA} (h : Has X.prog X.w X.K X.mg X.base x k ps sp) (hr : Room k X.A) (hg : Gl X x) (ha : PA X (e :: es) t)
    (hdb : (x == ("__debug__" : Str)) = false := by decide) (he : starEach (e :: es) X.env = (false, eval e X.env) :: starEach es X.env := by rfl) (hpl : (backTo pos (starEach es X.env)).any (·.1) = false := by rfl) :
    PE X (.Call (.Name x p) (e :: es) [] pos) (tCall sp [] E0 t) := by
  obtain ⟨f, fd, F, m, kp, b⟩ := h
  exact pe_call F hr hg m kp b .nil pass0 ha hdb he hpl
/-- the built-ins' names are nobody's, the constants are what the text says -/
structure Blt (K : PySem.W.Frag) (mg : Str → Option Value) : Prop where
  abs : mg "abs" = none
  all : mg "all" = none
  any : mg "any" = none
  bool : mg "bool" = none
  dict : mg "dict" = none
  enumerate : mg "enumerate" = none
  int : mg "int" = none
  isinstance : mg "isinstance" = none
  len : mg "len" = none
  list : mg "list" = none
  max : mg "max" = none
  min : mg "min" = none
  range : mg "range" = none
  repr : mg "repr" = none
  sorted : mg "sorted" = none
  str : mg "str" = none
  sum : mg "sum" = none
  tuple : mg "tuple" = none
  zip : mg "zip" = none
  MOST_CLAIMANTS : ∃ t, mg "MOST_CLAIMANTS" = some (.int 6 t)
  MOST_WEIGHT : ∃ t, mg "MOST_WEIGHT" = some (.int 1000 t)
  FARTHEST : ∃ t, mg "FARTHEST" = some (.int 5 t)
  MOST_WITHIN : ∃ t, mg "MOST_WITHIN" = some (.int 40 t)
  MOST_SIDE : ∃ t, mg "MOST_SIDE" = some (.int 4 t)
  MOST_PAST : ∃ t, mg "MOST_PAST" = some (.int 120 t)
  MOST_RULES : ∃ t, mg "MOST_RULES" = some (.int 8 t)
  MOST_MANY : ∃ t, mg "MOST_MANY" = some (.int 4 t)
  MOST_BOUND : ∃ t, mg "MOST_BOUND" = some (.int 300 t)
  FAR : ∃ t, mg "FAR" = some (.int (10 ^ 40) t)
  NOUGHT : ∃ a, mg "NOUGHT" = some (.ref a) ∧ ∃ (o : Obj) (its : Array Value) (n : Nat), K.lookup a = some o ∧ o.cls = .type "tuple" ∧ o.data = .seq its n ∧ its.size ≤ sizeLine ∧ Vals [.int 0, .int 1] its.toList
theorem bt_abs : bootBuiltins "abs" = some (.builtin "abs") := by decide +kernel
theorem bt_all : bootBuiltins "all" = some (.builtin "all") := by decide +kernel
theorem bt_any : bootBuiltins "any" = some (.builtin "any") := by decide +kernel
theorem bt_bool : bootBuiltins "bool" = some (.type "bool") := by decide +kernel
theorem bt_dict : bootBuiltins "dict" = some (.type "dict") := by decide +kernel
theorem bt_int : bootBuiltins "int" = some (.type "int") := by decide +kernel
theorem bt_isinstance : bootBuiltins "isinstance" = some (.builtin "isinstance") := by decide +kernel
theorem bt_len : bootBuiltins "len" = some (.builtin "len") := by decide +kernel
theorem bt_list : bootBuiltins "list" = some (.type "list") := by decide +kernel
theorem bt_max : bootBuiltins "max" = some (.builtin "max") := by decide +kernel
theorem bt_min : bootBuiltins "min" = some (.builtin "min") := by decide +kernel
theorem bt_repr : bootBuiltins "repr" = some (.builtin "repr") := by decide +kernel
theorem bt_sorted : bootBuiltins "sorted" = some (.builtin "sorted") := by decide +kernel
theorem bt_str : bootBuiltins "str" = some (.type "str") := by decide +kernel
theorem bt_sum : bootBuiltins "sum" = some (.builtin "sum") := by decide +kernel
theorem bt_tuple : bootBuiltins "tuple" = some (.type "tuple") := by decide +kernel
/-- a built-in type's name as a value -/
theorem pe_ty {X : Cx} {x : Str} {n : String} {pos : Pos} (hg : Gl X x) (hm : X.mg x = none) (hv : bootBuiltins x = some (.type n)) (hd : (x == ("__debug__" : Str)) = false := by decide) (hn : x ≠ "__name__" := by decide) : PE X (.Name x pos) (tC (.ty n)) := pe_bltn hg hm hv rfl hn hd
end Dx
end

section
set_option Elab.async false
set_option linter.all false
set_option maxRecDepth 100000
set_option maxHeartbeats 4000000
namespace Dx
open PySem PySem.Spec PyProof.Rows L2 Evl RZ
section
variable {K : PySem.W.Frag} {ρ : List Sl} {ta tb tc te : TE} {t u : TT}
theorem xt_T {b : Bool} (h : XD K te ρ (.bl b)) : XT K (tTest te) ρ b := xt_B h
variable {P : Po} {R : D → Prop}
theorem xs_retE {x y : D} (h : XD K te ρ x) (k : P.rt y) (e : x = y) : XS K (tRet te) ρ P := xs_retD (h.eq e) k
theorem xs_ifE {a b : Bool} {t : TS} {u : TS} {tt : TT} (h : XT K tt ρ a) (e : a = b) (h1 : b = true → XS K t ρ P) (h2 : b = false → XS K u ρ P) : XS K (tIfS tt t u) ρ P := xs_if (h.eq e) h1 h2
theorem xs_ifET {a : Bool} {t : TS} {u : TS} {tt : TT} (h : XT K tt ρ a) (e : a = true) (h1 : XS K t ρ P) : XS K (tIfS tt t u) ρ P := xs_ifT (h.eq e) h1
theorem xs_ifEF {a : Bool} {t : TS} {u : TS} {tt : TT} (h : XT K tt ρ a) (e : a = false) (h1 : XS K u ρ P) : XS K (tIfS tt t u) ρ P := xs_ifF (h.eq e) h1
/-- if test: raise .. (never); pass over it -/
theorem xs_guard {a : Bool} {t : TS} {tt : TT} (h : XT K tt ρ a) (e : a = false) (k : P.nx ρ) : XS K (tIfS tt t tNext) ρ P := xs_ifF (h.eq e) (xs_next k)
/-- items by a place that is not written -/
theorem atI_getD {α : Type} {xs : List α} {i : Int} (h0 : 0 ≤ i) (h1 : i < (xs.length : Int)) (d : α) : atI xs i = some (xs.getD i.toNat d) := by
  have e : i = ((i.toNat : Nat) : Int) := by omega
  rw [e]
  refine atI_nat ?_
  have hl : i.toNat < xs.length := by omega
  rw [Int.toNat_natCast, List.getD_eq_getElem?_getD, List.getElem?_eq_getElem hl]
  rfl
theorem getD_map {α β : Type} (f : α → β) (xs : List α) (i : Nat) (d : α) : (xs.map f).getD i (f d) = f (xs.getD i d) := by
  rw [List.getD_eq_getElem?_getD, List.getD_eq_getElem?_getD, List.getElem?_map]
  cases xs[i]? <;> rfl
theorem xd_ixI {ns : List Int} {i : Int} (ha : XL K ta ρ (ns.map D.int)) (hb : XD K tb ρ (.int i)) (h : 0 ≤ i ∧ i < (ns.length : Int)) : XD K (tOp (rIxL K) ta tb) ρ (.int (ns.getD i.toNat 0)) := by
  refine xd_ixL ha hb ?_
  rw [atI_getD h.1 (by rw [List.length_map]; exact h.2) (D.int 0), getD_map]
theorem xd_ixIU {ns : List Int} {i : Int} (ha : XU K ta ρ (ns.map D.int)) (hb : XD K tb ρ (.int i)) (h : 0 ≤ i ∧ i < (ns.length : Int)) : XD K (tOp (rIxT K) ta tb) ρ (.int (ns.getD i.toNat 0)) := by
  refine xd_ixT ha hb ?_
  rw [atI_getD h.1 (by rw [List.length_map]; exact h.2) (D.int 0), getD_map]

/-! ### comprehensions over what is told as l.map f -/
theorem map_range_get {α : Type} [Inhabited α] : ∀ l : List α, (List.range l.length).map (fun i => l.getD i default) = l
  | [] => rfl
  | a :: l => by
    rw [List.length_cons, List.range_succ_eq_map, List.map_cons, List.map_map]
    congr 1
    have ih := map_range_get l
    exact ih
theorem gathered_list {α : Type} [Inhabited α] (l : List α) (p : α → Bool) (g : α → D) : gathered l.length (fun i => p (l.getD i default)) (fun i => g (l.getD i default)) = (l.filter p).map g := by
  unfold gathered
  have e := map_range_get l
  have h1 : (l.filter p).map g = (((List.range l.length).map (fun i => l.getD i default)).filter p).map g := by rw [e]
  rw [h1, List.filter_map, List.map_map]
  rfl
theorem getD_of {α : Type} {l : List α} {i : Nat} {a d : α} (h : l[i]? = some a) : l.getD i d = a := by
  rw [List.getD_eq_getElem?_getD, h]
  rfl
theorem xd_lcG {α : Type} [Inhabited α] {wi : TI} {g : TG} {tt : TT} {vs js : List Nat} (l : List α) (f h : α → D) (p : α → Bool) (r : α → List Sl) (hw : IX K wi ρ (l.map f)) (hj : ∀ j ∈ js, j ∈ vs) (hz : l.length ≤ 40000)
    (hg : ∀ a ∈ l, XG K g js (f a) (wipeS ρ vs) (r a)) (ht : ∀ a ∈ l, XT K tt (r a) (p a)) (he : ∀ a ∈ l, p a = true → XD K te (r a) (h a)) : XD K (tLc wi g tt te vs) ρ (.lst ((l.filter p).map h)) := by
  have key : ∀ (i : Nat) (y : D), (l.map f)[i]? = some y → ∃ a, l[i]? = some a ∧ y = f a ∧ a ∈ l := fun i y e => by
    rw [List.getElem?_map] at e
    obtain ⟨a, h1, h2⟩ := Option.map_eq_some_iff.mp e
    exact ⟨a, h1, h2.symm, List.mem_of_getElem? h1⟩
  have q := xd_lc (K := K) (ρ := ρ) (te := te) (wi := wi) (g := g) (tt := tt) (vs := vs) (js := js) (ys := l.map f) (ρ' := fun i => r (l.getD i default)) (fun i => p (l.getD i default)) (fun i => h (l.getD i default)) hw hj (by rw [List.length_map]; exact hz)
    (fun i y e => by
      obtain ⟨a, h1, rfl, h3⟩ := key i y e
      rw [getD_of h1]
      exact hg a h3)
    (fun i y e => by
      obtain ⟨a, h1, rfl, h3⟩ := key i y e
      rw [getD_of h1]
      exact ht a h3)
    (fun i y e hf => by
      obtain ⟨a, h1, rfl, h3⟩ := key i y e
      rw [getD_of h1] at hf ⊢
      exact he a h3 hf)
  rw [List.length_map, gathered_list] at q
  exact q
/-- the target a name -/
theorem xd_lcN {α : Type} [Inhabited α] {wi : TI} {j : Nat} {tt : TT} {vs : List Nat} (l : List α) (f h : α → D) (p : α → Bool) (hw : IX K wi ρ (l.map f)) (hj : j ∈ vs) (hz : l.length ≤ 40000)
    (ht : ∀ a ∈ l, XT K tt ((wipeS ρ vs).set j (.d (f a))) (p a)) (he : ∀ a ∈ l, p a = true → XD K te ((wipeS ρ vs).set j (.d (f a))) (h a)) : XD K (tLc wi (gName j) tt te vs) ρ (.lst ((l.filter p).map h)) :=
  xd_lcG l f h p (fun a => (wipeS ρ vs).set j (.d (f a))) (js := [j]) hw (fun k hk => by rw [List.mem_singleton.mp hk]; exact hj) hz (fun a _ => xg_name) ht he
/-- no test -/
theorem xd_lcM {α : Type} [Inhabited α] {wi : TI} {j : Nat} {vs : List Nat} (l : List α) (f h : α → D) (hw : IX K wi ρ (l.map f)) (hj : j ∈ vs) (hz : l.length ≤ 40000)
    (he : ∀ a ∈ l, XD K te ((wipeS ρ vs).set j (.d (f a))) (h a)) : XD K (tLc wi (gName j) tYes te vs) ρ (.lst (l.map h)) := by
  have q := xd_lcN (K := K) (ρ := ρ) (te := te) (tt := tYes) l f h (fun _ => true) hw hj hz (fun _ _ => xt_yes) fun a ha _ => he a ha
  rw [List.filter_eq_self.mpr fun _ _ => rfl] at q
  exact q
theorem xd_lcMG {α : Type} [Inhabited α] {wi : TI} {g : TG} {vs js : List Nat} (l : List α) (f h : α → D) (r : α → List Sl) (hw : IX K wi ρ (l.map f)) (hj : ∀ j ∈ js, j ∈ vs) (hz : l.length ≤ 40000)
    (hg : ∀ a ∈ l, XG K g js (f a) (wipeS ρ vs) (r a)) (he : ∀ a ∈ l, XD K te (r a) (h a)) : XD K (tLc wi g tYes te vs) ρ (.lst (l.map h)) := by
  have q := xd_lcG (K := K) (ρ := ρ) (te := te) (tt := tYes) l f h (fun _ => true) r hw hj hz hg (fun _ _ => xt_yes) fun a ha _ => he a ha
  rw [List.filter_eq_self.mpr fun _ _ => rfl] at q
  exact q
end
end Dx
end

section
set_option Elab.async false
set_option linter.all false
set_option maxRecDepth 100000
set_option maxHeartbeats 4000000
namespace Dx
open PySem PySem.Spec PyProof.Rows L2 Evl RZ
section
variable {K : PySem.W.Frag} {ρ : List Sl} {ta tb tc te : TE} {P : Po}
theorem xs_extT {i : Nat} {xs ys : List D} (hi : ρ[i]? = some (.l xs)) (h : XU K te ρ ys) (hz : xs.length + ys.length ≤ 100000) (k : P.nx (ρ.set i (.l (xs ++ ys)))) : XS K (tDrop (tBM K "list" (rExtT K) (tVar i) (tCons te tNil))) ρ P := fun G0 H0 σ H E ⟨G, A, s⟩ f => by
  obtain ⟨o, h1, p, vs, h2, h3, h4, h5, h6⟩ := s.ok i _ hi
  subst h2
  refine ⟨_, h1, .inl ⟨rfl, vs, sq_of h5⟩, h H0 G H σ A.i s _ fun a ws G1 H1 A1 e1 e2 => ?_⟩
  have g1 := A1.o _ _ h5 h4
  refine ⟨p, a, vs, ws, rfl, rfl, A1.h _ _ h5, e1, by rw [h6.length, e2.length]; exact sz_of hz, f.nx _ _ _ k ⟨G1, ?_, (s.adv A1).change hi rfl h1 ⟨p, vs ++ ws, rfl, h3, g1, upd_same, (h6.mono A1.g).append e2⟩⟩⟩
  have A2 := A.trans A1
  exact ⟨A2.g, Ex.mut A2.h h3, Ex.mut A2.i g1, A2.o⟩
/-- in, not in: texts, ints -/
theorem all_str : ∀ ss : List Str, (ss.map V.str).all flatV = true
  | [] => rfl
  | s :: ss => by
    rw [List.map_cons, List.all_cons, all_str ss]
    rfl
theorem all_int : ∀ ss : List Int, (ss.map V.int).all flatV = true
  | [] => rfl
  | s :: ss => by
    rw [List.map_cons, List.all_cons, all_int ss]
    rfl
theorem inV_str (x : Str) : ∀ ss : List Str, inV (.str x) (ss.map V.str) = decide (x ∈ ss)
  | [] => by simp [inV]
  | s :: ss => by
    have ih := inV_str x ss
    unfold inV at ih ⊢
    rw [List.map_cons, List.any_cons, ih]
    show ((s == x) || decide (x ∈ ss)) = _
    by_cases h : s = x
    · subst h; simp
    · have h' : ¬ x = s := fun z => h z.symm
      simp [h, h']
theorem inV_int (x : Int) : ∀ ss : List Int, inV (.int x) (ss.map V.int) = decide (x ∈ ss)
  | [] => by simp [inV]
  | s :: ss => by
    have ih := inV_int x ss
    unfold inV at ih ⊢
    rw [List.map_cons, List.any_cons, ih]
    show ((s == x) || decide (x ∈ ss)) = _
    by_cases h : s = x
    · subst h; simp
    · have h' : ¬ x = s := fun z => h z.symm
      simp [h, h']
theorem DaAll.str_eq {H : Hp} : ∀ {vs : List V} {ns : List Str}, DaAll K H vs (ns.map D.str) → vs = ns.map V.str
  | [], [], _ => rfl
  | v :: vs, n :: ns, .cons h1 h2 => by
    cases h1
    rw [List.map_cons, DaAll.str_eq h2]
theorem xd_inS {x : Str} {ss : List Str} (ha : XD K ta ρ (.str x)) (hb : XU K tb ρ (ss.map D.str)) : XD K (tOp (rIn K false) ta tb) ρ (.bl (decide (x ∈ ss))) := fun H0 G H σ e s Q q =>
  ha H0 G H σ e s _ fun v y G1 H1 A1 ry dy => by
    subst ry
    cases dy
    refine hb H0 G1 H1 σ A1.i (s.adv A1) _ fun a vs G2 H2 A2 h1 d1 => ?_
    have ev := d1.str_eq
    subst ev
    refine ⟨a, _, rfl, .inr h1, rfl, all_str ss, ?_⟩
    show Q (.bl (inV (.str x) (ss.map V.str))) H2
    rw [inV_str]
    exact q _ _ G2 H2 (A1.trans A2) rfl (.bl _)
theorem xd_inI {x : Int} {ss : List Int} (ha : XD K ta ρ (.int x)) (hb : XL K tb ρ (ss.map D.int)) : XD K (tOp (rIn K false) ta tb) ρ (.bl (decide (x ∈ ss))) := fun H0 G H σ e s Q q =>
  ha H0 G H σ e s _ fun v y G1 H1 A1 ry dy => by
    subst ry
    cases dy
    refine hb H0 G1 H1 σ A1.i (s.adv A1) _ fun a vs G2 H2 A2 h1 d1 => ?_
    have ev := d1.int_eq
    subst ev
    refine ⟨a, _, rfl, .inl h1, rfl, all_int ss, ?_⟩
    show Q (.bl (inV (.int x) (ss.map V.int))) H2
    rw [inV_int]
    exact q _ _ G2 H2 (A1.trans A2) rfl (.bl _)
end
end Dx
end

section
set_option Elab.async false
set_option linter.all false
set_option maxRecDepth 100000
set_option maxHeartbeats 4000000
namespace Dx
open PySem PySem.Spec PyProof.Rows L2 Evl RZ
/-! == of data: lists of ints, tuples of those -/
theorem pys_cons (d : D) (ds : List D) : D.pys (d :: ds) = d.py :: D.pys ds := rfl
theorem can_ints : ∀ ns : List Int, PyData.canLayAll0 (D.pys (ns.map D.int)) = true
  | [] => rfl
  | n :: ns => by
    rw [List.map_cons, pys_cons]
    show (PyData.canLay0 (.int n) && PyData.canLayAll0 (D.pys (ns.map D.int))) = true
    rw [can_ints ns]
    rfl
theorem depth_ints : ∀ ns : List Int, PyData.depthAll (D.pys (ns.map D.int)) = 0
  | [] => rfl
  | n :: ns => by
    rw [List.map_cons, pys_cons]
    show max 0 (PyData.depthAll (D.pys (ns.map D.int))) = 0
    rw [depth_ints ns]
    rfl
theorem eqv_ints : ∀ ns ms : List Int, PyData.eqvAll (D.pys (ns.map D.int)) (D.pys (ms.map D.int)) = decide (ns = ms)
  | [], [] => by decide
  | [], m :: ms => by
    rw [decide_eq_false (by simp)]
    rfl
  | n :: ns, [] => by
    rw [decide_eq_false (by simp)]
    rfl
  | n :: ns, m :: ms => by
    show (PyData.eqv (.int n) (.int m) && PyData.eqvAll (D.pys (ns.map D.int)) (D.pys (ms.map D.int))) = _
    rw [eqv_ints ns ms]
    show ((n == m) && decide (ns = ms)) = _
    by_cases h : n = m
    · subst h
      by_cases h2 : ns = ms
      · subst h2
        simp
      · simp [h2]
    · simp [h]
theorem ceq_ll (ns ms : List Int) : CEq (D.lst (ns.map D.int)).py (D.lst (ms.map D.int)).py (decide (ns = ms)) := by
  refine ⟨?_, ?_, eqv_ints ns ms⟩
  · show (PyData.canLayAll0 (D.pys (ns.map D.int)) && decide (PyData.depthAll (D.pys (ns.map D.int)) + 1 ≤ 64)) = true
    rw [can_ints, depth_ints]
    rfl
  · show (PyData.canLayAll0 (D.pys (ms.map D.int)) && decide (PyData.depthAll (D.pys (ms.map D.int)) + 1 ≤ 64)) = true
    rw [can_ints, depth_ints]
    rfl
theorem ceq_nil (ns : List Int) : CEq (D.lst (ns.map D.int)).py (D.lst []).py (decide (ns = [])) := ceq_ll ns []
end Dx
end

section
set_option Elab.async false
set_option linter.all false
set_option maxRecDepth 100000
set_option maxHeartbeats 4000000
namespace Dx
open PySem PySem.Spec PyProof.Rows L2 Evl RZ
section
variable {K : PySem.W.Frag} {ρ : List Sl} {ta tb tc te td ty tl : TE} {t u : TS} {P : Po}
/-! ### keys -/
theorem Adv.newK {G H : Hp} {p : Addr} {o : Obj} {ns : List Int} (e : Ex G H) (hp : H p = none) (b : BareT o) : ∃ G', Adv G H G' (upd H p (.frz o (.tup (ns.map V.int)))) ∧ Da K G' (.ref p) (.key ns) :=
  ⟨_, Adv.new e hp, .key ⟨o, upd_same, b⟩⟩
theorem newK_of {G H : Hp} {ns : List Int} {vs : List V} {Q : VK} (e : Ex G H) (ev : vs = ns.map V.int) (q : ∀ v G' H', Adv G H G' H' → Da K G' v (.key ns) → Q v H') : NewK H vs Q := fun p o hp b => by
  subst ev
  obtain ⟨G', A, d⟩ := Adv.newK (K := K) (ns := ns) e hp b
  exact q _ G' _ A d
theorem xu_k {ns : List Int} (h : XD K te ρ (.key ns)) : XU K te ρ (ns.map D.int) := fun H0 G H σ e s Q q => h H0 G H σ e s _ fun v y G1 H1 A1 ry dy => by
  subst ry
  cases dy with
  | key h1 => exact q _ _ G1 H1 A1 ((h1.up A1.i).sq) (DaAll.ints ns)
theorem xd_tupK {ta : TA} {ns : List Int} (h : XA K ta ρ (ns.map D.int)) (hl : ns.length ≤ 100000) : XD K (tTupK ta) ρ (.key ns) := fun H0 G H σ e s Q q => h H0 G H σ e s _ fun vs G1 H1 A1 d =>
  ⟨by rw [d.length, List.length_map]; exact sz_of hl, newK_of A1.i d.int_eq fun v G' H' A d' => q v _ G' H' (A1.trans A) rfl d'⟩
theorem xd_tupK0 : XD K (tTupK tNil) ρ (.key []) := xd_tupK (ns := []) xa_nil (by decide)
theorem xd_tupK1 {i : Int} (h : XD K te ρ (.int i)) : XD K (tTupK (tCons te tNil)) ρ (.key [i]) := xd_tupK (ns := [i]) (xa_cons h xa_nil) (by show 1 ≤ 100000; decide)
theorem key_val {G H : Hp} {v : V} {ns : List Int} (h : Da K G v (.key ns)) (e : Ex G H) : ∃ a, v = .ref a ∧ SqT K H a (ns.map V.int) := by
  cases h with
  | key h1 => exact ⟨_, rfl, (h1.up e).sq⟩
theorem xd_catK {xs ys : List Int} (ha : XD K ta ρ (.key xs)) (hb : XD K tb ρ (.key ys)) (hl : xs.length + ys.length ≤ 100000) : XD K (tOp (rCatK K) ta tb) ρ (.key (xs ++ ys)) := xd_op ha hb (ox_of fun G H va vb e da db Q q => by
  obtain ⟨a, rfl, h1⟩ := key_val da e
  obtain ⟨b, rfl, h2⟩ := key_val db e
  refine ⟨a, b, _, _, rfl, rfl, h1, h2, by rw [List.length_map, List.length_map]; exact sz_of hl, fun z => ?_, fun z => ?_, newK_of e (by rw [List.map_append]) q⟩
  · rw [List.map_eq_nil_iff.mp z] at q
    exact q _ G H (Adv.refl e) db
  · rw [List.map_eq_nil_iff.mp z, List.append_nil] at q
    exact q _ G H (Adv.refl e) da)
theorem cut_ints {xs : List Int} {lo hi : Option Int} : cutV (xs.map V.int) lo hi = (cutD xs lo hi).map V.int := by
  unfold cutV cutD
  rw [List.length_map, ← List.map_drop, ← List.map_take]
/-- the two kinds of slices of a key or a list -/
def rSl2 (K : PySem.W.Frag) : V → Option Int → Option Int → Hp → VK → Prop := fun x lo hi H Q => rSlL K x lo hi H Q ∨ rSlK K x lo hi H Q
theorem sl_2 {X : Cx} : SlR X (rSl2 X.K) := sl_list.or sl_tupK
theorem slK_ok {xs : List Int} {lo hi : Option Int} {G H : Hp} {v : V} {Q : VK} (e : Ex G H) (dv : Da K G v (.key xs)) (q : ∀ v G' H', Adv G H G' H' → Da K G' v (.key (cutD xs lo hi)) → Q v H') : rSlK K v lo hi H Q := by
  obtain ⟨a, rfl, h1⟩ := key_val dv e
  refine ⟨a, _, rfl, h1, fun w => ?_, newK_of e cut_ints q⟩
  rw [List.length_map] at w
  rw [cut_all w] at q
  exact q _ G H (Adv.refl e) dv
theorem xd_sl2k {tl th : TO} {xs : List Int} {lo hi : Option Int} (h : XD K te ρ (.key xs)) (h1 : XO K tl ρ lo) (h2 : XO K th ρ hi) : XD K (tSl (rSl2 K) te tl th) ρ (.key (cutD xs lo hi)) := fun H0 G H σ e s Q q =>
  h H0 G H σ e s _ fun v y G1 H1 A1 ry dy => h1 H0 G1 H1 σ A1.i (s.adv A1) _ fun G2 H2 A2 => h2 H0 G2 H2 σ A2.i (s.adv (A1.trans A2)) _ fun G3 H3 A3 => by
    subst ry
    exact .inr (slK_ok A3.i (dy.mono (A2.g.trans A3.g)) fun v G' H' A d => q v _ G' H' (((A1.trans A2).trans A3).trans A) rfl d)
theorem xd_slk {tl th : TO} {xs : List Int} {lo hi : Option Int} (h : XD K te ρ (.key xs)) (h1 : XO K tl ρ lo) (h2 : XO K th ρ hi) : XD K (tSl (rSlK K) te tl th) ρ (.key (cutD xs lo hi)) := fun H0 G H σ e s Q q =>
  h H0 G H σ e s _ fun v y G1 H1 A1 ry dy => h1 H0 G1 H1 σ A1.i (s.adv A1) _ fun G2 H2 A2 => h2 H0 G2 H2 σ A2.i (s.adv (A1.trans A2)) _ fun G3 H3 A3 => by
    subst ry
    exact slK_ok A3.i (dy.mono (A2.g.trans A3.g)) fun v G' H' A d => q v _ G' H' (((A1.trans A2).trans A3).trans A) rfl d
theorem xd_sl2l {tl th : TO} {xs : List D} {lo hi : Option Int} (h : XL K te ρ xs) (h1 : XO K tl ρ lo) (h2 : XO K th ρ hi) : XD K (tSl (rSl2 K) te tl th) ρ (.lst (cutD xs lo hi)) := fun H0 G H σ e s Q q =>
  h H0 G H σ e s _ fun a vs G1 H1 A1 g1 d1 => h1 H0 G1 H1 σ A1.i (s.adv A1) _ fun G2 H2 A2 => h2 H0 G2 H2 σ A2.i (s.adv (A1.trans A2)) _ fun G3 H3 A3 =>
    .inl ⟨a, vs, rfl, ex_l (A2.h.trans A3.h) g1, fun p hp => q _ _ _ _ (((A1.trans A2).trans A3).trans (Adv.new A3.i hp)) rfl (.lst upd_same (cut_da (d1.mono ((A2.g.trans A3.g).trans (Adv.new A3.i hp).g))))⟩
theorem xd_keyL {ns : List Int} (h : XL K te ρ (ns.map D.int)) : XD K (tCB (rTupK K) (tCons te tNil)) ρ (.key ns) := fun H0 G H σ e s Q q => h H0 G H σ e s _ fun a vs G1 H1 A1 h1 d1 =>
  ⟨a, vs, rfl, .inl ⟨h1, newK_of A1.i d1.int_eq fun v G' H' A d => q v _ G' H' (A1.trans A) rfl d⟩⟩
theorem xd_keyK {ns : List Int} (h : XD K te ρ (.key ns)) : XD K (tCB (rTupK K) (tCons te tNil)) ρ (.key ns) := fun H0 G H σ e s Q q => h H0 G H σ e s _ fun v y G1 H1 A1 ry dy => by
  subst ry
  obtain ⟨a, rfl, h1⟩ := key_val dy A1.i
  exact ⟨a, _, rfl, .inr ⟨h1, q _ _ G1 H1 A1 rfl dy⟩⟩
theorem xd_kcount {ns : List Int} {k : Int} (h : XD K te ρ (.key ns)) (hb : XD K tb ρ (.int k)) : XD K (tBMY tyKey (rCntT K) te (tCons tb tNil)) ρ (.int ((ns.count k : Nat) : Int)) := fun H0 G H σ e s Q q =>
  h H0 G H σ e s _ fun v y G1 H1 A1 ry dy => by
    subst ry
    cases dy with
    | @key a _ h1 =>
      refine ⟨⟨a, _, rfl, h1.up A1.i⟩, xa_cons hb xa_nil H0 G1 H1 σ A1.i (s.adv A1) _ fun us G2 H2 A2 d2 => ?_⟩
      cases d2 with
      | cons x y =>
        cases x
        cases y
        exact ⟨a, ns, k, rfl, rfl, (h1.up (A1.i.trans A2.h)).sq, q _ _ G2 H2 (A1.trans A2) rfl (.int _)⟩
/-! ### walks over tuples of any kind -/
def D.its : D → Option (List D)
  | .tup ds => some ds | .rtup ds => some ds | .key ns => some (ns.map D.int) | _ => none
theorem its_da {G : Hp} {v : V} {x : D} {ds : List D} (d : Da K G v x) (h : x.its = some ds) : ∃ a vs, v = .ref a ∧ (∀ H, Ex G H → SqT K H a vs) ∧ DaAll K G vs ds := by
  cases d with
  | tup h1 h2 =>
    cases h
    exact ⟨_, _, rfl, fun H e => st_of (e _ _ h1), h2⟩
  | rtup h1 h2 =>
    cases h
    exact ⟨_, _, rfl, fun H e => ex_t e h1, h2⟩
  | key h1 =>
    cases h
    exact ⟨_, _, rfl, fun H e => (h1.up e).sq, DaAll.ints _⟩
  | _ => cases h
theorem ix_its {x : D} {xs : List D} (h : XD K tl ρ x) (hx : x.its = some xs) : IX K (iTup K tl) ρ xs := fun H0 G H σ e s R q => h H0 G H σ e s _ fun v y G1 H1 A1 ry dy => by
  subst ry
  obtain ⟨a, vs, rfl, hs, d1⟩ := its_da dy hx
  refine ⟨a, rfl, ⟨vs, hs _ A1.i⟩, q _ G1 H1 A1 ?_⟩
  have w := walk_tup (K := K) (a := a) (xs := vs)
  rw [d1.length] at w
  exact w.mono (fun H2 e2 => hs _ e2) fun i H x H' _ _ y => yd_at d1 y
theorem ix_zipI {ta tb : TE} {x y : D} {xs ys : List D} (h : XD K ta ρ x) (h' : XD K tb ρ y) (hx : x.its = some xs) (hy : y.its = some ys) : IX K (iZipA K (tCons ta (tCons tb tNil))) ρ (zipD xs ys) := fun H0 G H σ e s R q => h H0 G H σ e s _ fun v x' G1 H1 A1 rx dx =>
  h' H0 G1 H1 σ A1.i (s.adv A1) _ fun w y' G2 H2 A2 ry dy => by
    subst rx ry
    obtain ⟨a, vs, rfl, h1, d1⟩ := its_da dx hx
    obtain ⟨b, ws, rfl, h2, d2⟩ := its_da dy hy
    refine ⟨a, b, vs, ws, rfl, .inr ⟨h1 _ (A2.g.trans A2.i), h2 _ A2.i, q _ G2 H2 (A1.trans A2) ?_⟩⟩
    have w := walk_zipT (K := K) (a := a) (b := b) (xs := vs) (ys := ws) rfl
    rw [d1.length, d2.length] at w
    have el : (zipD xs ys).length = min xs.length ys.length := by unfold zipD; rw [List.length_zipWith]
    rw [el]
    refine w.mono (fun H3 e3 => ⟨h1 _ (A2.g.trans e3), h2 _ e3⟩) fun i H x H' hi _ y => yd_pair (fun x y h5 h6 => ?_) y
    obtain ⟨dx, h7, h8⟩ := (d1.mono A2.g).getV h5
    obtain ⟨dy, h3, h4⟩ := d2.getV h6
    exact ⟨dx, dy, zipD_at h7 h3, h8, h4⟩
/-! ### dicts -/
def atK (kvs : Kvs) (k : List Int) : Option D := (kvs.find? fun p => decide (p.1 = k)).map (·.2)
def putK' (kvs : Kvs) (k : List Int) (d : D) : Kvs := if (atK kvs k).isSome then kvs.map (fun p => if p.1 = k then (p.1, d) else p) else kvs ++ [(k, d)]
theorem kv_at {G : Hp} {ws : Kws} {kvs : Kvs} (r : KvOk K G ws kvs) (k : List Int) : (∃ v d, atW ws k = some v ∧ atK kvs k = some d ∧ Da K G v d) ∨ (atW ws k = none ∧ atK kvs k = none) := by
  induction r with
  | nil => exact .inr ⟨rfl, rfl⟩
  | @cons p q ps qs h t ih =>
    unfold atW atK at ih ⊢
    obtain ⟨e1, e2, e3⟩ := h
    rw [List.find?_cons, List.find?_cons, ← e1]
    by_cases c : p.1 = k
    · rw [decide_eq_true c]
      exact .inl ⟨_, _, rfl, rfl, e3⟩
    · rw [decide_eq_false c]
      exact ih
theorem kv_sm {G : Hp} {ws : Kws} {kvs : Kvs} (r : KvOk K G ws kvs) (k : List Int) : (atW ws k).isSome = (atK kvs k).isSome := by
  rcases kv_at r k with ⟨v, d, e1, e2, _⟩ | ⟨e1, e2⟩
  · rw [e1, e2]
    rfl
  · rw [e1, e2]
    rfl
theorem kv_rep {G : Hp} {ws : Kws} {kvs : Kvs} (r : KvOk K G ws kvs) (k : List Int) {v : V} {d : D} (dv : Da K G v d) : KvOk K G (ws.map (fun p => if p.1 = k then (p.1, p.2.1, v) else p)) (kvs.map (fun p => if p.1 = k then (p.1, d) else p)) := by
  induction r with
  | nil => exact .nil
  | @cons p q ps qs h t ih =>
    obtain ⟨e1, e2, e3⟩ := h
    rw [List.map_cons, List.map_cons]
    refine .cons ?_ ih
    rw [← e1]
    split
    · exact ⟨rfl, e1 ▸ e2, dv⟩
    · exact ⟨e1, e2, e3⟩
theorem kv_put {G : Hp} {ws : Kws} {kvs : Kvs} (r : KvOk K G ws kvs) {k : List Int} {b : Addr} {v : V} {d : D} (hb : KeyT G b (k.map V.int)) (dv : Da K G v d) : KvOk K G (putW ws k b v) (putK' kvs k d) := by
  unfold putW putK'
  rw [kv_sm r k]
  split
  · exact kv_rep r k dv
  · exact Paired.snoc r ⟨rfl, hb, dv⟩
theorem putK_le (kvs : Kvs) (k : List Int) (d : D) : (putK' kvs k d).length ≤ kvs.length + 1 := by
  unfold putK'
  split
  · rw [List.length_map]
    omega
  · rw [List.length_append]
    exact Nat.le_refl _
/-- a dict that may be read -/
def XDc (K : PySem.W.Frag) (te : TE) (ρ : List Sl) (kvs : Kvs) : Prop := ∀ (H0 G H : Hp) (σ : L2.St), Ex G H → SR K H0 G H σ ρ → ∀ Q : VK, (∀ a ws G' H', Adv G H G' H' → Rd H' a (rawO a ws) → KvOk K G' ws kvs → Q (.ref a) H') → te σ H Q
theorem xdc_c {i : Nat} {kvs : Kvs} (h : ρ[i]? = some (.c kvs)) : XDc K (tVar i) ρ kvs := fun H0 G H σ e s Q q => by
  obtain ⟨o, h1, p, ob, ws, h2, h3, h4⟩ := s.ok i _ h
  subst h2
  exact ⟨_, h1, q p ws G H (Adv.refl e) (.inr ⟨ob, e _ _ h3⟩) h4⟩
theorem xdc_t {i : Nat} {kvs : Kvs} (h : ρ[i]? = some (.t kvs)) : XDc K (tVar i) ρ kvs := fun H0 G H σ e s Q q => by
  obtain ⟨o, h1, p, ws, h2, h3, h4, h5, h6⟩ := s.ok i _ h
  subst h2
  exact ⟨_, h1, q p ws G H (Adv.refl e) (.inl h5) h6⟩
/-- .. that a call hands back -/
theorem xdc_call {S : List D → (Kvs → Prop) → Prop} {E' : XK} {ta : TA} {ds : List D} {Rk : Kvs → Prop} (h : XA K ta ρ ds) (hs : S ds Rk) (H0 G H : Hp) (σ : L2.St) (e : Ex G H) (s : SR K H0 G H σ ρ) (Q : VK)
    (q : ∀ a ws kvs G' H', Adv G H G' H' → Rk kvs → Rd H' a (rawO a ws) → KvOk K G' ws kvs → Q (.ref a) H') : tCall (spT K S) [] E' ta σ H Q := h H0 G H σ e s _ fun vs G1 H1 A1 d =>
  ⟨G1, ds, Rk, A1.i, by rw [List.append_nil]; exact d, hs, fun p ob ws kvs G2 H2 A2 rk hG ok => q p ws kvs G2 H2 (A1.trans A2) rk (.inr ⟨ob, A2.i _ _ hG⟩) ok⟩
theorem rd_up {H H' : Hp} {a : Addr} {u : HO} (r : Rd H a u) (e : Ex H H') : Rd H' a u := by
  rcases r with r | ⟨o, r⟩
  · exact .inl (e _ _ r)
  · exact .inr ⟨o, e _ _ r⟩
theorem dg_of {G H : Hp} {a : Addr} {ws : Kws} {kvs : Kvs} (r : Rd H a (rawO a ws)) (ok : KvOk K G ws kvs) (e : Ex G H) : DG K H a ws := by
  refine ⟨r, ?_⟩
  clear r
  induction ok with
  | nil => exact fun p hp => nomatch hp
  | @cons p q ps qs h t ih =>
    intro x hx
    rcases List.mem_cons.mp hx with rfl | hx
    · rw [h.1]
      exact (h.2.1.up e).sq
    · exact ih x hx
theorem xd_rget {kvs : Kvs} {k : List Int} {d : D} (h : XDc K td ρ kvs) (hk : XD K ty ρ (.key k)) (hd : atK kvs k = some d) : XD K (tRGet K td ty) ρ d := fun H0 G H σ e s Q q =>
  h H0 G H σ e s _ fun a ws G1 H1 A1 r1 ok => hk H0 G1 H1 σ A1.i (s.adv A1) _ fun v y G2 H2 A2 ry dy => by
    subst ry
    obtain ⟨b, rfl, hb⟩ := key_val dy A2.i
    have ok2 := ok.mono A2.g
    rcases kv_at ok2 k with ⟨v, d', e1, e2, e3⟩ | ⟨_, e2⟩
    · rw [hd] at e2
      cases e2
      exact ⟨a, b, ws, k, v, rfl, rfl, dg_of (rd_up r1 A2.h) ok2 A2.i, hb, e1, q v _ G2 H2 (A1.trans A2) rfl e3⟩
    · rw [hd] at e2
      cases e2
theorem xd_rin {neg : Bool} {kvs : Kvs} {k : List Int} (hk : XD K ty ρ (.key k)) (h : XDc K td ρ kvs) : XD K (tRIn K neg ty td) ρ (.bl (neg ^^ (atK kvs k).isSome)) := fun H0 G H σ e s Q q =>
  hk H0 G H σ e s _ fun v y G1 H1 A1 ry dy => h H0 G1 H1 σ A1.i (s.adv A1) _ fun a ws G2 H2 A2 r2 ok => by
    subst ry
    obtain ⟨b, rfl, hb⟩ := key_val (dy.mono A2.g) A2.i
    refine ⟨a, b, ws, k, rfl, rfl, dg_of r2 ok A2.i, hb, ?_⟩
    rw [kv_sm ok]
    exact q _ _ G2 H2 (A1.trans A2) rfl (.bl _)
theorem xd_rget1 {kvs : Kvs} {k : List Int} (h : XDc K td ρ kvs) (hk : XD K ty ρ (.key k)) : XD K (tBMY (tyRaw K) (rGetR1 K) td (tCons ty tNil)) ρ ((atK kvs k).getD .non) := fun H0 G H σ e s Q q =>
  h H0 G H σ e s _ fun a ws G1 H1 A1 r1 ok => ⟨⟨a, ws, rfl, dg_of r1 ok A1.i⟩, xa_cons hk xa_nil H0 G1 H1 σ A1.i (s.adv A1) _ fun us G2 H2 A2 d2 => by
    cases d2 with
    | cons x y =>
      cases y
      obtain ⟨b, rfl, hb⟩ := key_val x A2.i
      have ok2 := ok.mono A2.g
      refine ⟨a, b, ws, k, rfl, rfl, dg_of (rd_up r1 A2.h) ok2 A2.i, hb, ?_⟩
      rcases kv_at ok2 k with ⟨v, d', e1, e2, e3⟩ | ⟨e1, e2⟩
      · rw [e1]
        rw [e2] at q
        exact q v _ G2 H2 (A1.trans A2) rfl e3
      · rw [e1]
        rw [e2] at q
        exact q .non _ G2 H2 (A1.trans A2) rfl .non⟩
theorem xd_rget2 {kvs : Kvs} {k : List Int} {x : D} (h : XDc K td ρ kvs) (hk : XD K ty ρ (.key k)) (hx : XD K tb ρ x) : XD K (tBMY (tyRaw K) (rGetR2 K) td (tCons ty (tCons tb tNil))) ρ ((atK kvs k).getD x) := fun H0 G H σ e s Q q =>
  h H0 G H σ e s _ fun a ws G1 H1 A1 r1 ok => ⟨⟨a, ws, rfl, dg_of r1 ok A1.i⟩, xa_cons hk (xa_cons hx xa_nil) H0 G1 H1 σ A1.i (s.adv A1) _ fun us G2 H2 A2 d2 => by
    cases d2 with
    | cons x y =>
      cases y with
      | @cons dv _ _ _ y z =>
        cases z
        obtain ⟨b, rfl, hb⟩ := key_val x A2.i
        have ok2 := ok.mono A2.g
        refine ⟨a, b, dv, ws, k, rfl, rfl, dg_of (rd_up r1 A2.h) ok2 A2.i, hb, ?_⟩
        rcases kv_at ok2 k with ⟨v, d', e1, e2, e3⟩ | ⟨e1, e2⟩
        · rw [e1]
          rw [e2] at q
          exact q v _ G2 H2 (A1.trans A2) rfl e3
        · rw [e1]
          rw [e2] at q
          exact q dv _ G2 H2 (A1.trans A2) rfl y⟩
theorem xs_rput {i : Nat} {kvs : Kvs} {k : List Int} {d : D} (hi : ρ[i]? = some (.t kvs)) (hk : XD K ty ρ (.key k)) (hv : XD K tb ρ d) (hl : kvs.length < 100000) (n : P.nx (ρ.set i (.t (putK' kvs k d)))) : XS K (sRPut K (tVar i) ty tb) ρ P := fun G0 H0 σ H E ⟨G, A, s⟩ f =>
  hv H0 G H σ A.i s _ fun v x G1 H1 A1 rx dx => by
    subst rx
    obtain ⟨o, h1, p, ws, h2, h3, h4, h5, h6⟩ := (s.adv A1).ok i _ hi
    subst h2
    refine ⟨_, h1, hk H0 G1 H1 σ A1.i (s.adv A1) _ fun w y G2 H2 A2 ry dy => ?_⟩
    subst ry
    cases dy with
    | @key b _ hb =>
      have ok2 := h6.mono A2.g
      have e2 := A2.h _ _ h5
      have g2 := A2.o _ _ h5 h4
      refine ⟨p, b, ws, k, rfl, rfl, e2, dg_of (.inl e2) ok2 A2.i, (hb.up A2.i).sq, by rw [Paired.length h6]; exact sz_lt hl, f.nx _ _ _ n ⟨G2, ?_, (s.adv (A1.trans A2)).change hi rfl h1 ⟨p, _, rfl, h3, g2, upd_same, kv_put ok2 hb (dx.mono A2.g)⟩⟩⟩
      have A3 := (A.trans A1).trans A2
      exact ⟨A3.g, Ex.mut A3.h h3, Ex.mut A3.i g2, A3.o⟩
/-- a dict is changed no more -/
theorem xs_lock (i : Nat) {kvs : Kvs} (hi : ρ[i]? = some (.t kvs)) (h : XS K t (ρ.set i (.c kvs)) P) : XS K (tLockP t) ρ P := fun G0 H0 σ H E ⟨G, A, s⟩ f => by
  obtain ⟨o, h1, p, ws, h2, h3, h4, h5, h6⟩ := s.ok i _ hi
  subst h2
  refine ⟨p, rawO p ws, h5, True.intro, fun od => ?_⟩
  have nw : Ex G (upd G p (.frz od (rawO p ws))) := Ex.new h4
  have eg : Ex (upd G p (.frz od (rawO p ws))) (upd H p (.frz od (rawO p ws))) := fun k w z => by
    by_cases hk : k = p
    · subst hk
      rw [upd_same] at z ⊢
      exact z
    · rw [upd_ne hk] at z ⊢
      exact A.i _ _ z
  refine h G0 H0 σ _ E ⟨upd G p (.frz od (rawO p ws)), ⟨A.g.trans nw, Ex.mut A.h h3, eg, fun k w z z' => ?_⟩, ?_⟩ f
  · rw [upd_ne (ne_of_none z h3)]
    exact A.o _ _ z z'
  · have hil : i < ρ.length := (List.getElem?_eq_some_iff.mp hi).1
    have look : ∀ (j : Nat) (t' : Sl), (ρ.set i (.c kvs))[j]? = some t' → (j = i ∧ t' = .c kvs) ∨ (j ≠ i ∧ ρ[j]? = some t') := fun j t' e => by
      by_cases hj : j = i
      · subst hj
        rw [List.getElem?_set_self hil] at e
        exact .inl ⟨rfl, (Option.some.inj e).symm⟩
      · rw [List.getElem?_set_ne (fun z => hj z.symm)] at e
        exact .inr ⟨hj, e⟩
    refine ⟨by rw [List.length_set]; exact s.len, fun j t' e' => ?_, fun j k t1 t2 q e1 e2 w1 w2 g1 g2 => ?_⟩
    · rcases look j t' e' with ⟨rfl, rfl⟩ | ⟨hj, e'⟩
      · exact ⟨_, h1, p, od, ws, rfl, upd_same, h6.mono nw⟩
      · obtain ⟨o, k1, k2⟩ := s.ok j t' e'
        refine ⟨o, k1, ?_⟩
        cases t' with
        | u => trivial
        | d x =>
          obtain ⟨v, a, b⟩ := k2
          exact ⟨v, a, b.mono nw⟩
        | l ys =>
          obtain ⟨q, ws, eq, q0, q1, q2, q3⟩ := k2
          have nq : q ≠ p := fun z => by
            subst z
            exact hj (s.sep j i _ _ q e' hi rfl rfl (by rw [k1, eq]) h1)
          exact ⟨q, ws, eq, q0, by rw [upd_ne nq]; exact q1, by rw [upd_ne nq]; exact q2, q3.mono nw⟩
        | t kvs =>
          obtain ⟨q, ws, eq, q0, q1, q2, q3⟩ := k2
          have nq : q ≠ p := fun z => by
            subst z
            exact hj (s.sep j i _ _ q e' hi rfl rfl (by rw [k1, eq]) h1)
          exact ⟨q, ws, eq, q0, by rw [upd_ne nq]; exact q1, by rw [upd_ne nq]; exact q2, q3.mono nw⟩
        | c kvs =>
          obtain ⟨q, ob, ws, eq, q1, q3⟩ := k2
          exact ⟨q, ob, ws, eq, nw _ _ q1, q3.mono nw⟩
        | v x => exact k2
    · rcases look j t1 e1 with ⟨rfl, rfl⟩ | ⟨_, e1'⟩
      · cases w1
      · rcases look k t2 e2 with ⟨rfl, rfl⟩ | ⟨_, e2'⟩
        · cases w2
        · exact s.sep j k _ _ q e1' e2' w1 w2 g1 g2
/-- it is handed back -/
theorem xs_retC {i : Nat} {kvs : Kvs} (hi : ρ[i]? = some (.c kvs)) (k : P.rd kvs) : XS K (tRet (tVar i)) ρ P := fun G0 H0 σ H E ⟨G, A, s⟩ f => by
  obtain ⟨o, h1, p, ob, ws, h2, h3, h4⟩ := s.ok i _ hi
  subst h2
  exact ⟨_, h1, f.rd kvs p ob ws G H k A h3 h4⟩
/-- its pairs -/
def pairsD (kvs : Kvs) : List D := kvs.map fun p => .tup [.key p.1, p.2]
theorem ix_itemsD {i : Nat} {kvs : Kvs} (hi : ρ[i]? = some (.c kvs)) : IX K (iRItems (tVar i)) ρ (pairsD kvs) := fun H0 G H σ e s R q => by
  obtain ⟨o, h1, p, ob, ws, h2, h3, h4⟩ := s.ok i _ hi
  subst h2
  refine ⟨_, h1, p, ob, ws, rfl, e _ _ h3, q _ G H (Adv.refl e) ?_⟩
  have el : (pairsD kvs).length = ws.length := by
    unfold pairsD
    rw [List.length_map]
    exact (Paired.length h4).symm
  rw [el]
  refine ⟨fun j H2 hj e2 => ⟨e2 _ _ h3, hj⟩, fun H2 e2 => ⟨e2 _ _ h3, Nat.le_refl _⟩, fun j H2 x H3 hj e2 y => ?_⟩
  obtain ⟨T, w, hw, rfl, hT, rfl⟩ := y
  intro G2 a1 a2
  obtain ⟨kv, hkv, e1, e3, e4⟩ := paired_get h4 hw
  have A := Adv.new (o := .tup [.ref w.2.1, w.2.2]) a2 hT
  refine ⟨_, .tup [.key kv.1, kv.2], ?_, A, .tup upd_same (.cons (.key (e3.up (a1.trans A.g))) (.cons (e4.mono (a1.trans A.g)) .nil))⟩
  unfold pairsD
  rw [List.getElem?_map, hkv]
  rfl
end
end Dx
end

section
set_option Elab.async false
set_option linter.all false
set_option maxRecDepth 100000
set_option maxHeartbeats 4000000
namespace Dx
open PySem PySem.Spec PyProof.Rows L2 Evl RZ
/-! the rules again, the frozen heap K named: for what stands within a comprehension -/
section
variable {X : Cx} {K : PySem.W.Frag}
theorem ix_listK (h : X.K = K) : IxR X (rIxL K) := h ▸ ix_list
theorem ix_tupK (h : X.K = K) : IxR X (rIxT K) := h ▸ ix_tup
theorem sl_listK (h : X.K = K) : SlR X (rSlL K) := h ▸ sl_list
theorem sl_tupKK (h : X.K = K) : SlR X (rSlK K) := h ▸ sl_tupK
theorem op_catKK (h : X.K = K) : OpR X (binaryOp .Add) (rCatK K) := h ▸ op_catK
theorem cr_lenK (h : X.K = K) : CallR X (.builtin "len") (rLenS K) := h ▸ cr_lenS
theorem cr_listK (h : X.K = K) : CallR X (.type "list") (rListS K) := h ▸ cr_listS
theorem cr_tupKK (h : X.K = K) : CallR X (.type "tuple") (rTupK K) := h ▸ cr_tupK
theorem pe_bmK {o e : Expr} {es : List Expr} {to : TE} {t : TA} {name : Str} {apos cpos : Pos} {T id : String} {r : PySem.W.Frag → V → List V → Hp → VK → Prop} (h : X.K = K) (pa : PlainAttrs T) (slot : Slot T name id) (hty : typeOf (.builtin id) = pure (.type "method_descriptor"))
    (hm : MtR X id (r X.K)) (ho : PE X o to) (ha : PA X (e :: es) t) (hbase : attributeBase o name X.env (eval o X.env) = eval o X.env := by rfl)
    (hfew : ((backTo cpos (starEach (e :: es) X.env)).all (fun x => !x.1) && (backToKw cpos (keywordEach [] X.env)).all (fun x => x.1.isSome) && decide ((e :: es).length + ([] : List Keyword).length + (if ([] : List Keyword).isEmpty then 0 else 1) < 30)) = true := by rfl)
    (hline : (apos.endLine == cpos.line) = true := by rfl) (hs : starEach (e :: es) X.env = (false, eval e X.env) :: starEach es X.env := by rfl) (hplain : (backTo cpos (starEach es X.env)).any (·.1) = false := by rfl) :
    PE X (.Call (.Attribute o name apos) (e :: es) [] cpos) (tBM K T (r K) to t) := by
  subst h
  exact pe_bm pa slot hty hm ho ha hbase hfew hline hs hplain
theorem mt_lcountK (h : X.K = K) : MtR X "list.count" (rCntI K) := h ▸ mt_lcount
theorem mt_rget1K (h : X.K = K) (hu : X.A.units + 1 < cLine) : MtR X "dict.get" (rGetR1 K) := h ▸ mt_rget1 hu
theorem ty_rawK (h : X.K = K) : TyR X "dict" (tyRaw K) := h ▸ ty_raw
end
end Dx
end

section
set_option Elab.async false
set_option linter.all false
set_option maxRecDepth 100000
set_option maxHeartbeats 4000000
namespace Dx
open PySem PySem.Spec PyProof.Rows L2 Evl RZ
section
variable {X : Cx}
/-- repr of an int, of None -/
def reprD : D → Str
  | .int i => (toString i : String)
  | _ => "None"
def rReprO : List V → Hp → VK → Prop := fun xs H Q => (∃ i : Int, xs = [.int i] ∧ i.natAbs.log2 < 1920 ∧ Q (.str (toString i : String)) H) ∨ (xs = [.non] ∧ Q (.str "None") H)
theorem cr_reprO : CallR X (.builtin "repr") rReprO := by
  intro pins s σ H xs us Q I r h
  rcases h with ⟨i, rfl, hz, q⟩ | ⟨rfl, q⟩
  · exact SkE.call_repr_int pins s σ H _ us Q I r ⟨i, rfl, hz, q⟩
  · obtain ⟨u, rfl, rfl⟩ := vals1 r
    exact PySem.P.repr_of_none ⟨.str _, H, I.tok _, ⟨_, rfl⟩, q⟩
def rInt1 : List V → Hp → VK → Prop := fun xs H Q => (∃ i, xs = [.int i] ∧ Q (.int i) H) ∨ ∃ k, xs = [.bl k] ∧ Q (.int (if k then 1 else 0)) H
theorem cr_int1 : CallR X (.type "int") rInt1 := call_int1
end
section
variable {K : PySem.W.Frag} {ρ : List Sl} {ta tb tc te td ty tl : TE} {t u : TS} {P : Po} {R : D → Prop}
theorem xd_int1 {b : Bool} (h : XD K te ρ (.bl b)) : XD K (tCB rInt1 (tCons te tNil)) ρ (.int (if b then 1 else 0)) := xe_cb (xa_cons h xa_nil) fun G H vs e d Q q => by
  cases d with
  | cons d1 d2 =>
    cases d1
    cases d2
    exact .inr ⟨b, rfl, q _ _ G H (Adv.refl e) rfl (.int _)⟩
theorem xe_repr {Ro : D → Prop} (h : XE K te ρ Ro) (hr : ∀ x, Ro x → x = .non ∨ ∃ i : Int, x = .int i ∧ i.natAbs.log2 < 1920) : XE K (tCB rReprO (tCons te tNil)) ρ (fun y => ∃ x, Ro x ∧ y = .str (reprD x)) := fun H0 G H σ e s Q q =>
  h H0 G H σ e s _ fun v x G1 H1 A1 rx dx => by
    rcases hr x rx with rfl | ⟨i, rfl, hi⟩
    · cases dx
      exact .inr ⟨rfl, q _ _ G1 H1 A1 ⟨_, rx, rfl⟩ (.str _)⟩
    · cases dx
      exact .inl ⟨i, rfl, hi, q _ _ G1 H1 A1 ⟨_, rx, rfl⟩ (.str _)⟩
/-- the least -/
theorem pys_map {α : Type} [DecidableEq α] [PySem.W.Datum α] (f : α → D) (hf : ∀ a, (f a).py = PySem.W.Datum.toD a) : ∀ l : List α, D.pys (l.map f) = l.map PySem.W.Datum.toD
  | [] => rfl
  | a :: l => by
    rw [List.map_cons, List.map_cons, ← pys_map f hf l, ← hf a]
    rfl
theorem xd_minA {α : Type} [DecidableEq α] [PySem.W.DatumOrd α] (f : α → D) (hf : ∀ a, (f a).py = PySem.W.Datum.toD a) (hdep : PySem.W.Datum.depth α ≤ 60) {x : α} {xs : List α} (h : XL K te ρ ((x :: xs).map f)) :
    XD K (tCB (rMinA α K) (tCons te tNil)) ρ (f (PySem.W.minOf x xs)) := fun H0 G H σ e s Q q => h H0 G H σ e s _ fun a vs G1 H1 A1 h1 d1 => by
  refine ⟨a, vs, x, xs, rfl, h1, ?_, hdep, fun i v hv hi => ?_⟩
  · rw [← pys_map f hf]
    exact DaAll.dp _ _ (d1.mono A1.i)
  · obtain ⟨d, hd, dv⟩ := d1.getV hv
    rw [List.getElem?_map, hi] at hd
    cases hd
    exact q v _ G1 H1 A1 rfl dv
theorem py_ints (l : List Int) : (D.lst (l.map D.int)).py = PySem.W.Datum.toD l := by
  show PyData.list (D.pys (l.map D.int)) = PyData.list (l.map PySem.W.Datum.toD)
  rw [pys_map D.int (fun _ => rfl)]
theorem xd_minL {x : List Int} {xs : List (List Int)} (h : XL K te ρ ((x :: xs).map fun l => D.lst (l.map D.int))) : XD K (tCB (rMinA (List Int) K) (tCons te tNil)) ρ (.lst ((PySem.W.minOf x xs).map D.int)) :=
  xd_minA (α := List Int) (fun l => D.lst (l.map D.int)) py_ints (by decide) h
abbrev prD (p : Int × Int) : D := .tup [.int p.1, .int p.2]
theorem xd_minP {x : Int × Int} {xs : List (Int × Int)} (h : XL K te ρ ((x :: xs).map prD)) : XD K (tCB (rMinA (Int × Int) K) (tCons te tNil)) ρ (prD (PySem.W.minOf x xs)) :=
  xd_minA (α := Int × Int) prD (fun _ => rfl) (by decide) h
/-- dict(pairs) -/
theorem pairs_in {G H : Hp} (e : Ex G H) : ∀ {vs : List V} {kvs : Kvs}, DaAll K G vs (pairsD kvs) → ∃ Ts ps, vs = Ts.map V.ref ∧ PairsR K H Ts ps ∧ KvOk K G ps kvs
  | _, [], h => by
    cases h
    exact ⟨[], [], rfl, .nil, .nil⟩
  | _, (k, d) :: kvs, h => by
    cases h with
    | cons h1 h2 =>
      obtain ⟨Ts, ps, e1, e2, e3⟩ := pairs_in e h2
      cases h1 with
      | @tup T xs _ g1 g2 =>
        cases g2 with
        | @cons kv _ _ _ g3 g4 =>
          cases g4 with
          | @cons dv _ _ _ g4 g5 =>
            cases g5
            cases g3 with
            | @key b _ hb =>
              refine ⟨T :: Ts, (k, b, dv) :: ps, by rw [e1] <;> rfl, .cons ⟨st_of (e _ _ g1), (hb.up e).sq⟩ e2, .cons ⟨rfl, hb, g4⟩ e3⟩
theorem kv_keys {G : Hp} {ws : Kws} {kvs : Kvs} (r : KvOk K G ws kvs) : ws.map (·.1) = kvs.map (·.1) := by
  induction r with
  | nil => rfl
  | cons h t ih => rw [List.map_cons, List.map_cons, h.1, ih]
theorem xs_dictP {i : Nat} {kvs : Kvs} (h : XD K te ρ (.lst (pairsD kvs))) (hn : (kvs.map (·.1)).Nodup) (k : P.nx (ρ.set i (.t kvs))) : XS K (tAsg (tCB (rDictP K) (tCons te tNil)) (gName i)) ρ P := fun G0 H0 σ H E ⟨G, A, s⟩ f =>
  h H0 G H σ A.i s _ fun v x G1 H1 A1 rx dx => by
    subst rx
    cases dx with
    | @lst a vs _ g1 d1 =>
      obtain ⟨Ts, ps, rfl, hp, ok⟩ := pairs_in A1.i d1
      refine ⟨a, Ts, ps, rfl, sq_of (A1.i _ _ g1), hp, by rw [kv_keys ok]; exact hn, fun p hp => ?_⟩
      have A2 := Adv.own (o := rawO p ps) A1.i hp
      refine f.nx _ _ _ k ⟨G1, (A.trans A1).trans A2, ((s.adv A1).adv A2).set ⟨p, ps, rfl, fresh_back (A.trans A1).h hp, fresh_back A1.i hp, upd_same, ok⟩ fun _ q j s' eq hj e w z => ?_⟩
      cases eq
      obtain ⟨o, h1, h2⟩ := (s.adv A1).ok j s' e
      obtain ⟨q', u, e1, e2, e3, e4⟩ := h2.isOwn w
      subst e1
      rw [h1] at z
      cases z
      rw [hp] at e4
      cases e4
/-- d.update(d2) -/
def putAllK (kvs more : Kvs) : Kvs := more.foldl (fun acc p => putK' acc p.1 p.2) kvs
theorem kv_all {G : Hp} {ws2 : Kws} {more : Kvs} (r2 : KvOk K G ws2 more) : ∀ {ws : Kws} {kvs : Kvs}, KvOk K G ws kvs → KvOk K G (putAll ws ws2) (putAllK kvs more) := by
  induction r2 with
  | nil => exact fun r => r
  | @cons p y ps ys h t ih =>
    intro ws kvs r
    obtain ⟨e1, e2, e3⟩ := h
    have := kv_put r e2 e3
    show KvOk K G (putAll (putW ws p.1 p.2.1 p.2.2) ps) (putAllK (putK' kvs y.1 y.2) ys)
    rw [e1]
    exact ih this
theorem xs_upd {i j : Nat} {kvs more : Kvs} (hi : ρ[i]? = some (.t kvs)) (hj : ρ[j]? = some (.t more)) (hij : i ≠ j) (hh : (more.map fun p => hashI p.1).Nodup) (hl : kvs.length + more.length ≤ 100000) (k : P.nx (ρ.set i (.t (putAllK kvs more)))) :
    XS K (tDrop (tBMY (tyRaw K) (rUpdR K) (tVar i) (tCons (tVar j) tNil))) ρ P := fun G0 H0 σ H E ⟨G, A, s⟩ f => by
  obtain ⟨o, h1, p, ws, h2, h3, h4, h5, h6⟩ := s.ok i _ hi
  subst h2
  obtain ⟨o', h1', p', ws', h2', h3', h4', h5', h6'⟩ := s.ok j _ hj
  subst h2'
  have ne : p ≠ p' := fun z => by
    subst z
    exact hij (s.sep i j _ _ p hi hj rfl rfl h1 h1')
  refine ⟨_, h1, ⟨p, ws, rfl, dg_of (.inl h5) h6 A.i⟩, _, h1', p, p', ws, ws', rfl, rfl, h5, dg_of (.inl h5) h6 A.i, dg_of (.inl h5') h6' A.i, ne, ?_, ?_, f.nx _ _ _ k ⟨G, ?_, s.change hi rfl h1 ⟨p, _, rfl, h3, h4, upd_same, kv_all h6' h6⟩⟩⟩
  · have e := congrArg (List.map hashI) (kv_keys h6')
    rw [List.map_map, List.map_map] at e
    rw [show (ws'.map fun p => hashI p.1) = more.map fun p => hashI p.1 from e]
    exact hh
  · rw [Paired.length h6, Paired.length h6']
    exact sz_of hl
  · exact ⟨A.g, Ex.mut A.h h3, Ex.mut A.i h4, A.o⟩
/-- sorted(d) -/
theorem da_keys {G : Hp} {ws : Kws} {kvs : Kvs} (r : KvOk K G ws kvs) : ∀ w ∈ ws, KeyT G w.2.1 (w.1.map V.int) := by
  induction r with
  | nil => exact fun w hw => nomatch hw
  | cons h t ih =>
    intro w hw
    rcases List.mem_cons.mp hw with rfl | hw
    · rw [h.1]
      exact h.2.1
    · exact ih w hw
theorem keys_da {G G' : Hp} (e : Ex G G') : ∀ l : Kws, (∀ w ∈ l, KeyT G w.2.1 (w.1.map V.int)) → DaAll K G' (l.map fun w => V.ref w.2.1) ((l.map (·.1)).map D.key)
  | [], _ => .nil
  | w :: l, h => .cons (.key ((h w List.mem_cons_self).up e)) (keys_da e l fun u hu => h u (List.mem_cons_of_mem _ hu))
theorem xe_sort {i : Nat} {kvs : Kvs} (hi : ρ[i]? = some (.t kvs)) (hne : ∀ p ∈ kvs, p.1 ≠ []) : XE K (tCB (rSortR K) (tCons (tVar i) tNil)) ρ (fun x => ∃ ks : List (List Int), x = .lst (ks.map D.key) ∧ ks.Perm (kvs.map (·.1))) := fun H0 G H σ e s Q q => by
  obtain ⟨o, h1, p, ws, h2, h3, h4, h5, h6⟩ := s.ok i _ hi
  subst h2
  have ek := kv_keys h6
  refine ⟨_, h1, p, ws, rfl, dg_of (.inl h5) h6 e, fun w hw z => ?_, fun ys l hp hl => ?_⟩
  · have : w.1 ∈ kvs.map (·.1) := by rw [← ek]; exact List.mem_map.mpr ⟨w, hw, rfl⟩
    obtain ⟨q, hq, e2⟩ := List.mem_map.mp this
    exact hne q hq (e2.trans z)
  · obtain ⟨l', hp', em⟩ := perm_lift (fun w : List Int × Addr × V => V.ref w.2.1) hp ws rfl
    have A := Adv.new (o := .lst ys) e hl
    refine q _ (.lst ((l'.map (·.1)).map D.key)) _ _ A ⟨l'.map (·.1), rfl, ?_⟩ (.lst upd_same ?_)
    · rw [← ek]
      exact hp'.map _
    · have all : ∀ w ∈ l', KeyT G w.2.1 (w.1.map V.int) := fun w hw => da_keys h6 w (hp'.mem_iff.mp hw)
      have kd := keys_da (K := K) A.g l' all
      rw [em] at kd
      exact kd
/-- over the pairs of a dict that a call hands back -/
theorem ix_itemsC {S : List D → (Kvs → Prop) → Prop} {E' : XK} {ta : TA} {ds : List D} {kvs : Kvs} (h : XA K ta ρ ds) (hs : S ds (Eq kvs)) : IX K (iRItems (tCall (spT K S) [] E' ta)) ρ (pairsD kvs) := fun H0 G H σ e s R q =>
  h H0 G H σ e s _ fun vs G1 H1 A1 d => ⟨G1, ds, _, A1.i, by rw [List.append_nil]; exact d, hs, fun p ob ws kvs' G2 H2 A2 rk h3 h4 => by
    subst rk
    refine ⟨p, ob, ws, rfl, A2.i _ _ h3, q _ G2 H2 (A1.trans A2) ?_⟩
    have el : (pairsD kvs).length = ws.length := by
      unfold pairsD
      rw [List.length_map]
      exact (Paired.length h4).symm
    rw [el]
    refine ⟨fun j H2 hj e2 => ⟨e2 _ _ h3, hj⟩, fun H2 e2 => ⟨e2 _ _ h3, Nat.le_refl _⟩, fun j H2 x H3 hj e2 y => ?_⟩
    obtain ⟨T, w, hw, rfl, hT, rfl⟩ := y
    intro G2 a1 a2
    obtain ⟨kv, hkv, e1, e3, e4⟩ := paired_get h4 hw
    have A := Adv.new (o := .tup [.ref w.2.1, w.2.2]) a2 hT
    refine ⟨_, .tup [.key kv.1, kv.2], ?_, A, .tup upd_same (.cons (.key (e3.up (a1.trans A.g))) (.cons (e4.mono (a1.trans A.g)) .nil))⟩
    unfold pairsD
    rw [List.getElem?_map, hkv]
    rfl⟩
/-- f(..).get(k) -/
theorem xe_getC {S : List D → (Kvs → Prop) → Prop} {E' : XK} {ta : TA} {ds : List D} {Rk : Kvs → Prop} {k : List Int} (h : XA K ta ρ ds) (hs : S ds Rk) (hk : XD K ty ρ (.key k)) :
    XE K (tBMY (tyRaw K) (rGetR1 K) (tCall (spT K S) [] E' ta) (tCons ty tNil)) ρ (fun x => ∃ kvs, Rk kvs ∧ x = (atK kvs k).getD .non) := fun H0 G H σ e s Q q =>
  h H0 G H σ e s _ fun vs G1 H1 A1 d => ⟨G1, ds, Rk, A1.i, by rw [List.append_nil]; exact d, hs, fun p ob ws kvs G2 H2 A2 rk h3 ok => by
    have r2 : Rd H2 p (rawO p ws) := .inr ⟨ob, A2.i _ _ h3⟩
    refine ⟨⟨p, ws, rfl, dg_of r2 ok A2.i⟩, xa_cons hk xa_nil H0 G2 H2 σ A2.i (s.adv (A1.trans A2)) _ fun us G3 H3 A3 d3 => ?_⟩
    cases d3 with
    | cons x y =>
      cases y
      obtain ⟨b, rfl, hb⟩ := key_val x A3.i
      have ok2 := ok.mono A3.g
      refine ⟨p, b, ws, k, rfl, rfl, dg_of (rd_up r2 A3.h) ok2 A3.i, hb, ?_⟩
      rcases kv_at ok2 k with ⟨v, d', e1, e2, e3⟩ | ⟨e1, e2⟩
      · rw [e1]
        exact q v _ G3 H3 ((A1.trans A2).trans A3) ⟨kvs, rk, by rw [e2] <;> rfl⟩ e3
      · rw [e1]
        exact q .non _ G3 H3 ((A1.trans A2).trans A3) ⟨kvs, rk, by rw [e2] <;> rfl⟩ .non⟩
end
end Dx
end

section
set_option Elab.async false
set_option linter.all false
set_option maxRecDepth 100000
set_option maxHeartbeats 4000000
namespace Dx
open PySem PySem.Spec PyProof.Rows L2 Evl RZ
theorem hu3_of {A : Around} {k : Nat} (hr : Room k A) : A.units + 3 < cLine := by have := hr.un; omega
theorem hu65_of {A : Around} {k : Nat} (hr : Room k A) : A.units + 65 < cLine := by have := hr.un; omega
/-! ### a dict of lists that grow: d.setdefault(k, []).append(x) -/
abbrev Grp := List (List Int × List D)
def ensG (gs : Grp) (k : List Int) : Grp := if (gs.any fun q => decide (q.1 = k)) then gs else gs ++ [(k, [])]
def appG (gs : Grp) (k : List Int) (d : D) : Grp := gs.map fun q => if q.1 = k then (q.1, q.2 ++ [d]) else q
def addG (gs : Grp) (k : List Int) (d : D) : Grp := appG (ensG gs k) k d
def grpK (gs : Grp) : Kvs := gs.map fun q => (q.1, .lst q.2)
theorem appG_keys (gs : Grp) (k : List Int) (d : D) : (appG gs k d).map (·.1) = gs.map (·.1) := by
  unfold appG
  rw [List.map_map]
  refine List.map_congr_left fun q _ => ?_
  show (if q.1 = k then (q.1, q.2 ++ [d]) else q).1 = q.1
  split <;> rfl
structure GF (K : PySem.W.Frag) (H0 G H : Hp) (p : Addr) (ws : Kws) (gs : Grp) : Prop where
  d : H p = some (rawO p ws)
  d0 : H0 p = none
  dg : G p = none
  prs : Paired (fun (w : List Int × Addr × V) (q : List Int × List D) => w.1 = q.1 ∧ KeyT G w.2.1 (q.1.map V.int) ∧ ∃ l vs, w.2.2 = .ref l ∧ H l = some (.lst vs) ∧ H0 l = none ∧ G l = none ∧ DaAll K G vs q.2) ws gs
  vn : (ws.map (·.2.2)).Nodup
  kn : (gs.map (·.1)).Nodup
section
variable {K : PySem.W.Frag} {H0 G H G' H' : Hp} {p : Addr} {ws : Kws} {gs : Grp}
/-- the base: what it was, and the dict with its lists -/
def bas (H0 H : Hp) (p : Addr) (ws : Kws) : Hp := fun a => if a = p ∨ V.ref a ∈ ws.map (·.2.2) then H a else H0 a
theorem GF.in_ (g : GF K H0 G H p ws gs) {a : Addr} (h : V.ref a ∈ ws.map (·.2.2)) : H0 a = none ∧ G a = none ∧ ∃ vs, H a = some (.lst vs) := by
  obtain ⟨w, hw, e⟩ := List.mem_map.mp h
  have pr := g.prs
  clear g
  induction pr with
  | nil => cases hw
  | cons hh t ih =>
    rcases List.mem_cons.mp hw with rfl | hw2
    · obtain ⟨_, _, l, vs, e1, e2, e3, e4, _⟩ := hh
      rw [e] at e1
      cases e1
      exact ⟨e3, e4, vs, e2⟩
    · exact ih (List.mem_map.mpr ⟨w, hw2, e⟩) hw2
theorem GF.base_ex (g : GF K H0 G H p ws gs) (e : Ex H0 H) : Ex (bas H0 H p ws) H := fun a u h => by
  unfold bas at h
  split at h
  · exact h
  · exact e a u h
theorem GF.base_up (g : GF K H0 G H p ws gs) : Ex H0 (bas H0 H p ws) := fun a u h => by
  unfold bas
  split
  · rename_i c
    rcases c with rfl | c
    · rw [g.d0] at h
      cases h
    · rw [(g.in_ c).1] at h
      cases h
  · exact h
theorem GF.base_at (g : GF K H0 G H p ws gs) {a : Addr} (h : a = p ∨ V.ref a ∈ ws.map (·.2.2)) : bas H0 H p ws a = H a ∧ ∃ u, H a = some u := by
  refine ⟨if_pos h, ?_⟩
  rcases h with rfl | h
  · exact ⟨_, g.d⟩
  · obtain ⟨_, _, vs, e⟩ := g.in_ h
    exact ⟨_, e⟩
/-- the frame is kept by what keeps the base -/
theorem GF.keep (g : GF K H0 G H p ws gs) (eg : Ex G G') (eh : Ex (bas H0 H p ws) H') (eo : ∀ a u, bas H0 H p ws a = some u → G a = none → G' a = none) : GF K H0 G' H' p ws gs := by
  have kp : ∀ a u, (a = p ∨ V.ref a ∈ ws.map (·.2.2)) → H a = some u → H' a = some u := fun a u c h => eh a u (by rw [(g.base_at c).1]; exact h)
  have ko : ∀ a u, (a = p ∨ V.ref a ∈ ws.map (·.2.2)) → H a = some u → G a = none → G' a = none := fun a u c h h2 => eo a u (by rw [(g.base_at c).1]; exact h) h2
  refine ⟨kp p _ (.inl rfl) g.d, g.d0, ko p _ (.inl rfl) g.d g.dg, ?_, g.vn, g.kn⟩
  have all : ∀ w ∈ ws, V.ref p = V.ref p ∧ w.2.2 ∈ ws.map (·.2.2) := fun w hw => ⟨rfl, List.mem_map.mpr ⟨w, hw, rfl⟩⟩
  have pr := g.prs
  generalize hL : ws.map (·.2.2) = L at kp ko all
  clear g hL eh eo
  induction pr with
  | nil => exact .nil
  | @cons w q ws gs h t ih =>
    obtain ⟨h1, h2, l, vs, h3, h4, h5, h6, h7⟩ := h
    have hm := (all w List.mem_cons_self).2
    rw [h3] at hm
    refine .cons ⟨h1, h2.up eg, l, vs, h3, kp l _ (.inr hm) h4, h5, ko l _ (.inr hm) h4 h6, h7.mono eg⟩ (ih fun u hu => all u (List.mem_cons_of_mem _ hu))
theorem SR.rebase {HB HB' : Hp} {σ : L2.St} {ρ : List Sl} (s : SR K HB G H σ ρ) (h : ∀ q u, HB q = none → H q = some u → HB' q = none) : SR K HB' G H σ ρ := by
  refine ⟨s.len, fun i t e => ?_, s.sep⟩
  obtain ⟨o, h1, h2⟩ := s.ok i t e
  refine ⟨o, h1, ?_⟩
  cases t with
  | l xs =>
    obtain ⟨q, vs, eq, q0, q1, q2, q3⟩ := h2
    exact ⟨q, vs, eq, h q _ q0 q2, q1, q2, q3⟩
  | t kvs =>
    obtain ⟨q, vs, eq, q0, q1, q2, q3⟩ := h2
    exact ⟨q, vs, eq, h q _ q0 q2, q1, q2, q3⟩
  | u => exact h2
  | d x => exact h2
  | c kvs => exact h2
  | v x => exact h2
theorem SR.reheap {HB : Hp} {σ : L2.St} {ρ : List Sl} (s : SR K HB G H σ ρ) (h : ∀ q u, HB q = none → H q = some u → H' q = some u) : SR K HB G H' σ ρ := by
  refine ⟨s.len, fun i t e => ?_, s.sep⟩
  obtain ⟨o, h1, h2⟩ := s.ok i t e
  refine ⟨o, h1, ?_⟩
  cases t with
  | l xs =>
    obtain ⟨q, vs, eq, q0, q1, q2, q3⟩ := h2
    exact ⟨q, vs, eq, q0, q1, h q _ q0 q2, q3⟩
  | t kvs =>
    obtain ⟨q, vs, eq, q0, q1, q2, q3⟩ := h2
    exact ⟨q, vs, eq, q0, q1, h q _ q0 q2, q3⟩
  | u => exact h2
  | d x => exact h2
  | c kvs => exact h2
  | v x => exact h2
theorem GF.dgd (g : GF K H0 G H p ws gs) (e : Ex G H) : DG K H p ws := by
  refine ⟨.inl g.d, ?_⟩
  have pr := g.prs
  clear g
  induction pr with
  | nil => exact fun w hw => nomatch hw
  | cons h t ih =>
    intro w hw
    rcases List.mem_cons.mp hw with rfl | hw
    · rw [h.1]
      exact (h.2.1.up e).sq
    · exact ih w hw
theorem GF.any (g : GF K H0 G H p ws gs) (k : List Int) : (gs.any fun q => decide (q.1 = k)) = (atW ws k).isSome := by
  have pr := g.prs
  clear g
  induction pr with
  | nil => rfl
  | @cons w q ws gs h t ih =>
    unfold atW at ih ⊢
    rw [List.any_cons, List.find?_cons, ← h.1, ih]
    by_cases c : w.1 = k
    · rw [decide_eq_true c]
      rfl
    · rw [decide_eq_false c]
      rfl
/-- the list at k -/
theorem GF.look (g : GF K H0 G H p ws gs) {k : List Int} {v : V} (h : atW ws k = some v) : ∃ l vs, v = .ref l ∧ H l = some (.lst vs) ∧ V.ref l ∈ ws.map (·.2.2) ∧ ∃ ds, (k, ds) ∈ gs ∧ vs.length = ds.length := by
  have pr := g.prs
  clear g
  induction pr with
  | nil => cases h
  | @cons w q ws gs hh t ih =>
    unfold atW at ih h
    rw [List.find?_cons] at h
    by_cases c : w.1 = k
    · rw [decide_eq_true c] at h
      cases h
      obtain ⟨e1, _, l, vs, e2, e3, _, _, e4⟩ := hh
      exact ⟨l, vs, e2, e3, List.mem_map.mpr ⟨w, List.mem_cons_self, e2⟩, q.2, by rw [show (k, q.2) = q from Prod.ext (c.symm.trans e1) rfl]; exact List.mem_cons_self, e4.length⟩
    · rw [decide_eq_false c] at h
      obtain ⟨l, vs, e2, e3, e4, ds, e5, e6⟩ := ih h
      exact ⟨l, vs, e2, e3, List.mem_cons_of_mem _ e4, ds, List.mem_cons_of_mem _ e5, e6⟩
/-- a new empty list at a new key -/
theorem GF.new (g : GF K H0 G H p ws gs) {k : List Int} {b l : Addr} (hn : atW ws k = none) (hb : KeyT G b (k.map V.int)) (hl : H l = some (.lst [])) (h0 : H0 l = none) (hg : G l = none) (hf : V.ref l ∉ ws.map (·.2.2)) :
    GF K H0 G (upd H p (rawO p (putW ws k b (.ref l)))) p (putW ws k b (.ref l)) (ensG gs k) := by
  have en : putW ws k b (.ref l) = ws ++ [(k, b, .ref l)] := by
    unfold putW
    rw [hn]
    rfl
  have ee : ensG gs k = gs ++ [(k, [])] := by
    unfold ensG
    rw [g.any k, hn]
    rfl
  have np : ∀ a vs, H a = some (.lst vs) → a ≠ p := fun a vs h z => by
    subst z
    rw [g.d] at h
    cases h
  rw [en, ee]
  refine ⟨upd_same, g.d0, g.dg, ?_, ?_, ?_⟩
  · refine Paired.snoc ?_ ⟨rfl, hb, l, [], rfl, by rw [upd_ne (np l _ hl)]; exact hl, h0, hg, .nil⟩
    exact Paired.mapP g.prs fun w q ⟨h1, h2, l', vs, h3, h4, h5⟩ => ⟨h1, h2, l', vs, h3, by rw [upd_ne (np l' _ h4)]; exact h4, h5⟩
  · rw [List.map_append]
    refine List.nodup_append.mpr ⟨g.vn, List.pairwise_singleton _ _, fun a ha c hc e => ?_⟩
    rw [List.mem_singleton.mp hc] at e
    rw [e] at ha
    exact hf ha
  · rw [List.map_append]
    refine List.nodup_append.mpr ⟨g.kn, List.pairwise_singleton _ _, fun a ha c hc e => ?_⟩
    rw [List.mem_singleton.mp hc] at e
    obtain ⟨q, hq, rfl⟩ := List.mem_map.mp ha
    have := g.any k
    rw [hn] at this
    have q2 := List.any_eq_false.mp this q hq
    exact q2 (decide_eq_true e)
theorem GF.old (g : GF K H0 G H p ws gs) {k : List Int} {v : V} (h : atW ws k = some v) : ensG gs k = gs := by
  unfold ensG
  rw [g.any k, h]
  rfl
/-- one more in the list at k -/
theorem GF.app (g : GF K H0 G H p ws gs) {k : List Int} {l : Addr} {vs : List V} {v : V} {d : D} (h : atW ws k = some (.ref l)) (hl : H l = some (.lst vs)) (dv : Da K G v d) : GF K H0 G (upd H l (.lst (vs ++ [v]))) p ws (appG gs k d) := by
  have np : p ≠ l := fun z => by
    subst z
    rw [g.d] at hl
    cases hl
  refine ⟨by rw [upd_ne np]; exact g.d, g.d0, g.dg, ?_, g.vn, by rw [appG_keys]; exact g.kn⟩
  have pr := g.prs
  have vn := g.vn
  have kn := g.kn
  clear g np
  unfold appG
  induction pr with
  | nil => exact .nil
  | @cons w q ws gs hh t ih =>
    rw [List.map_cons, List.nodup_cons] at vn kn
    obtain ⟨e1, e2, l', vs', e3, e4, e5, e6, e7⟩ := hh
    rw [List.map_cons]
    by_cases c : w.1 = k
    · have hq : q.1 = k := e1.symm.trans c
      have eh : w.2.2 = V.ref l := by
        unfold atW at h
        rw [List.find?_cons, decide_eq_true c] at h
        exact Option.some.inj h
      rw [e3] at eh
      cases eh
      rw [hl] at e4
      cases e4
      rw [if_pos hq]
      refine .cons ⟨e1, e2, l, vs ++ [v], e3, upd_same, e5, e6, e7.append (.one dv)⟩ ?_
      -- the others are not touched
      have nl : ∀ u ∈ ws, u.2.2 ≠ V.ref l := fun u hu z => vn.1 (by rw [e3, ← z]; exact List.mem_map.mpr ⟨u, hu, rfl⟩)
      have nk : ∀ u ∈ gs, u.1 ≠ k := fun u hu z => kn.1 (by rw [hq, ← z]; exact List.mem_map.mpr ⟨u, hu, rfl⟩)
      clear ih vn kn h
      induction t with
      | nil => exact .nil
      | @cons w2 q2 ws gs hh2 t2 ih2 =>
        obtain ⟨f1, f2, l2, vs2, f3, f4, f5⟩ := hh2
        rw [List.map_cons, if_neg (nk q2 List.mem_cons_self)]
        refine .cons ⟨f1, f2, l2, vs2, f3, ?_, f5⟩ (ih2 (fun u hu => nl u (List.mem_cons_of_mem _ hu)) fun u hu => nk u (List.mem_cons_of_mem _ hu))
        rw [upd_ne (fun z => nl w2 List.mem_cons_self (by rw [f3, z]))]
        exact f4
    · have hq : ¬ q.1 = k := fun z => c (e1.trans z)
      unfold atW at h
      rw [List.find?_cons, decide_eq_false c] at h
      rw [if_neg hq]
      refine .cons ⟨e1, e2, l', vs', e3, ?_, e5, e6, e7⟩ (ih h vn.2 kn.2)
      have nl : l' ≠ l := fun z => vn.1 (by
        rw [e3, z]
        cases hf : ws.find? fun u => decide (u.1 = k) with
        | none =>
          rw [hf] at h
          cases h
        | some u =>
          rw [hf] at h
          have h : some u.2.2 = some (V.ref l) := h
          exact List.mem_map.mpr ⟨u, List.mem_of_find?_eq_some hf, Option.some.inj h⟩)
      rw [upd_ne nl]
      exact e4
/-- at the end the lists are changed no more -/
def frzL (H G : Hp) (ws : Kws) : Hp := fun a => if V.ref a ∈ ws.map (·.2.2) then H a else G a
theorem GF.kv (g : GF K H0 G H p ws gs) : Ex G (frzL H G ws) ∧ KvOk K (frzL H G ws) ws (grpK gs) ∧ frzL H G ws p = none := by
  have ex : Ex G (frzL H G ws) := fun a u h => by
    unfold frzL
    split
    · rename_i c
      rw [(g.in_ c).2.1] at h
      cases h
    · exact h
  refine ⟨ex, ?_, ?_⟩
  · have all : ∀ w ∈ ws, w.2.2 ∈ ws.map (·.2.2) := fun w hw => List.mem_map.mpr ⟨w, hw, rfl⟩
    have pr := g.prs
    have at_ : ∀ l, V.ref l ∈ ws.map (·.2.2) → frzL H G ws l = H l := fun l h => if_pos h
    generalize frzL H G ws = G2 at ex at_ ⊢
    generalize hL : ws.map (·.2.2) = L at all at_
    clear hL g
    unfold grpK
    induction pr with
    | nil => exact .nil
    | @cons w q ws gs hh t ih =>
      obtain ⟨e1, e2, l, vs, e3, e4, _, _, e7⟩ := hh
      rw [List.map_cons]
      refine .cons ⟨e1, e2.up ex, ?_⟩ (ih fun u hu => all u (List.mem_cons_of_mem _ hu))
      show Da K G2 w.2.2 (.lst q.2)
      have hm := all w List.mem_cons_self
      rw [e3] at hm ⊢
      exact .lst (by rw [at_ l hm]; exact e4) (e7.mono ex)
  · unfold frzL
    rw [if_neg fun c => ?_]
    · exact g.dg
    · obtain ⟨_, _, vs, e⟩ := g.in_ c
      rw [g.d] at e
      cases e
end
end Dx
end

section
set_option Elab.async false
set_option linter.all false
set_option maxRecDepth 100000
set_option maxHeartbeats 4000000
namespace Dx
open PySem PySem.Spec PyProof.Rows L2 Evl RZ
def grpN (f : Nat → List Int) (x : Nat → D) : Nat → Grp
  | 0 => []
  | n + 1 => addG (grpN f x n) (f n) (x n)
theorem ensG_sz {gs : Grp} {k : List Int} {n : Nat} (h : gs.length ≤ n ∧ ∀ q ∈ gs, q.2.length ≤ n) : (ensG gs k).length ≤ n + 1 ∧ ∀ q ∈ ensG gs k, q.2.length ≤ n := by
  unfold ensG
  split
  · exact ⟨by omega, h.2⟩
  · refine ⟨by rw [List.length_append]; exact Nat.succ_le_succ h.1, fun q hq => ?_⟩
    rcases List.mem_append.mp hq with hq | hq
    · exact h.2 q hq
    · rw [List.mem_singleton.mp hq]
      exact Nat.zero_le _
theorem grpN_sz (f : Nat → List Int) (x : Nat → D) : ∀ n, (grpN f x n).length ≤ n ∧ ∀ q ∈ grpN f x n, q.2.length ≤ n
  | 0 => ⟨Nat.le_refl _, fun q hq => nomatch hq⟩
  | n + 1 => by
    obtain ⟨h1, h2⟩ := ensG_sz (k := f n) (grpN_sz f x n)
    show (addG (grpN f x n) (f n) (x n)).length ≤ n + 1 ∧ ∀ q ∈ addG (grpN f x n) (f n) (x n), q.2.length ≤ n + 1
    unfold addG appG
    refine ⟨by rw [List.length_map]; exact h1, fun q hq => ?_⟩
    obtain ⟨q', hq', rfl⟩ := List.mem_map.mp hq
    have := h2 q' hq'
    split
    · show (q'.2 ++ [x n]).length ≤ _
      rw [List.length_append]
      exact Nat.succ_le_succ this
    · omega
section
variable {K : PySem.W.Frag} {ρ : List Sl} {P : Po}
theorem SR.rebase' {H0 HB HB' G H : Hp} {σ : L2.St} (s : SR K HB G H σ ρ) (h : ∀ (i : Nat) (t : Sl) (q : Addr), ρ[i]? = some t → t.own = true → σ[i]? = some (some (.ref q)) → HB q = none → HB' q = none) : SR K HB' G H σ ρ := by
  refine ⟨s.len, fun i t e => ?_, s.sep⟩
  obtain ⟨o, h1, h2⟩ := s.ok i t e
  refine ⟨o, h1, ?_⟩
  cases t with
  | l xs =>
    obtain ⟨q, vs, eq, q0, q1, q2, q3⟩ := h2
    subst eq
    exact ⟨q, vs, rfl, h i _ q e rfl h1 q0, q1, q2, q3⟩
  | t kvs =>
    obtain ⟨q, vs, eq, q0, q1, q2, q3⟩ := h2
    subst eq
    exact ⟨q, vs, rfl, h i _ q e rfl h1 q0, q1, q2, q3⟩
  | u => exact h2
  | d x => exact h2
  | c kvs => exact h2
  | v x => exact h2
theorem SR.own_none {HB G H : Hp} {σ : L2.St} (s : SR K HB G H σ ρ) {i : Nat} {t : Sl} {q : Addr} (e : ρ[i]? = some t) (w : t.own = true) (hq : σ[i]? = some (some (.ref q))) : HB q = none ∧ G q = none ∧ ∃ u, H q = some u := by
  obtain ⟨o, h1, h2⟩ := s.ok i t e
  obtain ⟨q', u, e1, e2, e3, e4⟩ := h2.isOwn w
  rw [h1, e1] at hq
  cases hq
  exact ⟨e2, e3, u, e4⟩
theorem look_set {i : Nat} {t : Sl} {ρ : List Sl} {j : Nat} {t' : Sl} (e : (ρ.set i t)[j]? = some t') : (j = i ∧ t' = t ∧ i < ρ.length) ∨ (j ≠ i ∧ ρ[j]? = some t') := by
  by_cases hj : j = i
  · subst hj
    by_cases hl : j < ρ.length
    · rw [List.getElem?_set_self hl] at e
      exact .inl ⟨rfl, (Option.some.inj e).symm, hl⟩
    · rw [List.getElem?_eq_none (by simpa using hl)] at e
      cases e
  · rw [List.getElem?_set_ne (fun z => hj z.symm)] at e
    exact .inr ⟨hj, e⟩
theorem SR.setV {HB G H : Hp} {σ : L2.St} (s : SR K HB G H σ ρ) {i : Nat} {v : V} (hv : σ[i]? = some (some v)) : SR K HB G H σ (ρ.set i (.v v)) := by
  refine ⟨by rw [List.length_set]; exact s.len, fun j t e => ?_, fun j k t t' p e e' w w' g g' => ?_⟩
  · rcases look_set e with ⟨rfl, rfl, _⟩ | ⟨_, e⟩
    · exact ⟨_, hv, rfl⟩
    · exact s.ok j t e
  · rcases look_set e with ⟨rfl, rfl, _⟩ | ⟨_, e⟩
    · cases w
    · rcases look_set e' with ⟨rfl, rfl, _⟩ | ⟨_, e'⟩
      · cases w'
      · exact s.sep j k t t' p e e' w w' g g'
theorem bas_at {H0 H : Hp} {p : Addr} {ws : Kws} {q : Addr} (h : bas H0 H p ws q = none) (g : ∀ a, (a = p ∨ V.ref a ∈ ws.map (·.2.2)) → ∃ u, H a = some u) : H0 q = none ∧ ¬ (q = p ∨ V.ref q ∈ ws.map (·.2.2)) := by
  unfold bas at h
  split at h
  · rename_i c
    obtain ⟨u, hu⟩ := g q c
    rw [hu] at h
    cases h
  · rename_i c
    exact ⟨h, c⟩
theorem bas_none {H0 H : Hp} {p : Addr} {ws : Kws} {q : Addr} (h : H0 q = none) (c : ¬ (q = p ∨ V.ref q ∈ ws.map (·.2.2))) : bas H0 H p ws q = none := by
  unfold bas
  rw [if_neg c]
  exact h
theorem GF.there {H0 G H : Hp} {p : Addr} {ws : Kws} {gs : Grp} (g : GF K H0 G H p ws gs) : ∀ a, (a = p ∨ V.ref a ∈ ws.map (·.2.2)) → ∃ u, H a = some u := fun a c => (g.base_at c).2
theorem xs_group {ia : Nat} {ys : List D} {js : List Nat} {wi : TI} {g : TG} {tk tx : TE} {tb : TS} (f : Nat → List Int) (x : Nat → D) (Iv : V → Nat → List Sl → Prop) (hia : ρ[ia]? = some (.t [])) (hw : IX K wi ρ ys) (hz : ys.length ≤ 50000)
    (h0 : ∀ v, Iv v 0 (ρ.set ia (.v v)))
    (hg : ∀ v i y r, ys[i]? = some y → Iv v i r → ∃ r', XG K g js y r r' ∧ r'[ia]? = some (.v v) ∧ XD K tk r' (.key (f i)) ∧ XD K tx r' (x i) ∧ XS K tb r' { P with nx := Iv v (i + 1), ct := fun _ => False, bk := fun _ => False })
    (hd : ∀ v r, Iv v ys.length r → r[ia]? = some (.v v) ∧ P.nx (r.set ia (.t (grpK (grpN f x ys.length))))) :
    XS K (tFor wi g (tSeq (tDrop (tBM K "list" rAppend (tBMY (tyRaw K) (rSetD K) (tVar ia) (tCons tk (tCons (tLst tNil) tNil))) (tCons tx tNil))) tb)) ρ P := fun G0 H0 σ H E ⟨G, A, s⟩ ff =>
  hw H0 G H σ A.i s _ fun J G1 H1 A1 W => by
    have A01 := A.trans A1
    have s1 := s.adv A1
    obtain ⟨o, e1, p, ws0, e2, e3, e4, e5, e6⟩ := s1.ok ia _ hia
    subst e2
    cases e6
    have gf0 : GF K H0 G1 H1 p [] [] := ⟨e5, e3, e4, .nil, List.nodup_nil, List.nodup_nil⟩
    have s2 : SR K (bas H0 H1 p []) G1 H1 σ (ρ.set ia (.v (.ref p))) := by
      refine SR.rebase' (H0 := H0) (s1.setV e1) fun j t q e w hq h => bas_none h fun c => ?_
      rcases c with rfl | c
      · rcases look_set e with ⟨rfl, rfl, _⟩ | ⟨hj, e⟩
        · cases w
        · exact hj (s1.sep j ia t _ _ e hia w rfl hq e1)
      · cases c
    refine for_it W (fun i σ' H' => ∃ r G2 ws, Iv (.ref p) i r ∧ Ex G1 G2 ∧ Adv G0 H0 G2 H' ∧ GF K H0 G2 H' p ws (grpN f x i) ∧ SR K (bas H0 H' p ws) G2 H' σ' r) ⟨_, G1, [], h0 (.ref p), Ex.refl _, A01, gf0, s2⟩ (fun i σ' H' _ p => ?_) (fun i xv σ' H' H'' hi' pv hy => ?_) (fun σ' H' pv => ?_)
    · obtain ⟨r, G2, ws, _, a, b, _⟩ := p
      exact a.trans b.i
    · obtain ⟨r, G2, ws, iv, a, b, gf, s3⟩ := pv
      obtain ⟨G3, y, h1, A3, dx⟩ := hy G2 a b.i
      obtain ⟨r', hx, hv, hk, hxx, hs⟩ := hg (.ref p) i y r h1 iv
      have gf3 : GF K H0 G3 H'' p ws (grpN f x i) := gf.keep A3.g ((gf.base_ex b.h).trans A3.h) fun a u h h2 => A3.o a u (gf.base_ex b.h a u h) h2
      have b3 := b.trans A3
      have s4 : SR K (bas H0 H'' p ws) G3 H'' σ' r := SR.rebase' (H0 := H0) (s3.adv A3) fun j t q e w hq h => by
        obtain ⟨h1, h2⟩ := bas_at h gf.there
        exact bas_none h1 h2
      refine hx _ G3 H'' σ' xv A3.i s4 dx _ fun σ2 s5 _ => ?_
      obtain ⟨ov, ov1, ov2⟩ := s5.ok ia _ hv
      subst ov2
      refine ⟨_, ov1, ⟨p, ws, rfl, gf3.dgd A3.i⟩, ?_⟩
      refine hk _ G3 H'' σ2 A3.i s5 _ fun kv kx G4 H4 A4 rk dk => ?_
      subst rk
      cases dk with
      | @key b0 _ hb =>
        have gf4 : GF K H0 G4 H4 p ws (grpN f x i) := gf3.keep A4.g ((gf3.base_ex b3.h).trans A4.h) fun a u h h2 => A4.o a u (gf3.base_ex b3.h a u h) h2
        have b4 := b3.trans A4
        have s6 : SR K (bas H0 H4 p ws) G4 H4 σ2 r' := SR.rebase' (H0 := H0) (s5.adv A4) fun j t q e w hq h => by
          obtain ⟨h1, h2⟩ := bas_at h gf3.there
          exact bas_none h1 h2
        have sz := grpN_sz f x i
        -- the rest, whichever list it is
        have tail : ∀ (H5 : Hp) (ws' : Kws) (l : Addr) (vs : List V), Adv G0 H0 G4 H5 → GF K H0 G4 H5 p ws' (ensG (grpN f x i) (f i)) → SR K (bas H0 H5 p ws') G4 H5 σ2 r' → atW ws' (f i) = some (.ref l) → H5 l = some (.lst vs) → vs.length ≤ i → V.ref l ∈ ws'.map (·.2.2) →
            tyV K "list" (.ref l) H5 ∧ tCons tx tNil σ2 H5 (fun xs H6 => rAppend (.ref l) xs H6 (fun _ H7 => tb { E with nx := fun σ' H' => ∃ r G2 ws, Iv (.ref p) (i + 1) r ∧ Ex G1 G2 ∧ Adv G0 H0 G2 H' ∧ GF K H0 G2 H' p ws (grpN f x (i + 1)) ∧ SR K (bas H0 H' p ws) G2 H' σ' r, ct := fun σ' H' => ∃ r G2 ws, Iv (.ref p) (i + 1) r ∧ Ex G1 G2 ∧ Adv G0 H0 G2 H' ∧ GF K H0 G2 H' p ws (grpN f x (i + 1)) ∧ SR K (bas H0 H' p ws) G2 H' σ' r, bk := E.nx } σ2 H7)) := by
          intro H5 ws' l vs b5 gf5 s7 hat hl hlen hin
          refine ⟨.inl ⟨rfl, vs, sq_of hl⟩, hxx _ G4 H5 σ2 b5.i s7 _ fun v d G6 H6 A6 rd dv => ?_⟩
          subst rd
          have b6 := b5.trans A6
          have gf6 : GF K H0 G6 H6 p ws' (ensG (grpN f x i) (f i)) := gf5.keep A6.g ((gf5.base_ex b5.h).trans A6.h) fun a u h h2 => A6.o a u (gf5.base_ex b5.h a u h) h2
          have hl6 := A6.h _ _ hl
          obtain ⟨l0n, lgn, _⟩ := gf6.in_ hin
          refine ⟨l, vs, v, rfl, rfl, hl6, sz_lt (by have := (List.getElem?_eq_some_iff.mp h1).1; omega), ?_⟩
          have gf7 : GF K H0 G6 (upd H6 l (.lst (vs ++ [v]))) p ws' (grpN f x (i + 1)) := gf6.app hat hl6 dv
          have e7 : Ex H0 (upd H6 l (.lst (vs ++ [v]))) := Ex.mut b6.h l0n
          have i7 : Ex G6 (upd H6 l (.lst (vs ++ [v]))) := Ex.mut b6.i lgn
          have s8 : SR K (bas H0 (upd H6 l (.lst (vs ++ [v]))) p ws') G6 (upd H6 l (.lst (vs ++ [v]))) σ2 r' := by
            have t1 := (s7.adv A6)
            have t2 : SR K (bas H0 H5 p ws') G6 (upd H6 l (.lst (vs ++ [v]))) σ2 r' := t1.reheap fun q u h h2 => by
              obtain ⟨_, c⟩ := bas_at h gf5.there
              rw [upd_ne (fun z => c (.inr (by rw [z]; exact hin)))]
              exact h2
            exact SR.rebase' (H0 := H0) t2 fun j t q e w hq h => by
              obtain ⟨h1, h2⟩ := bas_at h gf5.there
              exact bas_none h1 h2
          have conv : ∀ {G8 H8 : Hp}, Adv G6 (bas H0 (upd H6 l (.lst (vs ++ [v]))) p ws') G8 H8 → Adv G0 H0 G8 H8 ∧ GF K H0 G8 H8 p ws' (grpN f x (i + 1)) := fun {G8 H8} A8 =>
            ⟨⟨b6.g.trans A8.g, gf7.base_up.trans A8.h, A8.i, fun a u h h2 => A8.o a u (gf7.base_up a u h) (b6.o a u h h2)⟩, gf7.keep A8.g A8.h fun a u h h2 => A8.o a u h h2⟩
          refine hs G6 _ σ2 _ _ ⟨G6, ⟨Ex.refl _, gf7.base_ex e7, i7, fun _ _ _ h => h⟩, s8⟩ ⟨fun ρ' σ' H8 q ⟨G8, A8, s9⟩ => ?_, fun y v G8 H8 q A8 dx => ff.rt y v G8 H8 q (conv A8).1 dx, fun _ _ _ z _ => z.elim, fun _ _ _ z _ => z.elim, fun kvs p' ob ws2 G8 H8 q A8 => ff.rd kvs p' ob ws2 G8 H8 q (conv A8).1⟩
          obtain ⟨c1, c2⟩ := conv A8
          refine ⟨ρ', G8, ws', q, (((a.trans A3.g).trans A4.g).trans A6.g).trans A8.g, c1, c2, ?_⟩
          exact SR.rebase' (H0 := H0) s9 fun j t q e w hq h => by
            obtain ⟨h1, h2⟩ := bas_at h gf7.there
            exact bas_none h1 h2
        refine ⟨Nat.zero_le _, fun l0 hl0 => ?_⟩
        have n5 : Ex H4 (upd H4 l0 (.lst [])) := Ex.new hl0
        have gf5 : GF K H0 G4 (upd H4 l0 (.lst [])) p ws (grpN f x i) := gf4.keep (Ex.refl _) ((gf4.base_ex b4.h).trans n5) fun a u _ h2 => h2
        have b5 : Adv G0 H0 G4 (upd H4 l0 (.lst [])) := b4.trans (Adv.own b4.i hl0)
        have s7 : SR K (bas H0 (upd H4 l0 (.lst [])) p ws) G4 (upd H4 l0 (.lst [])) σ2 r' := by
          have t2 := s6.reheap (H' := upd H4 l0 (.lst [])) fun q u h h2 => n5 _ _ h2
          exact SR.rebase' (H0 := H0) t2 fun j t q e w hq h => by
            obtain ⟨h1, h2⟩ := bas_at h gf4.there
            exact bas_none h1 h2
        have hwl : ws.length < sizeLine := by
          rw [Paired.length gf4.prs]
          have := (List.getElem?_eq_some_iff.mp h1).1
          exact sz_lt (by omega)
        refine ⟨p, b0, .ref l0, ws, f i, rfl, rfl, gf5.d, gf5.dgd b5.i, (hb.up b5.i).sq, hwl, fun v hv => ?_, fun hn => ?_⟩
        · obtain ⟨l, vs, rfl, hl, hin, ds, hds, hlen⟩ := gf5.look hv
          refine tail _ ws l vs b5 (by rw [gf5.old hv]; exact gf5) s7 hv hl ?_ hin
          have := sz.2 _ hds
          rw [hlen]
          exact this
        · have l0n : H0 l0 = none := fresh_back b4.h hl0
          have l0g : G4 l0 = none := fresh_back b4.i hl0
          have l0f : V.ref l0 ∉ ws.map (·.2.2) := fun c => by
            obtain ⟨_, _, vs, e⟩ := gf4.in_ c
            rw [hl0] at e
            cases e
          have gf6 := gf5.new hn hb upd_same l0n l0g l0f
          have pn : l0 ≠ p := fun z => by
            subst z
            rw [gf4.d] at hl0
            cases hl0
          have en : putW ws (f i) b0 (.ref l0) = ws ++ [(f i, b0, .ref l0)] := by
            unfold putW
            rw [hn]
            rfl
          have hin : V.ref l0 ∈ (putW ws (f i) b0 (.ref l0)).map (·.2.2) := by
            rw [en, List.map_append]
            exact List.mem_append_right _ List.mem_cons_self
          refine tail _ (putW ws (f i) b0 (.ref l0)) l0 [] ⟨b5.g, Ex.mut b5.h gf4.d0, Ex.mut b5.i gf4.dg, b5.o⟩ gf6 ?_ ?_ (by rw [upd_ne pn]; exact upd_same) (Nat.zero_le _) hin
          · have t2 := s7.reheap (H' := upd (upd H4 l0 (.lst [])) p (rawO p (putW ws (f i) b0 (.ref l0)))) fun q u h h2 => by
              obtain ⟨_, c⟩ := bas_at h gf5.there
              rw [upd_ne (fun z => c (.inl z))]
              exact h2
            refine SR.rebase' (H0 := H0) t2 fun j t q e w hq h => ?_
            obtain ⟨h1, h2⟩ := bas_at h gf5.there
            refine bas_none h1 fun c => ?_
            rcases c with c | c
            · exact h2 (.inl c)
            · rw [en, List.map_append] at c
              rcases List.mem_append.mp c with c | c
              · exact h2 (.inr c)
              · have : V.ref q = V.ref l0 := List.mem_singleton.mp c
                cases this
                obtain ⟨_, _, u, hu⟩ := s6.own_none e w hq
                rw [hl0] at hu
                cases hu
          · rw [en]
            unfold atW at hn ⊢
            rw [List.find?_append, Option.map_eq_none_iff.mp hn, Option.none_or, List.find?_cons, decide_eq_true rfl]
            rfl
    · obtain ⟨r, G2, ws, iv, a, b, gf, s3⟩ := pv
      obtain ⟨hv, hn⟩ := hd _ r iv
      obtain ⟨k1, k2, k3⟩ := gf.kv
      obtain ⟨ov, ov1, ov2⟩ := s3.ok ia _ hv
      subst ov2
      refine ff.nx _ _ _ hn ⟨frzL H' G2 ws, ⟨b.g.trans k1, b.h, fun a u h => ?_, fun a u h h2 => ?_⟩, ?_⟩
      · unfold frzL at h
        split at h
        · exact h
        · exact b.i a u h
      · unfold frzL
        rw [if_neg fun c => ?_]
        · exact b.o a u h h2
        · rw [(gf.in_ c).1] at h
          cases h
      · have out : ∀ (j : Nat) (t : Sl) (q : Addr), r[j]? = some t → t.own = true → σ'[j]? = some (some (.ref q)) → H0 q = none ∧ frzL H' G2 ws q = none ∧ q ≠ p := fun j t q e w hq => by
          obtain ⟨q0, q1, _⟩ := s3.own_none e w hq
          obtain ⟨h1, h2⟩ := bas_at q0 gf.there
          refine ⟨h1, ?_, fun z => h2 (.inl z)⟩
          unfold frzL
          rw [if_neg fun c => h2 (.inr c)]
          exact q1
        refine ⟨by rw [List.length_set]; exact s3.len, fun j t e => ?_, fun j k t t' q e e' w w' g1 g2 => ?_⟩
        · rcases look_set e with ⟨rfl, rfl, _⟩ | ⟨hj, e⟩
          · exact ⟨_, ov1, p, ws, rfl, gf.d0, k3, gf.d, k2⟩
          · obtain ⟨o, c1, c2⟩ := s3.ok j t e
            refine ⟨o, c1, ?_⟩
            cases t with
            | u => trivial
            | d z =>
              obtain ⟨v, d1, d2⟩ := c2
              exact ⟨v, d1, d2.mono k1⟩
            | l xs =>
              obtain ⟨q, vs, eq, _, _, q2, q3⟩ := c2
              subst eq
              obtain ⟨o1, o2, _⟩ := out j _ q e rfl c1
              exact ⟨q, vs, rfl, o1, o2, q2, q3.mono k1⟩
            | t kvs =>
              obtain ⟨q, vs, eq, _, _, q2, q3⟩ := c2
              subst eq
              obtain ⟨o1, o2, _⟩ := out j _ q e rfl c1
              exact ⟨q, vs, rfl, o1, o2, q2, q3.mono k1⟩
            | c kvs =>
              obtain ⟨q, ob, ws2, eq, q1, q3⟩ := c2
              exact ⟨q, ob, ws2, eq, k1 _ _ q1, q3.mono k1⟩
            | v z => exact c2
        · rcases look_set e with ⟨rfl, rfl, _⟩ | ⟨hj, f1⟩
          · rcases look_set e' with ⟨rfl, rfl, _⟩ | ⟨hk, f2⟩
            · rfl
            · rw [ov1] at g1
              cases g1
              exact absurd rfl (out k _ _ f2 w' g2).2.2
          · rcases look_set e' with ⟨rfl, rfl, _⟩ | ⟨hk, f2⟩
            · rw [ov1] at g2
              cases g2
              exact absurd rfl (out j _ _ f1 w g1).2.2
            · exact s3.sep j k t t' q f1 f2 w w' g1 g2
end
end Dx
end

section
set_option Elab.async false
set_option linter.all false
set_option maxRecDepth 100000
set_option maxHeartbeats 4000000
namespace Dx
open PySem PySem.Spec PyProof.Rows L2 Evl RZ
/-! comprehensions over what is known only in part -/
def IXE (K : PySem.W.Frag) (wi : TI) (ρ : List Sl) (Pr : List D → Prop) : Prop := ∀ (H0 G H : Hp) (σ : L2.St), Ex G H → SR K H0 G H σ ρ → ∀ R : It → Hp → Prop, (∀ ys J G' H', Pr ys → Adv G H G' H' → Walk J ys.length (fun H2 => Ex G' H2) (YD K G' ys) → R J H') → wi σ H R
section
variable {K : PySem.W.Frag} {ρ : List Sl} {ta tb tc te tl : TE}
theorem ixe_list {R : D → Prop} {Pr : List D → Prop} (h : XE K tl ρ R) (hr : ∀ x, R x → ∃ ys, x = .lst ys ∧ Pr ys) : IXE K (iList K tl) ρ Pr := fun H0 G H σ e s Q q => h H0 G H σ e s _ fun v x G1 H1 A1 rx dx => by
  obtain ⟨ys, rfl, hp⟩ := hr x rx
  cases dx with
  | @lst a vs _ g1 d1 =>
    refine ⟨a, rfl, ⟨vs, sq_of (A1.i _ _ g1)⟩, q ys _ G1 H1 hp A1 ?_⟩
    have w := walk_list (K := K) (a := a) (xs := vs)
    rw [d1.length] at w
    exact w.mono (fun H2 e2 => sq_of (e2 _ _ g1)) fun i H x H' _ _ y => yd_at d1 y
theorem map_succ {v : Nat → D} (n : Nat) : (List.range (n + 1)).map v = (List.range n).map v ++ [v n] := by
  rw [List.range_succ, List.map_append]
  rfl
theorem xe_lcE {wi : TI} {j : Nat} {vs : List Nat} (Pr : List D → Prop) (v : List D → Nat → D) (hw : IXE K wi ρ Pr) (hj : j ∈ vs) (hz : ∀ ys, Pr ys → ys.length ≤ 40000)
    (he : ∀ ys, Pr ys → ∀ i y, ys[i]? = some y → XD K te ((wipeS ρ vs).set j (.d y)) (v ys i)) : XE K (tLc wi (gName j) tYes te vs) ρ (fun x => ∃ ys, Pr ys ∧ x = .lst ((List.range ys.length).map (v ys))) := fun H0 G H σ e s Q q =>
  hw H0 G H σ e s _ fun ys J G1 H1 hp A1 W Dl hD => by
    have s1 := s.adv A1
    have hG1 : G1 Dl = none := fresh_back A1.i hD
    refine lc_it W (fun i H2 => ∃ G2 ws, Ex G1 G2 ∧ Ex G2 H2 ∧ G2 Dl = none ∧ (∀ a u, H1 a = some u → H2 a = some u) ∧ (∀ a u, H1 a = some u → G1 a = none → G2 a = none) ∧ H2 Dl = some (.lst ws) ∧ DaAll K G2 ws ((List.range i).map (v ys)))
      ⟨G1, [], Ex.refl G1, A1.i.trans (Ex.new hD), hG1, Ex.new hD, fun _ _ _ h => h, upd_same, .nil⟩ (fun i H2 _ p => ?_) (fun i x H2 H3 hi p hy => ?_) (fun H2 p => ?_)
    · obtain ⟨G2, ws, a, b, _⟩ := p
      exact a.trans b
    · obtain ⟨G2, ws, a, b, c, d, o, l, dl⟩ := p
      obtain ⟨G3, y, h1, A3, dx⟩ := hy G2 a b
      have A2 : Adv G1 H1 G2 H2 := ⟨a, d, b, o⟩
      have A13 : Adv G1 H1 G3 H3 := A2.trans A3
      refine xg_name (K := K) (ρ := wipeS ρ vs) (i := j) (y := y) H0 G3 H3 (L2.wipe σ vs) x A3.i ((s1.adv A13).wipe vs) dx _ fun σ' s' hσ => ⟨?_, ?_⟩
      · rw [hσ vs fun k hk => by rw [List.mem_singleton.mp hk]; exact hj]
        apply List.ext_getElem?
        intro k
        rw [wipe_at, wipe_at, L2.wipe_length]
        split <;> rfl
      · have lD : H3 Dl = some (.lst ws) := A3.h _ _ l
        refine xt_yes (K := K) H0 G3 H3 σ' A3.i s' _ fun G4 H4 A4 => ?_
        have lD := A4.h _ _ lD
        have A3 := A3.trans A4
        have A13 := A13.trans A4
        refine iteT (he ys hp i y h1 H0 G4 H4 σ' A4.i (s'.adv A4) _ fun z x' G5 H5 A5 rx dz => ?_)
        subst rx
        have cD : G5 Dl = none := A5.o _ _ lD (A3.o _ _ l c)
        refine ⟨ws, A5.h _ _ lD, sz_lt ?_, G5, ws ++ [z], (a.trans A3.g).trans A5.g, Ex.mut A5.i cD, cD, fun k w hk => ?_, fun k w z1 z2 => (A13.trans A5).o k w z1 z2, upd_same, ?_⟩
        · rw [dl.length, List.length_map, List.length_range]
          have := hz ys hp
          omega
        · rw [upd_ne (ne_of_none hk hD)]
          exact A5.h _ _ (A3.h _ _ (d _ _ hk))
        · rw [map_succ]
          exact (dl.mono (A3.g.trans A5.g)).append (.one dz)
    · obtain ⟨G2, ws, a, b, c, d, o, l, dl⟩ := p
      have nw : Ex G2 (upd G2 Dl (.lst ws)) := Ex.new c
      refine q (.ref Dl) _ (upd G2 Dl (.lst ws)) H2 (A1.trans ⟨a.trans nw, d, fun k w z => ?_, fun k w z z' => ?_⟩) ⟨ys, hp, rfl⟩ (.lst upd_same (dl.mono nw))
      · by_cases hk : k = Dl
        · subst hk
          rw [upd_same] at z
          rw [← z]
          exact l
        · rw [upd_ne hk] at z
          exact b _ _ z
      · rw [upd_ne (ne_of_none z hD)]
        exact o _ _ z z'
end
end Dx
end

section
set_option Elab.async false
set_option linter.all false
/-! rows: a head, a lap that comes again and again; least forms -/
namespace Ma
/-- the endless row of a lap -/
def per (l : List Int) (n : Nat) : Int := l.getD (n % l.length) 0
/-- the row of a head and a lap, places from 0 on -/
def rowAt (h l : List Int) (n : Nat) : Int := if n < h.length then h.getD n 0 else per l (n - h.length)
/-- no shorter period -/
def Prim (l : List Int) : Prop := ∀ k, 1 ≤ k → k < l.length → ¬ ∀ n, per l (n + k) = per l n
structure NF (h l : List Int) : Prop where
  ne : l ≠ []
  pr : Prim l
  hd : h = [] ∨ h.getLast? ≠ l.getLast?

theorem per_add (l : List Int) (n : Nat) : per l (n + l.length) = per l n := by
  unfold per
  rw [Nat.add_mod_right]
theorem per_mul (f : Nat → Int) (p : Nat) (h : ∀ n, f (n + p) = f n) : ∀ k n, f (n + k * p) = f n
  | 0, n => by rw [Nat.zero_mul, Nat.add_zero]
  | k + 1, n => by
    rw [Nat.succ_mul, ← Nat.add_assoc, h, per_mul f p h k n]
/-- two periods: their gcd is one -/
theorem per_gcd (f : Nat → Int) : ∀ (m : Nat) (p q : Nat), p + q ≤ m → 0 < p → 0 < q → (∀ n, f (n + p) = f n) → (∀ n, f (n + q) = f n) → ∀ n, f (n + Nat.gcd p q) = f n
  | 0, p, q, hm, hp, _, _, _, _ => by omega
  | m + 1, p, q, hm, hp, hq, h1, h2, n => by
    rcases Nat.lt_trichotomy p q with c | c | c
    · have h3 : ∀ n, f (n + (q - p)) = f n := fun n => by
        have e1 := h1 (n + (q - p))
        have e2 : n + (q - p) + p = n + q := by omega
        rw [e2, h2] at e1
        exact e1.symm
      have ih := per_gcd f m p (q - p) (by omega) hp (by omega) h1 h3 n
      have e : Nat.gcd p (q - p) = Nat.gcd p q := by
        have e0 : q = (q - p) + p := by omega
        conv => rhs; rw [e0]
        rw [Nat.gcd_add_self_right]
      rw [e] at ih
      exact ih
    · subst c
      rw [Nat.gcd_self]
      exact h1 n
    · have h3 : ∀ n, f (n + (p - q)) = f n := fun n => by
        have e1 := h2 (n + (p - q))
        have e2 : n + (p - q) + q = n + p := by omega
        rw [e2, h1] at e1
        exact e1.symm
      have ih := per_gcd f m (p - q) q (by omega) (by omega) hq h3 h2 n
      have e : Nat.gcd (p - q) q = Nat.gcd p q := by
        have e0 : p = (p - q) + q := by omega
        conv => rhs; rw [e0]
        rw [Nat.gcd_add_self_left]
      rw [e] at ih
      exact ih
theorem getD_lt {l : List Int} {i : Nat} (h : i < l.length) : l.getD i 0 = l[i] := by
  rw [List.getD_eq_getElem?_getD, List.getElem?_eq_getElem h] <;> rfl
theorem per_lt {l : List Int} {n : Nat} (h : n < l.length) : per l n = l.getD n 0 := by
  unfold per
  rw [Nat.mod_eq_of_lt h]
theorem list_ext {a b : List Int} (hl : a.length = b.length) (h : ∀ i, i < a.length → a.getD i 0 = b.getD i 0) : a = b := by
  apply List.ext_getElem hl
  intro i h1 h2
  have q := h i h1
  rw [getD_lt h1, getD_lt h2] at q
  exact q
/-- a primitive lap: any period of its row is a multiple of its length -/
theorem Prim.dvd {l : List Int} (h : Prim l) (hl : 0 < l.length) {p : Nat} (hp : 0 < p) (h1 : ∀ n, per l (n + p) = per l n) : l.length ∣ p := by
  have g := per_gcd (per l) (l.length + p) l.length p (Nat.le_refl _) hl hp (per_add l) h1
  have g0 : 0 < Nat.gcd l.length p := Nat.gcd_pos_of_pos_left _ hl
  have g1 : Nat.gcd l.length p ≤ l.length := Nat.gcd_le_left _ hl
  have e : Nat.gcd l.length p = l.length := by
    rcases Nat.lt_or_ge (Nat.gcd l.length p) l.length with c | c
    · exact absurd g (h _ g0 c)
    · omega
  rw [← e]
  exact Nat.gcd_dvd_right _ _
theorem rowAt_ge {h l : List Int} {n : Nat} (hn : h.length ≤ n) : rowAt h l n = per l (n - h.length) := by
  unfold rowAt
  rw [if_neg (by omega)]
theorem rowAt_lt {h l : List Int} {n : Nat} (hn : n < h.length) : rowAt h l n = h.getD n 0 := by
  unfold rowAt
  rw [if_pos hn]
theorem rowAt_add {h l : List Int} {n : Nat} (hn : h.length ≤ n) : rowAt h l (n + l.length) = rowAt h l n := by
  rw [rowAt_ge (by omega), rowAt_ge hn, show n + l.length - h.length = (n - h.length) + l.length by omega, per_add]
theorem getLast_getD {l : List Int} (h : l ≠ []) : l.getLast? = some (l.getD (l.length - 1) 0) := by
  have hl : l.length - 1 < l.length := by
    have := List.length_pos_iff.mpr h
    omega
  rw [List.getLast?_eq_getElem?, List.getElem?_eq_getElem hl, getD_lt hl]
theorem NF.len_le {h l h' l' : List Int} (a : NF h l) (b : NF h' l') (e : ∀ n, rowAt h l n = rowAt h' l' n) : l.length ∣ l'.length := by
  have hl : 0 < l.length := List.length_pos_iff.mpr a.ne
  have hl' : 0 < l'.length := List.length_pos_iff.mpr b.ne
  refine a.pr.dvd hl hl' fun n => ?_
  -- far behind both heads
  have far : ∀ m, per l (m + h'.length * l.length + l'.length) = per l (m + h'.length * l.length) := fun m => by
    have c : h'.length ≤ h.length + (m + h'.length * l.length) := by
      have := Nat.le_mul_of_pos_right h'.length hl
      omega
    have e1 := e (h.length + (m + h'.length * l.length) + l'.length)
    have e2 := e (h.length + (m + h'.length * l.length))
    rw [rowAt_add c, ← e2, rowAt_ge (by omega), rowAt_ge (by omega)] at e1
    rw [show h.length + (m + h'.length * l.length) + l'.length - h.length = m + h'.length * l.length + l'.length by omega, show h.length + (m + h'.length * l.length) - h.length = m + h'.length * l.length by omega] at e1
    exact e1
  have q := far n
  rw [show n + h'.length * l.length + l'.length = n + l'.length + h'.length * l.length by omega, per_mul _ _ (per_add l), per_mul _ _ (per_add l)] at q
  exact q
theorem NF.head_le {h l h' l' : List Int} (a : NF h l) (b : NF h' l') (e : ∀ n, rowAt h l n = rowAt h' l' n) (el : l.length = l'.length) : h'.length ≤ h.length := by
  rcases Nat.lt_or_ge h.length h'.length with c | c
  · exfalso
    have hl' : 0 < l'.length := List.length_pos_iff.mpr b.ne
    have hne : h' ≠ [] := fun z => by
      rw [z] at c
      exact absurd c (by simp)
    rcases b.hd with z | z
    · exact hne z
    · apply z
      rw [getLast_getD hne, getLast_getD b.ne]
      have e1 := e (h'.length - 1)
      have e2 := e (h'.length - 1 + l.length)
      rw [rowAt_add (by omega), e1, rowAt_lt (by omega), rowAt_ge (by omega), per_lt (by omega)] at e2
      rw [e2, el, show h'.length - 1 + l'.length - h'.length = l'.length - 1 by omega]
  · exact c
/-- the least form is one -/
theorem NF.unique {h l h' l' : List Int} (a : NF h l) (b : NF h' l') (e : ∀ n, rowAt h l n = rowAt h' l' n) : h = h' ∧ l = l' := by
  have hl' : 0 < l'.length := List.length_pos_iff.mpr b.ne
  have el : l.length = l'.length := Nat.dvd_antisymm (a.len_le b e) (b.len_le a fun n => (e n).symm)
  have eh : h.length = h'.length := Nat.le_antisymm (b.head_le a (fun n => (e n).symm) el.symm) (a.head_le b e el)
  refine ⟨list_ext eh fun i hi => ?_, list_ext el fun i hi => ?_⟩
  · have q := e i
    rw [rowAt_lt hi, rowAt_lt (by omega)] at q
    exact q
  · have q := e (h.length + i)
    rw [rowAt_ge (by omega), rowAt_ge (by omega), per_lt (by omega), per_lt (by omega)] at q
    rw [show h.length + i - h.length = i by omega, show h.length + i - h'.length = i by omega] at q
    exact q
/-! the root of a lap -/
def rep (l : List Int) (k : Nat) : List Int := (List.replicate (l.length / k) (l.take k)).flatten
theorem rep_len (l : List Int) (k : Nat) (hk : k ≤ l.length) : (rep l k).length = l.length / k * k := by
  unfold rep
  rw [List.length_flatten, List.map_replicate, List.sum_replicate_nat, List.length_take, Nat.min_eq_left hk]
theorem getD_app_l {a b : List Int} {i : Nat} (h : i < a.length) : (a ++ b).getD i 0 = a.getD i 0 := by
  rw [List.getD_eq_getElem?_getD, List.getD_eq_getElem?_getD, List.getElem?_append_left h]
theorem getD_app_r {a b : List Int} {i : Nat} (h : a.length ≤ i) : (a ++ b).getD i 0 = b.getD (i - a.length) 0 := by
  rw [List.getD_eq_getElem?_getD, List.getD_eq_getElem?_getD, List.getElem?_append_right h]
theorem flat_getD (x : List Int) : ∀ (m i : Nat), i < m * x.length → (List.replicate m x).flatten.getD i 0 = x.getD (i % x.length) 0
  | 0, i, h => by omega
  | m + 1, i, h => by
    rw [List.replicate_succ, List.flatten_cons]
    have hx : 0 < x.length := by
      rcases Nat.eq_zero_or_pos x.length with z | z
      · rw [z] at h
        omega
      · exact z
    by_cases c : i < x.length
    · rw [getD_app_l c, Nat.mod_eq_of_lt c]
    · rw [getD_app_r (by omega), flat_getD x m (i - x.length) (by rw [Nat.succ_mul] at h; omega), ← Nat.mod_eq_sub_mod (by omega)]
theorem rep_getD {l : List Int} {k i : Nat} (hk : 0 < k) (hk2 : k ≤ l.length) (hi : i < l.length / k * k) : (rep l k).getD i 0 = l.getD (i % k) 0 := by
  have e : (l.take k).length = k := by rw [List.length_take, Nat.min_eq_left hk2]
  unfold rep
  rw [flat_getD _ _ _ (by rw [e]; exact hi), e]
  have hm : i % k < k := Nat.mod_lt _ hk
  rw [List.getD_eq_getElem?_getD, List.getD_eq_getElem?_getD, List.getElem?_take_of_lt hm]
/-- a lap is its first k again and again just where k divides its length and is a period -/
theorem rep_of {l : List Int} {k : Nat} (hk : 0 < k) (hk2 : k ≤ l.length) (hd : k ∣ l.length) (h : ∀ n, per l (n + k) = per l n) : rep l k = l := by
  have el : l.length / k * k = l.length := Nat.div_mul_cancel hd
  apply list_ext
  · rw [rep_len l k hk2, el]
  · intro i hi
    rw [rep_len l k hk2] at hi
    rw [rep_getD hk hk2 hi]
    have e : i = i % k + i / k * k := by
      have := Nat.mod_add_div i k
      rw [Nat.mul_comm] at this
      exact this.symm
    have hm : i % k < k := Nat.mod_lt _ hk
    have q := per_mul (per l) k h (i / k) (i % k)
    rw [← e, per_lt (by omega), per_lt (by omega)] at q
    exact q.symm
theorem rep_dvd {l : List Int} {k : Nat} (hk2 : k ≤ l.length) (h : rep l k = l) : k ∣ l.length := by
  have e := rep_len l k hk2
  rw [h] at e
  exact ⟨l.length / k, by rw [Nat.mul_comm]; exact e⟩
theorem rep_per {l : List Int} {k : Nat} (hk : 0 < k) (hk2 : k ≤ l.length) (h : rep l k = l) (n : Nat) : per (l.take k) n = per l n := by
  have e : (l.take k).length = k := by rw [List.length_take, Nat.min_eq_left hk2]
  have hd := rep_dvd hk2 h
  have el : l.length / k * k = l.length := Nat.div_mul_cancel hd
  have hm : n % l.length < l.length := Nat.mod_lt _ (by omega)
  have q := rep_getD hk hk2 (i := n % l.length) (by omega)
  rw [h] at q
  unfold per
  rw [q, e, Nat.mod_mod_of_dvd _ hd]
  have hm : n % k < k := Nat.mod_lt _ hk
  rw [List.getD_eq_getElem?_getD, List.getD_eq_getElem?_getD, List.getElem?_take_of_lt hm]
theorem rep_self {l : List Int} (h : 0 < l.length) : rep l l.length = l := rep_of h (Nat.le_refl _) (Nat.dvd_refl _) (per_add l)
/-- the first k that does it gives a primitive lap -/
theorem root_prim {l : List Int} {k : Nat} (hk : 0 < k) (hk2 : k ≤ l.length) (h : rep l k = l) (hm : ∀ j, 1 ≤ j → j < k → rep l j ≠ l) : Prim (l.take k) := by
  have e : (l.take k).length = k := by rw [List.length_take, Nat.min_eq_left hk2]
  intro j h1 h2 hp
  rw [e] at h2
  have hp' : ∀ n, per l (n + j) = per l n := fun n => by
    rw [← rep_per hk hk2 h, ← rep_per hk hk2 h]
    exact hp n
  have g := per_gcd (per l) (l.length + j) l.length j (Nat.le_refl _) (by omega) (by omega) (per_add l) hp'
  have g0 : 0 < Nat.gcd l.length j := Nat.gcd_pos_of_pos_right _ (by omega)
  have g1 : Nat.gcd l.length j ≤ j := Nat.gcd_le_right _ (by omega)
  exact hm _ g0 (by omega) (rep_of g0 (by omega) (Nat.gcd_dvd_left _ _) g)
/-- one turned step back -/
def back (l : List Int) : List Int := l.getD (l.length - 1) 0 :: l.dropLast
theorem back_len {l : List Int} (h : l ≠ []) : (back l).length = l.length := by
  have := List.length_pos_iff.mpr h
  unfold back
  rw [List.length_cons, List.length_dropLast]
  omega
theorem back_per {l : List Int} (h : l ≠ []) (n : Nat) : per (back l) (n + 1) = per l n := by
  have hl := List.length_pos_iff.mpr h
  unfold per
  rw [back_len h]
  have hm : n % l.length < l.length := Nat.mod_lt _ hl
  by_cases c : n % l.length + 1 = l.length
  · have e : (n + 1) % l.length = 0 := by
      rw [Nat.add_mod, show n % l.length = l.length - 1 by omega]
      rcases Nat.eq_or_lt_of_le (show 1 ≤ l.length from hl) with z | z
      · rw [← z] <;> rfl
      · rw [Nat.mod_eq_of_lt z, Nat.sub_add_cancel hl, Nat.mod_self]
    rw [e, show n % l.length = l.length - 1 by omega]
    rfl
  · have e : (n + 1) % l.length = n % l.length + 1 := by
      rw [Nat.add_mod]
      rcases Nat.eq_or_lt_of_le (show 1 ≤ l.length from hl) with z | z
      · omega
      · rw [Nat.mod_eq_of_lt z, Nat.mod_eq_of_lt (by omega)]
    rw [e]
    unfold back
    rw [List.getD_cons_succ, List.getD_eq_getElem?_getD, List.getD_eq_getElem?_getD, List.dropLast_eq_take, List.getElem?_take_of_lt (by omega)]
theorem back_prim {l : List Int} (hne : l ≠ []) (h : Prim l) : Prim (back l) := by
  intro k h1 h2 hp
  rw [back_len hne] at h2
  refine h k h1 h2 fun n => ?_
  rw [← back_per hne, ← back_per hne, show n + k + 1 = (n + 1) + k by omega]
  exact hp (n + 1)
/-- the head's last choice is the lap's last one: it goes into the lap -/
theorem back_row {h l : List Int} (hne : l ≠ []) (hh : h ≠ []) (e : h.getD (h.length - 1) 0 = l.getD (l.length - 1) 0) (n : Nat) : rowAt h.dropLast (back l) n = rowAt h l n := by
  have h0 := List.length_pos_iff.mpr hh
  have hl := List.length_pos_iff.mpr hne
  have ed : h.dropLast.length = h.length - 1 := List.length_dropLast
  rcases Nat.lt_trichotomy n (h.length - 1) with c | c | c
  · rw [rowAt_lt (by omega), rowAt_lt (by omega), List.getD_eq_getElem?_getD, List.getD_eq_getElem?_getD, List.dropLast_eq_take, List.getElem?_take_of_lt c]
  · rw [rowAt_ge (by omega), rowAt_lt (by omega), ed, c, Nat.sub_self, e]
    unfold per
    rw [Nat.zero_mod]
    rfl
  · rw [rowAt_ge (by omega), rowAt_ge (by omega), ed, show n - (h.length - 1) = (n - h.length) + 1 by omega, back_per hne]
end Ma
end

section
set_option Elab.async false
set_option linter.all false
/-! stands, their steps, the row that comes of them -/
namespace Ma
/-- the stands of k choices -/
def lvl (m : Nat) : Nat → List (List Int)
  | 0 => [[]]
  | k + 1 => (lvl m k).flatMap fun p => (List.range m).map fun (i : Nat) => p ++ [(i : Int)]
/-- of at most k -/
def allS (m : Nat) : Nat → List (List Int)
  | 0 => lvl m 0
  | k + 1 => allS m k ++ lvl m (k + 1)
def inM (m : Nat) (p : List Int) : Prop := ∀ a ∈ p, 0 ≤ a ∧ a < (m : Int)
theorem lvl_mem {m : Nat} : ∀ {k : Nat} {p : List Int}, p ∈ lvl m k ↔ p.length = k ∧ inM m p
  | 0, p => by
    show p ∈ [[]] ↔ _
    rw [List.mem_singleton]
    constructor
    · rintro rfl
      exact ⟨rfl, fun a h => nomatch h⟩
    · rintro ⟨h, _⟩
      exact List.eq_nil_of_length_eq_zero h
  | k + 1, p => by
    show p ∈ (lvl m k).flatMap _ ↔ _
    rw [List.mem_flatMap]
    constructor
    · rintro ⟨q, hq, hp⟩
      obtain ⟨i, hi, rfl⟩ := List.mem_map.mp hp
      obtain ⟨h1, h2⟩ := lvl_mem.mp hq
      refine ⟨by rw [List.length_append, h1]; rfl, fun a ha => ?_⟩
      rcases List.mem_append.mp ha with ha | ha
      · exact h2 a ha
      · rw [List.mem_singleton.mp ha]
        have := List.mem_range.mp hi
        omega
    · rintro ⟨h1, h2⟩
      have hne : p ≠ [] := fun z => by rw [z] at h1; cases h1
      refine ⟨p.dropLast, lvl_mem.mpr ⟨by rw [List.length_dropLast, h1]; rfl, fun a ha => h2 a ((List.dropLast_sublist p).mem ha)⟩, List.mem_map.mpr ⟨(p.getLast hne).toNat, ?_, ?_⟩⟩
      · have := h2 _ (List.getLast_mem hne)
        rw [List.mem_range]
        omega
      · have := h2 _ (List.getLast_mem hne)
        rw [show (((p.getLast hne).toNat : Nat) : Int) = p.getLast hne by omega, List.dropLast_concat_getLast]
theorem allS_mem {m : Nat} : ∀ {k : Nat} {p : List Int}, p ∈ allS m k ↔ p.length ≤ k ∧ inM m p
  | 0, p => by
    show p ∈ lvl m 0 ↔ _
    rw [lvl_mem]
    constructor
    · rintro ⟨h1, h2⟩
      exact ⟨by omega, h2⟩
    · rintro ⟨h1, h2⟩
      exact ⟨by omega, h2⟩
  | k + 1, p => by
    show p ∈ allS m k ++ lvl m (k + 1) ↔ _
    rw [List.mem_append, allS_mem, lvl_mem]
    constructor
    · rintro (⟨h1, h2⟩ | ⟨h1, h2⟩)
      · exact ⟨by omega, h2⟩
      · exact ⟨by omega, h2⟩
    · rintro ⟨h1, h2⟩
      by_cases c : p.length ≤ k
      · exact .inl ⟨c, h2⟩
      · exact .inr ⟨by omega, h2⟩
theorem lvl_nodup {m : Nat} : ∀ k : Nat, (lvl m k).Nodup
  | 0 => List.pairwise_singleton _ _
  | k + 1 => by
    show List.Pairwise _ ((lvl m k).flatMap _)
    rw [List.pairwise_flatMap]
    refine ⟨fun p _ => ?_, (lvl_nodup k).imp fun {p q} h x hx y hy e => ?_⟩
    · rw [List.pairwise_map]
      exact List.nodup_range.imp fun {i j} h e => h (by
        have := List.append_cancel_left e
        injection this with this
        omega)
    · obtain ⟨i, _, rfl⟩ := List.mem_map.mp hx
      obtain ⟨j, _, rfl⟩ := List.mem_map.mp hy
      exact h (List.append_inj_left' e rfl)
theorem allS_nodup {m : Nat} : ∀ k : Nat, (allS m k).Nodup
  | 0 => lvl_nodup 0
  | k + 1 => by
    show List.Nodup (allS m k ++ lvl m (k + 1))
    refine List.nodup_append.mpr ⟨allS_nodup k, lvl_nodup _, fun a ha b hb e => ?_⟩
    have h1 := (allS_mem.mp ha).1
    have h2 := (lvl_mem.mp hb).1
    rw [e] at h1
    omega
theorem lvl_len {m : Nat} (hm : m ≤ 4) : ∀ k : Nat, (lvl m k).length ≤ 4 ^ k
  | 0 => Nat.le_refl 1
  | k + 1 => by
    have ih := lvl_len hm k
    have e : ∀ l : List (List Int), (l.flatMap fun p => (List.range m).map fun (i : Nat) => p ++ [(i : Int)]).length = l.length * m := by
      intro l
      induction l with
      | nil => exact (Nat.zero_mul m).symm
      | cons p l ih2 =>
        rw [List.flatMap_cons, List.length_append, ih2, List.length_map, List.length_range, List.length_cons, Nat.succ_mul, Nat.add_comm]
    show ((lvl m k).flatMap _).length ≤ _
    rw [e, Nat.pow_succ]
    exact Nat.mul_le_mul ih hm
theorem allS_len {m : Nat} (hm : m ≤ 4) : ∀ k : Nat, (allS m k).length ≤ 2 * 4 ^ k
  | 0 => by show 1 ≤ 2; decide
  | k + 1 => by
    have h1 := allS_len hm k
    have h2 := lvl_len hm (k + 1)
    show (allS m k ++ lvl m (k + 1)).length ≤ _
    rw [List.length_append, Nat.pow_succ]
    rw [Nat.pow_succ] at h2
    omega
theorem allS_2048 {m k : Nat} (hm : m ≤ 4) (hk : k ≤ 5) : (allS m k).length ≤ 2048 := by
  have h := allS_len hm k
  have : 4 ^ k ≤ 4 ^ 5 := Nat.pow_le_pow_right (by decide) hk
  omega
theorem nodup_le {α : Type} [DecidableEq α] : ∀ {l S : List α}, l.Nodup → (∀ x ∈ l, x ∈ S) → l.length ≤ S.length
  | [], _, _, _ => Nat.zero_le _
  | a :: l, S, h, hs => by
    rw [List.nodup_cons] at h
    have ha := hs a List.mem_cons_self
    have ih := nodup_le (S := S.erase a) h.2 fun x hx => (List.mem_erase_of_ne (fun z : x = a => h.1 (by rw [← z]; exact hx))).mpr (hs x (List.mem_cons_of_mem _ hx))
    rw [List.length_erase_of_mem ha] at ih
    have := List.length_pos_of_mem ha
    rw [List.length_cons]
    omega
/-! ### steps -/
/-- behind n steps -/
def orb {α : Type} (f : α → α) (s : α) : Nat → α
  | 0 => s
  | n + 1 => f (orb f s n)
theorem orb_add {α : Type} (f : α → α) (s : α) (j : Nat) : ∀ n, orb f s (j + n) = orb f (orb f s j) n
  | 0 => rfl
  | n + 1 => congrArg f (orb_add f s j n)
theorem orb_per {α : Type} (f : α → α) (s : α) {j n : Nat} (h : orb f s n = orb f s j) (hj : j < n) : ∀ i, j ≤ i → orb f s i = orb f s (j + (i - j) % (n - j)) := by
  intro i hi
  have key : ∀ k, orb f s (j + k + (n - j)) = orb f s (j + k) := fun k => by
    rw [show j + k + (n - j) = n + k by omega, orb_add, h, ← orb_add]
  have e := Nat.mod_add_div (i - j) (n - j)
  have mul : ∀ q k, orb f s (j + k + (n - j) * q) = orb f s (j + k) := by
    intro q
    induction q with
    | zero => exact fun k => rfl
    | succ q ih =>
      intro k
      rw [Nat.mul_succ, show j + k + ((n - j) * q + (n - j)) = j + (k + (n - j) * q) + (n - j) by omega, key, show j + (k + (n - j) * q) = j + k + (n - j) * q by omega, ih]
  have := mul ((i - j) / (n - j)) ((i - j) % (n - j))
  rw [show j + (i - j) % (n - j) + (n - j) * ((i - j) / (n - j)) = i by omega] at this
  exact this
/-- the choices of the first n -/
def row {α : Type} (c : α → Int) (f : α → α) (s : α) (n : Nat) : List Int := (List.range n).map fun i => c (orb f s i)
theorem row_len {α : Type} (c : α → Int) (f : α → α) (s : α) (n : Nat) : (row c f s n).length = n := by unfold row; rw [List.length_map, List.length_range]
theorem row_get {α : Type} (c : α → Int) (f : α → α) (s : α) {n i : Nat} (h : i < n) : (row c f s n).getD i 0 = c (orb f s i) := by
  unfold row
  rw [List.getD_eq_getElem?_getD, List.getElem?_map, List.getElem?_range h]
  rfl
theorem row_succ {α : Type} (c : α → Int) (f : α → α) (s : α) (n : Nat) : row c f s (n + 1) = row c f s n ++ [c (orb f s n)] := by
  unfold row
  rw [List.range_succ, List.map_append]
  rfl
theorem getD_take {l : List Int} {j i : Nat} (h : i < j) : (l.take j).getD i 0 = l.getD i 0 := by
  rw [List.getD_eq_getElem?_getD, List.getD_eq_getElem?_getD, List.getElem?_take_of_lt h]
theorem getD_drop {l : List Int} {j i : Nat} : (l.drop j).getD i 0 = l.getD (j + i) 0 := by
  rw [List.getD_eq_getElem?_getD, List.getD_eq_getElem?_getD, List.getElem?_drop]
/-- head and lap as they are cut give the row of choices -/
theorem row_cut {α : Type} (c : α → Int) (f : α → α) (s : α) {j n : Nat} (h : orb f s n = orb f s j) (hj : j < n) (i : Nat) : rowAt ((row c f s n).take j) ((row c f s n).drop j) i = c (orb f s i) := by
  have l1 : ((row c f s n).take j).length = j := by rw [List.length_take, row_len]; omega
  have l2 : ((row c f s n).drop j).length = n - j := by rw [List.length_drop, row_len]
  by_cases hi : i < j
  · rw [rowAt_lt (by omega), getD_take hi, row_get c f s (by omega)]
  · have hm : (i - j) % (n - j) < n - j := Nat.mod_lt _ (by omega)
    rw [rowAt_ge (by omega), l1]
    unfold per
    rw [l2, getD_drop, row_get c f s (by omega), ← orb_per f s h hj i (by omega)]
end Ma
end

section
set_option Elab.async false
set_option linter.all false
/-! how long one waits -/
namespace Ma
section
variable {α : Type} (c : α → Int) (f : α → α) (one : Int)
def IsW (p : α) (n : Nat) : Prop := 1 ≤ n ∧ c (orb f p (n - 1)) = one ∧ ∀ i, i + 1 < n → c (orb f p i) ≠ one
def Never (p : α) : Prop := ∀ i, c (orb f p i) ≠ one
def WOk (p : α) : Option Int → Prop
  | some v => ∃ n : Nat, v = (n : Int) ∧ IsW c f one p n
  | none => Never c f one p
variable {c f one}
theorem orb_in (p : α) (n : Nat) : orb f p (n + 1) = orb f (f p) n := by
  rw [Nat.add_comm, orb_add]
  rfl
theorem IsW.first {p : α} (h : c p = one) : IsW c f one p 1 := ⟨Nat.le_refl _, h, fun i hi => by omega⟩
theorem IsW.step {p : α} {n : Nat} (h : c p ≠ one) (w : IsW c f one (f p) n) : IsW c f one p (n + 1) := by
  obtain ⟨h1, h2, h3⟩ := w
  refine ⟨by omega, ?_, fun i hi => ?_⟩
  · rw [show n + 1 - 1 = (n - 1) + 1 by omega, orb_in]
    exact h2
  · cases i with
    | zero => exact h
    | succ i =>
      rw [orb_in]
      exact h3 i (by omega)
theorem IsW.back {p : α} {n : Nat} (w : IsW c f one p n) (h : c p ≠ one) : ∃ k, n = k + 1 ∧ IsW c f one (f p) k := by
  obtain ⟨h1, h2, h3⟩ := w
  cases n with
  | zero => omega
  | succ k =>
    refine ⟨k, rfl, ?_⟩
    cases k with
    | zero => exact absurd h2 h
    | succ k =>
      refine ⟨by omega, ?_, fun i hi => ?_⟩
      · have : orb f p (k + 1) = orb f (f p) k := orb_in p k
        rw [show k + 1 + 1 - 1 = k + 1 by omega, this] at h2
        exact h2
      · rw [← orb_in]
        exact h3 (i + 1) (by omega)
theorem IsW.uniq {p : α} {n k : Nat} (a : IsW c f one p n) (b : IsW c f one p k) : n = k := by
  obtain ⟨a1, a2, a3⟩ := a
  obtain ⟨b1, b2, b3⟩ := b
  rcases Nat.lt_trichotomy n k with h | h | h
  · exact absurd a2 (b3 (n - 1) (by omega))
  · exact h
  · exact absurd b2 (a3 (k - 1) (by omega))
theorem IsW.now {p : α} {n : Nat} (w : IsW c f one p n) (h : c p = one) : n = 1 := w.uniq (IsW.first h)
theorem w_ex {p : α} {i : Nat} (h : c (orb f p i) = one) : ∃ n, IsW c f one p n := by
  induction i generalizing p with
  | zero => exact ⟨1, IsW.first h⟩
  | succ i ih =>
    by_cases d : c p = one
    · exact ⟨1, IsW.first d⟩
    · rw [orb_in] at h
      obtain ⟨n, hn⟩ := ih h
      exact ⟨n + 1, IsW.step d hn⟩
theorem never_next {p : α} (h : Never c f one p) : c p ≠ one ∧ Never c f one (f p) := ⟨h 0, fun i => by rw [← orb_in]; exact h (i + 1)⟩
theorem WOk.uniq {p : α} {a b : Option Int} (ha : WOk c f one p a) (hb : WOk c f one p b) : a = b := by
  cases a with
  | none => cases b with
    | none => rfl
    | some v =>
      obtain ⟨n, rfl, hn⟩ := hb
      exact absurd hn.2.1 (ha _)
  | some v => cases b with
    | none =>
      obtain ⟨n, rfl, hn⟩ := ha
      exact absurd hn.2.1 (hb _)
    | some u =>
      obtain ⟨n, rfl, hn⟩ := ha
      obtain ⟨k, rfl, hk⟩ := hb
      rw [hn.uniq hk]
/-- all are found -/
theorem found_all {S L : List α} (hS : ∀ p ∈ S, f p ∈ S) (h1 : ∀ p ∈ S, c p = one → p ∈ L) (h2 : ∀ q ∈ L, ∀ p ∈ S, f p = q → p ∈ L) : ∀ (n : Nat) (p : α), p ∈ S → IsW c f one p n → p ∈ L
  | 0, p, _, w => by
    have := w.1
    omega
  | n + 1, p, hp, w => by
    by_cases d : c p = one
    · exact h1 p hp d
    · obtain ⟨k, hk, wk⟩ := w.back d
      have : n = k := by omega
      subst this
      exact h2 _ (found_all hS h1 h2 n (f p) (hS p hp) wk) p hp rfl
theorem never_of {S L : List α} (hS : ∀ p ∈ S, f p ∈ S) (h1 : ∀ p ∈ S, c p = one → p ∈ L) (h2 : ∀ q ∈ L, ∀ p ∈ S, f p = q → p ∈ L) {p : α} (hp : p ∈ S) (hn : p ∉ L) : Never c f one p := fun i h => by
  obtain ⟨n, w⟩ := w_ex h
  exact hn (found_all hS h1 h2 n p hp w)
end
end Ma
end

section
set_option Elab.async false
set_option linter.all false
/-! the least turned lap -/
namespace Ma
open PySem.W (listLt minOf)
theorem ll_nil (y : Int) (ys : List Int) : listLt [] (y :: ys) = true := rfl
theorem ll_cons (x y : Int) (xs ys : List Int) : listLt (x :: xs) (y :: ys) = if x = y then listLt xs ys else decide (x < y) := rfl
theorem ll_asym : ∀ a b : List Int, listLt a b = true → listLt b a = false
  | [], [], h => (Bool.false_ne_true h).elim
  | [], y :: ys, _ => rfl
  | x :: xs, [], h => by cases h
  | x :: xs, y :: ys, h => by
    rw [ll_cons] at h ⊢
    by_cases e : x = y
    · rw [if_pos e] at h
      rw [if_pos e.symm]
      exact ll_asym xs ys h
    · rw [if_neg e] at h
      rw [if_neg fun z => e z.symm]
      have := of_decide_eq_true h
      exact decide_eq_false (by omega)
theorem ll_tr : ∀ a b c : List Int, listLt b a = false → listLt c b = false → listLt c a = false
  | _, _, [], h1, h2 => by
    rename_i a b
    cases a with
    | nil => rfl
    | cons x xs => cases b with
      | nil => cases h1
      | cons y ys => cases h2
  | [], _, z :: zs, _, _ => rfl
  | x :: xs, [], z :: zs, h1, _ => by cases h1
  | x :: xs, y :: ys, z :: zs, h1, h2 => by
    rw [ll_cons] at h1 h2 ⊢
    by_cases e1 : y = x
    · rw [if_pos e1] at h1
      by_cases e2 : z = y
      · rw [if_pos e2] at h2
        rw [if_pos (e2.trans e1)]
        exact ll_tr xs ys zs h1 h2
      · rw [if_neg e2] at h2
        rw [if_neg (fun q => e2 (q.trans e1.symm)), ← e1]
        exact h2
    · rw [if_neg e1] at h1
      have a1 := of_decide_eq_false h1
      by_cases e2 : z = y
      · rw [if_neg (fun q => e1 (e2.symm.trans q)), e2]
        exact h1
      · rw [if_neg e2] at h2
        have a2 := of_decide_eq_false h2
        rw [if_neg (fun q => by omega)]
        exact decide_eq_false (by omega)
theorem ll_eq : ∀ a b : List Int, listLt a b = false → listLt b a = false → a = b
  | [], [], _, _ => rfl
  | [], y :: ys, h, _ => by cases h
  | x :: xs, [], _, h => by cases h
  | x :: xs, y :: ys, h1, h2 => by
    rw [ll_cons] at h1 h2
    by_cases e : x = y
    · rw [if_pos e] at h1
      rw [if_pos e.symm] at h2
      rw [e, ll_eq xs ys h1 h2]
    · rw [if_neg e] at h1
      rw [if_neg fun z => e z.symm] at h2
      have a1 := of_decide_eq_false h1
      have a2 := of_decide_eq_false h2
      omega
theorem min_spec : ∀ (xs : List (List Int)) (x : List Int), minOf x xs ∈ x :: xs ∧ ∀ y ∈ x :: xs, listLt y (minOf x xs) = false := by
  intro xs
  induction xs with
  | nil =>
    intro x
    refine ⟨List.mem_cons_self, fun y hy => ?_⟩
    rw [List.mem_singleton.mp hy]
    show listLt x x = false
    cases e : listLt x x with
    | false => rfl
    | true => exact e ▸ ll_asym x x e
  | cons z xs ih =>
    intro x
    show minOf (if listLt z x = true then z else x) xs ∈ _ ∧ ∀ y ∈ _, listLt y (minOf (if listLt z x = true then z else x) xs) = false
    by_cases c : listLt z x = true
    · rw [if_pos c]
      obtain ⟨h1, h2⟩ := ih z
      refine ⟨List.mem_cons_of_mem _ h1, fun y hy => ?_⟩
      rcases List.mem_cons.mp hy with rfl | hy
      · exact ll_tr _ _ _ (h2 z List.mem_cons_self) (ll_asym _ _ c)
      · exact h2 y hy
    · rw [if_neg c]
      obtain ⟨h1, h2⟩ := ih x
      have c' : listLt z x = false := by
        cases e : listLt z x with
        | false => rfl
        | true => exact absurd e c
      refine ⟨?_, fun y hy => ?_⟩
      · rcases List.mem_cons.mp h1 with h1 | h1
        · rw [h1]
          exact List.mem_cons_self
        · exact List.mem_cons_of_mem _ (List.mem_cons_of_mem _ h1)
      · rcases List.mem_cons.mp hy with rfl | hy
        · exact h2 y List.mem_cons_self
        · rcases List.mem_cons.mp hy with rfl | hy
          · exact ll_tr _ _ _ (h2 x List.mem_cons_self) c'
          · exact h2 y (List.mem_cons_of_mem _ hy)
def rots (l : List Int) : List (List Int) := (List.range l.length).map fun i => l.drop i ++ l.take i
def turnL (l : List Int) : List Int := match rots l with
  | [] => []
  | x :: xs => minOf x xs
theorem turn_spec {l : List Int} (h : l ≠ []) : turnL l ∈ rots l ∧ ∀ y ∈ rots l, listLt y (turnL l) = false := by
  unfold turnL
  cases e : rots l with
  | nil =>
    have := congrArg List.length e
    unfold rots at this
    rw [List.length_map, List.length_range] at this
    exact absurd (List.eq_nil_of_length_eq_zero this) h
  | cons x xs => exact min_spec xs x
theorem turn_uniq {l l' : List Int} (h : l ≠ []) (h' : l' ≠ []) (e : ∀ x, x ∈ rots l ↔ x ∈ rots l') : turnL l = turnL l' := by
  obtain ⟨a1, a2⟩ := turn_spec h
  obtain ⟨b1, b2⟩ := turn_spec h'
  exact ll_eq _ _ (b2 _ ((e _).mp a1)) (a2 _ ((e _).mpr b1))
theorem rot_len {l : List Int} {i : Nat} (h : i < l.length) : (l.drop i ++ l.take i).length = l.length := by
  rw [List.length_append, List.length_drop, List.length_take]
  omega
theorem rot_at {l : List Int} {i j : Nat} (h : i < l.length) (hj : j < l.length) : (l.drop i ++ l.take i).getD j 0 = per l (i + j) := by
  unfold per
  by_cases c : j < l.length - i
  · rw [getD_app_l (by rw [List.length_drop]; exact c), getD_drop, Nat.mod_eq_of_lt (by omega)]
  · rw [getD_app_r (by rw [List.length_drop]; omega), List.length_drop, getD_take (by omega)]
    congr 1
    rw [Nat.mod_eq_sub_mod (by omega), Nat.mod_eq_of_lt (by omega)]
    omega
theorem per_mod (l : List Int) (a b : Nat) : per l (a % l.length + b) = per l (a + b) := by
  unfold per
  rw [Nat.mod_add_mod]
theorem rots_sub {l l' : List Int} (hl : l ≠ []) (e : l.length = l'.length) {s t : Nat} (h : ∀ i, per l (s + i) = per l' (t + i)) : ∀ x, x ∈ rots l' → x ∈ rots l := by
  have hp := List.length_pos_iff.mpr hl
  intro x hx
  obtain ⟨k, hk, rfl⟩ := List.mem_map.mp hx
  have hk := List.mem_range.mp hk
  have ht : t ≤ t * l'.length := Nat.le_mul_of_pos_right t (by omega)
  refine List.mem_map.mpr ⟨(s + (k + t * l'.length - t)) % l.length, List.mem_range.mpr (Nat.mod_lt _ hp), ?_⟩
  apply list_ext
  · rw [rot_len (Nat.mod_lt _ hp), rot_len hk, e]
  · intro i hi
    rw [rot_len (Nat.mod_lt _ hp)] at hi
    rw [rot_at (Nat.mod_lt _ hp) hi, rot_at hk (by omega), per_mod, show s + (k + t * l'.length - t) + i = s + (k + t * l'.length - t + i) by omega, h, show t + (k + t * l'.length - t + i) = k + i + t * l'.length by omega, per_mul _ _ (per_add l')]
theorem per_of {l l' : List Int} (hl : l ≠ []) {s t : Nat} (h : ∀ i, per l (s + i) = per l' (t + i)) : ∀ n, per l (n + l'.length) = per l n := by
  have hp := List.length_pos_iff.mpr hl
  intro n
  have hs : s ≤ s * l.length := Nat.le_mul_of_pos_right s hp
  have e1 := h (n + s * l.length - s)
  have e2 := h (n + s * l.length - s + l'.length)
  rw [show t + (n + s * l.length - s + l'.length) = t + (n + s * l.length - s) + l'.length by omega, per_add, ← e1] at e2
  rw [show s + (n + s * l.length - s + l'.length) = n + l'.length + s * l.length by omega, show s + (n + s * l.length - s) = n + s * l.length by omega, per_mul _ _ (per_add l), per_mul _ _ (per_add l)] at e2
  exact e2
/-- laps whose rows agree from somewhere on turn to the same -/
theorem turn_eq {l l' : List Int} (hl : l ≠ []) (hl' : l' ≠ []) (p : Prim l) (p' : Prim l') {s t : Nat} (h : ∀ i, per l (s + i) = per l' (t + i)) : turnL l = turnL l' := by
  have h1 := List.length_pos_iff.mpr hl
  have h2 := List.length_pos_iff.mpr hl'
  have e : l.length = l'.length := Nat.dvd_antisymm (p.dvd h1 h2 (per_of hl h)) (p'.dvd h2 h1 (per_of hl' fun i => (h i).symm))
  exact turn_uniq hl hl' fun x => ⟨rots_sub hl' e.symm (fun i => (h i).symm) x, rots_sub hl e h x⟩
end Ma
end

section
set_option Elab.async false
set_option linter.all false
/-! numbers -/
namespace Ma
theorem cross {a b c d n v u : Int} (hn : 0 < n) (hb : 0 < b) (hd : 0 < d) (h1 : a * n = v * b) (h2 : c * n = u * d) : (a * d < c * b ↔ v < u) := by
  have hbd : 0 < b * d := Int.mul_pos hb hd
  have e1 : a * d * n = v * (b * d) := by
    rw [Int.mul_right_comm, h1, Int.mul_assoc]
  have e2 : c * b * n = u * (b * d) := by
    rw [Int.mul_right_comm, h2, Int.mul_assoc, Int.mul_comm d b]
  constructor
  · intro h
    have := Int.mul_lt_mul_of_pos_right h hn
    rw [e1, e2] at this
    exact Int.lt_of_mul_lt_mul_right this (Int.le_of_lt hbd)
  · intro h
    have := Int.mul_lt_mul_of_pos_right h hbd
    rw [← e1, ← e2] at this
    exact Int.lt_of_mul_lt_mul_right this (Int.le_of_lt hn)
theorem div_val {a b g n v : Int} (hg : 0 < g) (ha : g ∣ a) (hb : g ∣ b) (h : a * n = v * b) : (a / g) * n = v * (b / g) := by
  obtain ⟨x, rfl⟩ := ha
  obtain ⟨y, rfl⟩ := hb
  rw [Int.mul_ediv_cancel_left _ (Int.ne_of_gt hg), Int.mul_ediv_cancel_left _ (Int.ne_of_gt hg)]
  have : g * (x * n) = g * (v * y) := by
    rw [← Int.mul_assoc, h]
    rw [← Int.mul_assoc, ← Int.mul_assoc, Int.mul_comm v g]
  exact Int.eq_of_mul_eq_mul_left (Int.ne_of_gt hg) this
theorem div_pos {b g : Int} (hg : 0 < g) (hb0 : 0 < b) (hb : g ∣ b) : 0 < b / g ∧ b / g ≤ b := by
  obtain ⟨y, rfl⟩ := hb
  rw [Int.mul_ediv_cancel_left _ (Int.ne_of_gt hg)]
  have hy : 0 < y := by
    rcases Int.lt_trichotomy y 0 with c | c | c
    · have := Int.mul_neg_of_pos_of_neg hg c
      omega
    · rw [c, Int.mul_zero] at hb0
      omega
    · exact c
  refine ⟨hy, ?_⟩
  have := Int.mul_le_mul_of_nonneg_right (show 1 ≤ g from hg) (Int.le_of_lt hy)
  rw [Int.one_mul] at this
  exact this
end Ma
end

section
set_option Elab.async false
set_option linter.all false
set_option maxRecDepth 100000
set_option maxHeartbeats 4000000
namespace Dx
open PySem PySem.Spec PyProof.Rows L2 Evl RZ
/-! sentences -/
inductive Sent where
  | went (w b : Int) | often (w b n : Int) | more (w o b : Int) | nt (s : Sent) | an (ss : List Sent) | orr (ss : List Sent)
instance : Inhabited Sent := ⟨.went 0 0⟩
mutual
def sd : Sent → D
  | .went w b => .tup [.str "went", .int w, .int b]
  | .often w b n => .tup [.str "often", .int w, .int b, .int n]
  | .more w o b => .tup [.str "more", .int w, .int o, .int b]
  | .nt s => .tup [.str "not", sd s]
  | .an ss => .tup [.str "and", .tup (sds ss)]
  | .orr ss => .tup [.str "or", .tup (sds ss)]
def sds : List Sent → List D
  | [] => []
  | s :: ss => sd s :: sds ss
end
theorem sds_map : ∀ ss : List Sent, sds ss = ss.map sd
  | [] => rfl
  | s :: ss => by rw [List.map_cons, ← sds_map ss]; rfl
def Sent.parts : Sent → List Sent
  | .nt s => [s] | .an ss => ss | .orr ss => ss | _ => []
mutual
/-- all of a sentence, in the order of a stack; of a stack -/
def vis : Sent → List Sent
  | .went w b => [.went w b]
  | .often w b n => [.often w b n]
  | .more w o b => [.more w o b]
  | .nt s => .nt s :: vis s
  | .an ss => .an ss :: visR ss
  | .orr ss => .orr ss :: visR ss
def visR : List Sent → List Sent
  | [] => []
  | s :: ss => visR ss ++ vis s
end
theorem visR_nil : visR [] = [] := rfl
theorem visR_cons (s : Sent) (ss : List Sent) : visR (s :: ss) = visR ss ++ vis s := rfl
theorem visR_app : ∀ a b : List Sent, visR (a ++ b) = visR b ++ visR a
  | [], b => by rw [visR_nil, List.append_nil, List.nil_append]
  | s :: a, b => by rw [List.cons_append, visR_cons, visR_cons, visR_app a b, List.append_assoc]
theorem vis_parts (s : Sent) : vis s = s :: visR s.parts := by
  cases s with
  | nt s => exact (congrArg (Sent.nt s :: ·) (List.nil_append (vis s)).symm)
  | _ => rfl
theorem visR_snoc (a : List Sent) (s : Sent) : visR (a ++ [s]) = s :: visR (a ++ s.parts) := by
  rw [visR_app, visR_app, visR_cons, visR_nil, List.nil_append, vis_parts, List.cons_append]
mutual
def dep : Sent → Nat
  | .nt s => dep s + 1
  | .an ss => max 1 (deps ss) + 1
  | .orr ss => max 1 (deps ss) + 1
  | .went _ _ => 1
  | .often _ _ _ => 1
  | .more _ _ _ => 1
def deps : List Sent → Nat
  | [] => 0
  | s :: ss => max (dep s) (deps ss)
end
theorem deps_le : ∀ {ss : List Sent} {s : Sent}, s ∈ ss → dep s ≤ deps ss
  | t :: ss, s, h => by
    show dep s ≤ max (dep t) (deps ss)
    rcases List.mem_cons.mp h with rfl | h
    · exact Nat.le_max_left _ _
    · exact Nat.le_trans (deps_le h) (Nat.le_max_right _ _)
theorem deps_of : ∀ {ss : List Sent} {n : Nat}, (∀ s ∈ ss, dep s ≤ n) → deps ss ≤ n
  | [], _, _ => Nat.zero_le _
  | t :: ss, n, h => Nat.max_le.mpr ⟨h t List.mem_cons_self, deps_of fun s hs => h s (List.mem_cons_of_mem _ hs)⟩
theorem dep_parts {s p : Sent} (h : p ∈ s.parts) : dep p + 1 ≤ dep s := by
  cases s with
  | nt s =>
    rw [List.mem_singleton.mp h]
    exact Nat.le_refl _
  | an ss => exact Nat.succ_le_succ (Nat.le_trans (deps_le h) (Nat.le_max_right _ _))
  | orr ss => exact Nat.succ_le_succ (Nat.le_trans (deps_le h) (Nat.le_max_right _ _))
  | _ => cases h
theorem dep_pos (s : Sent) : 1 ≤ dep s := by
  cases s with
  | nt s => exact Nat.le_add_left 1 (dep s)
  | an ss => exact Nat.le_add_left 1 _
  | orr ss => exact Nat.le_add_left 1 _
  | _ => exact Nat.le_refl 1
/-- a sentence of m claimants -/
def nodeOk (m : Int) : Sent → Prop
  | .went w b => 0 ≤ w ∧ w < m ∧ 1 ≤ b ∧ b ≤ 5
  | .often w b n => 0 ≤ w ∧ w < m ∧ 1 ≤ b ∧ b ≤ 5 ∧ 1 ≤ n ∧ n ≤ b
  | .more w o b => 0 ≤ w ∧ w < m ∧ 1 ≤ b ∧ b ≤ 5 ∧ 0 ≤ o ∧ o < m ∧ o ≠ w
  | .nt _ => True
  | .an ss => ss.length ≤ 4
  | .orr ss => ss.length ≤ 4
def AllOk (m : Int) (s : Sent) : Prop := ∀ t ∈ vis s, nodeOk m t
mutual
theorem dep_vis : ∀ (s t : Sent), t ∈ vis s → dep t ≤ dep s
  | .went w b, t, h => by rw [List.mem_singleton.mp h]; exact Nat.le_refl _
  | .often w b n, t, h => by rw [List.mem_singleton.mp h]; exact Nat.le_refl _
  | .more w o b, t, h => by rw [List.mem_singleton.mp h]; exact Nat.le_refl _
  | .nt s, t, h => by
    rcases List.mem_cons.mp h with rfl | h
    · exact Nat.le_refl _
    · exact Nat.le_trans (dep_vis s t h) (Nat.le_succ (dep s))
  | .an ss, t, h => by
    rcases List.mem_cons.mp h with rfl | h
    · exact Nat.le_refl _
    · exact Nat.le_trans (deps_vis ss t h) (Nat.le_trans (Nat.le_max_right 1 _) (Nat.le_succ _))
  | .orr ss, t, h => by
    rcases List.mem_cons.mp h with rfl | h
    · exact Nat.le_refl _
    · exact Nat.le_trans (deps_vis ss t h) (Nat.le_trans (Nat.le_max_right 1 _) (Nat.le_succ _))
theorem deps_vis : ∀ (ss : List Sent) (t : Sent), t ∈ visR ss → dep t ≤ deps ss
  | [], t, h => nomatch h
  | s :: ss, t, h => by
    rcases List.mem_append.mp h with h | h
    · exact Nat.le_trans (deps_vis ss t h) (Nat.le_max_right (dep s) (deps ss))
    · exact Nat.le_trans (dep_vis s t h) (Nat.le_max_left (dep s) (deps ss))
end
theorem vis_mem_parts {s p t : Sent} (h : p ∈ s.parts) (ht : t ∈ vis p) : t ∈ vis s := by
  rw [vis_parts]
  refine List.mem_cons_of_mem _ ?_
  generalize s.parts = ss at h
  induction ss with
  | nil => cases h
  | cons q ss ih =>
    rw [visR_cons]
    rcases List.mem_cons.mp h with rfl | h
    · exact List.mem_append_right _ ht
    · exact List.mem_append_left _ (ih h)
theorem AllOk.part {m : Int} {s p : Sent} (h : AllOk m s) (hp : p ∈ s.parts) : AllOk m p := fun t ht => h t (vis_mem_parts hp ht)
theorem AllOk.self {m : Int} {s : Sent} (h : AllOk m s) : nodeOk m s := h s (by rw [vis_parts]; exact List.mem_cons_self)
/-! what may be compared -/
theorem ok_went : PyData.canLay0 (.str "went") = true := by decide +kernel
theorem ok_often : PyData.canLay0 (.str "often") = true := by decide +kernel
theorem ok_more : PyData.canLay0 (.str "more") = true := by decide +kernel
theorem ok_not : PyData.canLay0 (.str "not") = true := by decide +kernel
theorem ok_and : PyData.canLay0 (.str "and") = true := by decide +kernel
theorem ok_or : PyData.canLay0 (.str "or") = true := by decide +kernel
mutual
theorem can_sd : ∀ s : Sent, PyData.canLay0 (sd s).py = true
  | .went w b => by
    show (PyData.canLay0 (.str "went") && true) = true
    rw [ok_went]
    rfl
  | .often w b n => by
    show (PyData.canLay0 (.str "often") && true) = true
    rw [ok_often]
    rfl
  | .more w o b => by
    show (PyData.canLay0 (.str "more") && true) = true
    rw [ok_more]
    rfl
  | .nt s => by
    show (PyData.canLay0 (.str "not") && (PyData.canLay0 (sd s).py && true)) = true
    rw [can_sd s, ok_not]
    rfl
  | .an ss => by
    show (PyData.canLay0 (.str "and") && (PyData.canLayAll0 (D.pys (sds ss)) && true)) = true
    rw [can_sds ss, ok_and]
    rfl
  | .orr ss => by
    show (PyData.canLay0 (.str "or") && (PyData.canLayAll0 (D.pys (sds ss)) && true)) = true
    rw [can_sds ss, ok_or]
    rfl
theorem can_sds : ∀ ss : List Sent, PyData.canLayAll0 (D.pys (sds ss)) = true
  | [] => rfl
  | s :: ss => by
    show (PyData.canLay0 (sd s).py && PyData.canLayAll0 (D.pys (sds ss))) = true
    rw [can_sd s, can_sds ss]
    rfl
end
mutual
theorem dpt_sd : ∀ s : Sent, (sd s).py.depth ≤ 2 * dep s
  | .went w b => by show 1 ≤ 2 * 1; decide
  | .often w b n => by show 1 ≤ 2 * 1; decide
  | .more w o b => by show 1 ≤ 2 * 1; decide
  | .nt s => by
    have h := dpt_sd s
    show max 0 (max (sd s).py.depth 0) + 1 ≤ 2 * (dep s + 1)
    omega
  | .an ss => by
    have h := dpt_sds ss
    show max 0 (max (PyData.depthAll (D.pys (sds ss)) + 1) 0) + 1 ≤ 2 * (max 1 (deps ss) + 1)
    omega
  | .orr ss => by
    have h := dpt_sds ss
    show max 0 (max (PyData.depthAll (D.pys (sds ss)) + 1) 0) + 1 ≤ 2 * (max 1 (deps ss) + 1)
    omega
theorem dpt_sds : ∀ ss : List Sent, PyData.depthAll (D.pys (sds ss)) ≤ 2 * deps ss
  | [] => Nat.le_refl 0
  | s :: ss => by
    have h1 := dpt_sd s
    have h2 := dpt_sds ss
    show max (sd s).py.depth (PyData.depthAll (D.pys (sds ss))) ≤ 2 * max (dep s) (deps ss)
    omega
end
theorem ceq_sds {ss : List Sent} (h : deps ss ≤ 4) : CEq (D.lst (sds ss)).py (D.lst []).py (decide (ss = [])) := by
  refine ⟨?_, rfl, ?_⟩
  · show (PyData.canLayAll0 (D.pys (sds ss)) && decide (PyData.depthAll (D.pys (sds ss)) + 1 ≤ 64)) = true
    have h2 := dpt_sds ss
    rw [can_sds, decide_eq_true (by omega)]
    rfl
  · cases ss with
    | nil => rfl
    | cons s ss =>
      rw [decide_eq_false (by simp)]
      rfl
end Dx
end

section
set_option Elab.async false
set_option linter.all false
set_option maxRecDepth 100000
set_option maxHeartbeats 4000000
namespace Dx
open PySem PySem.Spec PyProof.Rows L2 Evl RZ
local macro_rules | `(tactic| walk_at "sd") => `(tactic| first | rfl | assumption | omega | exact Nat.le_of_ble_eq_true rfl | exact decide_eq_false (by omega) | exact decide_eq_true (by omega) | decide | (constructor <;> omega) | (simp only [List.length_map]; omega) | (simp only [List.length_map]; constructor <;> omega))
local macro_rules | `(tactic| walk_at "sd?") => `(tactic| first | walk_at "sd" | rotate_left)
local macro_rules | `(tactic| walk_at "xl") => `(tactic| first | exact xl_own rfl | (apply xl_of; walk_at "xd") | (apply xl_r; walk_at "xd"))
local macro_rules | `(tactic| walk_at "xm") => `(tactic| first | exact xm_own rfl | (apply xm_of; walk_at "xd"))
local macro_rules | `(tactic| walk_at "xu") => `(tactic| first | (apply xu_of; walk_at "xd") | (apply xu_r; walk_at "xd"))
local macro_rules | `(tactic| walk_at "xa") => `(tactic| first | exact xa_nil | (apply xa_cons; walk_at "xd"; walk_at "xa"))
local macro_rules | `(tactic| walk_at "xo") => `(tactic| first | exact xo_none | (apply xo_some; walk_at "xd"))
local macro_rules | `(tactic| walk_at "xd") => `(tactic| first
  | exact xd_int | exact xd_str | exact xd_bl | exact xd_non | exact xd_var rfl
  | (apply xd_add; walk_at "xd"; walk_at "xd") | (apply xd_sub; walk_at "xd"; walk_at "xd") | (apply xd_neg; walk_at "xd")
  | (apply xd_mul; walk_at "xd"; walk_at "xd"; walk_at "sd?") | (apply xd_fdiv; walk_at "xd"; walk_at "xd"; walk_at "sd?") | (apply xd_mod; walk_at "xd"; walk_at "xd"; walk_at "sd?")
  | (apply xd_lt; walk_at "xd"; walk_at "xd") | (apply xd_le; walk_at "xd"; walk_at "xd") | (apply xd_gt; walk_at "xd"; walk_at "xd") | (apply xd_ge; walk_at "xd"; walk_at "xd")
  | (apply xd_chainLe; walk_at "xd"; walk_at "xd"; walk_at "xd")
  | (apply xd_eqI; walk_at "xd"; walk_at "xd") | (apply xd_neI; walk_at "xd"; walk_at "xd") | (apply xd_eqS; walk_at "xd"; walk_at "xd") | (apply xd_neS; walk_at "xd"; walk_at "xd")
  | (apply xd_isN; walk_at "xd"; walk_at "xd") | (apply xd_notN; walk_at "xd"; walk_at "xd")
  | (apply xd_not; walk_at "xd") | (apply xd_and; walk_at "xd"; (intro _; walk_at "xd")) | (apply xd_or; walk_at "xd"; (intro _; walk_at "xd"))
  | (apply xd_ixT; walk_at "xu"; walk_at "xd"; rfl) | (apply xd_ixIU; walk_at "xu"; walk_at "xd"; walk_at "sd?") | (apply xd_ixI; walk_at "xl"; walk_at "xd"; walk_at "sd?") | (apply xd_ixL; walk_at "xl"; walk_at "xd"; walk_at "sd?")
  | (apply xd_tup; walk_at "xa"; walk_at "sd?") | (apply xd_lst; walk_at "xa"; walk_at "sd?")
  | (apply xd_len; walk_at "xl") | (apply xd_lenU; walk_at "xu") | (apply xd_abs; walk_at "xd") | (apply xd_min2; walk_at "xd"; walk_at "xd")
  | (apply xd_isi; walk_at "xd"; (first | exact kb_int | exact kb_int_bool | exact kb_tuple | exact kb_list | exact kb_str | exact kb_bool_bool))
  | (apply xd_slL; walk_at "xl"; walk_at "xo"; walk_at "xo") | (apply xd_slT; walk_at "xd"; walk_at "xo"; walk_at "xo")
  | (apply xd_cat; walk_at "xm"; walk_at "xm"; walk_at "sd?") | (apply xd_catT; walk_at "xd"; walk_at "xd"; walk_at "sd?")
  | (apply xd_list; walk_at "xl") | (apply xd_listU; walk_at "xu") | (apply xd_tuple; walk_at "xl") | (apply xd_tupleT; walk_at "xd")
  | (apply xe_call; walk_at "xa"; walk_at "sg"))
local macro_rules | `(tactic| walk_at "sg") => `(tactic| first | exact ⟨_, rfl, rfl⟩ | exact ⟨_, _, rfl, rfl⟩ | exact ⟨_, _, _, rfl, rfl⟩ | exact ⟨_, _, _, _, rfl, rfl⟩ | exact ⟨_, _, _, _, _, rfl, rfl⟩ | exact ⟨_, _, _, _, _, _, rfl, rfl⟩ | exact ⟨_, _, _, _, _, _, _, rfl, rfl⟩ | (refine' ⟨_, rfl, ?_, rfl⟩; walk_at "sd?") | (refine' ⟨_, _, rfl, ?_, rfl⟩; walk_at "sd?") | (refine' ⟨_, _, _, rfl, ?_, rfl⟩; walk_at "sd?") | (refine' ⟨_, _, _, _, rfl, ?_, rfl⟩; walk_at "sd?") | (refine' ⟨_, _, _, _, _, rfl, ?_, rfl⟩; walk_at "sd?") | (refine' ⟨_, _, _, _, _, _, rfl, ?_, rfl⟩; walk_at "sd?") | (refine' ⟨_, _, _, _, _, _, _, rfl, ?_, rfl⟩; walk_at "sd?"))
local macro_rules | `(tactic| walk_at "asg") => `(tactic| (apply xs_seq; apply xs_asgD; walk_at "xd"))
local macro_rules | `(tactic| walk_at "guard") => `(tactic| (apply xs_seq; apply xs_guard; walk_at "xt"; walk_at "sd?"))
local macro_rules | `(tactic| walk_at "ret") => `(tactic| (apply xs_retE; walk_at "xd"; exact rfl; walk_at "sd?"))
local macro_rules | `(tactic| walk_at "xt") => `(tactic| first
  | (apply xt_B; walk_at "xd") | (apply xt_T; walk_at "xd") | (apply xt_not; walk_at "xt") | (apply xt_and; walk_at "xt"; (intro _; walk_at "xt")) | (apply xt_or; walk_at "xt"; (intro _; walk_at "xt")) | exact xt_yes)
local macro_rules | `(tactic| walk_at "grd") => `(tactic| (apply xs_seq; apply xs_guard; walk_at "xt"))
local macro_rules | `(tactic| walk_at "grl") => `(tactic| (apply xs_guard; walk_at "xt"))
local macro_rules | `(tactic| walk_at "unp2") => `(tactic| (apply xs_seq; apply xs_asgG; walk_at "xd"; exact xg_tup (xgs_cons (xgs_cons xgs_nil)) rfl))
local macro_rules | `(tactic| walk_at "if") => `(tactic| (apply xs_seq; apply xs_if; walk_at "xt"))
local macro_rules | `(tactic| walk_at "drop") => `(tactic| (apply xs_seq; apply xs_drop; walk_at "xd"))

section
variable {P : Program} {w : World} {K : PySem.W.Frag} {mg : Str → Option Value} {base : Heap}
abbrev ID (ns : List Int) : List D := ns.map D.int
abbrev fr (a b : Int) : D := .tup [.int a, .int b]
/-- a fraction's two numbers -/
def D.tp : D → Int
  | .tup [.int a, .int _] => a
  | .rtup [.int a, .int _] => a
  | _ => 0
def D.bt : D → Int
  | .tup [.int _, .int b] => b
  | .rtup [.int _, .int b] => b
  | _ => 0
def isFr (x : D) : Prop := (∃ a b, x = .tup [.int a, .int b]) ∨ ∃ a b, x = .rtup [.int a, .int b]
def gcdI (a b : Int) : Int := (Nat.gcd a.natAbs b.natAbs : Nat)
def mk (a b : Int) : D := fr (a / gcdI a b) (b / gcdI a b)
theorem abs_nat (i : Int) : (if i < 0 then -i else i) = (i.natAbs : Int) := by
  split <;> omega
theorem gcd_pos {a b : Int} (h : 0 < b) : 0 < gcdI a b := by
  have : 0 < Nat.gcd a.natAbs b.natAbs := Nat.gcd_pos_of_pos_right _ (by omega)
  unfold gcdI
  omega
theorem gcd_le {a b : Int} (h : 0 < b) : gcdI a b ≤ b := by
  have : Nat.gcd a.natAbs b.natAbs ≤ b.natAbs := Nat.le_of_dvd (by omega) (Nat.gcd_dvd_right _ _)
  unfold gcdI
  omega
/-! is_whole -/
def sg_is_whole : Sg := fun ds R => ∃ i, ds = [.int i] ∧ R = Eq (.bl true)
abbrev N_is_whole : List Str := ["thing"]
theorem sc_is_whole : FnScope N_is_whole ["thing"] (defScope (top 12)) := ⟨rfl, rfl, rfl, by decide +kernel, rfl, by decide +kernel, by decide +kernel⟩
abbrev H_is_whole (P : Program) (w : World) (K : PySem.W.Frag) (mg : Str → Option Value) (base : Heap) : Prop := Has P w K mg base "is_whole" 1 ["thing"] (spX K sg_is_whole)

theorem ok_is_whole (B : Blt K mg) (Df : Dfd K mg "is_whole" 12)  : H_is_whole P w K mg base := by
  refine has_mk Df (fun _ _ _ _ _ _ us hl => match us, hl with | [_], _ => rfl) fun f fd F => ?_
  refine fn_ok F sc_is_whole (fun ds R ⟨_, e, _⟩ => e ▸ rfl) (fun cdv A outer s H E hr => ⟨_, (pss_one (ps_ret (pe_and (pe_callB call_isi rfl B.isinstance bt_isinstance (pa_cons (pv 0) (pa_cons (pe_ty rfl B.int bt_int) pa_nil))) (pe_one (pe_not (pe_callB call_isi rfl B.isinstance bt_isinstance (pa_cons (pv 0) (pa_cons (pe_ty rfl B.bool bt_bool) pa_nil)))))))), fun ds R h => ?_⟩)
  obtain ⟨i, rfl, rfl⟩ := h
  walk_at "ret"
/-! common -/
def sg_common : Sg := fun ds R => ∃ i j, ds = [.int i, .int j] ∧ R = Eq (.int (gcdI i j))
abbrev N_common : List Str := ["one", "other"]
theorem sc_common : FnScope N_common ["one", "other"] (defScope (top 13)) := ⟨rfl, rfl, rfl, by decide +kernel, rfl, by decide +kernel, by decide +kernel⟩
abbrev H_common (P : Program) (w : World) (K : PySem.W.Frag) (mg : Str → Option Value) (base : Heap) : Prop := Has P w K mg base "common" 1 ["one", "other"] (spX K sg_common)

theorem ok_common (B : Blt K mg) (Df : Dfd K mg "common" 13)  : H_common P w K mg base := by
  refine has_mk Df (fun _ _ _ _ _ _ us hl => match us, hl with | [_, _], _ => rfl) fun f fd F => ?_
  refine fn_ok F sc_common (fun ds R ⟨_, _, e, _⟩ => e ▸ rfl) (fun cdv A outer s H E hr => ⟨_, (pss_cons (ps_set (i := 0) sc_common.nd rfl (by first | exact Or.inl rfl | exact Or.inr rfl) (pe_callB cr_abs rfl B.abs bt_abs (pa_cons (pv 0) pa_nil)))
    (pss_cons (ps_set (i := 1) sc_common.nd rfl (by first | exact Or.inl rfl | exact Or.inr rfl) (pe_callB cr_abs rfl B.abs bt_abs (pa_cons (pv 1) pa_nil)))
    (pss_cons (ps_while PassesOwn.never (pt_cmpR op_gt (pv 1) pe_int (nomark _)) (pss_one (ps_par (i := 0) (j := 1) rfl sc_common.nd rfl rfl (by decide) rfl rfl (pa_cons (pv 1) (pa_cons (pe_op op_modN (pv 0) (pv 1)) pa_nil)) rfl)))
    (pss_one (ps_ret (pv 0)))))), fun ds R h => ?_⟩)
  obtain ⟨i, j, rfl, rfl⟩ := h
  walk_at "asg"
  walk_at "asg"
  apply xs_seq
  refine xs_while (fun m r => ∃ a b : Nat, m = b ∧ r = [.d (.int a), .d (.int b)] ∧ Nat.gcd a b = Nat.gcd i.natAbs j.natAbs) j.natAbs ⟨i.natAbs, j.natAbs, rfl, ?_, rfl⟩ fun m r hm => ?_
  · show [Sl.d (.int _), Sl.d (.int _)] = _
    rw [abs_nat, abs_nat]
  · obtain ⟨a, b, e1, rfl, hg⟩ := hm
    subst e1
    refine ⟨decide ((0 : Int) < m), ?_, fun hb => ?_, fun hb => ?_⟩
    · walk_at "xt"
    · have hb : (0 : Int) < m := of_decide_eq_true hb
      apply xs_par
      · walk_at "xa"
      · refine ⟨a % m, Nat.mod_lt _ (by omega), m, a % m, rfl, ?_, ?_⟩
        · show [Sl.d (.int _), Sl.d (.int (Int.fmod _ _))] = _
          rw [Int.fmod_eq_emod_of_nonneg _ (by omega), Int.natCast_emod]
        · rw [← hg, Nat.gcd_comm a m, Nat.gcd_rec m a, Nat.gcd_comm]
    · have hb : ¬ (0 : Int) < m := of_decide_eq_false hb
      have e : m = 0 := by omega
      subst e
      apply xs_retE; walk_at "xd"; exact rfl
      unfold gcdI
      rw [← hg, Nat.gcd_zero_right]
/-! is_fraction -/
def sg_is_fraction : Sg := fun ds R => ∃ a b, ds = [fr a b] ∧ R = Eq (.bl (decide (0 < b) && decide (gcdI a b = 1)))
abbrev N_is_fraction : List Str := ["thing"]
theorem sc_is_fraction : FnScope N_is_fraction ["thing"] (defScope (top 14)) := ⟨rfl, rfl, rfl, by decide +kernel, rfl, by decide +kernel, by decide +kernel⟩
abbrev H_is_fraction (P : Program) (w : World) (K : PySem.W.Frag) (mg : Str → Option Value) (base : Heap) : Prop := Has P w K mg base "is_fraction" 2 ["thing"] (spX K sg_is_fraction)

theorem ok_is_fraction (B : Blt K mg) (Df : Dfd K mg "is_fraction" 14) (h_common : H_common P w K mg base) (h_is_whole : H_is_whole P w K mg base) : H_is_fraction P w K mg base := by
  refine has_mk Df (fun _ _ _ _ _ _ us hl => match us, hl with | [_], _ => rfl) fun f fd F => ?_
  refine fn_ok F sc_is_fraction (fun ds R ⟨_, _, e, _⟩ => e ▸ rfl) (fun cdv A outer s H E hr => ⟨_, (pss_cons (ps_if (PW.pt (pw_or (pt_not (pt_val (pe_callB call_isi rfl B.isinstance bt_isinstance (pa_cons (pv 0) (pa_cons (pe_ty rfl B.tuple bt_tuple) pa_nil))))) (pw_or1 (pt_cmpR op_ne (pe_callB cr_lenS rfl B.len bt_len (pa_cons (pv 0) pa_nil)) pe_int (nomark _))))) (pss_one (ps_ret pe_bl)) pss_nil)
    (pss_cons (ps_if (PW.pt (pw_or (pt_not (pt_val (pe_callH h_is_whole (hr.mono (by decide)) rfl (pa_cons (pe_ix ix_tup (pv 0) pe_int (fun _ _ => rfl)) pa_nil)))) (pw_or1 (pt_not (pt_val (pe_callH h_is_whole (hr.mono (by decide)) rfl (pa_cons (pe_ix ix_tup (pv 0) pe_int (fun _ _ => rfl)) pa_nil))))))) (pss_one (ps_ret pe_bl)) pss_nil)
    (pss_one (ps_ret (pe_and (pe_cmpR op_gt (pe_ix ix_tup (pv 0) pe_int (fun _ _ => rfl)) pe_int (nomark _)) (pe_one (pe_cmpR op_eq (pe_callH h_common (hr.mono (by decide)) rfl (pa_cons (pe_ix ix_tup (pv 0) pe_int (fun _ _ => rfl)) (pa_cons (pe_ix ix_tup (pv 0) pe_int (fun _ _ => rfl)) pa_nil))) pe_int (nomark _)))))))), fun ds R h => ?_⟩)
  obtain ⟨a, b, rfl, rfl⟩ := h
  walk_at "guard"
  walk_at "guard"
  walk_at "ret"
/-! made -/
def sg_made : Sg := fun ds R => ∃ a b, ds = [.int a, .int b] ∧ (0 < b ∧ b < 1073741824) ∧ R = Eq (mk a b)
abbrev N_made : List Str := ["top", "bottom", "share"]
theorem sc_made : FnScope N_made ["top", "bottom"] (defScope (top 15)) := ⟨rfl, rfl, rfl, by decide +kernel, rfl, by decide +kernel, by decide +kernel⟩
abbrev H_made (P : Program) (w : World) (K : PySem.W.Frag) (mg : Str → Option Value) (base : Heap) : Prop := Has P w K mg base "made" 2 ["top", "bottom"] (spX K sg_made)

theorem ok_made (B : Blt K mg) (Df : Dfd K mg "made" 15) (h_common : H_common P w K mg base) : H_made P w K mg base := by
  refine has_mk Df (fun _ _ _ _ _ _ us hl => match us, hl with | [_, _], _ => rfl) fun f fd F => ?_
  refine fn_ok F sc_made (fun ds R ⟨_, _, e, _⟩ => e ▸ rfl) (fun cdv A outer s H E hr => ⟨_, (pss_cons (ps_if (pt_cmpR op_eq (pv 1) pe_int (nomark _)) (pss_one ps_never) pss_nil)
    (pss_cons (ps_set (i := 2) sc_made.nd rfl (by first | exact Or.inl rfl | exact Or.inr rfl) (pe_callH h_common (hr.mono (by decide)) rfl (pa_cons (pv 0) (pa_cons (pv 1) pa_nil))))
    (pss_cons (ps_if (pt_cmpR op_lt (pv 1) pe_int (nomark _)) (pss_one (ps_set (i := 2) sc_made.nd rfl (by first | exact Or.inl rfl | exact Or.inr rfl) (pe_un un_neg (pv 2)))) pss_nil)
    (pss_one (ps_ret (pe_tup (pa_cons (pe_op op_fdivN (pv 0) (pv 2)) (pa_cons (pe_op op_fdivN (pv 1) (pv 2)) pa_nil)))))))), fun ds R h => ?_⟩)
  obtain ⟨a, b, rfl, ⟨h0, h1⟩, rfl⟩ := h
  have hg := gcd_pos (a := a) h0
  have hg2 := gcd_le (a := a) h0
  walk_at "guard"
  walk_at "asg"
  walk_at "guard"
  apply xs_retE; walk_at "xd"; exact rfl
  unfold mk fr
  rw [Int.fdiv_eq_ediv_of_nonneg _ (by omega), Int.fdiv_eq_ediv_of_nonneg _ (by omega)]
/-! minus -/
def lim (a : Int) : Prop := -1099511627776 < a ∧ a < 1099511627776
theorem cmul_l {a b : Int} (h : lim a) : CMul a b := .inl ⟨by unfold lim at h; omega, by unfold lim at h; omega⟩
theorem cmul_r {a b : Int} (h : lim b) : CMul a b := .inr ⟨by unfold lim at h; omega, by unfold lim at h; omega⟩
def sg_minus : Sg := fun ds R => ∃ a b c d, ds = [fr a b, fr c d] ∧ (0 < b ∧ 0 < d ∧ lim b ∧ lim d ∧ b * d < 1073741824) ∧ R = Eq (mk (a * d - c * b) (b * d))
abbrev N_minus : List Str := ["one", "other"]
theorem sc_minus : FnScope N_minus ["one", "other"] (defScope (top 16)) := ⟨rfl, rfl, rfl, by decide +kernel, rfl, by decide +kernel, by decide +kernel⟩
abbrev H_minus (P : Program) (w : World) (K : PySem.W.Frag) (mg : Str → Option Value) (base : Heap) : Prop := Has P w K mg base "minus" 3 ["one", "other"] (spX K sg_minus)

theorem ok_minus (B : Blt K mg) (Df : Dfd K mg "minus" 16) (h_made : H_made P w K mg base) : H_minus P w K mg base := by
  refine has_mk Df (fun _ _ _ _ _ _ us hl => match us, hl with | [_, _], _ => rfl) fun f fd F => ?_
  refine fn_ok F sc_minus (fun ds R ⟨_, _, _, _, e, _⟩ => e ▸ rfl) (fun cdv A outer s H E hr => ⟨_, (pss_one (ps_ret (pe_callH h_made (hr.mono (by decide)) rfl (pa_cons (pe_op op_sub (pe_op op_mul (pe_ix ix_tup (pv 0) pe_int (fun _ _ => rfl)) (pe_ix ix_tup (pv 1) pe_int (fun _ _ => rfl))) (pe_op op_mul (pe_ix ix_tup (pv 1) pe_int (fun _ _ => rfl)) (pe_ix ix_tup (pv 0) pe_int (fun _ _ => rfl)))) (pa_cons (pe_op op_mul (pe_ix ix_tup (pv 0) pe_int (fun _ _ => rfl)) (pe_ix ix_tup (pv 1) pe_int (fun _ _ => rfl))) pa_nil))))), fun ds R h => ?_⟩)
  obtain ⟨a, b, c, d, rfl, ⟨h0, h1, h2, h3, h4⟩, rfl⟩ := h
  apply xs_retE; walk_at "xd"; exact rfl; rfl
  · exact cmul_r h3
  · exact cmul_r h2
  · exact cmul_r h3
  · exact ⟨Int.mul_pos h0 h1, h4⟩
/-! less -/
def sg_less : Sg := fun ds R => ∃ x y, ds = [x, y] ∧ (isFr x ∧ isFr y ∧ lim x.bt ∧ lim y.bt) ∧ R = Eq (.bl (decide (x.tp * y.bt < y.tp * x.bt)))
abbrev N_less : List Str := ["one", "other"]
theorem sc_less : FnScope N_less ["one", "other"] (defScope (top 18)) := ⟨rfl, rfl, rfl, by decide +kernel, rfl, by decide +kernel, by decide +kernel⟩
abbrev H_less (P : Program) (w : World) (K : PySem.W.Frag) (mg : Str → Option Value) (base : Heap) : Prop := Has P w K mg base "less" 1 ["one", "other"] (spX K sg_less)

theorem ok_less (B : Blt K mg) (Df : Dfd K mg "less" 18)  : H_less P w K mg base := by
  refine has_mk Df (fun _ _ _ _ _ _ us hl => match us, hl with | [_, _], _ => rfl) fun f fd F => ?_
  refine fn_ok F sc_less (fun ds R ⟨_, _, e, _⟩ => e ▸ rfl) (fun cdv A outer s H E hr => ⟨_, (pss_one (ps_ret (pe_cmpR op_lt (pe_op op_mul (pe_ix ix_tup (pv 0) pe_int (fun _ _ => rfl)) (pe_ix ix_tup (pv 1) pe_int (fun _ _ => rfl))) (pe_op op_mul (pe_ix ix_tup (pv 1) pe_int (fun _ _ => rfl)) (pe_ix ix_tup (pv 0) pe_int (fun _ _ => rfl))) (nomark _)))), fun ds R h => ?_⟩)
  obtain ⟨x, y, rfl, ⟨h0, h1, h2, h3⟩, rfl⟩ := h
  rcases h0 with ⟨a, b, rfl⟩ | ⟨a, b, rfl⟩ <;> rcases h1 with ⟨c, d, rfl⟩ | ⟨c, d, rfl⟩ <;>
  · apply xs_retE; walk_at "xd"; exact rfl; rfl
    · exact cmul_r h3
    · exact cmul_r h2
/-! unsigned -/
def sg_unsigned : Sg := fun ds R => ∃ a b, ds = [fr a b] ∧ R = Eq (fr a.natAbs b)
abbrev N_unsigned : List Str := ["one"]
theorem sc_unsigned : FnScope N_unsigned ["one"] (defScope (top 19)) := ⟨rfl, rfl, rfl, by decide +kernel, rfl, by decide +kernel, by decide +kernel⟩
abbrev H_unsigned (P : Program) (w : World) (K : PySem.W.Frag) (mg : Str → Option Value) (base : Heap) : Prop := Has P w K mg base "unsigned" 1 ["one"] (spX K sg_unsigned)

theorem ok_unsigned (B : Blt K mg) (Df : Dfd K mg "unsigned" 19)  : H_unsigned P w K mg base := by
  refine has_mk Df (fun _ _ _ _ _ _ us hl => match us, hl with | [_], _ => rfl) fun f fd F => ?_
  refine fn_ok F sc_unsigned (fun ds R ⟨_, _, e, _⟩ => e ▸ rfl) (fun cdv A outer s H E hr => ⟨_, (pss_one (ps_ret (pe_tup (pa_cons (pe_callB cr_abs rfl B.abs bt_abs (pa_cons (pe_ix ix_tup (pv 0) pe_int (fun _ _ => rfl)) pa_nil)) (pa_cons (pe_ix ix_tup (pv 0) pe_int (fun _ _ => rfl)) pa_nil))))), fun ds R h => ?_⟩)
  obtain ⟨a, b, rfl, rfl⟩ := h
  apply xs_retE; walk_at "xd"; exact rfl
  rw [abs_nat]
/-! is_within and the checks -/
def sg_is_within : Sg := fun ds R => ∃ x lo hi, ds = [.int x, .int lo, .int hi] ∧ R = Eq (.bl (decide (lo ≤ x) && decide (x ≤ hi)))
abbrev N_is_within : List Str := ["thing", "low", "high"]
theorem sc_is_within : FnScope N_is_within ["thing", "low", "high"] (defScope (top 28)) := ⟨rfl, rfl, rfl, by decide +kernel, rfl, by decide +kernel, by decide +kernel⟩
abbrev H_is_within (P : Program) (w : World) (K : PySem.W.Frag) (mg : Str → Option Value) (base : Heap) : Prop := Has P w K mg base "is_within" 2 ["thing", "low", "high"] (spX K sg_is_within)

theorem ok_is_within (B : Blt K mg) (Df : Dfd K mg "is_within" 28) (h_is_whole : H_is_whole P w K mg base) : H_is_within P w K mg base := by
  refine has_mk Df (fun _ _ _ _ _ _ us hl => match us, hl with | [_, _, _], _ => rfl) fun f fd F => ?_
  refine fn_ok F sc_is_within (fun ds R ⟨_, _, _, e, _⟩ => e ▸ rfl) (fun cdv A outer s H E hr => ⟨_, (pss_one (ps_ret (pe_and (pe_callH h_is_whole (hr.mono (by decide)) rfl (pa_cons (pv 0) pa_nil)) (pe_one (pe_chain op_le op_le (pv 1) (pv 0) (pv 2)))))), fun ds R h => ?_⟩)
  obtain ⟨x, lo, hi, rfl, rfl⟩ := h
  walk_at "ret"
def sg_are_weights : Sg := fun ds R => ∃ ws : List Int, ds = [.lst (ID ws)] ∧ (1 ≤ ws.length ∧ ws.length ≤ 6 ∧ (∀ a ∈ ws, 0 ≤ a ∧ a ≤ 1000) ∧ 0 < ws.sum) ∧ R = Eq (.bl true)
abbrev N_are_weights : List Str := ["thing", "weight"]
theorem sc_are_weights : FnScope N_are_weights ["thing"] (defScope (top 25)) := ⟨rfl, rfl, rfl, by decide +kernel, rfl, by decide +kernel, by decide +kernel⟩
abbrev H_are_weights (P : Program) (w : World) (K : PySem.W.Frag) (mg : Str → Option Value) (base : Heap) : Prop := Has P w K mg base "are_weights" 2 ["thing"] (spX K sg_are_weights)

theorem ok_are_weights (B : Blt K mg) (Df : Dfd K mg "are_weights" 25) (h_is_whole : H_is_whole P w K mg base) : H_are_weights P w K mg base := by
  obtain ⟨_, c_MOST_WEIGHT⟩ := B.MOST_WEIGHT
  obtain ⟨_, c_MOST_CLAIMANTS⟩ := B.MOST_CLAIMANTS
  refine has_mk Df (fun _ _ _ _ _ _ us hl => match us, hl with | [_], _ => rfl) fun f fd F => ?_
  refine fn_ok F sc_are_weights (fun ds R ⟨_, e, _⟩ => e ▸ rfl) (fun cdv A outer s H E hr => ⟨_, (pss_cons (ps_if (PW.pt (pw_or (pt_not (pt_val (pe_callB call_isi rfl B.isinstance bt_isinstance (pa_cons (pv 0) (pa_cons (pe_ty rfl B.list bt_list) pa_nil))))) (pw_or1 (pt_not (pt_chain op_le op_le pe_int (pe_callB cr_lenS rfl B.len bt_len (pa_cons (pv 0) pa_nil)) (pe_glob (v := .int 6) rfl c_MOST_CLAIMANTS ⟨_, rfl⟩)))))) (pss_one (ps_ret pe_bl)) pss_nil)
    (pss_cons (ps_for PassesOwn.never rfl (pi_list (pv 0)) (pg_name (i := 1) sc_are_weights.nd rfl (by first | exact Or.inl rfl | exact Or.inr rfl)) (pss_one (ps_if (PW.pt (pw_or (pt_not (pt_val (pe_callH h_is_whole (hr.mono (by decide)) rfl (pa_cons (pv 1) pa_nil)))) (pw_or1 (pt_not (pt_chain op_le op_le pe_int (pv 1) (pe_glob (v := .int 1000) rfl c_MOST_WEIGHT ⟨_, rfl⟩)))))) (pss_one (ps_ret pe_bl)) pss_nil)))
    (pss_one (ps_ret (pe_cmpR op_gt (pe_callB (cr_sum rfl) rfl B.sum bt_sum (pa_cons (pv 0) pa_nil)) pe_int (nomark _)))))), fun ds R h => ?_⟩)
  obtain ⟨ws, rfl, ⟨h0, h1, h2, h3⟩, rfl⟩ := h
  walk_at "grd"
  · simp
    omega
  apply xs_seq
  refine xs_forN (fun _ r => ∃ s, r = [.d (.lst (ID ws)), s]) (ix_listD (xd_var rfl)) ⟨_, rfl⟩ (fun i y r hy hr => ?_) (fun r hr => ?_)
  · obtain ⟨s, rfl⟩ := hr
    rw [List.getElem?_map] at hy
    obtain ⟨a, ha, rfl⟩ := Option.map_eq_some_iff.mp hy
    obtain ⟨g1, g2⟩ := h2 a (List.mem_of_getElem? ha)
    walk_at "grl"
    · simp
      omega
    · exact ⟨_, rfl⟩
  · obtain ⟨s, rfl⟩ := hr
    apply xs_retE
    · apply xd_gt (xd_sum (xl_of (xd_var rfl))) xd_int
    · exact rfl
    · rw [decide_eq_true h3]
def inC (m : Int) (xs : List Int) : Prop := ∀ a ∈ xs, 0 ≤ a ∧ a < m
def sg_are_claimants : Sg := fun ds R => ∃ (xs : List Int) (m : Int), ds = [.lst (ID xs), .int m] ∧ (inC m xs ∧ xs.length ≤ 4000) ∧ R = Eq (.bl true)
abbrev N_are_claimants : List Str := ["thing", "many", "one"]
theorem sc_are_claimants : FnScope N_are_claimants ["thing", "many"] (defScope (top 29)) := ⟨rfl, rfl, rfl, by decide +kernel, rfl, by decide +kernel, by decide +kernel⟩
abbrev H_are_claimants (P : Program) (w : World) (K : PySem.W.Frag) (mg : Str → Option Value) (base : Heap) : Prop := Has P w K mg base "are_claimants" 3 ["thing", "many"] (spX K sg_are_claimants)

theorem ok_are_claimants (B : Blt K mg) (Df : Dfd K mg "are_claimants" 29) (h_is_within : H_is_within P w K mg base) : H_are_claimants P w K mg base := by
  refine has_mk Df (fun _ _ _ _ _ _ us hl => match us, hl with | [_, _], _ => rfl) fun f fd F => ?_
  refine fn_ok F sc_are_claimants (fun ds R ⟨_, _, e, _⟩ => e ▸ rfl) (fun cdv A outer s H E hr => ⟨_, (pss_one (ps_ret (pe_and (pe_callB call_isi rfl B.isinstance bt_isinstance (pa_cons (pv 0) (pa_cons (pe_ty rfl B.list bt_list) pa_nil))) (pe_one (pe_callB (cr_all rfl) rfl B.all bt_all (pa_cons (pe_lc (own := [("one", 2)]) (g := (gName 2)) (by rfl) sc_are_claimants.nd (pi_list (pv 0)) (blkOk_by (own := [("one", 2)]) (N := N_are_claimants) (sc := defScope (top 29)) (by decide +kernel)) (fun _ _ _ _ _ => (pg_name (i := 2) sc_are_claimants.nd rfl (Or.inl rfl))) (fun _ _ _ _ _ => pts_nil) (fun _ _ _ _ _ => (pe_callH h_is_within (hr.mono (by decide)) rfl (pa_cons (pv 2) (pa_cons pe_int (pa_cons (pe_op op_sub (pv 1) pe_int) pa_nil)))))) pa_nil)))))), fun ds R h => ?_⟩)
  obtain ⟨xs, m, rfl, ⟨h0, h1⟩, rfl⟩ := h
  apply xs_retE
  · apply xd_and
    · walk_at "xd"
    · intro _
      apply xd_all (bs := xs.map fun _ => true)
      apply xl_of
      rw [List.map_map]
      refine xd_lcM xs D.int _ (ix_listD (xd_var rfl)) (by decide) (by omega) fun a ha => ?_
      obtain ⟨g1, g2⟩ := h0 a ha
      apply XD.eq
      · walk_at "xd"
      · rw [decide_eq_true (by omega), decide_eq_true (by omega)]
        rfl
  · exact rfl
  · rw [show ((xs.map fun _ => true).all id) = true from List.all_eq_true.mpr fun b hb => by
      obtain ⟨_, _, e⟩ := List.mem_map.mp hb
      rw [← e]
      rfl]
    rfl
end
end Dx
end

section
set_option Elab.async false
set_option linter.all false
set_option maxRecDepth 100000
set_option maxHeartbeats 4000000
namespace Dx
open PySem PySem.Spec PyProof.Rows L2 Evl RZ
local macro_rules | `(tactic| walk_at "sd") => `(tactic| first | rfl | assumption | omega | exact Nat.le_of_ble_eq_true rfl | exact decide_eq_false (by omega) | exact decide_eq_true (by omega) | decide | (constructor <;> omega) | (simp only [List.length_map]; omega) | (simp only [List.length_map]; constructor <;> omega))
local macro_rules | `(tactic| walk_at "sd?") => `(tactic| first | walk_at "sd" | rotate_left)
local macro_rules | `(tactic| walk_at "xl") => `(tactic| first | exact xl_own rfl | (apply xl_of; walk_at "xd") | (apply xl_r; walk_at "xd"))
local macro_rules | `(tactic| walk_at "xm") => `(tactic| first | exact xm_own rfl | (apply xm_of; walk_at "xd"))
local macro_rules | `(tactic| walk_at "xu") => `(tactic| first | (apply xu_of; walk_at "xd") | (apply xu_r; walk_at "xd"))
local macro_rules | `(tactic| walk_at "xa") => `(tactic| first | exact xa_nil | (apply xa_cons; walk_at "xd"; walk_at "xa"))
local macro_rules | `(tactic| walk_at "xo") => `(tactic| first | exact xo_none | (apply xo_some; walk_at "xd"))
local macro_rules | `(tactic| walk_at "xd") => `(tactic| first
  | exact xd_int | exact xd_str | exact xd_bl | exact xd_non | exact xd_var rfl
  | (apply xd_add; walk_at "xd"; walk_at "xd") | (apply xd_sub; walk_at "xd"; walk_at "xd") | (apply xd_neg; walk_at "xd")
  | (apply xd_mul; walk_at "xd"; walk_at "xd"; walk_at "sd?") | (apply xd_fdiv; walk_at "xd"; walk_at "xd"; walk_at "sd?") | (apply xd_mod; walk_at "xd"; walk_at "xd"; walk_at "sd?")
  | (apply xd_lt; walk_at "xd"; walk_at "xd") | (apply xd_le; walk_at "xd"; walk_at "xd") | (apply xd_gt; walk_at "xd"; walk_at "xd") | (apply xd_ge; walk_at "xd"; walk_at "xd")
  | (apply xd_chainLe; walk_at "xd"; walk_at "xd"; walk_at "xd")
  | (apply xd_eqI; walk_at "xd"; walk_at "xd") | (apply xd_neI; walk_at "xd"; walk_at "xd") | (apply xd_eqS; walk_at "xd"; walk_at "xd") | (apply xd_neS; walk_at "xd"; walk_at "xd")
  | (apply xd_isN; walk_at "xd"; walk_at "xd") | (apply xd_notN; walk_at "xd"; walk_at "xd")
  | (apply xd_not; walk_at "xd") | (apply xd_and; walk_at "xd"; (intro _; walk_at "xd")) | (apply xd_or; walk_at "xd"; (intro _; walk_at "xd"))
  | (apply xd_ixT; walk_at "xu"; walk_at "xd"; rfl) | (apply xd_ixIU; walk_at "xu"; walk_at "xd"; walk_at "sd?") | (apply xd_ixI; walk_at "xl"; walk_at "xd"; walk_at "sd?") | (apply xd_ixL; walk_at "xl"; walk_at "xd"; walk_at "sd?")
  | (apply xd_tup; walk_at "xa"; walk_at "sd?") | (apply xd_lst; walk_at "xa"; walk_at "sd?")
  | (apply xd_len; walk_at "xl") | (apply xd_lenU; walk_at "xu") | (apply xd_abs; walk_at "xd") | (apply xd_min2; walk_at "xd"; walk_at "xd")
  | (apply xd_isi; walk_at "xd"; (first | exact kb_int | exact kb_int_bool | exact kb_tuple | exact kb_list | exact kb_str | exact kb_bool_bool))
  | (apply xd_slL; walk_at "xl"; walk_at "xo"; walk_at "xo") | (apply xd_slT; walk_at "xd"; walk_at "xo"; walk_at "xo")
  | (apply xd_cat; walk_at "xm"; walk_at "xm"; walk_at "sd?") | (apply xd_catT; walk_at "xd"; walk_at "xd"; walk_at "sd?")
  | (apply xd_list; walk_at "xl") | (apply xd_listU; walk_at "xu") | (apply xd_tuple; walk_at "xl") | (apply xd_tupleT; walk_at "xd")
  | (apply xe_call; walk_at "xa"; walk_at "sg"))
local macro_rules | `(tactic| walk_at "sg") => `(tactic| first | exact ⟨_, rfl, rfl⟩ | exact ⟨_, _, rfl, rfl⟩ | exact ⟨_, _, _, rfl, rfl⟩ | exact ⟨_, _, _, _, rfl, rfl⟩ | exact ⟨_, _, _, _, _, rfl, rfl⟩ | exact ⟨_, _, _, _, _, _, rfl, rfl⟩ | exact ⟨_, _, _, _, _, _, _, rfl, rfl⟩ | (refine' ⟨_, rfl, ?_, rfl⟩; walk_at "sd?") | (refine' ⟨_, _, rfl, ?_, rfl⟩; walk_at "sd?") | (refine' ⟨_, _, _, rfl, ?_, rfl⟩; walk_at "sd?") | (refine' ⟨_, _, _, _, rfl, ?_, rfl⟩; walk_at "sd?") | (refine' ⟨_, _, _, _, _, rfl, ?_, rfl⟩; walk_at "sd?") | (refine' ⟨_, _, _, _, _, _, rfl, ?_, rfl⟩; walk_at "sd?") | (refine' ⟨_, _, _, _, _, _, _, rfl, ?_, rfl⟩; walk_at "sd?"))
local macro_rules | `(tactic| walk_at "asg") => `(tactic| (apply xs_seq; apply xs_asgD; walk_at "xd"))
local macro_rules | `(tactic| walk_at "guard") => `(tactic| (apply xs_seq; apply xs_guard; walk_at "xt"; walk_at "sd?"))
local macro_rules | `(tactic| walk_at "ret") => `(tactic| (apply xs_retE; walk_at "xd"; exact rfl; walk_at "sd?"))
local macro_rules | `(tactic| walk_at "xt") => `(tactic| first
  | (apply xt_B; walk_at "xd") | (apply xt_T; walk_at "xd") | (apply xt_not; walk_at "xt") | (apply xt_and; walk_at "xt"; (intro _; walk_at "xt")) | (apply xt_or; walk_at "xt"; (intro _; walk_at "xt")) | exact xt_yes)
local macro_rules | `(tactic| walk_at "grd") => `(tactic| (apply xs_seq; apply xs_guard; walk_at "xt"))
local macro_rules | `(tactic| walk_at "grl") => `(tactic| (apply xs_guard; walk_at "xt"))
local macro_rules | `(tactic| walk_at "unp2") => `(tactic| (apply xs_seq; apply xs_asgG; walk_at "xd"; exact xg_tup (xgs_cons (xgs_cons xgs_nil)) rfl))
local macro_rules | `(tactic| walk_at "if") => `(tactic| (apply xs_seq; apply xs_if; walk_at "xt"))
local macro_rules | `(tactic| walk_at "drop") => `(tactic| (apply xs_seq; apply xs_drop; walk_at "xd"))

open Ma
section
variable {P : Program} {w : World} {K : PySem.W.Frag} {mg : Str → Option Value} {base : Heap}
abbrev run (h l : List Int) : D := .tup [.lst (ID h), .lst (ID l)]
structure RunOk (h l : List Int) : Prop where
  ch : inC 6 h
  cl : inC 6 l
  ne : l ≠ []
  hl : h.length ≤ 4000
  ll : l.length ≤ 4000
theorem RunOk.pos {h l : List Int} (r : RunOk h l) : 0 < l.length := List.length_pos_iff.mpr r.ne
def sg_is_running : Sg := fun ds R => ∃ h l, ds = [run h l] ∧ RunOk h l ∧ R = Eq (.bl true)
abbrev N_is_running : List Str := ["thing"]
theorem sc_is_running : FnScope N_is_running ["thing"] (defScope (top 30)) := ⟨rfl, rfl, rfl, by decide +kernel, rfl, by decide +kernel, by decide +kernel⟩
abbrev H_is_running (P : Program) (w : World) (K : PySem.W.Frag) (mg : Str → Option Value) (base : Heap) : Prop := Has P w K mg base "is_running" 4 ["thing"] (spX K sg_is_running)

theorem ok_is_running (B : Blt K mg) (Df : Dfd K mg "is_running" 30) (h_are_claimants : H_are_claimants P w K mg base) : H_is_running P w K mg base := by
  obtain ⟨_, c_MOST_CLAIMANTS⟩ := B.MOST_CLAIMANTS
  refine has_mk Df (fun _ _ _ _ _ _ us hl => match us, hl with | [_], _ => rfl) fun f fd F => ?_
  refine fn_ok F sc_is_running (fun ds R ⟨_, _, e, _⟩ => e ▸ rfl) (fun cdv A outer s H E hr => ⟨_, (pss_cons (ps_if (PW.pt (pw_or (pt_not (pt_val (pe_callB call_isi rfl B.isinstance bt_isinstance (pa_cons (pv 0) (pa_cons (pe_ty rfl B.tuple bt_tuple) pa_nil))))) (pw_or (pt_cmpR op_ne (pe_callB cr_lenS rfl B.len bt_len (pa_cons (pv 0) pa_nil)) pe_int (nomark _)) (pw_or1 (pt_not (pt_val (pe_callH h_are_claimants (hr.mono (by decide)) rfl (pa_cons (pe_ix ix_tup (pv 0) pe_int (fun _ _ => rfl)) (pa_cons (pe_glob (v := .int 6) rfl c_MOST_CLAIMANTS ⟨_, rfl⟩) pa_nil))))))))) (pss_one (ps_ret pe_bl)) pss_nil)
    (pss_one (ps_ret (pe_and (pe_callH h_are_claimants (hr.mono (by decide)) rfl (pa_cons (pe_ix ix_tup (pv 0) pe_int (fun _ _ => rfl)) (pa_cons (pe_glob (v := .int 6) rfl c_MOST_CLAIMANTS ⟨_, rfl⟩) pa_nil))) (pe_one (pe_cmpR op_gt (pe_callB cr_lenS rfl B.len bt_len (pa_cons (pe_ix ix_tup (pv 0) pe_int (fun _ _ => rfl)) pa_nil)) pe_int (nomark _))))))), fun ds R h => ?_⟩)
  obtain ⟨h, l, rfl, r, rfl⟩ := h
  have hp := r.pos
  have q1 : inC 6 h ∧ h.length ≤ 4000 := ⟨r.ch, r.hl⟩
  have q2 : inC 6 l ∧ l.length ≤ 4000 := ⟨r.cl, r.ll⟩
  walk_at "grd"
  · rfl
  · apply xs_retE
    · walk_at "xd"
    · exact rfl
    · simp
      omega
def sg_check_running : Sg := fun ds R => ∃ h l, ds = [run h l] ∧ RunOk h l ∧ R = Eq .non
abbrev N_check_running : List Str := ["thing"]
theorem sc_check_running : FnScope N_check_running ["thing"] (defScope (top 31)) := ⟨rfl, rfl, rfl, by decide +kernel, rfl, by decide +kernel, by decide +kernel⟩
abbrev H_check_running (P : Program) (w : World) (K : PySem.W.Frag) (mg : Str → Option Value) (base : Heap) : Prop := Has P w K mg base "check_running" 5 ["thing"] (spX K sg_check_running)

theorem ok_check_running (B : Blt K mg) (Df : Dfd K mg "check_running" 31) (h_is_running : H_is_running P w K mg base) : H_check_running P w K mg base := by
  refine has_mk Df (fun _ _ _ _ _ _ us hl => match us, hl with | [_], _ => rfl) fun f fd F => ?_
  refine fn_ok F sc_check_running (fun ds R ⟨_, _, e, _⟩ => e ▸ rfl) (fun cdv A outer s H E hr => ⟨_, (pss_one (ps_if (pt_not (pt_val (pe_callH h_is_running (hr.mono (by decide)) rfl (pa_cons (pv 0) pa_nil)))) (pss_one ps_never) pss_nil)), fun ds R h => ?_⟩)
  obtain ⟨h, l, rfl, r, rfl⟩ := h
  walk_at "grl"
  · rfl
  · exact rfl
def sg_check_claimant : Sg := fun ds R => ∃ x m, ds = [.int x, .int m] ∧ (0 ≤ x ∧ x ≤ m - 1) ∧ R = Eq .non
abbrev N_check_claimant : List Str := ["thing", "many"]
theorem sc_check_claimant : FnScope N_check_claimant ["thing", "many"] (defScope (top 32)) := ⟨rfl, rfl, rfl, by decide +kernel, rfl, by decide +kernel, by decide +kernel⟩
abbrev H_check_claimant (P : Program) (w : World) (K : PySem.W.Frag) (mg : Str → Option Value) (base : Heap) : Prop := Has P w K mg base "check_claimant" 3 ["thing", "many"] (spX K sg_check_claimant)

theorem ok_check_claimant (B : Blt K mg) (Df : Dfd K mg "check_claimant" 32) (h_is_within : H_is_within P w K mg base) : H_check_claimant P w K mg base := by
  refine has_mk Df (fun _ _ _ _ _ _ us hl => match us, hl with | [_, _], _ => rfl) fun f fd F => ?_
  refine fn_ok F sc_check_claimant (fun ds R ⟨_, _, e, _⟩ => e ▸ rfl) (fun cdv A outer s H E hr => ⟨_, (pss_one (ps_if (pt_not (pt_val (pe_callH h_is_within (hr.mono (by decide)) rfl (pa_cons (pv 0) (pa_cons pe_int (pa_cons (pe_op op_sub (pv 1) pe_int) pa_nil)))))) (pss_one ps_never) pss_nil)), fun ds R h => ?_⟩)
  obtain ⟨x, m, rfl, ⟨h0, h1⟩, rfl⟩ := h
  walk_at "grl"
  · simp
    omega
  · exact rfl
theorem far_big : (100000 : Int) ≤ 10 ^ 40 := by decide
def sg_check_number : Sg := fun ds R => ∃ x lo, ds = [.int x, .int lo] ∧ (lo ≤ x ∧ x ≤ 100000) ∧ R = Eq .non
abbrev N_check_number : List Str := ["thing", "low"]
theorem sc_check_number : FnScope N_check_number ["thing", "low"] (defScope (top 33)) := ⟨rfl, rfl, rfl, by decide +kernel, rfl, by decide +kernel, by decide +kernel⟩
abbrev H_check_number (P : Program) (w : World) (K : PySem.W.Frag) (mg : Str → Option Value) (base : Heap) : Prop := Has P w K mg base "check_number" 3 ["thing", "low"] (spX K sg_check_number)

theorem ok_check_number (B : Blt K mg) (Df : Dfd K mg "check_number" 33) (h_is_within : H_is_within P w K mg base) : H_check_number P w K mg base := by
  obtain ⟨_, c_FAR⟩ := B.FAR
  refine has_mk Df (fun _ _ _ _ _ _ us hl => match us, hl with | [_, _], _ => rfl) fun f fd F => ?_
  refine fn_ok F sc_check_number (fun ds R ⟨_, _, e, _⟩ => e ▸ rfl) (fun cdv A outer s H E hr => ⟨_, (pss_one (ps_if (pt_not (pt_val (pe_callH h_is_within (hr.mono (by decide)) rfl (pa_cons (pv 0) (pa_cons (pv 1) (pa_cons (pe_glob (v := .int (10 ^ 40)) rfl c_FAR ⟨_, rfl⟩) pa_nil)))))) (pss_one ps_never) pss_nil)), fun ds R h => ?_⟩)
  obtain ⟨x, lo, rfl, ⟨h0, h1⟩, rfl⟩ := h
  have hf : x ≤ 10 ^ 40 := Int.le_trans h1 far_big
  walk_at "grl"
  · rw [decide_eq_true h0, decide_eq_true hf]
    rfl
  · exact rfl
def sg_choice_in_row : Sg := fun ds R => ∃ h l t, ds = [run h l, .int t] ∧ (RunOk h l ∧ 1 ≤ t ∧ t ≤ 100000) ∧ R = Eq (.int (rowAt h l (t.toNat - 1)))
abbrev N_choice_in_row : List Str := ["running", "turn", "head", "lap"]
theorem sc_choice_in_row : FnScope N_choice_in_row ["running", "turn"] (defScope (top 34)) := ⟨rfl, rfl, rfl, by decide +kernel, rfl, by decide +kernel, by decide +kernel⟩
abbrev H_choice_in_row (P : Program) (w : World) (K : PySem.W.Frag) (mg : Str → Option Value) (base : Heap) : Prop := Has P w K mg base "choice_in_row" 1 ["running", "turn"] (spX K sg_choice_in_row)

theorem ok_choice_in_row (B : Blt K mg) (Df : Dfd K mg "choice_in_row" 34)  : H_choice_in_row P w K mg base := by
  refine has_mk Df (fun _ _ _ _ _ _ us hl => match us, hl with | [_, _], _ => rfl) fun f fd F => ?_
  refine fn_ok F sc_choice_in_row (fun ds R ⟨_, _, _, e, _⟩ => e ▸ rfl) (fun cdv A outer s H E hr => ⟨_, (pss_cons (ps_asg (pv 0) (pg_tup rfl (pgs_cons (pg_name (i := 2) sc_choice_in_row.nd rfl (by first | exact Or.inl rfl | exact Or.inr rfl)) (pgs_cons (pg_name (i := 3) sc_choice_in_row.nd rfl (by first | exact Or.inl rfl | exact Or.inr rfl)) pgs_nil))))
    (pss_cons (ps_if (pt_cmpR op_le (pv 1) (pe_callB cr_lenS rfl B.len bt_len (pa_cons (pv 2) pa_nil)) (nomark _)) (pss_one (ps_ret (pe_ix ix_list (pv 2) (pe_op op_sub (pv 1) pe_int) (fun _ _ => rfl)))) pss_nil)
    (pss_one (ps_ret (pe_ix ix_list (pv 3) (pe_op op_modN (pe_op op_sub (pe_op op_sub (pv 1) (pe_callB cr_lenS rfl B.len bt_len (pa_cons (pv 2) pa_nil))) pe_int) (pe_callB cr_lenS rfl B.len bt_len (pa_cons (pv 3) pa_nil))) (fun _ _ => rfl)))))), fun ds R h => ?_⟩)
  obtain ⟨h, l, t, rfl, ⟨r, h0, h1⟩, rfl⟩ := h
  have hp := r.pos
  walk_at "unp2"
  walk_at "if"
  · intro hb
    have hb := of_decide_eq_true hb
    rw [List.length_map] at hb
    apply xs_retE
    · walk_at "xd"
    · exact rfl
    · rw [rowAt_lt (by omega)]
      rw [show (t - 1).toNat = t.toNat - 1 by omega]
  · intro hb
    have hb := of_decide_eq_false hb
    rw [List.length_map] at hb
    refine xs_next ?_
    have e : Int.fmod (t - ((ID h).length : Nat) - 1) ((ID l).length : Nat) = (((t.toNat - 1 - h.length) % l.length : Nat) : Int) := by
      rw [Int.fmod_eq_emod_of_nonneg _ (by omega), List.length_map, List.length_map, Int.natCast_emod]
      congr 1
      omega
    have hm : (t.toNat - 1 - h.length) % l.length < l.length := Nat.mod_lt _ hp
    apply xs_retE
    · walk_at "xd"
    · exact rfl
    · rw [e, rowAt_ge (by omega), Int.toNat_natCast]
      rfl
def sg_choice_at : Sg := fun ds R => ∃ h l t, ds = [run h l, .int t] ∧ (RunOk h l ∧ 1 ≤ t ∧ t ≤ 100000) ∧ R = Eq (.int (rowAt h l (t.toNat - 1)))
abbrev N_choice_at : List Str := ["running", "turn"]
theorem sc_choice_at : FnScope N_choice_at ["running", "turn"] (defScope (top 35)) := ⟨rfl, rfl, rfl, by decide +kernel, rfl, by decide +kernel, by decide +kernel⟩
abbrev H_choice_at (P : Program) (w : World) (K : PySem.W.Frag) (mg : Str → Option Value) (base : Heap) : Prop := Has P w K mg base "choice_at" 6 ["running", "turn"] (spX K sg_choice_at)

theorem ok_choice_at (B : Blt K mg) (Df : Dfd K mg "choice_at" 35) (h_choice_in_row : H_choice_in_row P w K mg base) (h_check_number : H_check_number P w K mg base) (h_check_running : H_check_running P w K mg base) : H_choice_at P w K mg base := by
  refine has_mk Df (fun _ _ _ _ _ _ us hl => match us, hl with | [_, _], _ => rfl) fun f fd F => ?_
  refine fn_ok F sc_choice_at (fun ds R ⟨_, _, _, e, _⟩ => e ▸ rfl) (fun cdv A outer s H E hr => ⟨_, (pss_cons (ps_expr (pe_callH h_check_running (hr.mono (by decide)) rfl (pa_cons (pv 0) pa_nil)))
    (pss_cons (ps_expr (pe_callH h_check_number (hr.mono (by decide)) rfl (pa_cons (pv 1) (pa_cons pe_int pa_nil))))
    (pss_one (ps_ret (pe_callH h_choice_in_row (hr.mono (by decide)) rfl (pa_cons (pv 0) (pa_cons (pv 1) pa_nil))))))), fun ds R h => ?_⟩)
  obtain ⟨h, l, t, rfl, q, rfl⟩ := h
  have q1 := q.1
  have q2 := q.2
  walk_at "drop"
  walk_at "drop"
  walk_at "ret"
/-- how often a stands among the first t choices, as it is reckoned -/
def cntF (h l : List Int) (a : Int) (t : Int) : Int :=
  if t ≤ h.length then (((h.take t.toNat).count a : Nat) : Int) else ((h.count a : Nat) : Int) + (t - h.length) / l.length * ((l.count a : Nat) : Int) + (((l.take ((t - h.length) % l.length).toNat).count a : Nat) : Int)
theorem cutD_pre {α : Type} (xs : List α) (t : Int) (h : 0 ≤ t) : cutD xs none (some t) = xs.take t.toNat := by
  unfold cutD
  rw [HT.sIx_none, List.drop_zero, show t = ((t.toNat : Nat) : Int) by omega, HT.sIx_nat, Nat.sub_zero, Int.toNat_natCast]
  rcases Nat.le_total t.toNat xs.length with c | c
  · rw [Nat.min_eq_left c]
  · rw [Nat.min_eq_right c, List.take_length, List.take_of_length_le c]
theorem cutD_map {α β : Type} (f : α → β) (xs : List α) (lo hi : Option Int) : cutD (xs.map f) lo hi = (cutD xs lo hi).map f := by
  unfold cutD
  rw [List.length_map, ← List.map_drop, ← List.map_take]
end
section
variable {K : PySem.W.Frag} {ρ : List Sl} {ta tb tc te : TE}
theorem xd_count {ns : List Int} {k : Int} (h : XL K te ρ (ns.map D.int)) (hb : XD K tb ρ (.int k)) : XD K (tBM K "list" (rCntI K) te (tCons tb tNil)) ρ (.int ((ns.count k : Nat) : Int)) := fun H0 G H σ e s Q q =>
  h H0 G H σ e s _ fun a vs G1 H1 A1 h1 d1 => ⟨.inl ⟨rfl, vs, h1⟩, xa_cons hb xa_nil H0 G1 H1 σ A1.i (s.adv A1) _ fun us G2 H2 A2 d2 => by
    cases d2 with
    | cons x y =>
      cases x
      cases y
      exact ⟨a, ns, k, rfl, rfl, d1.int_eq ▸ ex_l A2.h h1, q _ _ G2 H2 (A1.trans A2) rfl (.int _)⟩⟩
end
section
variable {P : Program} {w : World} {K : PySem.W.Frag} {mg : Str → Option Value} {base : Heap}
def sg_count_in : Sg := fun ds R => ∃ h l a t, ds = [run h l, .int a, .int t] ∧ (RunOk h l ∧ 0 ≤ t ∧ t ≤ 100000) ∧ R = Eq (.int (cntF h l a t))
abbrev N_count_in : List Str := ["running", "one", "turns", "left", "head", "lap"]
theorem sc_count_in : FnScope N_count_in ["running", "one", "turns"] (defScope (top 36)) := ⟨rfl, rfl, rfl, by decide +kernel, rfl, by decide +kernel, by decide +kernel⟩
abbrev H_count_in (P : Program) (w : World) (K : PySem.W.Frag) (mg : Str → Option Value) (base : Heap) : Prop := Has P w K mg base "count_in" 1 ["running", "one", "turns"] (spX K sg_count_in)

theorem ok_count_in (B : Blt K mg) (Df : Dfd K mg "count_in" 36)  : H_count_in P w K mg base := by
  refine has_mk Df (fun _ _ _ _ _ _ us hl => match us, hl with | [_, _, _], _ => rfl) fun f fd F => ?_
  refine fn_ok F sc_count_in (fun ds R ⟨_, _, _, _, e, _⟩ => e ▸ rfl) (fun cdv A outer s H E hr => ⟨_, (pss_cons (ps_asg (pv 0) (pg_tup rfl (pgs_cons (pg_name (i := 4) sc_count_in.nd rfl (by first | exact Or.inl rfl | exact Or.inr rfl)) (pgs_cons (pg_name (i := 5) sc_count_in.nd rfl (by first | exact Or.inl rfl | exact Or.inr rfl)) pgs_nil))))
    (pss_cons (ps_if (pt_cmpR op_le (pv 2) (pe_callB cr_lenS rfl B.len bt_len (pa_cons (pv 4) pa_nil)) (nomark _)) (pss_one (ps_ret (pe_bm PySem.F.plainAttrs_list PySem.F.slot_list_count PySem.F.type_list_count mt_lcount (pe_slice sl_list (pv 4) po_none (po_some (pv 2))) (pa_cons (pv 1) pa_nil)))) pss_nil)
    (pss_cons (ps_set (i := 3) sc_count_in.nd rfl (by first | exact Or.inl rfl | exact Or.inr rfl) (pe_op op_sub (pv 2) (pe_callB cr_lenS rfl B.len bt_len (pa_cons (pv 4) pa_nil))))
    (pss_one (ps_ret (pe_op op_add (pe_op op_add (pe_bm PySem.F.plainAttrs_list PySem.F.slot_list_count PySem.F.type_list_count mt_lcount (pv 4) (pa_cons (pv 1) pa_nil)) (pe_op op_mul (pe_op op_fdivN (pv 3) (pe_callB cr_lenS rfl B.len bt_len (pa_cons (pv 5) pa_nil))) (pe_bm PySem.F.plainAttrs_list PySem.F.slot_list_count PySem.F.type_list_count mt_lcount (pv 5) (pa_cons (pv 1) pa_nil)))) (pe_bm PySem.F.plainAttrs_list PySem.F.slot_list_count PySem.F.type_list_count mt_lcount (pe_slice sl_list (pv 5) po_none (po_some (pe_op op_modN (pv 3) (pe_callB cr_lenS rfl B.len bt_len (pa_cons (pv 5) pa_nil))))) (pa_cons (pv 1) pa_nil)))))))), fun ds R h => ?_⟩)
  obtain ⟨h, l, a, t, rfl, ⟨r, h0, h1⟩, rfl⟩ := h
  have hp := r.pos
  have hl := r.ll
  walk_at "unp2"
  walk_at "if"
  · intro hb
    have hb := of_decide_eq_true hb
    rw [List.length_map] at hb
    apply xs_retE
    · apply xd_count
      · apply xl_of
        apply XD.eq
        · walk_at "xd"
        · rw [cutD_map]
      · walk_at "xd"
    · exact rfl
    · unfold cntF
      rw [if_pos hb, cutD_pre _ _ h0]
  · intro hb
    have hb := of_decide_eq_false hb
    rw [List.length_map] at hb
    refine xs_next ?_
    walk_at "asg"
    have el : ((ID l).length : Nat) = l.length := List.length_map _
    have e1 : Int.fmod (t - ((ID h).length : Nat)) ((ID l).length : Nat) = (t - h.length) % l.length := by
      rw [Int.fmod_eq_emod_of_nonneg _ (by omega), List.length_map, List.length_map]
    have e2 : Int.fdiv (t - ((ID h).length : Nat)) ((ID l).length : Nat) = (t - h.length) / l.length := by
      rw [Int.fdiv_eq_ediv_of_nonneg _ (by omega), List.length_map, List.length_map]
    have hm : 0 ≤ (t - h.length) % (l.length : Int) := Int.emod_nonneg _ (by omega)
    apply xs_retE
    · apply xd_add
      · apply xd_add
        · apply xd_count
          · walk_at "xl"
          · walk_at "xd"
        · apply xd_mul
          · walk_at "xd"
          · apply xd_count
            · walk_at "xl"
            · walk_at "xd"
          · right
            have := List.count_le_length (l := l) (a := a)
            constructor <;> omega
      · apply xd_count
        · apply xl_of
          apply XD.eq
          · walk_at "xd"
          · rw [cutD_map]
        · walk_at "xd"
    · exact rfl
    · unfold cntF
      rw [if_neg hb, e1, e2, cutD_pre _ _ hm]
end
end Dx
end

section
set_option Elab.async false
set_option linter.all false
set_option maxRecDepth 100000
set_option maxHeartbeats 4000000
namespace Dx
open PySem PySem.Spec PyProof.Rows L2 Evl RZ
local macro_rules | `(tactic| walk_at "sd") => `(tactic| first | rfl | assumption | omega | exact Nat.le_of_ble_eq_true rfl | exact decide_eq_false (by omega) | exact decide_eq_true (by omega) | decide | (constructor <;> omega) | (simp only [List.length_map]; omega) | (simp only [List.length_map]; constructor <;> omega))
local macro_rules | `(tactic| walk_at "sd?") => `(tactic| first | walk_at "sd" | rotate_left)
local macro_rules | `(tactic| walk_at "xl") => `(tactic| first | exact xl_own rfl | (apply xl_of; walk_at "xd") | (apply xl_r; walk_at "xd"))
local macro_rules | `(tactic| walk_at "xm") => `(tactic| first | exact xm_own rfl | (apply xm_of; walk_at "xd"))
local macro_rules | `(tactic| walk_at "xu") => `(tactic| first | (apply xu_of; walk_at "xd") | (apply xu_r; walk_at "xd"))
local macro_rules | `(tactic| walk_at "xa") => `(tactic| first | exact xa_nil | (apply xa_cons; walk_at "xd"; walk_at "xa"))
local macro_rules | `(tactic| walk_at "xo") => `(tactic| first | exact xo_none | (apply xo_some; walk_at "xd"))
local macro_rules | `(tactic| walk_at "xd") => `(tactic| first
  | exact xd_int | exact xd_str | exact xd_bl | exact xd_non | exact xd_var rfl
  | (apply xd_add; walk_at "xd"; walk_at "xd") | (apply xd_sub; walk_at "xd"; walk_at "xd") | (apply xd_neg; walk_at "xd")
  | (apply xd_mul; walk_at "xd"; walk_at "xd"; walk_at "sd?") | (apply xd_fdiv; walk_at "xd"; walk_at "xd"; walk_at "sd?") | (apply xd_mod; walk_at "xd"; walk_at "xd"; walk_at "sd?")
  | (apply xd_lt; walk_at "xd"; walk_at "xd") | (apply xd_le; walk_at "xd"; walk_at "xd") | (apply xd_gt; walk_at "xd"; walk_at "xd") | (apply xd_ge; walk_at "xd"; walk_at "xd")
  | (apply xd_chainLe; walk_at "xd"; walk_at "xd"; walk_at "xd")
  | (apply xd_eqI; walk_at "xd"; walk_at "xd") | (apply xd_neI; walk_at "xd"; walk_at "xd") | (apply xd_eqS; walk_at "xd"; walk_at "xd") | (apply xd_neS; walk_at "xd"; walk_at "xd")
  | (apply xd_isN; walk_at "xd"; walk_at "xd") | (apply xd_notN; walk_at "xd"; walk_at "xd")
  | (apply xd_not; walk_at "xd") | (apply xd_and; walk_at "xd"; (intro _; walk_at "xd")) | (apply xd_or; walk_at "xd"; (intro _; walk_at "xd"))
  | (apply xd_ixT; walk_at "xu"; walk_at "xd"; rfl) | (apply xd_ixIU; walk_at "xu"; walk_at "xd"; walk_at "sd?") | (apply xd_ixI; walk_at "xl"; walk_at "xd"; walk_at "sd?") | (apply xd_ixL; walk_at "xl"; walk_at "xd"; walk_at "sd?")
  | (apply xd_tup; walk_at "xa"; walk_at "sd?") | (apply xd_lst; walk_at "xa"; walk_at "sd?")
  | (apply xd_len; walk_at "xl") | (apply xd_lenU; walk_at "xu") | (apply xd_abs; walk_at "xd") | (apply xd_min2; walk_at "xd"; walk_at "xd")
  | (apply xd_isi; walk_at "xd"; (first | exact kb_int | exact kb_int_bool | exact kb_tuple | exact kb_list | exact kb_str | exact kb_bool_bool))
  | (apply xd_slL; walk_at "xl"; walk_at "xo"; walk_at "xo") | (apply xd_slT; walk_at "xd"; walk_at "xo"; walk_at "xo")
  | (apply xd_cat; walk_at "xm"; walk_at "xm"; walk_at "sd?") | (apply xd_catT; walk_at "xd"; walk_at "xd"; walk_at "sd?")
  | (apply xd_list; walk_at "xl") | (apply xd_listU; walk_at "xu") | (apply xd_tuple; walk_at "xl") | (apply xd_tupleT; walk_at "xd")
  | (apply xe_call; walk_at "xa"; walk_at "sg"))
local macro_rules | `(tactic| walk_at "sg") => `(tactic| first | exact ⟨_, rfl, rfl⟩ | exact ⟨_, _, rfl, rfl⟩ | exact ⟨_, _, _, rfl, rfl⟩ | exact ⟨_, _, _, _, rfl, rfl⟩ | exact ⟨_, _, _, _, _, rfl, rfl⟩ | exact ⟨_, _, _, _, _, _, rfl, rfl⟩ | exact ⟨_, _, _, _, _, _, _, rfl, rfl⟩ | (refine' ⟨_, rfl, ?_, rfl⟩; walk_at "sd?") | (refine' ⟨_, _, rfl, ?_, rfl⟩; walk_at "sd?") | (refine' ⟨_, _, _, rfl, ?_, rfl⟩; walk_at "sd?") | (refine' ⟨_, _, _, _, rfl, ?_, rfl⟩; walk_at "sd?") | (refine' ⟨_, _, _, _, _, rfl, ?_, rfl⟩; walk_at "sd?") | (refine' ⟨_, _, _, _, _, _, rfl, ?_, rfl⟩; walk_at "sd?") | (refine' ⟨_, _, _, _, _, _, _, rfl, ?_, rfl⟩; walk_at "sd?"))
local macro_rules | `(tactic| walk_at "asg") => `(tactic| (apply xs_seq; apply xs_asgD; walk_at "xd"))
local macro_rules | `(tactic| walk_at "guard") => `(tactic| (apply xs_seq; apply xs_guard; walk_at "xt"; walk_at "sd?"))
local macro_rules | `(tactic| walk_at "ret") => `(tactic| (apply xs_retE; walk_at "xd"; exact rfl; walk_at "sd?"))
local macro_rules | `(tactic| walk_at "xt") => `(tactic| first
  | (apply xt_B; walk_at "xd") | (apply xt_T; walk_at "xd") | (apply xt_not; walk_at "xt") | (apply xt_and; walk_at "xt"; (intro _; walk_at "xt")) | (apply xt_or; walk_at "xt"; (intro _; walk_at "xt")) | exact xt_yes)
local macro_rules | `(tactic| walk_at "grd") => `(tactic| (apply xs_seq; apply xs_guard; walk_at "xt"))
local macro_rules | `(tactic| walk_at "grl") => `(tactic| (apply xs_guard; walk_at "xt"))
local macro_rules | `(tactic| walk_at "unp2") => `(tactic| (apply xs_seq; apply xs_asgG; walk_at "xd"; exact xg_tup (xgs_cons (xgs_cons xgs_nil)) rfl))
local macro_rules | `(tactic| walk_at "if") => `(tactic| (apply xs_seq; apply xs_if; walk_at "xt"))
local macro_rules | `(tactic| walk_at "drop") => `(tactic| (apply xs_seq; apply xs_drop; walk_at "xd"))

open Ma
theorem enum_ints (ns : List Int) : enumD (ID ns) = (List.range ns.length).map fun i => .tup [.int (i : Nat), .int (ns.getD i 0)] := by
  apply List.ext_getElem?
  intro i
  by_cases hi : i < ns.length
  · rw [List.getElem?_map, List.getElem?_range hi, enumD_at (x := .int (ns.getD i 0))]
    · rfl
    · rw [List.getElem?_map, List.getElem?_eq_getElem hi, Ma.getD_lt hi]
      rfl
  · rw [List.getElem?_eq_none (by rw [enumD_len, List.length_map]; omega), List.getElem?_eq_none (by rw [List.length_map, List.length_range]; omega)]
/-- the places of a, from 1 on -/
def plc (row : List Int) (a : Int) : List Int := ((List.range row.length).filter fun i => decide (row.getD i 0 = a)).map fun (i : Nat) => ((i : Nat) : Int) + 1
theorem plc_len (row : List Int) (a : Int) : (plc row a).length ≤ row.length := by
  unfold plc
  rw [List.length_map]
  have h := List.length_filter_le (fun i => decide (row.getD i 0 = a)) (List.range row.length)
  rw [List.length_range] at h
  exact h
/-- the turn of a's first choice -/
def turnF (h l : List Int) (a : Int) : Option Int := match plc h a with
  | x :: _ => some x
  | [] => match plc l a with
    | [] => none
    | y :: _ => some (h.length + y)
def optD : Option Int → D
  | none => .non
  | some x => .int x
section
variable {P : Program} {w : World} {K : PySem.W.Frag} {mg : Str → Option Value} {base : Heap}
def sg_places_of : Sg := fun ds R => ∃ row a, ds = [.lst (ID row), .int a] ∧ (row.length ≤ 4000) ∧ R = Eq (.lst (ID (plc row a)))
abbrev N_places_of : List Str := ["row", "one", "at", "other"]
theorem sc_places_of : FnScope N_places_of ["row", "one"] (defScope (top 37)) := ⟨rfl, rfl, rfl, by decide +kernel, rfl, by decide +kernel, by decide +kernel⟩
abbrev H_places_of (P : Program) (w : World) (K : PySem.W.Frag) (mg : Str → Option Value) (base : Heap) : Prop := Has P w K mg base "places_of" 1 ["row", "one"] (spX K sg_places_of)

theorem ok_places_of (B : Blt K mg) (Df : Dfd K mg "places_of" 37)  : H_places_of P w K mg base := by
  refine has_mk Df (fun _ _ _ _ _ _ us hl => match us, hl with | [_, _], _ => rfl) fun f fd F => ?_
  refine fn_ok F sc_places_of (fun ds R ⟨_, _, e, _⟩ => e ▸ rfl) (fun cdv A outer s H E hr => ⟨_, (pss_one (ps_ret (pe_lc (own := [("at", 2), ("other", 3)]) (g := (gTup _ 2 (gCons (gName 2) (gCons (gName 3) gNil)))) (by rfl) sc_places_of.nd (pi_enum rfl B.enumerate (pa_cons (pv 0) pa_nil)) (blkOk_by (own := [("at", 2), ("other", 3)]) (N := N_places_of) (sc := defScope (top 37)) (by decide +kernel)) (fun _ _ _ _ _ => (pg_tup rfl (pgs_cons (pg_name (i := 2) sc_places_of.nd rfl (Or.inl rfl)) (pgs_cons (pg_name (i := 3) sc_places_of.nd rfl (Or.inl rfl)) pgs_nil)))) (fun _ _ _ _ _ => (pts_one (pt_cmpR op_eq (pv 3) (pv 1) (nomark _)))) (fun _ _ _ _ _ => (pe_op op_add (pv 2) pe_int))))), fun ds R h => ?_⟩)
  obtain ⟨row, a, rfl, h0, rfl⟩ := h
  apply xs_retE
  · refine xd_lcG (List.range row.length) (fun (i : Nat) => .tup [.int ((i : Nat) : Int), .int (row.getD i 0)]) (fun (i : Nat) => .int (((i : Nat) : Int) + 1)) (fun i => decide (row.getD i 0 = a)) _ (js := [2, 3]) ?_ (by decide) (by rw [List.length_range]; omega) (fun i hi => xg_tup (xgs_cons (xgs_cons xgs_nil)) rfl) (fun i hi => ?_) fun i hi hp => ?_
    · rw [← enum_ints]
      exact ix_enum (xd_var rfl)
    · walk_at "xt"
    · walk_at "xd"
  · exact rfl
  · unfold plc ID
    rw [List.map_map]
    rfl
def sg_turn_of : Sg := fun ds R => ∃ h l a, ds = [run h l, .int a, .int 1] ∧ (RunOk h l ∧ 0 ≤ a ∧ a ≤ 5) ∧ R = Eq (optD (turnF h l a))
abbrev N_turn_of : List Str := ["running", "one", "times", "first", "there", "left", "head", "lap"]
theorem sc_turn_of : FnScope N_turn_of ["running", "one", "times"] (defScope (top 38)) := ⟨rfl, rfl, rfl, by decide +kernel, rfl, by decide +kernel, by decide +kernel⟩
abbrev H_turn_of (P : Program) (w : World) (K : PySem.W.Frag) (mg : Str → Option Value) (base : Heap) : Prop := Has P w K mg base "turn_of" 6 ["running", "one", "times"] (spX K sg_turn_of)

theorem ok_turn_of (B : Blt K mg) (Df : Dfd K mg "turn_of" 38) (h_places_of : H_places_of P w K mg base) (h_check_number : H_check_number P w K mg base) (h_check_claimant : H_check_claimant P w K mg base) (h_check_running : H_check_running P w K mg base) : H_turn_of P w K mg base := by
  obtain ⟨_, c_MOST_CLAIMANTS⟩ := B.MOST_CLAIMANTS
  refine has_mk Df (fun _ _ _ _ _ _ us hl => match us, hl with | [_, _, _], _ => rfl) fun f fd F => ?_
  refine fn_ok F sc_turn_of (fun ds R ⟨_, _, _, e, _⟩ => e ▸ rfl) (fun cdv A outer s H E hr => ⟨_, (pss_cons (ps_expr (pe_callH h_check_running (hr.mono (by decide)) rfl (pa_cons (pv 0) pa_nil)))
    (pss_cons (ps_expr (pe_callH h_check_claimant (hr.mono (by decide)) rfl (pa_cons (pv 1) (pa_cons (pe_glob (v := .int 6) rfl c_MOST_CLAIMANTS ⟨_, rfl⟩) pa_nil))))
    (pss_cons (ps_expr (pe_callH h_check_number (hr.mono (by decide)) rfl (pa_cons (pv 2) (pa_cons pe_int pa_nil))))
    (pss_cons (ps_asg (pv 0) (pg_tup rfl (pgs_cons (pg_name (i := 6) sc_turn_of.nd rfl (by first | exact Or.inl rfl | exact Or.inr rfl)) (pgs_cons (pg_name (i := 7) sc_turn_of.nd rfl (by first | exact Or.inl rfl | exact Or.inr rfl)) pgs_nil))))
    (pss_cons (ps_set (i := 3) sc_turn_of.nd rfl (by first | exact Or.inl rfl | exact Or.inr rfl) (pe_callH h_places_of (hr.mono (by decide)) rfl (pa_cons (pv 6) (pa_cons (pv 1) pa_nil))))
    (pss_cons (ps_if (pt_cmpR op_le (pv 2) (pe_callB cr_lenS rfl B.len bt_len (pa_cons (pv 3) pa_nil)) (nomark _)) (pss_one (ps_ret (pe_ix ix_list (pv 3) (pe_op op_sub (pv 2) pe_int) (fun _ _ => rfl)))) pss_nil)
    (pss_cons (ps_set (i := 4) sc_turn_of.nd rfl (by first | exact Or.inl rfl | exact Or.inr rfl) (pe_callH h_places_of (hr.mono (by decide)) rfl (pa_cons (pv 7) (pa_cons (pv 1) pa_nil))))
    (pss_cons (ps_if (pt_cmpR (op_eqD hr.units) (pv 4) (pe_lst pa_nil) (nomark _)) (pss_one (ps_ret pe_non)) pss_nil)
    (pss_cons (ps_set (i := 5) sc_turn_of.nd rfl (by first | exact Or.inl rfl | exact Or.inr rfl) (pe_op op_sub (pe_op op_sub (pv 2) (pe_callB cr_lenS rfl B.len bt_len (pa_cons (pv 3) pa_nil))) pe_int))
    (pss_one (ps_ret (pe_op op_add (pe_op op_add (pe_callB cr_lenS rfl B.len bt_len (pa_cons (pv 6) pa_nil)) (pe_op op_mul (pe_op op_fdivN (pv 5) (pe_callB cr_lenS rfl B.len bt_len (pa_cons (pv 4) pa_nil))) (pe_callB cr_lenS rfl B.len bt_len (pa_cons (pv 7) pa_nil)))) (pe_ix ix_list (pv 4) (pe_op op_modN (pv 5) (pe_callB cr_lenS rfl B.len bt_len (pa_cons (pv 4) pa_nil))) (fun _ _ => rfl)))))))))))))), fun ds R h => ?_⟩)
  obtain ⟨h, l, a, rfl, ⟨r, h0, h1⟩, rfl⟩ := h
  have q1 := r.hl
  have q2 := r.ll
  walk_at "drop"
  walk_at "drop"
  walk_at "drop"
  walk_at "unp2"
  walk_at "asg"
  have p1 := plc_len h a
  have p2 := plc_len l a
  have el : ((ID (plc h a)).length : Nat) = (plc h a).length := List.length_map _
  walk_at "if"
  · intro hb
    have hb := of_decide_eq_true hb
    rw [el] at hb
    apply xs_retE
    · walk_at "xd"
    · exact rfl
    · unfold turnF
      cases e : plc h a with
      | nil =>
        rw [e] at hb
        exact absurd hb (by simp)
      | cons x xs => rfl
  · intro hb
    have hb := of_decide_eq_false hb
    rw [el] at hb
    have e0 : plc h a = [] := List.eq_nil_of_length_eq_zero (by omega)
    refine xs_next ?_
    walk_at "asg"
    apply xs_seq; apply xs_if
    · apply xt_T
      apply xd_eqD (a := .lst (ID (plc l a))) (b := .lst [])
      · walk_at "xd"
      · walk_at "xd"
      · exact ceq_nil _
    · intro hb
      have hb := of_decide_eq_true hb
      apply xs_retE
      · walk_at "xd"
      · exact rfl
      · unfold turnF
        rw [e0, hb]
        rfl
    · intro hb
      have hb := of_decide_eq_false hb
      refine xs_next ?_
      obtain ⟨y, ys, e1⟩ : ∃ y ys, plc l a = y :: ys := by
        cases e : plc l a with
        | nil => exact absurd e hb
        | cons y ys => exact ⟨y, ys, rfl⟩
      have el2 : ((ID (plc l a)).length : Nat) = ys.length + 1 := by rw [List.length_map, e1]; rfl
      have p3 : ys.length + 1 ≤ l.length := by rw [e1] at p2; exact p2
      apply xs_seq; apply xs_asgD (x := .int 0)
      · apply XD.eq
        · walk_at "xd"
        · rw [e0]
          rfl
      apply xs_retE
      · apply xd_add
        · apply xd_add
          · walk_at "xd"
          · apply xd_mul
            · apply xd_fdiv
              · walk_at "xd"
              · walk_at "xd"
              · rw [el2]
                exact ⟨by omega, by omega⟩
            · walk_at "xd"
            · rw [Int.zero_fdiv]
              exact .inl ⟨by decide, by decide⟩
        · apply xd_ixI
          · walk_at "xl"
          · apply xd_mod
            · walk_at "xd"
            · walk_at "xd"
            · rw [el2]
              omega
          · rw [el2, Int.zero_fmod, e1, List.length_cons]
            omega
      · exact rfl
      · unfold turnF
        rw [Int.zero_fdiv, Int.zero_fmod, Int.zero_mul, List.length_map, e0, e1]
        simp [optD]
/-! root_of -/
theorem rep_data (l : List Int) (k : Nat) (hk : 0 < k) : (List.replicate (Int.fdiv ((ID l).length : Nat) (k : Int)).toNat (cutD (ID l) none (some (k : Int)))).flatten = ID (rep l k) := by
  rw [cutD_map, cutD_pre _ _ (by omega), List.length_map, Int.fdiv_eq_ediv_of_nonneg _ (by omega), ← Int.natCast_ediv, Int.toNat_natCast, Int.toNat_natCast]
  unfold rep ID
  rw [List.map_flatten, List.map_replicate]
/-- the root: the first k that does it -/
structure IsRoot (l r : List Int) : Prop where
  ex : ∃ k, 1 ≤ k ∧ k ≤ l.length ∧ rep l k = l ∧ (∀ j, 1 ≤ j → j < k → rep l j ≠ l) ∧ r = l.take k
theorem IsRoot.one {l r r' : List Int} (a : IsRoot l r) (b : IsRoot l r') : r = r' := by
  obtain ⟨k, h1, h2, h3, h4, rfl⟩ := a
  obtain ⟨j, g1, g2, g3, g4, rfl⟩ := b
  rcases Nat.lt_trichotomy k j with c | c | c
  · exact absurd h3 (g4 k h1 c)
  · rw [c]
  · exact absurd g3 (h4 j g1 c)
def sg_root_of : Sg := fun ds R => ∃ l, ds = [.lst (ID l)] ∧ (l ≠ [] ∧ l.length ≤ 4000) ∧ R = fun x => ∃ r, x = .lst (ID r) ∧ IsRoot l r
abbrev N_root_of : List Str := ["lap", "size"]
theorem sc_root_of : FnScope N_root_of ["lap"] (defScope (top 39)) := ⟨rfl, rfl, rfl, by decide +kernel, rfl, by decide +kernel, by decide +kernel⟩
abbrev H_root_of (P : Program) (w : World) (K : PySem.W.Frag) (mg : Str → Option Value) (base : Heap) : Prop := Has P w K mg base "root_of" 1 ["lap"] (spX K sg_root_of)

theorem ok_root_of (B : Blt K mg) (Df : Dfd K mg "root_of" 39)  : H_root_of P w K mg base := by
  refine has_mk Df (fun _ _ _ _ _ _ us hl => match us, hl with | [_], _ => rfl) fun f fd F => ?_
  refine fn_ok F sc_root_of (fun ds R ⟨_, e, _⟩ => e ▸ rfl) (fun cdv A outer s H E hr => ⟨_, (pss_cons (ps_set (i := 1) sc_root_of.nd rfl (by first | exact Or.inl rfl | exact Or.inr rfl) pe_int)
    (pss_cons (ps_while PassesOwn.never (pt_cmpR (op_neD hr.units) (pe_op op_rep (pe_slice sl_list (pv 0) po_none (po_some (pv 1))) (pe_op op_fdivN (pe_callB cr_lenS rfl B.len bt_len (pa_cons (pv 0) pa_nil)) (pv 1))) (pv 0) (nomark _)) (pss_one (ps_aug (i := 1) sc_root_of.nd rfl (by first | exact Or.inl rfl | exact Or.inr rfl) pe_int ip_add)))
    (pss_one (ps_ret (pe_slice sl_list (pv 0) po_none (po_some (pv 1))))))), fun ds R h => ?_⟩)
  obtain ⟨l, rfl, ⟨h0, h1⟩, rfl⟩ := h
  have hp : 0 < l.length := List.length_pos_iff.mpr h0
  have el : ((ID l).length : Nat) = l.length := List.length_map _
  walk_at "asg"
  apply xs_seq
  refine xs_while (fun m r => ∃ k : Nat, 1 ≤ k ∧ k ≤ l.length ∧ m = l.length - k ∧ r = [.d (.lst (ID l)), .d (.int (k : Nat))] ∧ ∀ j, 1 ≤ j → j < k → rep l j ≠ l) (l.length - 1) ⟨1, Nat.le_refl _, hp, rfl, rfl, fun j a b => by omega⟩ fun m r hm => ?_
  obtain ⟨k, k1, k2, rfl, rfl, k3⟩ := hm
  have dv : l.length / k * k ≤ l.length := Nat.div_mul_le_self _ _
  have dl : Int.fdiv ((ID l).length : Nat) (k : Int) = ((l.length / k : Nat) : Int) := by
    rw [el, Int.fdiv_eq_ediv_of_nonneg _ (by omega), Int.natCast_ediv]
  have dn : l.length / k ≤ l.length := Nat.div_le_self _ _
  generalize l.length / k = q at dv dl dn
  refine ⟨!decide (rep l k = l), ?_, fun hb => ?_, fun hb => ?_⟩
  · apply xt_T
    apply xd_neD (a := .lst (ID (rep l k))) (b := .lst (ID l))
    · apply XD.eq
      · apply xd_rep
        · apply xm_of
          walk_at "xd"
        · walk_at "xd"
        · rw [dl]
          omega
        · rw [dl]
          omega
        · rw [dl, cutD_map, cutD_pre _ _ (by omega), List.length_map, List.length_take, Int.toNat_natCast, Int.toNat_natCast, Nat.min_eq_left k2, Nat.mul_comm]
          omega
      · rw [rep_data l k (by omega)]
    · walk_at "xd"
    · exact ceq_ll _ _
  · have hne : rep l k ≠ l := fun z => by
      rw [z] at hb
      simp at hb
    have hk : k < l.length := by
      rcases Nat.lt_or_ge k l.length with c | c
      · exact c
      · have e : k = l.length := by omega
        subst e
        exact absurd (rep_self hp) hne
    apply xs_aug (a := (k : Int)) (b := 1) rfl xd_int
    refine ⟨l.length - (k + 1), by omega, k + 1, by omega, by omega, rfl, rfl, fun j a b => ?_⟩
    rcases Nat.lt_or_ge j k with c | c
    · exact k3 j a c
    · have e : j = k := by omega
      rw [e]
      exact hne
  · have he : rep l k = l := by
      by_cases c : rep l k = l
      · exact c
      · rw [decide_eq_false c] at hb
        exact absurd hb (by simp)
    apply xs_ret (R := Eq (.lst (cutD (ID l) none (some (k : Int)))))
    · walk_at "xd"
    · intro x hx
      subst hx
      exact ⟨l.take k, by rw [cutD_map, cutD_pre _ _ (by omega), Int.toNat_natCast], ⟨k, k1, k2, he, k3, rfl⟩⟩
end
end Dx
end

section
set_option Elab.async false
set_option linter.all false
set_option maxRecDepth 100000
set_option maxHeartbeats 4000000
namespace Dx
open PySem PySem.Spec PyProof.Rows L2 Evl RZ
local macro_rules | `(tactic| walk_at "sd") => `(tactic| first | rfl | assumption | omega | exact Nat.le_of_ble_eq_true rfl | exact decide_eq_false (by omega) | exact decide_eq_true (by omega) | decide | (constructor <;> omega) | (simp only [List.length_map]; omega) | (simp only [List.length_map]; constructor <;> omega))
local macro_rules | `(tactic| walk_at "sd?") => `(tactic| first | walk_at "sd" | rotate_left)
local macro_rules | `(tactic| walk_at "xl") => `(tactic| first | exact xl_own rfl | (apply xl_of; walk_at "xd") | (apply xl_r; walk_at "xd"))
local macro_rules | `(tactic| walk_at "xm") => `(tactic| first | exact xm_own rfl | (apply xm_of; walk_at "xd"))
local macro_rules | `(tactic| walk_at "xu") => `(tactic| first | (apply xu_of; walk_at "xd") | (apply xu_r; walk_at "xd"))
local macro_rules | `(tactic| walk_at "xa") => `(tactic| first | exact xa_nil | (apply xa_cons; walk_at "xd"; walk_at "xa"))
local macro_rules | `(tactic| walk_at "xo") => `(tactic| first | exact xo_none | (apply xo_some; walk_at "xd"))
local macro_rules | `(tactic| walk_at "xd") => `(tactic| first
  | exact xd_int | exact xd_str | exact xd_bl | exact xd_non | exact xd_var rfl
  | (apply xd_add; walk_at "xd"; walk_at "xd") | (apply xd_sub; walk_at "xd"; walk_at "xd") | (apply xd_neg; walk_at "xd")
  | (apply xd_mul; walk_at "xd"; walk_at "xd"; walk_at "sd?") | (apply xd_fdiv; walk_at "xd"; walk_at "xd"; walk_at "sd?") | (apply xd_mod; walk_at "xd"; walk_at "xd"; walk_at "sd?")
  | (apply xd_lt; walk_at "xd"; walk_at "xd") | (apply xd_le; walk_at "xd"; walk_at "xd") | (apply xd_gt; walk_at "xd"; walk_at "xd") | (apply xd_ge; walk_at "xd"; walk_at "xd")
  | (apply xd_chainLe; walk_at "xd"; walk_at "xd"; walk_at "xd")
  | (apply xd_eqI; walk_at "xd"; walk_at "xd") | (apply xd_neI; walk_at "xd"; walk_at "xd") | (apply xd_eqS; walk_at "xd"; walk_at "xd") | (apply xd_neS; walk_at "xd"; walk_at "xd")
  | (apply xd_isN; walk_at "xd"; walk_at "xd") | (apply xd_notN; walk_at "xd"; walk_at "xd")
  | (apply xd_not; walk_at "xd") | (apply xd_and; walk_at "xd"; (intro _; walk_at "xd")) | (apply xd_or; walk_at "xd"; (intro _; walk_at "xd"))
  | (apply xd_ixT; walk_at "xu"; walk_at "xd"; rfl) | (apply xd_ixIU; walk_at "xu"; walk_at "xd"; walk_at "sd?") | (apply xd_ixI; walk_at "xl"; walk_at "xd"; walk_at "sd?") | (apply xd_ixL; walk_at "xl"; walk_at "xd"; walk_at "sd?")
  | (apply xd_tup; walk_at "xa"; walk_at "sd?") | (apply xd_lst; walk_at "xa"; walk_at "sd?")
  | (apply xd_len; walk_at "xl") | (apply xd_lenU; walk_at "xu") | (apply xd_abs; walk_at "xd") | (apply xd_min2; walk_at "xd"; walk_at "xd")
  | (apply xd_isi; walk_at "xd"; (first | exact kb_int | exact kb_int_bool | exact kb_tuple | exact kb_list | exact kb_str | exact kb_bool_bool))
  | (apply xd_slL; walk_at "xl"; walk_at "xo"; walk_at "xo") | (apply xd_slT; walk_at "xd"; walk_at "xo"; walk_at "xo")
  | (apply xd_cat; walk_at "xm"; walk_at "xm"; walk_at "sd?") | (apply xd_catT; walk_at "xd"; walk_at "xd"; walk_at "sd?")
  | (apply xd_list; walk_at "xl") | (apply xd_listU; walk_at "xu") | (apply xd_tuple; walk_at "xl") | (apply xd_tupleT; walk_at "xd")
  | (apply xe_call; walk_at "xa"; walk_at "sg"))
local macro_rules | `(tactic| walk_at "sg") => `(tactic| first | exact ⟨_, rfl, rfl⟩ | exact ⟨_, _, rfl, rfl⟩ | exact ⟨_, _, _, rfl, rfl⟩ | exact ⟨_, _, _, _, rfl, rfl⟩ | exact ⟨_, _, _, _, _, rfl, rfl⟩ | exact ⟨_, _, _, _, _, _, rfl, rfl⟩ | exact ⟨_, _, _, _, _, _, _, rfl, rfl⟩ | (refine' ⟨_, rfl, ?_, rfl⟩; walk_at "sd?") | (refine' ⟨_, _, rfl, ?_, rfl⟩; walk_at "sd?") | (refine' ⟨_, _, _, rfl, ?_, rfl⟩; walk_at "sd?") | (refine' ⟨_, _, _, _, rfl, ?_, rfl⟩; walk_at "sd?") | (refine' ⟨_, _, _, _, _, rfl, ?_, rfl⟩; walk_at "sd?") | (refine' ⟨_, _, _, _, _, _, rfl, ?_, rfl⟩; walk_at "sd?") | (refine' ⟨_, _, _, _, _, _, _, rfl, ?_, rfl⟩; walk_at "sd?"))
local macro_rules | `(tactic| walk_at "asg") => `(tactic| (apply xs_seq; apply xs_asgD; walk_at "xd"))
local macro_rules | `(tactic| walk_at "guard") => `(tactic| (apply xs_seq; apply xs_guard; walk_at "xt"; walk_at "sd?"))
local macro_rules | `(tactic| walk_at "ret") => `(tactic| (apply xs_retE; walk_at "xd"; exact rfl; walk_at "sd?"))
local macro_rules | `(tactic| walk_at "xt") => `(tactic| first
  | (apply xt_B; walk_at "xd") | (apply xt_T; walk_at "xd") | (apply xt_not; walk_at "xt") | (apply xt_and; walk_at "xt"; (intro _; walk_at "xt")) | (apply xt_or; walk_at "xt"; (intro _; walk_at "xt")) | exact xt_yes)
local macro_rules | `(tactic| walk_at "grd") => `(tactic| (apply xs_seq; apply xs_guard; walk_at "xt"))
local macro_rules | `(tactic| walk_at "grl") => `(tactic| (apply xs_guard; walk_at "xt"))
local macro_rules | `(tactic| walk_at "unp2") => `(tactic| (apply xs_seq; apply xs_asgG; walk_at "xd"; exact xg_tup (xgs_cons (xgs_cons xgs_nil)) rfl))
local macro_rules | `(tactic| walk_at "if") => `(tactic| (apply xs_seq; apply xs_if; walk_at "xt"))
local macro_rules | `(tactic| walk_at "drop") => `(tactic| (apply xs_seq; apply xs_drop; walk_at "xd"))

open Ma
section
variable {K : PySem.W.Frag} {ρ : List Sl} {ta tb tc te : TE}
theorem xd_last {ns : List Int} (ha : XL K ta ρ (ns.map D.int)) (hb : XD K tb ρ (.int (-1))) (h : ns ≠ []) : XD K (tOp (rIxL K) ta tb) ρ (.int (ns.getD (ns.length - 1) 0)) := by
  have hp := List.length_pos_iff.mpr h
  refine xd_ixL ha hb ?_
  unfold atI ixN
  rw [if_neg (by decide), if_pos (by rw [List.length_map]; omega)]
  show (ns.map D.int)[(-1 + ((ns.map D.int).length : Int)).toNat]? = _
  rw [List.getElem?_map, List.length_map, show (-1 + (ns.length : Int)).toNat = ns.length - 1 by omega, List.getElem?_eq_getElem (by omega), getD_lt (by omega)]
  rfl
theorem sIx_m1 (n d : Nat) : HT.sIx n d (some (-1)) = n - 1 := by
  show (if (-1 : Int) < 0 then ((-1 : Int) + (n : Int)).toNat else min (-1 : Int).toNat n) = _
  rw [if_pos (by decide)]
  omega
theorem cutD_init {α : Type} (xs : List α) : cutD xs none (some (-1)) = xs.dropLast := by
  unfold cutD
  rw [HT.sIx_none, List.drop_zero, List.dropLast_eq_take, sIx_m1, Nat.sub_zero]
theorem cutD_last (xs : List Int) (h : xs ≠ []) : cutD xs (some (-1)) none = [xs.getD (xs.length - 1) 0] := by
  have hp := List.length_pos_iff.mpr h
  unfold cutD
  rw [sIx_m1, HT.sIx_none, show xs.length - (xs.length - 1) = 1 by omega, List.drop_eq_getElem_cons (by omega), getD_lt (by omega)]
  rfl
end
section
variable {P : Program} {w : World} {K : PySem.W.Frag} {mg : Str → Option Value} {base : Heap}
/-- the least form -/
structure Least (h l h' l' : List Int) : Prop where
  nf : NF h' l'
  row : ∀ n, rowAt h' l' n = rowAt h l n
  hl : h'.length ≤ h.length
  ll : l'.length ≤ l.length
def sg_least_of : Sg := fun ds R => ∃ h l, ds = [run h l] ∧ RunOk h l ∧ R = fun x => ∃ h' l', x = run h' l' ∧ Least h l h' l'
abbrev N_least_of : List Str := ["running", "head", "lap"]
theorem sc_least_of : FnScope N_least_of ["running"] (defScope (top 40)) := ⟨rfl, rfl, rfl, by decide +kernel, rfl, by decide +kernel, by decide +kernel⟩
abbrev H_least_of (P : Program) (w : World) (K : PySem.W.Frag) (mg : Str → Option Value) (base : Heap) : Prop := Has P w K mg base "least_of" 6 ["running"] (spX K sg_least_of)

theorem ok_least_of (B : Blt K mg) (Df : Dfd K mg "least_of" 40) (h_root_of : H_root_of P w K mg base) (h_check_running : H_check_running P w K mg base) : H_least_of P w K mg base := by
  refine has_mk Df (fun _ _ _ _ _ _ us hl => match us, hl with | [_], _ => rfl) fun f fd F => ?_
  refine fn_ok F sc_least_of (fun ds R ⟨_, _, e, _⟩ => e ▸ rfl) (fun cdv A outer s H E hr => ⟨_, (pss_cons (ps_expr (pe_callH h_check_running (hr.mono (by decide)) rfl (pa_cons (pv 0) pa_nil)))
    (pss_cons (ps_set (i := 1) sc_least_of.nd rfl (by first | exact Or.inl rfl | exact Or.inr rfl) (pe_callTy cr_listS rfl B.list bt_list (pa_cons (pe_ix ix_tup (pv 0) pe_int (fun _ _ => rfl)) pa_nil)))
    (pss_cons (ps_set (i := 2) sc_least_of.nd rfl (by first | exact Or.inl rfl | exact Or.inr rfl) (pe_callH h_root_of (hr.mono (by decide)) rfl (pa_cons (pe_callTy cr_listS rfl B.list bt_list (pa_cons (pe_ix ix_tup (pv 0) pe_int (fun _ _ => rfl)) pa_nil)) pa_nil)))
    (pss_cons (ps_while PassesOwn.never (PW.pt (pw_and (pt_cmpR (op_neD hr.units) (pv 1) (pe_lst pa_nil) (nomark _)) (pw_and1 (pt_cmpR op_eq (pe_ix ix_list (pv 1) (pe_un un_neg pe_int) (fun _ _ => rfl)) (pe_ix ix_list (pv 2) (pe_un un_neg pe_int) (fun _ _ => rfl)) (nomark _))))) (pss_cons (ps_set (i := 1) sc_least_of.nd rfl (by first | exact Or.inl rfl | exact Or.inr rfl) (pe_slice sl_list (pv 1) po_none (po_some (pe_un un_neg pe_int))))
    (pss_one (ps_set (i := 2) sc_least_of.nd rfl (by first | exact Or.inl rfl | exact Or.inr rfl) (pe_op op_cat (pe_slice sl_list (pv 2) (po_some (pe_un un_neg pe_int)) po_none) (pe_slice sl_list (pv 2) po_none (po_some (pe_un un_neg pe_int))))))))
    (pss_one (ps_ret (pe_tup (pa_cons (pv 1) (pa_cons (pv 2) pa_nil))))))))), fun ds R h => ?_⟩)
  obtain ⟨h, l, rfl, r, rfl⟩ := h
  have hp := r.pos
  have hl := r.ll
  have hhl := r.hl
  have hne := r.ne
  walk_at "drop"
  walk_at "asg"
  apply xs_seq
  apply xs_asg
  · apply xe_call
    · walk_at "xa"
    · exact ⟨l, rfl, ⟨r.ne, r.ll⟩, rfl⟩
  · intro x hx
    obtain ⟨r', rfl, k, k1, k2, k3, k4, rfl⟩ := hx
    apply xs_seq
    refine xs_while (fun m ρ => ∃ h' l' : List Int, m = h'.length ∧ ρ = [.d (run h l), .d (.lst (ID h')), .d (.lst (ID l'))] ∧ Prim l' ∧ l' ≠ [] ∧ (∀ n, rowAt h' l' n = rowAt h l n) ∧ h'.length ≤ h.length ∧ l'.length ≤ l.length)
      h.length ⟨h, l.take k, rfl, rfl, root_prim k1 k2 k3 k4, fun z => ?_, fun n => ?_, Nat.le_refl _, by rw [List.length_take]; omega⟩ fun m ρ hm => ?_
    · have e : (l.take k).length = ([] : List Int).length := congrArg List.length z
      rw [List.length_take, Nat.min_eq_left k2] at e
      have e : k = 0 := e
      omega
    · unfold rowAt
      split
      · rfl
      · exact rep_per k1 k2 k3 _
    obtain ⟨h', l', rfl, rfl, i1, i2, i3, i4, i5⟩ := hm
    have lp := List.length_pos_iff.mpr i2
    refine ⟨!decide (h' = []) && decide (h'.getD (h'.length - 1) 0 = l'.getD (l'.length - 1) 0), ?_, fun hb => ?_, fun hb => ?_⟩
    · apply xt_and
      · apply xt_T
        apply xd_neD (a := .lst (ID h')) (b := .lst [])
        · walk_at "xd"
        · walk_at "xd"
        · exact ceq_nil _
      · intro hb
        have hh : h' ≠ [] := fun z => by
          rw [z] at hb
          simp at hb
        apply xt_T
        apply xd_eqI
        · apply xd_last
          · walk_at "xl"
          · walk_at "xd"
          · exact hh
        · apply xd_last
          · walk_at "xl"
          · walk_at "xd"
          · exact i2
    · rw [Bool.and_eq_true] at hb
      obtain ⟨b1, b2⟩ := hb
      have b2 := of_decide_eq_true b2
      have hh : h' ≠ [] := fun z => by
        rw [z] at b1
        simp at b1
      have hpos := List.length_pos_iff.mpr hh
      apply xs_seq
      apply xs_asgD (x := .lst (ID h'.dropLast))
      · apply XD.eq
        · walk_at "xd"
        · show D.lst (cutD (ID h') none (some (-1))) = _
          rw [cutD_map, cutD_init]
      apply xs_asgD (x := .lst (ID (back l')))
      · apply XD.eq
        · apply xd_cat
          · apply xm_of
            walk_at "xd"
          · apply xm_of
            walk_at "xd"
          · show (cutD (ID l') (some (-1)) none).length + (cutD (ID l') none (some (-1))).length ≤ _
            rw [cutD_map, cutD_map, cutD_init, cutD_last _ i2, List.length_map, List.length_map, List.length_dropLast]
            show 1 + _ ≤ _
            omega
        · show D.lst (cutD (ID l') (some (-1)) none ++ cutD (ID l') none (some (-1))) = _
          rw [cutD_map, cutD_map, cutD_init, cutD_last _ i2, ← List.map_append]
          rfl
      refine ⟨h'.dropLast.length, by rw [List.length_dropLast]; omega, h'.dropLast, back l', rfl, rfl, back_prim i2 i1, fun z => ?_, fun n => ?_, by rw [List.length_dropLast]; omega, by rw [back_len i2]; exact i5⟩
      · unfold back at z
        cases z
      · rw [back_row i2 hh b2, i3]
    · refine xs_ret (R := Eq (run h' l')) ?_ fun x hx => ?_
      · walk_at "xd"
      · subst hx
        refine ⟨h', l', rfl, ⟨i2, i1, ?_⟩, i3, i4, i5⟩
        by_cases c : h' = []
        · exact .inl c
        · right
          rw [getLast_getD c, getLast_getD i2]
          intro z
          rw [decide_eq_false c, decide_eq_true (Option.some.inj z)] at hb
          exact absurd hb (by decide)
end
end Dx
end

section
set_option Elab.async false
set_option linter.all false
set_option maxRecDepth 100000
set_option maxHeartbeats 4000000
namespace Dx
open PySem PySem.Spec PyProof.Rows L2 Evl RZ
local macro_rules | `(tactic| walk_at "sd") => `(tactic| first | rfl | assumption | omega | exact Nat.le_of_ble_eq_true rfl | exact decide_eq_false (by omega) | exact decide_eq_true (by omega) | decide | (constructor <;> omega) | (simp only [List.length_map]; omega) | (simp only [List.length_map]; constructor <;> omega))
local macro_rules | `(tactic| walk_at "sd?") => `(tactic| first | walk_at "sd" | rotate_left)
local macro_rules | `(tactic| walk_at "xl") => `(tactic| first | exact xl_own rfl | (apply xl_of; walk_at "xd") | (apply xl_r; walk_at "xd"))
local macro_rules | `(tactic| walk_at "xm") => `(tactic| first | exact xm_own rfl | (apply xm_of; walk_at "xd"))
local macro_rules | `(tactic| walk_at "xu") => `(tactic| first | (apply xu_of; walk_at "xd") | (apply xu_r; walk_at "xd"))
local macro_rules | `(tactic| walk_at "xa") => `(tactic| first | exact xa_nil | (apply xa_cons; walk_at "xd"; walk_at "xa"))
local macro_rules | `(tactic| walk_at "xo") => `(tactic| first | exact xo_none | (apply xo_some; walk_at "xd"))
local macro_rules | `(tactic| walk_at "xd") => `(tactic| first
  | exact xd_int | exact xd_str | exact xd_bl | exact xd_non | exact xd_var rfl
  | (apply xd_add; walk_at "xd"; walk_at "xd") | (apply xd_sub; walk_at "xd"; walk_at "xd") | (apply xd_neg; walk_at "xd")
  | (apply xd_mul; walk_at "xd"; walk_at "xd"; walk_at "sd?") | (apply xd_fdiv; walk_at "xd"; walk_at "xd"; walk_at "sd?") | (apply xd_mod; walk_at "xd"; walk_at "xd"; walk_at "sd?")
  | (apply xd_lt; walk_at "xd"; walk_at "xd") | (apply xd_le; walk_at "xd"; walk_at "xd") | (apply xd_gt; walk_at "xd"; walk_at "xd") | (apply xd_ge; walk_at "xd"; walk_at "xd")
  | (apply xd_chainLe; walk_at "xd"; walk_at "xd"; walk_at "xd")
  | (apply xd_eqI; walk_at "xd"; walk_at "xd") | (apply xd_neI; walk_at "xd"; walk_at "xd") | (apply xd_eqS; walk_at "xd"; walk_at "xd") | (apply xd_neS; walk_at "xd"; walk_at "xd")
  | (apply xd_isN; walk_at "xd"; walk_at "xd") | (apply xd_notN; walk_at "xd"; walk_at "xd")
  | (apply xd_not; walk_at "xd") | (apply xd_and; walk_at "xd"; (intro _; walk_at "xd")) | (apply xd_or; walk_at "xd"; (intro _; walk_at "xd"))
  | (apply xd_ixT; walk_at "xu"; walk_at "xd"; rfl) | (apply xd_ixIU; walk_at "xu"; walk_at "xd"; walk_at "sd?") | (apply xd_ixI; walk_at "xl"; walk_at "xd"; walk_at "sd?") | (apply xd_ixL; walk_at "xl"; walk_at "xd"; walk_at "sd?")
  | (apply xd_tup; walk_at "xa"; walk_at "sd?") | (apply xd_lst; walk_at "xa"; walk_at "sd?")
  | (apply xd_len; walk_at "xl") | (apply xd_lenU; walk_at "xu") | (apply xd_abs; walk_at "xd") | (apply xd_min2; walk_at "xd"; walk_at "xd")
  | (apply xd_isi; walk_at "xd"; (first | exact kb_int | exact kb_int_bool | exact kb_tuple | exact kb_list | exact kb_str | exact kb_bool_bool))
  | (apply xd_slL; walk_at "xl"; walk_at "xo"; walk_at "xo") | (apply xd_slT; walk_at "xd"; walk_at "xo"; walk_at "xo")
  | (apply xd_cat; walk_at "xm"; walk_at "xm"; walk_at "sd?") | (apply xd_catT; walk_at "xd"; walk_at "xd"; walk_at "sd?")
  | (apply xd_list; walk_at "xl") | (apply xd_listU; walk_at "xu") | (apply xd_tuple; walk_at "xl") | (apply xd_tupleT; walk_at "xd")
  | (apply xe_call; walk_at "xa"; walk_at "sg"))
local macro_rules | `(tactic| walk_at "sg") => `(tactic| first | exact ⟨_, rfl, rfl⟩ | exact ⟨_, _, rfl, rfl⟩ | exact ⟨_, _, _, rfl, rfl⟩ | exact ⟨_, _, _, _, rfl, rfl⟩ | exact ⟨_, _, _, _, _, rfl, rfl⟩ | exact ⟨_, _, _, _, _, _, rfl, rfl⟩ | exact ⟨_, _, _, _, _, _, _, rfl, rfl⟩ | (refine' ⟨_, rfl, ?_, rfl⟩; walk_at "sd?") | (refine' ⟨_, _, rfl, ?_, rfl⟩; walk_at "sd?") | (refine' ⟨_, _, _, rfl, ?_, rfl⟩; walk_at "sd?") | (refine' ⟨_, _, _, _, rfl, ?_, rfl⟩; walk_at "sd?") | (refine' ⟨_, _, _, _, _, rfl, ?_, rfl⟩; walk_at "sd?") | (refine' ⟨_, _, _, _, _, _, rfl, ?_, rfl⟩; walk_at "sd?") | (refine' ⟨_, _, _, _, _, _, _, rfl, ?_, rfl⟩; walk_at "sd?"))
local macro_rules | `(tactic| walk_at "asg") => `(tactic| (apply xs_seq; apply xs_asgD; walk_at "xd"))
local macro_rules | `(tactic| walk_at "guard") => `(tactic| (apply xs_seq; apply xs_guard; walk_at "xt"; walk_at "sd?"))
local macro_rules | `(tactic| walk_at "ret") => `(tactic| (apply xs_retE; walk_at "xd"; exact rfl; walk_at "sd?"))
local macro_rules | `(tactic| walk_at "xt") => `(tactic| first
  | (apply xt_B; walk_at "xd") | (apply xt_T; walk_at "xd") | (apply xt_not; walk_at "xt") | (apply xt_and; walk_at "xt"; (intro _; walk_at "xt")) | (apply xt_or; walk_at "xt"; (intro _; walk_at "xt")) | exact xt_yes)
local macro_rules | `(tactic| walk_at "grd") => `(tactic| (apply xs_seq; apply xs_guard; walk_at "xt"))
local macro_rules | `(tactic| walk_at "grl") => `(tactic| (apply xs_guard; walk_at "xt"))
local macro_rules | `(tactic| walk_at "unp2") => `(tactic| (apply xs_seq; apply xs_asgG; walk_at "xd"; exact xg_tup (xgs_cons (xgs_cons xgs_nil)) rfl))
local macro_rules | `(tactic| walk_at "if") => `(tactic| (apply xs_seq; apply xs_if; walk_at "xt"))
local macro_rules | `(tactic| walk_at "drop") => `(tactic| (apply xs_seq; apply xs_drop; walk_at "xd"))

open Ma
section
variable {K : PySem.W.Frag} {ρ : List Sl} {ta tb tc te : TE}
theorem xd_in3 {x a b c : Str} {k : Bool} (ha : XD K ta ρ (.str x)) (hb : XU K tb ρ [.str a, .str b, .str c]) (e : decide (x ∈ [a, b, c]) = k) : XD K (tOp (rIn K false) ta tb) ρ (.bl k) := e ▸ xd_inS (ss := [a, b, c]) ha hb
theorem xd_in2 {x a b : Str} {k : Bool} (ha : XD K ta ρ (.str x)) (hb : XU K tb ρ [.str a, .str b]) (e : decide (x ∈ [a, b]) = k) : XD K (tOp (rIn K false) ta tb) ρ (.bl k) := e ▸ xd_inS (ss := [a, b]) ha hb
theorem xd_eqSk {i j : Str} {k : Bool} (ha : XD K ta ρ (.str i)) (hb : XD K tb ρ (.str j)) (e : decide (i = j) = k) : XD K (tOp rEq ta tb) ρ (.bl k) := e ▸ xd_eqS ha hb
end
local macro_rules | `(tactic| walk_at "stl") => `(tactic| first | (apply xd_eqSk; walk_at "xd"; walk_at "xd"; decide +kernel) | (apply xd_in3; walk_at "xd"; walk_at "xu"; decide +kernel) | (apply xd_in2; walk_at "xd"; walk_at "xu"; decide +kernel))
local macro_rules | `(tactic| walk_at "xk") => `(tactic| (first | walk_at "stl" | walk_at "xd"))
/-- a test that starts with a text's comparison -/
local macro_rules | `(tactic| walk_at "xtk") => `(tactic| first | (apply xt_not; walk_at "xtk") | (apply xt_andF; walk_at "xtk") | (apply xt_T; walk_at "stl") | (apply xt_B; walk_at "stl"))
section
variable {P : Program} {w : World} {K : PySem.W.Frag} {mg : Str → Option Value} {base : Heap}
def sg_plain_parts : Sg := fun ds R => ∃ s m, ds = [sd s] ∧ (nodeOk m s ∧ m ≤ 6 ∧ ((∃ a b, s = .went a b) ∨ (∃ a b c, s = .often a b c) ∨ ∃ a b c, s = .more a b c)) ∧ R = Eq (.tup [])
abbrev N_plain_parts : List Str := ["thing"]
theorem sc_plain_parts : FnScope N_plain_parts ["thing"] (defScope (top 46)) := ⟨rfl, rfl, rfl, by decide +kernel, rfl, by decide +kernel, by decide +kernel⟩
abbrev H_plain_parts (P : Program) (w : World) (K : PySem.W.Frag) (mg : Str → Option Value) (base : Heap) : Prop := Has P w K mg base "plain_parts" 3 ["thing"] (spX K sg_plain_parts)

theorem ok_plain_parts (B : Blt K mg) (Df : Dfd K mg "plain_parts" 46) (h_is_within : H_is_within P w K mg base) : H_plain_parts P w K mg base := by
  obtain ⟨_, c_FARTHEST⟩ := B.FARTHEST
  obtain ⟨_, c_MOST_CLAIMANTS⟩ := B.MOST_CLAIMANTS
  refine has_mk Df (fun _ _ _ _ _ _ us hl => match us, hl with | [_], _ => rfl) fun f fd F => ?_
  refine fn_ok F sc_plain_parts (fun ds R ⟨_, _, e, _⟩ => e ▸ rfl) (fun cdv A outer s H E hr => ⟨_, (pss_cons (ps_if (pt_not (pt_val (pe_callH h_is_within (hr.mono (by decide)) rfl (pa_cons (pe_ix ix_tup (pv 0) pe_int (fun _ _ => rfl)) (pa_cons pe_int (pa_cons (pe_op op_sub (pe_glob (v := .int 6) rfl c_MOST_CLAIMANTS ⟨_, rfl⟩) pe_int) pa_nil)))))) (pss_one (ps_ret pe_non)) pss_nil)
    (pss_cons (ps_if (PW.pt (pw_and (pt_cmpR op_eq (pe_ix ix_tup (pv 0) pe_int (fun _ _ => rfl)) pe_str (nomark _)) (pw_and (pt_cmpR op_eq (pe_callB cr_lenS rfl B.len bt_len (pa_cons (pv 0) pa_nil)) pe_int (nomark _)) (pw_and1 (pt_val (pe_callH h_is_within (hr.mono (by decide)) rfl (pa_cons (pe_ix ix_tup (pv 0) pe_int (fun _ _ => rfl)) (pa_cons pe_int (pa_cons (pe_glob (v := .int 5) rfl c_FARTHEST ⟨_, rfl⟩) pa_nil))))))))) (pss_one (ps_ret (pe_tup pa_nil))) pss_nil)
    (pss_cons (ps_if (PW.pt (pw_and (pt_cmpR op_eq (pe_ix ix_tup (pv 0) pe_int (fun _ _ => rfl)) pe_str (nomark _)) (pw_and (pt_cmpR op_eq (pe_callB cr_lenS rfl B.len bt_len (pa_cons (pv 0) pa_nil)) pe_int (nomark _)) (pw_and1 (pt_val (pe_callH h_is_within (hr.mono (by decide)) rfl (pa_cons (pe_ix ix_tup (pv 0) pe_int (fun _ _ => rfl)) (pa_cons pe_int (pa_cons (pe_glob (v := .int 5) rfl c_FARTHEST ⟨_, rfl⟩) pa_nil))))))))) (pss_one (ps_if (pt_val (pe_callH h_is_within (hr.mono (by decide)) rfl (pa_cons (pe_ix ix_tup (pv 0) pe_int (fun _ _ => rfl)) (pa_cons pe_int (pa_cons (pe_ix ix_tup (pv 0) pe_int (fun _ _ => rfl)) pa_nil))))) (pss_one (ps_ret (pe_tup pa_nil))) pss_nil)) pss_nil)
    (pss_cons (ps_if (PW.pt (pw_and (pt_cmpR op_eq (pe_ix ix_tup (pv 0) pe_int (fun _ _ => rfl)) pe_str (nomark _)) (pw_and (pt_cmpR op_eq (pe_callB cr_lenS rfl B.len bt_len (pa_cons (pv 0) pa_nil)) pe_int (nomark _)) (pw_and1 (pt_val (pe_callH h_is_within (hr.mono (by decide)) rfl (pa_cons (pe_ix ix_tup (pv 0) pe_int (fun _ _ => rfl)) (pa_cons pe_int (pa_cons (pe_glob (v := .int 5) rfl c_FARTHEST ⟨_, rfl⟩) pa_nil))))))))) (pss_one (ps_if (PW.pt (pw_and (pt_val (pe_callH h_is_within (hr.mono (by decide)) rfl (pa_cons (pe_ix ix_tup (pv 0) pe_int (fun _ _ => rfl)) (pa_cons pe_int (pa_cons (pe_op op_sub (pe_glob (v := .int 6) rfl c_MOST_CLAIMANTS ⟨_, rfl⟩) pe_int) pa_nil))))) (pw_and1 (pt_cmpR op_ne (pe_ix ix_tup (pv 0) pe_int (fun _ _ => rfl)) (pe_ix ix_tup (pv 0) pe_int (fun _ _ => rfl)) (nomark _))))) (pss_one (ps_ret (pe_tup pa_nil))) pss_nil)) pss_nil)
    (pss_one (ps_ret pe_non)))))), fun ds R h => ?_⟩)
  obtain ⟨s, m, rfl, ⟨h0, hm, h⟩, rfl⟩ := h
  rcases h with ⟨a, b, rfl⟩ | ⟨a, b, c, rfl⟩ | ⟨a, b, c, rfl⟩
  · obtain ⟨i1, i2, i3, i4⟩ := h0
    walk_at "grd"
    · simp
      omega
    apply xs_seq; apply xs_ifET
    · apply xt_andT
      · apply xt_T; walk_at "stl"
      · walk_at "xt"
    · simp
      omega
    · walk_at "ret"
  · obtain ⟨i1, i2, i3, i4, i5, i6⟩ := h0
    walk_at "grd"
    · simp
      omega
    apply xs_seq; apply xs_ifEF
    · apply xt_andF
      apply xt_T; walk_at "stl"
    · rfl
    · refine xs_next ?_
      apply xs_seq; apply xs_ifET
      · apply xt_andT
        · apply xt_T; walk_at "stl"
        · walk_at "xt"
      · simp
        omega
      · apply xs_ifET
        · walk_at "xt"
        · simp
          omega
        · walk_at "ret"
  · obtain ⟨i1, i2, i3, i4, i5, i6, i7⟩ := h0
    walk_at "grd"
    · simp
      omega
    apply xs_seq; apply xs_ifEF
    · apply xt_andF
      apply xt_T; walk_at "stl"
    · rfl
    · refine xs_next ?_
      apply xs_seq; apply xs_ifEF
      · apply xt_andF
        apply xt_T; walk_at "stl"
      · rfl
      · refine xs_next ?_
        apply xs_seq; apply xs_ifET
        · apply xt_andT
          · apply xt_T; walk_at "stl"
          · walk_at "xt"
        · simp
          omega
        · apply xs_ifET
          · walk_at "xt"
          · simp
            omega
          · walk_at "ret"
def sg_parts_of : Sg := fun ds R => ∃ s m, ds = [sd s] ∧ (nodeOk m s ∧ m ≤ 6) ∧ R = Eq (.tup (sds s.parts))
abbrev N_parts_of : List Str := ["thing"]
theorem sc_parts_of : FnScope N_parts_of ["thing"] (defScope (top 47)) := ⟨rfl, rfl, rfl, by decide +kernel, rfl, by decide +kernel, by decide +kernel⟩
abbrev H_parts_of (P : Program) (w : World) (K : PySem.W.Frag) (mg : Str → Option Value) (base : Heap) : Prop := Has P w K mg base "parts_of" 4 ["thing"] (spX K sg_parts_of)

theorem ok_parts_of (B : Blt K mg) (Df : Dfd K mg "parts_of" 47) (h_plain_parts : H_plain_parts P w K mg base) : H_parts_of P w K mg base := by
  obtain ⟨_, c_MOST_SIDE⟩ := B.MOST_SIDE
  refine has_mk Df (fun _ _ _ _ _ _ us hl => match us, hl with | [_], _ => rfl) fun f fd F => ?_
  refine fn_ok F sc_parts_of (fun ds R ⟨_, _, e, _⟩ => e ▸ rfl) (fun cdv A outer s H E hr => ⟨_, (pss_cons (ps_if (PW.pt (pw_or (pt_not (pt_val (pe_callB call_isi rfl B.isinstance bt_isinstance (pa_cons (pv 0) (pa_cons (pe_ty rfl B.tuple bt_tuple) pa_nil))))) (pw_or (pt_cmpR op_lt (pe_callB cr_lenS rfl B.len bt_len (pa_cons (pv 0) pa_nil)) pe_int (nomark _)) (pw_or1 (pt_not (pt_val (pe_callB call_isi rfl B.isinstance bt_isinstance (pa_cons (pe_ix ix_tup (pv 0) pe_int (fun _ _ => rfl)) (pa_cons (pe_ty rfl B.str bt_str) pa_nil))))))))) (pss_one (ps_ret pe_non)) pss_nil)
    (pss_cons (ps_if (pt_cmpR op_in_seq (pe_ix ix_tup (pv 0) pe_int (fun _ _ => rfl)) (pe_tup (pa_cons pe_str (pa_cons pe_str (pa_cons pe_str pa_nil)))) (by rfl)) (pss_one (ps_ret (pe_callH h_plain_parts (hr.mono (by decide)) rfl (pa_cons (pv 0) pa_nil)))) pss_nil)
    (pss_cons (ps_if (PW.pt (pw_and (pt_cmpR op_eq (pe_ix ix_tup (pv 0) pe_int (fun _ _ => rfl)) pe_str (nomark _)) (pw_and1 (pt_cmpR op_eq (pe_callB cr_lenS rfl B.len bt_len (pa_cons (pv 0) pa_nil)) pe_int (nomark _))))) (pss_one (ps_ret (pe_tup (pa_cons (pe_ix ix_tup (pv 0) pe_int (fun _ _ => rfl)) pa_nil)))) pss_nil)
    (pss_cons (ps_if (PW.pt (pw_and (pt_cmpR op_in_seq (pe_ix ix_tup (pv 0) pe_int (fun _ _ => rfl)) (pe_tup (pa_cons pe_str (pa_cons pe_str pa_nil))) (by rfl)) (pw_and (pt_cmpR op_eq (pe_callB cr_lenS rfl B.len bt_len (pa_cons (pv 0) pa_nil)) pe_int (nomark _)) (pw_and (pt_val (pe_callB call_isi rfl B.isinstance bt_isinstance (pa_cons (pe_ix ix_tup (pv 0) pe_int (fun _ _ => rfl)) (pa_cons (pe_ty rfl B.tuple bt_tuple) pa_nil)))) (pw_and1 (pt_cmpR op_le (pe_callB cr_lenS rfl B.len bt_len (pa_cons (pe_ix ix_tup (pv 0) pe_int (fun _ _ => rfl)) pa_nil)) (pe_glob (v := .int 4) rfl c_MOST_SIDE ⟨_, rfl⟩) (nomark _))))))) (pss_one (ps_ret (pe_ix ix_tup (pv 0) pe_int (fun _ _ => rfl)))) pss_nil)
    (pss_one (ps_ret pe_non)))))), fun ds R h => ?_⟩)
  obtain ⟨s, m, rfl, ⟨h0, hm⟩, rfl⟩ := h
  cases s with
  | went a b =>
    walk_at "grd"
    · rfl
    apply xs_seq; apply xs_ifT
    · apply xt_T; walk_at "stl"
    · apply xs_retE
      · apply xe_call; walk_at "xa"
        exact ⟨.went a b, m, rfl, ⟨h0, hm, .inl ⟨_, _, rfl⟩⟩, rfl⟩
      · exact rfl
      · rfl
  | often a b c =>
    walk_at "grd"
    · rfl
    apply xs_seq; apply xs_ifT
    · apply xt_T; walk_at "stl"
    · apply xs_retE
      · apply xe_call; walk_at "xa"
        exact ⟨.often a b c, m, rfl, ⟨h0, hm, .inr (.inl ⟨_, _, _, rfl⟩)⟩, rfl⟩
      · exact rfl
      · rfl
  | more a b c =>
    walk_at "grd"
    · rfl
    apply xs_seq; apply xs_ifT
    · apply xt_T; walk_at "stl"
    · apply xs_retE
      · apply xe_call; walk_at "xa"
        exact ⟨.more a b c, m, rfl, ⟨h0, hm, .inr (.inr ⟨_, _, _, rfl⟩)⟩, rfl⟩
      · exact rfl
      · rfl
  | nt s =>
    walk_at "grd"
    · rfl
    apply xs_seq; apply xs_ifF
    · apply xt_T; walk_at "stl"
    · refine xs_next ?_
      apply xs_seq; apply xs_ifET
      · apply xt_andT
        · apply xt_T; walk_at "stl"
        · walk_at "xt"
      · rfl
      · apply xs_retE
        · walk_at "xd"
        · exact rfl
        · rfl
  | an ss =>
    have h4 : ss.length ≤ 4 := h0
    walk_at "grd"
    · rfl
    apply xs_seq; apply xs_ifF
    · apply xt_T; walk_at "stl"
    · refine xs_next ?_
      apply xs_seq; apply xs_ifEF
      · apply xt_andF
        apply xt_T; walk_at "stl"
      · rfl
      · refine xs_next ?_
        apply xs_seq; apply xs_ifET
        · apply xt_andT
          · apply xt_T; walk_at "stl"
          · walk_at "xt"
        · rw [sds_map]
          simp
          omega
        · apply xs_retE
          · walk_at "xd"
          · exact rfl
          · rfl
  | orr ss =>
    have h4 : ss.length ≤ 4 := h0
    walk_at "grd"
    · rfl
    apply xs_seq; apply xs_ifF
    · apply xt_T; walk_at "stl"
    · refine xs_next ?_
      apply xs_seq; apply xs_ifEF
      · apply xt_andF
        apply xt_T; walk_at "stl"
      · rfl
      · refine xs_next ?_
        apply xs_seq; apply xs_ifET
        · apply xt_andT
          · apply xt_T; walk_at "stl"
          · walk_at "xt"
        · rw [sds_map]
          simp
          omega
        · apply xs_retE
          · walk_at "xd"
          · exact rfl
          · rfl
end
end Dx
end

section
set_option Elab.async false
set_option linter.all false
set_option maxRecDepth 100000
set_option maxHeartbeats 4000000
namespace Dx
open PySem PySem.Spec PyProof.Rows L2 Evl RZ
local macro_rules | `(tactic| walk_at "sd") => `(tactic| first | rfl | assumption | omega | exact Nat.le_of_ble_eq_true rfl | exact decide_eq_false (by omega) | exact decide_eq_true (by omega) | decide | (constructor <;> omega) | (simp only [List.length_map]; omega) | (simp only [List.length_map]; constructor <;> omega))
local macro_rules | `(tactic| walk_at "sd?") => `(tactic| first | walk_at "sd" | rotate_left)
local macro_rules | `(tactic| walk_at "xl") => `(tactic| first | exact xl_own rfl | (apply xl_of; walk_at "xd") | (apply xl_r; walk_at "xd"))
local macro_rules | `(tactic| walk_at "xm") => `(tactic| first | exact xm_own rfl | (apply xm_of; walk_at "xd"))
local macro_rules | `(tactic| walk_at "xu") => `(tactic| first | (apply xu_of; walk_at "xd") | (apply xu_r; walk_at "xd"))
local macro_rules | `(tactic| walk_at "xa") => `(tactic| first | exact xa_nil | (apply xa_cons; walk_at "xd"; walk_at "xa"))
local macro_rules | `(tactic| walk_at "xo") => `(tactic| first | exact xo_none | (apply xo_some; walk_at "xd"))
local macro_rules | `(tactic| walk_at "xd") => `(tactic| first
  | exact xd_int | exact xd_str | exact xd_bl | exact xd_non | exact xd_var rfl
  | (apply xd_add; walk_at "xd"; walk_at "xd") | (apply xd_sub; walk_at "xd"; walk_at "xd") | (apply xd_neg; walk_at "xd")
  | (apply xd_mul; walk_at "xd"; walk_at "xd"; walk_at "sd?") | (apply xd_fdiv; walk_at "xd"; walk_at "xd"; walk_at "sd?") | (apply xd_mod; walk_at "xd"; walk_at "xd"; walk_at "sd?")
  | (apply xd_lt; walk_at "xd"; walk_at "xd") | (apply xd_le; walk_at "xd"; walk_at "xd") | (apply xd_gt; walk_at "xd"; walk_at "xd") | (apply xd_ge; walk_at "xd"; walk_at "xd")
  | (apply xd_chainLe; walk_at "xd"; walk_at "xd"; walk_at "xd")
  | (apply xd_eqI; walk_at "xd"; walk_at "xd") | (apply xd_neI; walk_at "xd"; walk_at "xd") | (apply xd_eqS; walk_at "xd"; walk_at "xd") | (apply xd_neS; walk_at "xd"; walk_at "xd")
  | (apply xd_isN; walk_at "xd"; walk_at "xd") | (apply xd_notN; walk_at "xd"; walk_at "xd")
  | (apply xd_not; walk_at "xd") | (apply xd_and; walk_at "xd"; (intro _; walk_at "xd")) | (apply xd_or; walk_at "xd"; (intro _; walk_at "xd"))
  | (apply xd_ixT; walk_at "xu"; walk_at "xd"; rfl) | (apply xd_ixIU; walk_at "xu"; walk_at "xd"; walk_at "sd?") | (apply xd_ixI; walk_at "xl"; walk_at "xd"; walk_at "sd?") | (apply xd_ixL; walk_at "xl"; walk_at "xd"; walk_at "sd?")
  | (apply xd_tup; walk_at "xa"; walk_at "sd?") | (apply xd_lst; walk_at "xa"; walk_at "sd?")
  | (apply xd_len; walk_at "xl") | (apply xd_lenU; walk_at "xu") | (apply xd_abs; walk_at "xd") | (apply xd_min2; walk_at "xd"; walk_at "xd")
  | (apply xd_isi; walk_at "xd"; (first | exact kb_int | exact kb_int_bool | exact kb_tuple | exact kb_list | exact kb_str | exact kb_bool_bool))
  | (apply xd_slL; walk_at "xl"; walk_at "xo"; walk_at "xo") | (apply xd_slT; walk_at "xd"; walk_at "xo"; walk_at "xo")
  | (apply xd_cat; walk_at "xm"; walk_at "xm"; walk_at "sd?") | (apply xd_catT; walk_at "xd"; walk_at "xd"; walk_at "sd?")
  | (apply xd_list; walk_at "xl") | (apply xd_listU; walk_at "xu") | (apply xd_tuple; walk_at "xl") | (apply xd_tupleT; walk_at "xd")
  | (apply xe_call; walk_at "xa"; walk_at "sg"))
local macro_rules | `(tactic| walk_at "sg") => `(tactic| first | exact ⟨_, rfl, rfl⟩ | exact ⟨_, _, rfl, rfl⟩ | exact ⟨_, _, _, rfl, rfl⟩ | exact ⟨_, _, _, _, rfl, rfl⟩ | exact ⟨_, _, _, _, _, rfl, rfl⟩ | exact ⟨_, _, _, _, _, _, rfl, rfl⟩ | exact ⟨_, _, _, _, _, _, _, rfl, rfl⟩ | (refine' ⟨_, rfl, ?_, rfl⟩; walk_at "sd?") | (refine' ⟨_, _, rfl, ?_, rfl⟩; walk_at "sd?") | (refine' ⟨_, _, _, rfl, ?_, rfl⟩; walk_at "sd?") | (refine' ⟨_, _, _, _, rfl, ?_, rfl⟩; walk_at "sd?") | (refine' ⟨_, _, _, _, _, rfl, ?_, rfl⟩; walk_at "sd?") | (refine' ⟨_, _, _, _, _, _, rfl, ?_, rfl⟩; walk_at "sd?") | (refine' ⟨_, _, _, _, _, _, _, rfl, ?_, rfl⟩; walk_at "sd?"))
local macro_rules | `(tactic| walk_at "asg") => `(tactic| (apply xs_seq; apply xs_asgD; walk_at "xd"))
local macro_rules | `(tactic| walk_at "guard") => `(tactic| (apply xs_seq; apply xs_guard; walk_at "xt"; walk_at "sd?"))
local macro_rules | `(tactic| walk_at "ret") => `(tactic| (apply xs_retE; walk_at "xd"; exact rfl; walk_at "sd?"))
local macro_rules | `(tactic| walk_at "xt") => `(tactic| first
  | (apply xt_B; walk_at "xd") | (apply xt_T; walk_at "xd") | (apply xt_not; walk_at "xt") | (apply xt_and; walk_at "xt"; (intro _; walk_at "xt")) | (apply xt_or; walk_at "xt"; (intro _; walk_at "xt")) | exact xt_yes)
local macro_rules | `(tactic| walk_at "grd") => `(tactic| (apply xs_seq; apply xs_guard; walk_at "xt"))
local macro_rules | `(tactic| walk_at "grl") => `(tactic| (apply xs_guard; walk_at "xt"))
local macro_rules | `(tactic| walk_at "unp2") => `(tactic| (apply xs_seq; apply xs_asgG; walk_at "xd"; exact xg_tup (xgs_cons (xgs_cons xgs_nil)) rfl))
local macro_rules | `(tactic| walk_at "if") => `(tactic| (apply xs_seq; apply xs_if; walk_at "xt"))
local macro_rules | `(tactic| walk_at "drop") => `(tactic| (apply xs_seq; apply xs_drop; walk_at "xd"))

open Ma
local macro_rules | `(tactic| walk_at "stl") => `(tactic| first | (apply xd_eqSk; walk_at "xd"; walk_at "xd"; decide +kernel) | (apply xd_in3; walk_at "xd"; walk_at "xu"; decide +kernel) | (apply xd_in2; walk_at "xd"; walk_at "xu"; decide +kernel))
/-- a sentence that the law may meet -/
structure SOk (m : Int) (s : Sent) : Prop where
  ok : AllOk m s
  m6 : m ≤ 6
  dp : dep s ≤ 4
  sz : (vis s).length ≤ 40
theorem SOk.part {m : Int} {s p : Sent} (h : SOk m s) (hp : p ∈ s.parts) : AllOk m p ∧ dep p + 1 ≤ dep s := ⟨h.ok.part hp, dep_parts hp⟩
theorem mem_vis (s : Sent) : s ∈ vis s := by rw [vis_parts]; exact List.mem_cons_self
theorem mem_visR : ∀ {T : List Sent} {t u : Sent}, t ∈ T → u ∈ vis t → u ∈ visR T
  | s :: T, t, u, h, hu => by
    rw [visR_cons]
    rcases List.mem_cons.mp h with rfl | h
    · exact List.mem_append_right _ hu
    · exact List.mem_append_left _ (mem_visR h hu)
theorem snoc_or {α : Type} (T : List α) : T = [] ∨ ∃ T' x, T = T' ++ [x] := by
  cases T with
  | nil => exact .inl rfl
  | cons a r => exact .inr ⟨(a :: r).dropLast, (a :: r).getLast (by simp), (List.dropLast_concat_getLast (by simp)).symm⟩
theorem take_fm {α β : Type} (f : α → List β) (l : List α) (i : Nat) {a : α} (h : l[i]? = some a) : (l.take (i + 1)).flatMap f = (l.take i).flatMap f ++ f a := by
  rw [List.take_add_one, h, List.flatMap_append]
  show _ ++ (f a ++ []) = _
  rw [List.append_nil]
def backOf : Sent → List Int
  | .went _ b => [b] | .often _ b _ => [b] | .more _ _ b => [b] | _ => []
def whoOf : Sent → List Int
  | .went w _ => [w] | .often w _ _ => [w] | .more w o _ => [w, o] | _ => []
def mx (l : List Int) : Int := l.foldr max 0
theorem mx_of : ∀ {l : List Int} {m : Int}, m ∈ (0 : Int) :: l → (∀ y ∈ (0 : Int) :: l, y ≤ m) → m = mx l := by
  intro l m h1 h2
  have up : ∀ (l : List Int), 0 ≤ mx l ∧ (∀ y ∈ l, y ≤ mx l) ∧ (mx l = 0 ∨ mx l ∈ l) := by
    intro l
    induction l with
    | nil => exact ⟨Int.le_refl _, (fun y hy => nomatch hy), Or.inl rfl⟩
    | cons a l ih =>
      obtain ⟨i1, i2, i3⟩ := ih
      have e : mx (a :: l) = max a (mx l) := rfl
      refine ⟨by omega, fun y hy => ?_, ?_⟩
      · rcases List.mem_cons.mp hy with rfl | hy
        · omega
        · have := i2 y hy
          omega
      · by_cases c : a ≤ mx l
        · rw [e, Int.max_eq_right c]
          rcases i3 with i3 | i3
          · exact .inl i3
          · exact .inr (List.mem_cons_of_mem _ i3)
        · rw [e, Int.max_eq_left (by omega)]
          exact .inr List.mem_cons_self
  obtain ⟨i1, i2, i3⟩ := up l
  have a1 : m ≤ mx l := by
    rcases List.mem_cons.mp h1 with rfl | h1
    · exact i1
    · exact i2 m h1
  have a2 : mx l ≤ m := by
    rcases i3 with i3 | i3
    · rw [i3]
      exact h2 0 List.mem_cons_self
    · exact h2 _ (List.mem_cons_of_mem _ i3)
  omega
theorem ids_snoc (c : Int) (A B : List Int) (x y : Sl) : [x, .l (ID (c :: A) ++ ID B), y] = [x, .l (ID (c :: (A ++ B))), y] := by
  rw [show ID (c :: (A ++ B)) = ID (c :: A) ++ ID B from congrArg (D.int c :: ·) (List.map_append (f := D.int) (l₁ := A) (l₂ := B))]
theorem ids_snoc2 (c : Int) (A : List Int) (a b : Int) (x y : Sl) : [x, .l ((ID (c :: A) ++ [.int a]) ++ [.int b]), y] = [x, .l (ID (c :: (A ++ [a, b]))), y] := by
  rw [List.append_assoc]
  exact ids_snoc c A [a, b] x y
theorem ids_same (c : Int) (A : List Int) (x y : Sl) : [x, .l (ID (c :: A)), y] = [x, .l (ID (c :: (A ++ []))), y] := by
  rw [List.append_nil]
def reachS (s : Sent) : Int := mx ((vis s).flatMap backOf)
theorem back_le {m : Int} {s : Sent} (h : nodeOk m s) : ∀ b ∈ backOf s, 1 ≤ b ∧ b ≤ 5 := by
  intro b hb
  cases s with
  | went w c =>
    rw [List.mem_singleton.mp hb]
    exact ⟨h.2.2.1, h.2.2.2⟩
  | often w c n =>
    rw [List.mem_singleton.mp hb]
    exact ⟨h.2.2.1, h.2.2.2.1⟩
  | more w o c =>
    rw [List.mem_singleton.mp hb]
    exact ⟨h.2.2.1, h.2.2.2.1⟩
  | _ => cases hb
theorem mx_le {l : List Int} {n : Int} (h0 : 0 ≤ n) (h : ∀ y ∈ l, y ≤ n) : mx l ≤ n := by
  induction l with
  | nil => exact h0
  | cons a l ih =>
    have := ih fun y hy => h y (List.mem_cons_of_mem _ hy)
    have := h a List.mem_cons_self
    show max a (mx l) ≤ n
    omega
theorem mx_nn : ∀ l : List Int, 0 ≤ mx l
  | [] => Int.le_refl _
  | a :: l => by
    have := mx_nn l
    show 0 ≤ max a (mx l)
    omega
theorem reachS_le {m : Int} {s : Sent} (h : SOk m s) : 0 ≤ reachS s ∧ reachS s ≤ 5 := ⟨mx_nn _, mx_le (by decide) fun y hy => by
  obtain ⟨t, ht, hb⟩ := List.mem_flatMap.mp hy
  exact (back_le (h.ok t ht) y hb).2⟩
section
variable {P : Program} {w : World} {K : PySem.W.Frag} {mg : Str → Option Value} {base : Heap}
def sg_all_within : Sg := fun ds R => ∃ s m, ds = [sd s] ∧ SOk m s ∧ R = Eq (.lst (sds (vis s)))
abbrev N_all_within : List Str := ["thing", "found", "todo", "one", "parts"]
theorem sc_all_within : FnScope N_all_within ["thing"] (defScope (top 48)) := ⟨rfl, rfl, rfl, by decide +kernel, rfl, by decide +kernel, by decide +kernel⟩
abbrev H_all_within (P : Program) (w : World) (K : PySem.W.Frag) (mg : Str → Option Value) (base : Heap) : Prop := Has P w K mg base "all_within" 5 ["thing"] (spX K sg_all_within)

theorem ok_all_within (B : Blt K mg) (Df : Dfd K mg "all_within" 48) (h_parts_of : H_parts_of P w K mg base) : H_all_within P w K mg base := by
  obtain ⟨_, c_MOST_WITHIN⟩ := B.MOST_WITHIN
  refine has_mk Df (fun _ _ _ _ _ _ us hl => match us, hl with | [_], _ => rfl) fun f fd F => ?_
  refine fn_ok F sc_all_within (fun ds R ⟨_, _, e, _⟩ => e ▸ rfl) (fun cdv A outer s H E hr => ⟨_, (pss_cons (ps_set (i := 1) sc_all_within.nd rfl (by first | exact Or.inl rfl | exact Or.inr rfl) (pe_lst pa_nil))
    (pss_cons (ps_set (i := 2) sc_all_within.nd rfl (by first | exact Or.inl rfl | exact Or.inr rfl) (pe_lst (pa_cons (pv 0) pa_nil)))
    (pss_cons (ps_while PassesOwn.never (pt_cmpR (op_neD hr.units) (pv 2) (pe_lst pa_nil) (nomark _)) (pss_cons (ps_set (i := 3) sc_all_within.nd rfl (by first | exact Or.inl rfl | exact Or.inr rfl) (pe_bm0 PySem.F.plainAttrs_list PySem.F.slot_list_pop PySem.F.type_list_pop mt_pop (pv 2)))
    (pss_cons (ps_set (i := 4) sc_all_within.nd rfl (by first | exact Or.inl rfl | exact Or.inr rfl) (pe_callH h_parts_of (hr.mono (by decide)) rfl (pa_cons (pv 3) pa_nil)))
    (pss_cons (ps_if (PW.pt (pw_or (pt_cmpR op_isNo (pv 4) pe_non (nomark _)) (pw_or1 (pt_cmpR op_eq (pe_callB cr_lenS rfl B.len bt_len (pa_cons (pv 1) pa_nil)) (pe_glob (v := .int 40) rfl c_MOST_WITHIN ⟨_, rfl⟩) (nomark _))))) (pss_one (ps_ret pe_non)) pss_nil)
    (pss_cons (ps_expr (pe_bm PySem.F.plainAttrs_list PySem.F.slot_list_append PySem.F.type_list_append mt_append (pv 1) (pa_cons (pv 3) pa_nil)))
    (pss_one (ps_expr (pe_bm PySem.F.plainAttrs_list PySem.F.slot_list_extend PySem.F.type_list_extend mt_extT (pv 2) (pa_cons (pv 4) pa_nil)))))))))
    (pss_one (ps_ret (pv 1)))))), fun ds R h => ?_⟩)
  obtain ⟨s, m, rfl, h0, rfl⟩ := h
  apply xs_seq; apply xs_asgM xa_nil (by decide)
  apply xs_seq; apply xs_asgM (xa_cons (xd_var rfl) xa_nil) (by show 1 ≤ 100000; decide)
  apply xs_seq
  refine xs_while (fun n r => ∃ (F T : List Sent) (s3 s4 : Sl), n = (visR T).length ∧ r = [.d (sd s), .l (sds F), .l (sds T), s3, s4] ∧ F ++ visR T = vis s) (visR [s]).length ⟨[], [s], .u, .u, rfl, rfl, ?_⟩ fun n r hm => ?_
  · rw [visR_cons, visR_nil]
    rfl
  obtain ⟨F, T, s3, s4, rfl, rfl, hv⟩ := hm
  have lv : F.length + (visR T).length = (vis s).length := by rw [← hv, List.length_append]
  have hsz := h0.sz
  have dT : deps T ≤ 4 := deps_of fun t ht => Nat.le_trans (dep_vis s t (by rw [← hv]; exact List.mem_append_right _ (mem_visR ht (mem_vis t)))) h0.dp
  refine ⟨!decide (T = []), ?_, fun hb => ?_, fun hb => ?_⟩
  · apply xt_T
    exact xd_neDM (b := .lst []) (xm_own rfl) (xd_lst xa_nil (by decide)) (ceq_sds dT)
  · rcases snoc_or T with rfl | ⟨T', x, rfl⟩
    · simp at hb
    rw [visR_snoc, visR_app] at hv lv
    have hx : x ∈ vis s := by
      rw [← hv]
      exact List.mem_append_right _ List.mem_cons_self
    have ex : sds (T' ++ [x]) = sds T' ++ [sd x] := by rw [sds_map, sds_map, List.map_append]; rfl
    rw [ex]
    have nx := h0.ok x hx
    have l4 : x.parts.length ≤ 4 := by
      cases x with
      | an ss => exact nx
      | orr ss => exact nx
      | _ => simp [Sent.parts]
    have lT : T'.length ≤ (visR T').length := by
      clear hb hv lv ex nx l4 hx dT
      induction T' with
      | nil => exact Nat.zero_le _
      | cons a T ih =>
        rw [visR_cons, List.length_append, vis_parts, List.length_cons, List.length_cons]
        omega
    rw [List.length_cons, List.length_append] at lv
    have eF : (sds F).length = F.length := by rw [sds_map, List.length_map]
    have eT : (sds T').length = T'.length := by rw [sds_map, List.length_map]
    have eP : (sds x.parts).length = x.parts.length := by rw [sds_map, List.length_map]
    apply xs_seq
    apply xs_pop (xs := sds T') (x := sd x) rfl (by decide)
    apply xs_seq
    apply xs_asgD (x := .tup (sds x.parts))
    · apply xe_call; walk_at "xa"
      exact ⟨x, m, rfl, ⟨nx, h0.m6⟩, rfl⟩
    apply xs_seq
    apply xs_guard
    · apply xt_or
      · walk_at "xt"
      · intro _
        apply xt_T
        apply xd_eqI
        · apply xd_len
          exact xl_own rfl
        · walk_at "xd"
    · show (false || decide (((sds F).length : Int) = 40)) = false
      rw [eF, decide_eq_false (by omega)]
      rfl
    apply xs_seq
    apply xs_app (xs := sds F) (x := sd x) rfl (xd_var rfl) (by rw [eF]; omega)
    apply xs_extT (xs := sds T') (ys := sds x.parts) rfl (xu_of (xd_var rfl)) (by rw [eT, eP]; omega)
    refine ⟨(visR (T' ++ x.parts)).length, ?_, F ++ [x], T' ++ x.parts, .d (sd x), .d (.tup (sds x.parts)), rfl, ?_, ?_⟩
    · rw [visR_snoc]
      exact Nat.lt_succ_self _
    · rw [sds_map (F ++ [x]), sds_map (T' ++ x.parts), List.map_append, List.map_append, ← sds_map, ← sds_map, ← sds_map, ← sds_map]
      rfl
    · rw [visR_app, List.append_assoc]
      exact hv
  · have e : T = [] := by
      by_cases c : T = []
      · exact c
      · rw [decide_eq_false c] at hb
        cases hb
    subst e
    rw [visR_nil, List.append_nil] at hv
    subst hv
    show XS K _ [.d (sd s), .l (sds (vis s)), .l (sds []), s3, s4] _
    refine xs_frz 1 rfl ?_
    apply xs_retE
    · walk_at "xd"
    · exact rfl
    · rfl
def sg_is_sentence : Sg := fun ds R => ∃ s m, ds = [sd s] ∧ SOk m s ∧ R = Eq (.bl true)
abbrev N_is_sentence : List Str := ["thing"]
theorem sc_is_sentence : FnScope N_is_sentence ["thing"] (defScope (top 49)) := ⟨rfl, rfl, rfl, by decide +kernel, rfl, by decide +kernel, by decide +kernel⟩
abbrev H_is_sentence (P : Program) (w : World) (K : PySem.W.Frag) (mg : Str → Option Value) (base : Heap) : Prop := Has P w K mg base "is_sentence" 6 ["thing"] (spX K sg_is_sentence)

theorem ok_is_sentence (B : Blt K mg) (Df : Dfd K mg "is_sentence" 49) (h_all_within : H_all_within P w K mg base) : H_is_sentence P w K mg base := by
  refine has_mk Df (fun _ _ _ _ _ _ us hl => match us, hl with | [_], _ => rfl) fun f fd F => ?_
  refine fn_ok F sc_is_sentence (fun ds R ⟨_, _, e, _⟩ => e ▸ rfl) (fun cdv A outer s H E hr => ⟨_, (pss_one (ps_ret (pe_cmpR op_notNo (pe_callH h_all_within (hr.mono (by decide)) rfl (pa_cons (pv 0) pa_nil)) pe_non (nomark _)))), fun ds R h => ?_⟩)
  obtain ⟨s, m, rfl, h0, rfl⟩ := h
  apply xs_retE
  · apply xd_notN
    · apply xe_call; walk_at "xa"
      exact ⟨s, m, rfl, h0, rfl⟩
    · walk_at "xd"
  · exact rfl
  · rfl
def sg_past_fault : Sg := fun ds R => ∃ (p : List Int) (m : Int), ds = [.lst (ID p), .int m] ∧ (inC m p ∧ p.length ≤ 120) ∧ R = Eq .non
abbrev N_past_fault : List Str := ["past", "many", "at", "one"]
theorem sc_past_fault : FnScope N_past_fault ["past", "many"] (defScope (top 50)) := ⟨rfl, rfl, rfl, by decide +kernel, rfl, by decide +kernel, by decide +kernel⟩
abbrev H_past_fault (P : Program) (w : World) (K : PySem.W.Frag) (mg : Str → Option Value) (base : Heap) : Prop := Has P w K mg base "past_fault" 3 ["past", "many"] (spX K sg_past_fault)

theorem ok_past_fault (B : Blt K mg) (Df : Dfd K mg "past_fault" 50) (h_is_within : H_is_within P w K mg base) : H_past_fault P w K mg base := by
  obtain ⟨_, c_MOST_PAST⟩ := B.MOST_PAST
  refine has_mk Df (fun _ _ _ _ _ _ us hl => match us, hl with | [_, _], _ => rfl) fun f fd F => ?_
  refine fn_ok F sc_past_fault (fun ds R ⟨_, _, e, _⟩ => e ▸ rfl) (fun cdv A outer s H E hr => ⟨_, (pss_cons (ps_if (PW.pt (pw_or (pt_not (pt_val (pe_callB call_isi rfl B.isinstance bt_isinstance (pa_cons (pv 0) (pa_cons (pe_ty rfl B.list bt_list) pa_nil))))) (pw_or1 (pt_cmpR op_gt (pe_callB cr_lenS rfl B.len bt_len (pa_cons (pv 0) pa_nil)) (pe_glob (v := .int 120) rfl c_MOST_PAST ⟨_, rfl⟩) (nomark _))))) (pss_one (ps_ret (pe_un un_neg pe_int))) pss_nil)
    (pss_cons (ps_for PassesOwn.never rfl (pi_enum rfl B.enumerate (pa_cons (pv 0) pa_nil)) (pg_tup rfl (pgs_cons (pg_name (i := 2) sc_past_fault.nd rfl (by first | exact Or.inl rfl | exact Or.inr rfl)) (pgs_cons (pg_name (i := 3) sc_past_fault.nd rfl (by first | exact Or.inl rfl | exact Or.inr rfl)) pgs_nil))) (pss_one (ps_if (pt_not (pt_val (pe_callH h_is_within (hr.mono (by decide)) rfl (pa_cons (pv 3) (pa_cons pe_int (pa_cons (pe_op op_sub (pv 1) pe_int) pa_nil)))))) (pss_one (ps_ret (pv 2))) pss_nil)))
    (pss_one (ps_ret pe_non)))), fun ds R h => ?_⟩)
  obtain ⟨p, m, rfl, ⟨h0, h1⟩, rfl⟩ := h
  walk_at "grd"
  · simp
    omega
  apply xs_seq
  refine xs_for (js := [2, 3]) (fun _ r => ∃ s2 s3, r = [.d (.lst (ID p)), .d (.int m), s2, s3]) (ix_enum (xd_var rfl)) ⟨_, _, rfl⟩ (fun i y r hy hr => ?_) (fun r hr => ?_)
  · obtain ⟨s2, s3, rfl⟩ := hr
    rw [enum_ints, List.getElem?_map] at hy
    obtain ⟨j, hj, rfl⟩ := Option.map_eq_some_iff.mp hy
    have hj2 : j < p.length := by
      have := List.mem_of_getElem? hj
      exact List.mem_range.mp this
    refine ⟨_, xg_tup (xgs_cons (xgs_cons xgs_nil)) rfl, ?_⟩
    have q := h0 (p.getD j 0) (by rw [getD_lt hj2]; exact List.getElem_mem hj2)
    walk_at "grl"
    · rw [decide_eq_true q.1, decide_eq_true (by omega)]
      rfl
    · exact ⟨_, _, rfl⟩
  · obtain ⟨s2, s3, rfl⟩ := hr
    walk_at "ret"
def sg_check_past : Sg := fun ds R => ∃ (p : List Int) (m : Int), ds = [.lst (ID p), .int m] ∧ (inC m p ∧ p.length ≤ 120) ∧ R = Eq .non
abbrev N_check_past : List Str := ["past", "many", "at"]
theorem sc_check_past : FnScope N_check_past ["past", "many"] (defScope (top 51)) := ⟨rfl, rfl, rfl, by decide +kernel, rfl, by decide +kernel, by decide +kernel⟩
abbrev H_check_past (P : Program) (w : World) (K : PySem.W.Frag) (mg : Str → Option Value) (base : Heap) : Prop := Has P w K mg base "check_past" 4 ["past", "many"] (spX K sg_check_past)

theorem ok_check_past (B : Blt K mg) (Df : Dfd K mg "check_past" 51) (h_past_fault : H_past_fault P w K mg base) : H_check_past P w K mg base := by
  refine has_mk Df (fun _ _ _ _ _ _ us hl => match us, hl with | [_, _], _ => rfl) fun f fd F => ?_
  refine fn_ok F sc_check_past (fun ds R ⟨_, _, e, _⟩ => e ▸ rfl) (fun cdv A outer s H E hr => ⟨_, (pss_cons (ps_set (i := 2) sc_check_past.nd rfl (by first | exact Or.inl rfl | exact Or.inr rfl) (pe_callH h_past_fault (hr.mono (by decide)) rfl (pa_cons (pv 0) (pa_cons (pv 1) pa_nil))))
    (pss_one (ps_if (pt_cmpR op_notNo (pv 2) pe_non (nomark _)) (pss_one ps_never) pss_nil))), fun ds R h => ?_⟩)
  obtain ⟨p, m, rfl, h0, rfl⟩ := h
  walk_at "asg"
  walk_at "grl"
  · rfl
  · exact rfl
def sg_reach_in : Sg := fun ds R => ∃ s m, ds = [sd s] ∧ SOk m s ∧ R = Eq (.int (reachS s))
abbrev N_reach_in : List Str := ["sentence", "backs", "one"]
theorem sc_reach_in : FnScope N_reach_in ["sentence"] (defScope (top 52)) := ⟨rfl, rfl, rfl, by decide +kernel, rfl, by decide +kernel, by decide +kernel⟩
abbrev H_reach_in (P : Program) (w : World) (K : PySem.W.Frag) (mg : Str → Option Value) (base : Heap) : Prop := Has P w K mg base "reach_in" 6 ["sentence"] (spX K sg_reach_in)

theorem ok_reach_in (B : Blt K mg) (Df : Dfd K mg "reach_in" 52) (h_all_within : H_all_within P w K mg base) : H_reach_in P w K mg base := by
  refine has_mk Df (fun _ _ _ _ _ _ us hl => match us, hl with | [_], _ => rfl) fun f fd F => ?_
  refine fn_ok F sc_reach_in (fun ds R ⟨_, _, e, _⟩ => e ▸ rfl) (fun cdv A outer s H E hr => ⟨_, (pss_cons (ps_set (i := 1) sc_reach_in.nd rfl (by first | exact Or.inl rfl | exact Or.inr rfl) (pe_lst (pa_cons pe_int pa_nil)))
    (pss_cons (ps_for PassesOwn.never rfl (pi_list (pe_callH h_all_within (hr.mono (by decide)) rfl (pa_cons (pv 0) pa_nil))) (pg_name (i := 2) sc_reach_in.nd rfl (by first | exact Or.inl rfl | exact Or.inr rfl)) (pss_one (ps_if (pt_cmpR op_eq (pe_ix ix_tup (pv 2) pe_int (fun _ _ => rfl)) pe_str (nomark _)) (pss_one (ps_expr (pe_bm PySem.F.plainAttrs_list PySem.F.slot_list_append PySem.F.type_list_append mt_append (pv 1) (pa_cons (pe_ix ix_tup (pv 2) pe_int (fun _ _ => rfl)) pa_nil)))) (pss_one (ps_if (pt_cmpR op_in_seq (pe_ix ix_tup (pv 2) pe_int (fun _ _ => rfl)) (pe_tup (pa_cons pe_str (pa_cons pe_str pa_nil))) (by rfl)) (pss_one (ps_expr (pe_bm PySem.F.plainAttrs_list PySem.F.slot_list_append PySem.F.type_list_append mt_append (pv 1) (pa_cons (pe_ix ix_tup (pv 2) pe_int (fun _ _ => rfl)) pa_nil)))) pss_nil)))))
    (pss_one (ps_ret (pe_callB (cr_max rfl) rfl B.max bt_max (pa_cons (pv 1) pa_nil)))))), fun ds R h => ?_⟩)
  obtain ⟨s, m, rfl, h0, rfl⟩ := h
  apply xs_seq; apply xs_asgM (xa_cons xd_int xa_nil) (by show 1 ≤ 100000; decide)
  apply xs_seq
  have hsz := h0.sz
  refine xs_forN (ys := sds (vis s)) (fun i r => i ≤ 40 ∧ ∃ s2, r = [.d (sd s), .l (ID (0 :: ((vis s).take i).flatMap backOf)), s2] ∧ (((vis s).take i).flatMap backOf).length ≤ i) (ix_listD ?_) ⟨by decide, _, rfl, by rw [List.take_zero]; exact Nat.le_refl _⟩ (fun i y r hy hr => ?_) (fun r hr => ?_)
  · apply xe_call; walk_at "xa"
    exact ⟨s, m, rfl, h0, rfl⟩
  · obtain ⟨hi, s2, rfl, hl⟩ := hr
    rw [sds_map, List.getElem?_map] at hy
    obtain ⟨t, ht, rfl⟩ := Option.map_eq_some_iff.mp hy
    have hlt := (List.getElem?_eq_some_iff.mp ht).1
    have hz : (ID (0 :: ((vis s).take i).flatMap backOf)).length < 100000 := by
      rw [List.length_map, List.length_cons]
      omega
    rw [take_fm backOf _ i ht]
    cases t with
    | more a o b =>
      apply xs_ifT
      · apply xt_T; walk_at "stl"
      · apply xs_app (x := .int b) rfl (by walk_at "xd") hz
        exact ⟨by omega, _, ids_snoc 0 _ [b] _ _, by simp [backOf] at hl ⊢; omega⟩
    | went a b =>
      apply xs_ifF
      · apply xt_T; walk_at "stl"
      apply xs_ifT
      · apply xt_T; walk_at "stl"
      · apply xs_app (x := .int b) rfl (by walk_at "xd") hz
        exact ⟨by omega, _, ids_snoc 0 _ [b] _ _, by simp [backOf] at hl ⊢; omega⟩
    | often a b c =>
      apply xs_ifF
      · apply xt_T; walk_at "stl"
      apply xs_ifT
      · apply xt_T; walk_at "stl"
      · apply xs_app (x := .int b) rfl (by walk_at "xd") hz
        exact ⟨by omega, _, ids_snoc 0 _ [b] _ _, by simp [backOf] at hl ⊢; omega⟩
    | nt u =>
      apply xs_ifF
      · apply xt_T; walk_at "stl"
      apply xs_ifF
      · apply xt_T; walk_at "stl"
      exact xs_next ⟨by omega, _, ids_same 0 _ _ _, by simp [backOf] at hl ⊢; omega⟩
    | an u =>
      apply xs_ifF
      · apply xt_T; walk_at "stl"
      apply xs_ifF
      · apply xt_T; walk_at "stl"
      exact xs_next ⟨by omega, _, ids_same 0 _ _ _, by simp [backOf] at hl ⊢; omega⟩
    | orr u =>
      apply xs_ifF
      · apply xt_T; walk_at "stl"
      apply xs_ifF
      · apply xt_T; walk_at "stl"
      exact xs_next ⟨by omega, _, ids_same 0 _ _ _, by simp [backOf] at hl ⊢; omega⟩
  · obtain ⟨hi, s2, rfl, hl⟩ := hr
    refine xs_ret (xe_max (ns := 0 :: ((vis s).take (sds (vis s)).length).flatMap backOf) (xl_own rfl) (by rw [List.length_cons]; exact Nat.succ_pos _)) fun x hx => ?_
    obtain ⟨k, rfl, k1, k2⟩ := hx
    have e := mx_of k1 k2
    rw [sds_map, List.length_map, List.take_length] at e
    rw [e]
    rfl
def sg_greatest_claimant : Sg := fun ds R => ∃ s m, ds = [sd s] ∧ (SOk m s ∧ 0 ≤ m) ∧ R = fun x => ∃ g, x = .int g ∧ g < m
abbrev N_greatest_claimant : List Str := ["sentence", "ones", "one"]
theorem sc_greatest_claimant : FnScope N_greatest_claimant ["sentence"] (defScope (top 53)) := ⟨rfl, rfl, rfl, by decide +kernel, rfl, by decide +kernel, by decide +kernel⟩
abbrev H_greatest_claimant (P : Program) (w : World) (K : PySem.W.Frag) (mg : Str → Option Value) (base : Heap) : Prop := Has P w K mg base "greatest_claimant" 6 ["sentence"] (spX K sg_greatest_claimant)

theorem ok_greatest_claimant (B : Blt K mg) (Df : Dfd K mg "greatest_claimant" 53) (h_all_within : H_all_within P w K mg base) : H_greatest_claimant P w K mg base := by
  refine has_mk Df (fun _ _ _ _ _ _ us hl => match us, hl with | [_], _ => rfl) fun f fd F => ?_
  refine fn_ok F sc_greatest_claimant (fun ds R ⟨_, _, e, _⟩ => e ▸ rfl) (fun cdv A outer s H E hr => ⟨_, (pss_cons (ps_set (i := 1) sc_greatest_claimant.nd rfl (by first | exact Or.inl rfl | exact Or.inr rfl) (pe_lst (pa_cons (pe_un un_neg pe_int) pa_nil)))
    (pss_cons (ps_for PassesOwn.never rfl (pi_list (pe_callH h_all_within (hr.mono (by decide)) rfl (pa_cons (pv 0) pa_nil))) (pg_name (i := 2) sc_greatest_claimant.nd rfl (by first | exact Or.inl rfl | exact Or.inr rfl)) (pss_cons (ps_if (pt_cmpR op_in_seq (pe_ix ix_tup (pv 2) pe_int (fun _ _ => rfl)) (pe_tup (pa_cons pe_str (pa_cons pe_str (pa_cons pe_str pa_nil)))) (by rfl)) (pss_one (ps_expr (pe_bm PySem.F.plainAttrs_list PySem.F.slot_list_append PySem.F.type_list_append mt_append (pv 1) (pa_cons (pe_ix ix_tup (pv 2) pe_int (fun _ _ => rfl)) pa_nil)))) pss_nil)
    (pss_one (ps_if (pt_cmpR op_eq (pe_ix ix_tup (pv 2) pe_int (fun _ _ => rfl)) pe_str (nomark _)) (pss_one (ps_expr (pe_bm PySem.F.plainAttrs_list PySem.F.slot_list_append PySem.F.type_list_append mt_append (pv 1) (pa_cons (pe_ix ix_tup (pv 2) pe_int (fun _ _ => rfl)) pa_nil)))) pss_nil))))
    (pss_one (ps_ret (pe_callB (cr_max rfl) rfl B.max bt_max (pa_cons (pv 1) pa_nil)))))), fun ds R h => ?_⟩)
  obtain ⟨s, m, rfl, ⟨h0, hm⟩, rfl⟩ := h
  apply xs_seq; apply xs_asgM (xa_cons (xd_neg xd_int) xa_nil) (by show 1 ≤ 100000; decide)
  apply xs_seq
  have hsz := h0.sz
  refine xs_forN (ys := sds (vis s)) (fun i r => i ≤ 40 ∧ ∃ s2, r = [.d (sd s), .l (ID (-1 :: ((vis s).take i).flatMap whoOf)), s2] ∧ (((vis s).take i).flatMap whoOf).length ≤ 2 * i ∧ ∀ g ∈ ((vis s).take i).flatMap whoOf, g < m) (ix_listD ?_) ⟨by decide, _, rfl, by rw [List.take_zero]; exact Nat.le_refl _, by rw [List.take_zero]; exact fun g hg => nomatch hg⟩ (fun i y r hy hr => ?_) (fun r hr => ?_)
  · apply xe_call; walk_at "xa"
    exact ⟨s, m, rfl, h0, rfl⟩
  · obtain ⟨hi, s2, rfl, hl, hg⟩ := hr
    rw [sds_map, List.getElem?_map] at hy
    obtain ⟨t, ht, rfl⟩ := Option.map_eq_some_iff.mp hy
    have hlt := (List.getElem?_eq_some_iff.mp ht).1
    have hz : (ID (-1 :: ((vis s).take i).flatMap whoOf)).length < 100000 := by
      rw [List.length_map, List.length_cons]
      omega
    have ok := h0.ok t (List.mem_of_getElem? ht)
    have hg2 : ∀ g ∈ ((vis s).take i).flatMap whoOf ++ whoOf t, g < m := by
      intro g hgm
      rcases List.mem_append.mp hgm with q | q
      · exact hg g q
      · cases t with
        | went a b =>
          rw [List.mem_singleton.mp q]
          exact ok.2.1
        | often a b c =>
          rw [List.mem_singleton.mp q]
          exact ok.2.1
        | more a o b =>
          rcases List.mem_cons.mp q with rfl | q
          · exact ok.2.1
          · rw [List.mem_singleton.mp q]
            exact ok.2.2.2.2.2.1
        | _ => cases q
    rw [take_fm whoOf _ i ht]
    cases t with
    | more a o b =>
      apply xs_seq
      apply xs_ifT
      · apply xt_T; walk_at "stl"
      · apply xs_app (x := .int a) rfl (by walk_at "xd") hz
        apply xs_ifT
        · apply xt_T; walk_at "stl"
        · apply xs_app (x := .int o) rfl (by walk_at "xd") (by rw [List.length_append, List.length_map, List.length_cons]; show _ + 1 < _; omega)
          exact ⟨by omega, _, ids_snoc2 (-1) _ a o _ _, by simp [whoOf] at hl ⊢; omega, hg2⟩
    | went a b =>
      apply xs_seq
      apply xs_ifT
      · apply xt_T; walk_at "stl"
      · apply xs_app (x := .int a) rfl (by walk_at "xd") hz
        apply xs_ifF
        · apply xt_T; walk_at "stl"
        · exact xs_next ⟨by omega, _, ids_snoc (-1) _ [a] _ _, by simp [whoOf] at hl ⊢; omega, hg2⟩
    | often a b c =>
      apply xs_seq
      apply xs_ifT
      · apply xt_T; walk_at "stl"
      · apply xs_app (x := .int a) rfl (by walk_at "xd") hz
        apply xs_ifF
        · apply xt_T; walk_at "stl"
        · exact xs_next ⟨by omega, _, ids_snoc (-1) _ [a] _ _, by simp [whoOf] at hl ⊢; omega, hg2⟩
    | nt u =>
      apply xs_seq
      apply xs_ifF
      · apply xt_T; walk_at "stl"
      · refine xs_next ?_
        apply xs_ifF
        · apply xt_T; walk_at "stl"
        · exact xs_next ⟨by omega, _, ids_same (-1) _ _ _, by simp [whoOf] at hl ⊢; omega, hg2⟩
    | an u =>
      apply xs_seq
      apply xs_ifF
      · apply xt_T; walk_at "stl"
      · refine xs_next ?_
        apply xs_ifF
        · apply xt_T; walk_at "stl"
        · exact xs_next ⟨by omega, _, ids_same (-1) _ _ _, by simp [whoOf] at hl ⊢; omega, hg2⟩
    | orr u =>
      apply xs_seq
      apply xs_ifF
      · apply xt_T; walk_at "stl"
      · refine xs_next ?_
        apply xs_ifF
        · apply xt_T; walk_at "stl"
        · exact xs_next ⟨by omega, _, ids_same (-1) _ _ _, by simp [whoOf] at hl ⊢; omega, hg2⟩
  · obtain ⟨hi, s2, rfl, hl, hg⟩ := hr
    refine xs_ret (xe_max (ns := -1 :: ((vis s).take (sds (vis s)).length).flatMap whoOf) (xl_own rfl) (by rw [List.length_cons]; exact Nat.succ_pos _)) fun x hx => ?_
    obtain ⟨k, rfl, k1, k2⟩ := hx
    refine ⟨k, rfl, ?_⟩
    rcases List.mem_cons.mp k1 with rfl | k1
    · omega
    · exact hg k k1
end
end Dx
end

section
set_option Elab.async false
set_option linter.all false
set_option maxRecDepth 100000
set_option maxHeartbeats 4000000
namespace Dx
open PySem PySem.Spec PyProof.Rows L2 Evl RZ
local macro_rules | `(tactic| walk_at "sd") => `(tactic| first | rfl | assumption | omega | exact Nat.le_of_ble_eq_true rfl | exact decide_eq_false (by omega) | exact decide_eq_true (by omega) | decide | (constructor <;> omega) | (simp only [List.length_map]; omega) | (simp only [List.length_map]; constructor <;> omega))
local macro_rules | `(tactic| walk_at "sd?") => `(tactic| first | walk_at "sd" | rotate_left)
local macro_rules | `(tactic| walk_at "xl") => `(tactic| first | exact xl_own rfl | (apply xl_of; walk_at "xd") | (apply xl_r; walk_at "xd"))
local macro_rules | `(tactic| walk_at "xm") => `(tactic| first | exact xm_own rfl | (apply xm_of; walk_at "xd"))
local macro_rules | `(tactic| walk_at "xu") => `(tactic| first | (apply xu_of; walk_at "xd") | (apply xu_r; walk_at "xd"))
local macro_rules | `(tactic| walk_at "xa") => `(tactic| first | exact xa_nil | (apply xa_cons; walk_at "xd"; walk_at "xa"))
local macro_rules | `(tactic| walk_at "xo") => `(tactic| first | exact xo_none | (apply xo_some; walk_at "xd"))
local macro_rules | `(tactic| walk_at "xd") => `(tactic| first
  | exact xd_int | exact xd_str | exact xd_bl | exact xd_non | exact xd_var rfl
  | (apply xd_add; walk_at "xd"; walk_at "xd") | (apply xd_sub; walk_at "xd"; walk_at "xd") | (apply xd_neg; walk_at "xd")
  | (apply xd_mul; walk_at "xd"; walk_at "xd"; walk_at "sd?") | (apply xd_fdiv; walk_at "xd"; walk_at "xd"; walk_at "sd?") | (apply xd_mod; walk_at "xd"; walk_at "xd"; walk_at "sd?")
  | (apply xd_lt; walk_at "xd"; walk_at "xd") | (apply xd_le; walk_at "xd"; walk_at "xd") | (apply xd_gt; walk_at "xd"; walk_at "xd") | (apply xd_ge; walk_at "xd"; walk_at "xd")
  | (apply xd_chainLe; walk_at "xd"; walk_at "xd"; walk_at "xd")
  | (apply xd_eqI; walk_at "xd"; walk_at "xd") | (apply xd_neI; walk_at "xd"; walk_at "xd") | (apply xd_eqS; walk_at "xd"; walk_at "xd") | (apply xd_neS; walk_at "xd"; walk_at "xd")
  | (apply xd_isN; walk_at "xd"; walk_at "xd") | (apply xd_notN; walk_at "xd"; walk_at "xd")
  | (apply xd_not; walk_at "xd") | (apply xd_and; walk_at "xd"; (intro _; walk_at "xd")) | (apply xd_or; walk_at "xd"; (intro _; walk_at "xd"))
  | (apply xd_ixT; walk_at "xu"; walk_at "xd"; rfl) | (apply xd_ixIU; walk_at "xu"; walk_at "xd"; walk_at "sd?") | (apply xd_ixI; walk_at "xl"; walk_at "xd"; walk_at "sd?") | (apply xd_ixL; walk_at "xl"; walk_at "xd"; walk_at "sd?")
  | (apply xd_tup; walk_at "xa"; walk_at "sd?") | (apply xd_lst; walk_at "xa"; walk_at "sd?")
  | (apply xd_len; walk_at "xl") | (apply xd_lenU; walk_at "xu") | (apply xd_abs; walk_at "xd") | (apply xd_min2; walk_at "xd"; walk_at "xd")
  | (apply xd_isi; walk_at "xd"; (first | exact kb_int | exact kb_int_bool | exact kb_tuple | exact kb_list | exact kb_str | exact kb_bool_bool))
  | (apply xd_slL; walk_at "xl"; walk_at "xo"; walk_at "xo") | (apply xd_slT; walk_at "xd"; walk_at "xo"; walk_at "xo")
  | (apply xd_cat; walk_at "xm"; walk_at "xm"; walk_at "sd?") | (apply xd_catT; walk_at "xd"; walk_at "xd"; walk_at "sd?")
  | (apply xd_list; walk_at "xl") | (apply xd_listU; walk_at "xu") | (apply xd_tuple; walk_at "xl") | (apply xd_tupleT; walk_at "xd")
  | (apply xe_call; walk_at "xa"; walk_at "sg"))
local macro_rules | `(tactic| walk_at "sg") => `(tactic| first | exact ⟨_, rfl, rfl⟩ | exact ⟨_, _, rfl, rfl⟩ | exact ⟨_, _, _, rfl, rfl⟩ | exact ⟨_, _, _, _, rfl, rfl⟩ | exact ⟨_, _, _, _, _, rfl, rfl⟩ | exact ⟨_, _, _, _, _, _, rfl, rfl⟩ | exact ⟨_, _, _, _, _, _, _, rfl, rfl⟩ | (refine' ⟨_, rfl, ?_, rfl⟩; walk_at "sd?") | (refine' ⟨_, _, rfl, ?_, rfl⟩; walk_at "sd?") | (refine' ⟨_, _, _, rfl, ?_, rfl⟩; walk_at "sd?") | (refine' ⟨_, _, _, _, rfl, ?_, rfl⟩; walk_at "sd?") | (refine' ⟨_, _, _, _, _, rfl, ?_, rfl⟩; walk_at "sd?") | (refine' ⟨_, _, _, _, _, _, rfl, ?_, rfl⟩; walk_at "sd?") | (refine' ⟨_, _, _, _, _, _, _, rfl, ?_, rfl⟩; walk_at "sd?"))
local macro_rules | `(tactic| walk_at "asg") => `(tactic| (apply xs_seq; apply xs_asgD; walk_at "xd"))
local macro_rules | `(tactic| walk_at "guard") => `(tactic| (apply xs_seq; apply xs_guard; walk_at "xt"; walk_at "sd?"))
local macro_rules | `(tactic| walk_at "ret") => `(tactic| (apply xs_retE; walk_at "xd"; exact rfl; walk_at "sd?"))
local macro_rules | `(tactic| walk_at "xt") => `(tactic| first
  | (apply xt_B; walk_at "xd") | (apply xt_T; walk_at "xd") | (apply xt_not; walk_at "xt") | (apply xt_and; walk_at "xt"; (intro _; walk_at "xt")) | (apply xt_or; walk_at "xt"; (intro _; walk_at "xt")) | exact xt_yes)
local macro_rules | `(tactic| walk_at "grd") => `(tactic| (apply xs_seq; apply xs_guard; walk_at "xt"))
local macro_rules | `(tactic| walk_at "grl") => `(tactic| (apply xs_guard; walk_at "xt"))
local macro_rules | `(tactic| walk_at "unp2") => `(tactic| (apply xs_seq; apply xs_asgG; walk_at "xd"; exact xg_tup (xgs_cons (xgs_cons xgs_nil)) rfl))
local macro_rules | `(tactic| walk_at "if") => `(tactic| (apply xs_seq; apply xs_if; walk_at "xt"))
local macro_rules | `(tactic| walk_at "drop") => `(tactic| (apply xs_seq; apply xs_drop; walk_at "xd"))

open Ma
local macro_rules | `(tactic| walk_at "stl") => `(tactic| first | (apply xd_eqSk; walk_at "xd"; walk_at "xd"; decide +kernel) | (apply xd_in3; walk_at "xd"; walk_at "xu"; decide +kernel) | (apply xd_in2; walk_at "xd"; walk_at "xu"; decide +kernel))
def tail (k : Int) (p : List Int) : List Int := cutD p (some (-k)) none
mutual
def truth (p : List Int) : Sent → Bool
  | .went w b => decide (b ≤ (p.length : Int)) && decide (p.getD (p.length - b.toNat) 0 = w)
  | .often w b n => decide (n ≤ (((tail b p).count w : Nat) : Int))
  | .more w o b => decide ((((tail b p).count o : Nat) : Int) < (((tail b p).count w : Nat) : Int))
  | .nt s => !truth p s
  | .an ss => (truths p ss).all id
  | .orr ss => (truths p ss).any id
def truths (p : List Int) : List Sent → List Bool
  | [] => []
  | s :: ss => truth p s :: truths p ss
end
theorem truths_map (p : List Int) : ∀ ss : List Sent, truths p ss = ss.map (truth p)
  | [] => rfl
  | s :: ss => by rw [List.map_cons, ← truths_map p ss]; rfl
theorem at_neg {p : List Int} {b : Int} (h1 : 1 ≤ b) (h2 : b ≤ (p.length : Int)) : atI (p.map D.int) (-b) = some (.int (p.getD (p.length - b.toNat) 0)) := by
  unfold atI ixN
  rw [if_neg (by omega), if_pos (by rw [List.length_map]; omega)]
  show (p.map D.int)[(-b + ((p.map D.int).length : Int)).toNat]? = _
  rw [List.getElem?_map, List.length_map, show (-b + (p.length : Int)).toNat = p.length - b.toNat by omega, List.getElem?_eq_getElem (by omega), getD_lt (by omega)]
  rfl
theorem ceq_int (a b : Int) : CEq (D.int a).py (D.int b).py (decide (a = b)) := ⟨rfl, rfl, by
  show (a == b) = decide (a = b)
  by_cases h : a = b
  · subst h; simp
  · simp [h]⟩
section
variable {P : Program} {w : World} {K : PySem.W.Frag} {mg : Str → Option Value} {base : Heap}
def sg_is_trueN (n : Nat) : Sg := fun ds R => ∃ s p, ds = [sd s, .key p] ∧ (AllOk 6 s ∧ dep s ≤ n ∧ p.length ≤ 100000) ∧ R = Eq (.bl (truth p s))
def sg_is_true : Sg := sg_is_trueN 4
abbrev N_is_true : List Str := ["sentence", "past", "word", "told", "last", "one"]
theorem sc_is_true : FnScope N_is_true ["sentence", "past"] (defScope (top 54)) := ⟨rfl, rfl, rfl, by decide +kernel, rfl, by decide +kernel, by decide +kernel⟩
abbrev H_is_true (P : Program) (w : World) (K : PySem.W.Frag) (mg : Str → Option Value) (base : Heap) : Prop := Has P w K mg base "is_true" 5 ["sentence", "past"] (spX K sg_is_true)

theorem is_true_base (B : Blt K mg) (Df : Dfd K mg "is_true" 54) : Has P w K mg base "is_true" 2 ["sentence", "past"] (spX K (sg_is_trueN 1)) := by
  refine has_mk Df (fun _ _ _ _ _ _ us hl => match us, hl with | [_, _], _ => rfl) fun f fd F => ?_
  refine fn_ok F sc_is_true (fun ds R ⟨_, _, e, _⟩ => e ▸ rfl) (fun cdv A outer s H E hr => ⟨_, (pss_cons (ps_set (i := 2) sc_is_true.nd rfl (by first | exact Or.inl rfl | exact Or.inr rfl) (pe_ix ix_tup (pv 0) pe_int (fun _ _ => rfl)))
    (pss_cons (ps_if (pt_cmpR op_eq (pv 2) pe_str (nomark _)) (pss_one (ps_ret (pe_and (pe_cmpR op_ge (pe_callB cr_lenS rfl B.len bt_len (pa_cons (pv 1) pa_nil)) (pe_ix ix_tup (pv 0) pe_int (fun _ _ => rfl)) (nomark _)) (pe_one (pe_cmpR (op_eqD hr.units) (pe_ix ix_tup (pv 1) (pe_un un_neg (pe_ix ix_tup (pv 0) pe_int (fun _ _ => rfl))) (fun _ _ => rfl)) (pe_ix ix_tup (pv 0) pe_int (fun _ _ => rfl)) (nomark _)))))) pss_nil)
    (pss_cons (ps_if (pt_cmpR op_eq (pv 2) pe_str (nomark _)) (pss_one (ps_ret (pe_cmpR op_ge (pe_bmY ty_key PySem.F.plainAttrs_tuple PySem.F.slot_tuple_count PySem.F.type_tuple_count mt_tcount (pe_slice sl_tupK (pv 1) (po_some (pe_un un_neg (pe_ix ix_tup (pv 0) pe_int (fun _ _ => rfl)))) po_none) (pa_cons (pe_ix ix_tup (pv 0) pe_int (fun _ _ => rfl)) pa_nil)) (pe_ix ix_tup (pv 0) pe_int (fun _ _ => rfl)) (nomark _)))) pss_nil)
    (pss_cons (ps_if (pt_cmpR op_eq (pv 2) pe_str (nomark _)) (pss_cons (ps_set (i := 4) sc_is_true.nd rfl (by first | exact Or.inl rfl | exact Or.inr rfl) (pe_slice sl_tupK (pv 1) (po_some (pe_un un_neg (pe_ix ix_tup (pv 0) pe_int (fun _ _ => rfl)))) po_none))
    (pss_one (ps_ret (pe_cmpR op_gt (pe_bmY ty_key PySem.F.plainAttrs_tuple PySem.F.slot_tuple_count PySem.F.type_tuple_count mt_tcount (pv 4) (pa_cons (pe_ix ix_tup (pv 0) pe_int (fun _ _ => rfl)) pa_nil)) (pe_bmY ty_key PySem.F.plainAttrs_tuple PySem.F.slot_tuple_count PySem.F.type_tuple_count mt_tcount (pv 4) (pa_cons (pe_ix ix_tup (pv 0) pe_int (fun _ _ => rfl)) pa_nil)) (nomark _))))) pss_nil)
    (pss_cons (ps_if (pt_cmpR op_eq (pv 2) pe_str (nomark _)) (pss_one ps_never) pss_nil)
    (pss_cons ps_never
    (pss_one ps_never))))))), fun ds R h => ?_⟩)
  obtain ⟨s, p, rfl, ⟨h0, h1, h2⟩, rfl⟩ := h
  have hs := h0.self
  cases s with
  | went a b =>
    obtain ⟨i1, i2, i3, i4⟩ := hs
    walk_at "asg"
    apply xs_seq; apply xs_ifT
    · apply xt_T; walk_at "stl"
    · apply xs_retE
      · apply xd_and
        · apply xd_ge
          · apply xd_lenU
            apply xu_k
            walk_at "xd"
          · walk_at "xd"
        · intro hb
          have hb := of_decide_eq_true hb
          rw [List.length_map] at hb
          apply xd_eqD (a := .int (p.getD (p.length - b.toNat) 0)) (b := .int a)
          · apply xd_ixT
            · apply xu_k
              walk_at "xd"
            · walk_at "xd"
            · exact at_neg i3 hb
          · walk_at "xd"
          · exact ceq_int _ _
      · exact rfl
      · rw [List.length_map]
        rfl
  | often a b n =>
    walk_at "asg"
    apply xs_seq; apply xs_ifF
    · apply xt_T; walk_at "stl"
    refine xs_next ?_
    apply xs_seq; apply xs_ifT
    · apply xt_T; walk_at "stl"
    · apply xs_retE
      · apply xd_ge
        · apply xd_kcount
          · apply xd_slk
            · walk_at "xd"
            · walk_at "xo"
            · walk_at "xo"
          · walk_at "xd"
        · walk_at "xd"
      · exact rfl
      · rfl
  | more a o b =>
    walk_at "asg"
    apply xs_seq; apply xs_ifF
    · apply xt_T; walk_at "stl"
    refine xs_next ?_
    apply xs_seq; apply xs_ifF
    · apply xt_T; walk_at "stl"
    refine xs_next ?_
    apply xs_seq; apply xs_ifT
    · apply xt_T; walk_at "stl"
    · apply xs_seq; apply xs_asgD (x := .key (tail b p))
      · apply xd_slk
        · walk_at "xd"
        · walk_at "xo"
        · walk_at "xo"
      apply xs_retE
      · apply xd_gt
        · apply xd_kcount
          · walk_at "xd"
          · walk_at "xd"
        · apply xd_kcount
          · walk_at "xd"
          · walk_at "xd"
      · exact rfl
      · rfl
  | nt s =>
    have := dep_pos s
    have : dep s + 1 ≤ 1 := h1
    omega
  | an ss =>
    have : max 1 (deps ss) + 1 ≤ 1 := h1
    omega
  | orr ss =>
    have : max 1 (deps ss) + 1 ≤ 1 := h1
    omega
theorem is_true_step (B : Blt K mg) (Df : Dfd K mg "is_true" 54) (n k : Nat) (h_rec : Has P w K mg base "is_true" k ["sentence", "past"] (spX K (sg_is_trueN n))) : Has P w K mg base "is_true" (k + 1) ["sentence", "past"] (spX K (sg_is_trueN (n + 1))) := by
  refine has_mk Df (fun _ _ _ _ _ _ us hl => match us, hl with | [_, _], _ => rfl) fun f fd F => ?_
  refine fn_ok F sc_is_true (fun ds R ⟨_, _, e, _⟩ => e ▸ rfl) (fun cdv A outer s H E hr => ⟨_, (pss_cons (ps_set (i := 2) sc_is_true.nd rfl (by first | exact Or.inl rfl | exact Or.inr rfl) (pe_ix ix_tup (pv 0) pe_int (fun _ _ => rfl)))
    (pss_cons (ps_if (pt_cmpR op_eq (pv 2) pe_str (nomark _)) (pss_one (ps_ret (pe_and (pe_cmpR op_ge (pe_callB cr_lenS rfl B.len bt_len (pa_cons (pv 1) pa_nil)) (pe_ix ix_tup (pv 0) pe_int (fun _ _ => rfl)) (nomark _)) (pe_one (pe_cmpR (op_eqD hr.units) (pe_ix ix_tup (pv 1) (pe_un un_neg (pe_ix ix_tup (pv 0) pe_int (fun _ _ => rfl))) (fun _ _ => rfl)) (pe_ix ix_tup (pv 0) pe_int (fun _ _ => rfl)) (nomark _)))))) pss_nil)
    (pss_cons (ps_if (pt_cmpR op_eq (pv 2) pe_str (nomark _)) (pss_one (ps_ret (pe_cmpR op_ge (pe_bmY ty_key PySem.F.plainAttrs_tuple PySem.F.slot_tuple_count PySem.F.type_tuple_count mt_tcount (pe_slice sl_tupK (pv 1) (po_some (pe_un un_neg (pe_ix ix_tup (pv 0) pe_int (fun _ _ => rfl)))) po_none) (pa_cons (pe_ix ix_tup (pv 0) pe_int (fun _ _ => rfl)) pa_nil)) (pe_ix ix_tup (pv 0) pe_int (fun _ _ => rfl)) (nomark _)))) pss_nil)
    (pss_cons (ps_if (pt_cmpR op_eq (pv 2) pe_str (nomark _)) (pss_cons (ps_set (i := 4) sc_is_true.nd rfl (by first | exact Or.inl rfl | exact Or.inr rfl) (pe_slice sl_tupK (pv 1) (po_some (pe_un un_neg (pe_ix ix_tup (pv 0) pe_int (fun _ _ => rfl)))) po_none))
    (pss_one (ps_ret (pe_cmpR op_gt (pe_bmY ty_key PySem.F.plainAttrs_tuple PySem.F.slot_tuple_count PySem.F.type_tuple_count mt_tcount (pv 4) (pa_cons (pe_ix ix_tup (pv 0) pe_int (fun _ _ => rfl)) pa_nil)) (pe_bmY ty_key PySem.F.plainAttrs_tuple PySem.F.slot_tuple_count PySem.F.type_tuple_count mt_tcount (pv 4) (pa_cons (pe_ix ix_tup (pv 0) pe_int (fun _ _ => rfl)) pa_nil)) (nomark _))))) pss_nil)
    (pss_cons (ps_if (pt_cmpR op_eq (pv 2) pe_str (nomark _)) (pss_one (ps_ret (pe_not (pe_callH h_rec hr rfl (pa_cons (pe_ix ix_tup (pv 0) pe_int (fun _ _ => rfl)) (pa_cons (pv 1) pa_nil)))))) pss_nil)
    (pss_cons (ps_setLc (i := 3) (own := [("one", 5)]) (g := (gName 5)) (by rfl) sc_is_true.nd rfl rfl (sw_true rfl rfl rfl (by decide +kernel)) (pi_tup (pe_ix ix_tup (pv 0) pe_int (fun _ _ => rfl))) (blkOk_by (own := [("one", 5)]) (N := N_is_true) (sc := defScope (top 54)) (by decide +kernel)) (fun _ _ _ _ _ => (pg_name (i := 5) sc_is_true.nd rfl (Or.inl rfl))) (fun _ _ _ _ _ => pts_nil) (fun _ _ _ _ _ => (pe_callH h_rec hr rfl (pa_cons (pv 5) (pa_cons (pv 1) pa_nil)))))
    (pss_one (ps_ret (pe_ifExp (pt_cmpR op_eq (pv 2) pe_str (nomark _)) (pe_callB (cr_all rfl) rfl B.all bt_all (pa_cons (pv 3) pa_nil)) (pe_callB (cr_any rfl) rfl B.any bt_any (pa_cons (pv 3) pa_nil))))))))))), fun ds R h => ?_⟩)
  obtain ⟨s, p, rfl, ⟨h0, h1, h2⟩, rfl⟩ := h
  have hs := h0.self
  cases s with
  | went a b =>
    obtain ⟨i1, i2, i3, i4⟩ := hs
    walk_at "asg"
    apply xs_seq; apply xs_ifT
    · apply xt_T; walk_at "stl"
    · apply xs_retE
      · apply xd_and
        · apply xd_ge
          · apply xd_lenU
            apply xu_k
            walk_at "xd"
          · walk_at "xd"
        · intro hb
          have hb := of_decide_eq_true hb
          rw [List.length_map] at hb
          apply xd_eqD (a := .int (p.getD (p.length - b.toNat) 0)) (b := .int a)
          · apply xd_ixT
            · apply xu_k
              walk_at "xd"
            · walk_at "xd"
            · exact at_neg i3 hb
          · walk_at "xd"
          · exact ceq_int _ _
      · exact rfl
      · rw [List.length_map]
        rfl
  | often a b n =>
    walk_at "asg"
    apply xs_seq; apply xs_ifF
    · apply xt_T; walk_at "stl"
    refine xs_next ?_
    apply xs_seq; apply xs_ifT
    · apply xt_T; walk_at "stl"
    · apply xs_retE
      · apply xd_ge
        · apply xd_kcount
          · apply xd_slk
            · walk_at "xd"
            · walk_at "xo"
            · walk_at "xo"
          · walk_at "xd"
        · walk_at "xd"
      · exact rfl
      · rfl
  | more a o b =>
    walk_at "asg"
    apply xs_seq; apply xs_ifF
    · apply xt_T; walk_at "stl"
    refine xs_next ?_
    apply xs_seq; apply xs_ifF
    · apply xt_T; walk_at "stl"
    refine xs_next ?_
    apply xs_seq; apply xs_ifT
    · apply xt_T; walk_at "stl"
    · apply xs_seq; apply xs_asgD (x := .key (tail b p))
      · apply xd_slk
        · walk_at "xd"
        · walk_at "xo"
        · walk_at "xo"
      apply xs_retE
      · apply xd_gt
        · apply xd_kcount
          · walk_at "xd"
          · walk_at "xd"
        · apply xd_kcount
          · walk_at "xd"
          · walk_at "xd"
      · exact rfl
      · rfl
  | nt s =>
    have g1 : dep s ≤ n := Nat.le_of_succ_le_succ h1
    walk_at "asg"
    apply xs_seq; apply xs_ifF
    · apply xt_T; walk_at "stl"
    refine xs_next ?_
    apply xs_seq; apply xs_ifF
    · apply xt_T; walk_at "stl"
    refine xs_next ?_
    apply xs_seq; apply xs_ifF
    · apply xt_T; walk_at "stl"
    refine xs_next ?_
    apply xs_seq; apply xs_ifT
    · apply xt_T; walk_at "stl"
    · apply xs_retE
      · apply xd_not
        apply xe_call; walk_at "xa"
        exact ⟨s, p, rfl, ⟨h0.part (p := s) List.mem_cons_self, g1, h2⟩, rfl⟩
      · exact rfl
      · rfl
  | an ss =>
    have l4 : ss.length ≤ 4 := hs
    have g1 : ∀ t ∈ ss, dep t ≤ n := fun t ht => by
      have a1 : max 1 (deps ss) + 1 ≤ n + 1 := h1
      have a2 := deps_le ht
      omega
    walk_at "asg"
    apply xs_seq; apply xs_ifF
    · apply xt_T; walk_at "stl"
    refine xs_next ?_
    apply xs_seq; apply xs_ifF
    · apply xt_T; walk_at "stl"
    refine xs_next ?_
    apply xs_seq; apply xs_ifF
    · apply xt_T; walk_at "stl"
    refine xs_next ?_
    apply xs_seq; apply xs_ifF
    · apply xt_T; walk_at "stl"
    refine xs_next ?_
    apply xs_seq; apply xs_asgD
    · refine xd_lcM ss sd (fun t => .bl (truth p t)) ?_ (by decide) (by omega) fun t ht => ?_
      · rw [← sds_map]
        apply ix_tupD
        apply xd_ixT
        · apply xu_of
          exact xd_var rfl
        · walk_at "xd"
        · rfl
      · apply xe_call; walk_at "xa"
        exact ⟨t, p, rfl, ⟨h0.part (p := t) ht, g1 t ht, h2⟩, rfl⟩
    apply xs_retE
    · apply xd_if (b := true)
      · apply xt_T; walk_at "stl"
      · intro _
        apply xd_all (bs := ss.map (truth p))
        apply xl_of
        apply XD.eq
        · walk_at "xd"
        · rw [List.map_map]
          rfl
      · intro z
        cases z
    · exact rfl
    · show D.bl _ = D.bl ((truths p ss).all id)
      rw [truths_map]
  | orr ss =>
    have l4 : ss.length ≤ 4 := hs
    have g1 : ∀ t ∈ ss, dep t ≤ n := fun t ht => by
      have a1 : max 1 (deps ss) + 1 ≤ n + 1 := h1
      have a2 := deps_le ht
      omega
    walk_at "asg"
    apply xs_seq; apply xs_ifF
    · apply xt_T; walk_at "stl"
    refine xs_next ?_
    apply xs_seq; apply xs_ifF
    · apply xt_T; walk_at "stl"
    refine xs_next ?_
    apply xs_seq; apply xs_ifF
    · apply xt_T; walk_at "stl"
    refine xs_next ?_
    apply xs_seq; apply xs_ifF
    · apply xt_T; walk_at "stl"
    refine xs_next ?_
    apply xs_seq; apply xs_asgD
    · refine xd_lcM ss sd (fun t => .bl (truth p t)) ?_ (by decide) (by omega) fun t ht => ?_
      · rw [← sds_map]
        apply ix_tupD
        apply xd_ixT
        · apply xu_of
          exact xd_var rfl
        · walk_at "xd"
        · rfl
      · apply xe_call; walk_at "xa"
        exact ⟨t, p, rfl, ⟨h0.part (p := t) ht, g1 t ht, h2⟩, rfl⟩
    apply xs_retE
    · apply xd_if (b := false)
      · apply xt_T; walk_at "stl"
      · intro z
        cases z
      · intro _
        apply xd_any (bs := ss.map (truth p))
        apply xl_of
        apply XD.eq
        · walk_at "xd"
        · rw [List.map_map]
          rfl
    · exact rfl
    · show D.bl _ = D.bl ((truths p ss).any id)
      rw [truths_map]
theorem ok_is_true (B : Blt K mg) (Df : Dfd K mg "is_true" 54) : H_is_true P w K mg base :=
  is_true_step B Df 3 4 (is_true_step B Df 2 3 (is_true_step B Df 1 2 (is_true_base B Df)))
end
end Dx
end

section
set_option Elab.async false
set_option linter.all false
set_option maxRecDepth 100000
set_option maxHeartbeats 4000000
namespace Dx
open PySem PySem.Spec PyProof.Rows L2 Evl RZ
local macro_rules | `(tactic| walk_at "sd") => `(tactic| first | rfl | assumption | omega | exact Nat.le_of_ble_eq_true rfl | exact decide_eq_false (by omega) | exact decide_eq_true (by omega) | decide | (constructor <;> omega) | (simp only [List.length_map]; omega) | (simp only [List.length_map]; constructor <;> omega))
local macro_rules | `(tactic| walk_at "sd?") => `(tactic| first | walk_at "sd" | rotate_left)
local macro_rules | `(tactic| walk_at "xl") => `(tactic| first | exact xl_own rfl | (apply xl_of; walk_at "xd") | (apply xl_r; walk_at "xd"))
local macro_rules | `(tactic| walk_at "xm") => `(tactic| first | exact xm_own rfl | (apply xm_of; walk_at "xd"))
local macro_rules | `(tactic| walk_at "xu") => `(tactic| first | (apply xu_of; walk_at "xd") | (apply xu_r; walk_at "xd") | (apply xu_k; walk_at "xd"))
local macro_rules | `(tactic| walk_at "xa") => `(tactic| first | exact xa_nil | (apply xa_cons; walk_at "xd"; walk_at "xa"))
local macro_rules | `(tactic| walk_at "xo") => `(tactic| first | exact xo_none | (apply xo_some; walk_at "xd"))
local macro_rules | `(tactic| walk_at "xd") => `(tactic| first
  | exact xd_int | exact xd_str | exact xd_bl | exact xd_non | exact xd_var rfl
  | (apply xd_add; walk_at "xd"; walk_at "xd") | (apply xd_sub; walk_at "xd"; walk_at "xd") | (apply xd_neg; walk_at "xd")
  | (apply xd_mul; walk_at "xd"; walk_at "xd"; walk_at "sd?") | (apply xd_fdiv; walk_at "xd"; walk_at "xd"; walk_at "sd?") | (apply xd_mod; walk_at "xd"; walk_at "xd"; walk_at "sd?")
  | (apply xd_lt; walk_at "xd"; walk_at "xd") | (apply xd_le; walk_at "xd"; walk_at "xd") | (apply xd_gt; walk_at "xd"; walk_at "xd") | (apply xd_ge; walk_at "xd"; walk_at "xd")
  | (apply xd_chainLe; walk_at "xd"; walk_at "xd"; walk_at "xd")
  | (apply xd_eqI; walk_at "xd"; walk_at "xd") | (apply xd_neI; walk_at "xd"; walk_at "xd") | (apply xd_eqS; walk_at "xd"; walk_at "xd") | (apply xd_neS; walk_at "xd"; walk_at "xd")
  | (apply xd_isN; walk_at "xd"; walk_at "xd") | (apply xd_notN; walk_at "xd"; walk_at "xd")
  | (apply xd_not; walk_at "xd") | (apply xd_and; walk_at "xd"; (intro _; walk_at "xd")) | (apply xd_or; walk_at "xd"; (intro _; walk_at "xd"))
  | (apply xd_ixT; walk_at "xu"; walk_at "xd"; rfl) | (apply xd_ixIU; walk_at "xu"; walk_at "xd"; walk_at "sd?") | (apply xd_ixI; walk_at "xl"; walk_at "xd"; walk_at "sd?") | (apply xd_ixL; walk_at "xl"; walk_at "xd"; walk_at "sd?")
  | (apply xd_tup; walk_at "xa"; walk_at "sd?") | (apply xd_lst; walk_at "xa"; walk_at "sd?")
  | (apply xd_len; walk_at "xl") | (apply xd_lenU; walk_at "xu") | (apply xd_abs; walk_at "xd") | (apply xd_min2; walk_at "xd"; walk_at "xd")
  | (apply xd_isi; walk_at "xd"; (first | exact kb_int | exact kb_int_bool | exact kb_tuple | exact kb_list | exact kb_str | exact kb_bool_bool))
  | (apply xd_slL; walk_at "xl"; walk_at "xo"; walk_at "xo") | (apply xd_slT; walk_at "xd"; walk_at "xo"; walk_at "xo")
  | (apply xd_cat; walk_at "xm"; walk_at "xm"; walk_at "sd?") | (apply xd_catT; walk_at "xd"; walk_at "xd"; walk_at "sd?")
  | (apply xd_list; walk_at "xl") | (apply xd_listU; walk_at "xu") | (apply xd_tuple; walk_at "xl") | (apply xd_tupleT; walk_at "xd")
  | (apply xd_slk; walk_at "xd"; walk_at "xo"; walk_at "xo") | (apply xd_catK; walk_at "xd"; walk_at "xd"; walk_at "sd?") | exact xd_tupK0 | (apply xd_tupK1; walk_at "xd")
  | (apply xe_call; walk_at "xa"; walk_at "sg"))
local macro_rules | `(tactic| walk_at "sg") => `(tactic| first | exact ⟨_, rfl, rfl⟩ | exact ⟨_, _, rfl, rfl⟩ | exact ⟨_, _, _, rfl, rfl⟩ | exact ⟨_, _, _, _, rfl, rfl⟩ | exact ⟨_, _, _, _, _, rfl, rfl⟩ | exact ⟨_, _, _, _, _, _, rfl, rfl⟩ | exact ⟨_, _, _, _, _, _, _, rfl, rfl⟩ | (refine' ⟨_, rfl, ?_, rfl⟩; walk_at "sd?") | (refine' ⟨_, _, rfl, ?_, rfl⟩; walk_at "sd?") | (refine' ⟨_, _, _, rfl, ?_, rfl⟩; walk_at "sd?") | (refine' ⟨_, _, _, _, rfl, ?_, rfl⟩; walk_at "sd?") | (refine' ⟨_, _, _, _, _, rfl, ?_, rfl⟩; walk_at "sd?") | (refine' ⟨_, _, _, _, _, _, rfl, ?_, rfl⟩; walk_at "sd?") | (refine' ⟨_, _, _, _, _, _, _, rfl, ?_, rfl⟩; walk_at "sd?"))
local macro_rules | `(tactic| walk_at "asg") => `(tactic| (apply xs_seq; apply xs_asgD; walk_at "xd"))
local macro_rules | `(tactic| walk_at "guard") => `(tactic| (apply xs_seq; apply xs_guard; walk_at "xt"; walk_at "sd?"))
local macro_rules | `(tactic| walk_at "ret") => `(tactic| (apply xs_retE; walk_at "xd"; exact rfl; walk_at "sd?"))
local macro_rules | `(tactic| walk_at "xt") => `(tactic| first
  | (apply xt_B; walk_at "xd") | (apply xt_T; walk_at "xd") | (apply xt_not; walk_at "xt") | (apply xt_and; walk_at "xt"; (intro _; walk_at "xt")) | (apply xt_or; walk_at "xt"; (intro _; walk_at "xt")) | exact xt_yes)
local macro_rules | `(tactic| walk_at "grd") => `(tactic| (apply xs_seq; apply xs_guard; walk_at "xt"))
local macro_rules | `(tactic| walk_at "grl") => `(tactic| (apply xs_guard; walk_at "xt"))
local macro_rules | `(tactic| walk_at "unp2") => `(tactic| (apply xs_seq; apply xs_asgG; walk_at "xd"; exact xg_tup (xgs_cons (xgs_cons xgs_nil)) rfl))
local macro_rules | `(tactic| walk_at "if") => `(tactic| (apply xs_seq; apply xs_if; walk_at "xt"))
local macro_rules | `(tactic| walk_at "drop") => `(tactic| (apply xs_seq; apply xs_drop; walk_at "xd"))

open Ma
section
variable {K : PySem.W.Frag} {ρ : List Sl} {ta tb tc te tl : TE}
theorem enumD_get {xs : List D} {i : Nat} {y : D} (h : (enumD xs)[i]? = some y) : ∃ x, xs[i]? = some x ∧ y = .tup [.int (i : Nat), x] := by
  have hi : i < (enumD xs).length := (List.getElem?_eq_some_iff.mp h).1
  rw [enumD_len] at hi
  have e := enumD_at (xs := xs) (List.getElem?_eq_getElem hi)
  rw [h] at e
  exact ⟨_, List.getElem?_eq_getElem hi, Option.some.inj e⟩
/-- the first place -/
def idx (k : Int) : List Int → Nat
  | [] => 0
  | n :: ns => if n = k then 0 else idx k ns + 1
theorem idx_at {k : Int} : ∀ {ns : List Int}, k ∈ ns → ns[idx k ns]? = some k
  | n :: ns, h => by
    unfold idx
    split
    · rename_i e
      rw [e]
      rfl
    · rename_i e
      exact idx_at ((List.mem_cons.mp h).resolve_left fun z => e z.symm)
theorem idx_lt {k : Int} {ns : List Int} (h : k ∈ ns) : idx k ns < ns.length := (List.getElem?_eq_some_iff.mp (idx_at h)).1
theorem idx_no {k : Int} : ∀ {ns : List Int} {j : Nat} {z : Int}, j < idx k ns → ns[j]? = some z → z ≠ k
  | n :: ns, j, z, h, e => by
    unfold idx at h
    split at h
    · omega
    · rename_i e2
      cases j with
      | zero =>
        cases e
        exact e2
      | succ j => exact idx_no (ns := ns) (Nat.lt_of_succ_lt_succ h) e
theorem eqV_int (a b : Int) : eqV (.int a) (.int b) = (a == b) := rfl
theorem xd_index {ns : List Int} {k : Int} (h : XL K te ρ (ns.map D.int)) (hb : XD K tb ρ (.int k)) (hk : k ∈ ns) : XD K (tBM K "list" (rIndex K) te (tCons tb tNil)) ρ (.int (idx k ns : Nat)) := fun H0 G H σ e s Q q =>
  h H0 G H σ e s _ fun a vs G1 H1 A1 h1 d1 => ⟨.inl ⟨rfl, vs, h1⟩, xa_cons hb xa_nil H0 G1 H1 σ A1.i (s.adv A1) _ fun us G2 H2 A2 d2 => by
    cases d2 with
    | cons x y =>
      cases x
      cases y
      have ev := d1.int_eq
      subst ev
      refine ⟨a, _, .int k, idx k ns, .int k, rfl, rfl, ex_l A2.h h1, rfl, all_int ns, by rw [List.getElem?_map, idx_at hk]; rfl, by rw [eqV_int]; exact beq_self_eq_true k, fun j z hj hz => ?_, q _ _ G2 H2 (A1.trans A2) rfl (.int _)⟩
      rw [List.getElem?_map] at hz
      obtain ⟨n, hn, rfl⟩ := Option.map_eq_some_iff.mp hz
      rw [eqV_int]
      exact beq_eq_false_iff_ne.mpr (idx_no hj hn)⟩
theorem xd_rev {xs : List D} (h : XL K te ρ xs) : XD K (tRevL K te) ρ (.lst xs.reverse) := fun H0 G H σ e s Q q => h H0 G H σ e s _ fun a vs G1 H1 A1 h1 d1 =>
  ⟨a, vs, rfl, h1, fun p hp => q _ _ _ _ (A1.trans (Adv.new A1.i hp)) rfl (.lst upd_same ((d1.mono (Adv.new A1.i hp).g).reverse))⟩
theorem xd_max {ns : List Int} (h : XL K te ρ (ns.map D.int)) (h0 : 0 < ns.length) (hn : ∀ n ∈ ns, 0 ≤ n) : XD K (tCB (rMax K) (tCons te tNil)) ρ (.int (mx ns)) := by
  refine (xe_max h h0).imp fun x hx => ?_
  obtain ⟨m, rfl, h1, h2⟩ := hx
  rw [mx_of (l := ns) (List.mem_cons_of_mem _ h1) fun y hy => ?_]
  rcases List.mem_cons.mp hy with rfl | hy
  · exact hn m h1
  · exact h2 y hy
theorem mx_mem {l : List Int} (h : l ≠ []) (hn : ∀ n ∈ l, 0 ≤ n) : mx l ∈ l := by
  induction l with
  | nil => exact absurd rfl h
  | cons a l ih =>
    have e : mx (a :: l) = max a (mx l) := rfl
    by_cases c : l = []
    · subst c
      have := hn a List.mem_cons_self
      rw [e, show mx [] = 0 from rfl, Int.max_eq_left this]
      exact List.mem_cons_self
    · have i := ih c fun n hm => hn n (List.mem_cons_of_mem _ hm)
      by_cases d : a ≤ mx l
      · rw [e, Int.max_eq_right d]
        exact List.mem_cons_of_mem _ i
      · rw [e, Int.max_eq_left (by omega)]
        exact List.mem_cons_self
end
/-- a book: how many claimants, its rules -/
abbrev Rl := Sent × Int
def rld (r : Rl) : D := .tup [sd r.1, .int r.2]
abbrev bd (m : Int) (rs : List Rl) : D := .tup [.int m, .lst (rs.map rld)]
structure BkOk (m : Int) (rs : List Rl) : Prop where
  m1 : 1 ≤ m
  m4 : m ≤ 4
  l8 : rs.length ≤ 8
  ok : ∀ r ∈ rs, SOk m r.1 ∧ 0 ≤ r.2 ∧ r.2 < m
  far : 3 ≤ m → ∀ r ∈ rs, reachS r.1 ≤ 3
theorem SOk.six {m : Int} {s : Sent} (h : SOk m s) : AllOk 6 s := fun t ht => by
  have q := h.ok t ht
  have := h.m6
  cases t with
  | went w b => exact ⟨q.1, by have := q.2.1; omega, q.2.2⟩
  | often w b n => exact ⟨q.1, by have := q.2.1; omega, q.2.2⟩
  | more w o b => exact ⟨q.1, by have := q.2.1; omega, q.2.2.1, q.2.2.2.1, q.2.2.2.2.1, by have := q.2.2.2.2.2.1; omega, q.2.2.2.2.2.2⟩
  | nt s => exact q
  | an ss => exact q
  | orr ss => exact q
def reachB (m : Int) (rs : List Rl) : Int := mx ((m - 1) :: rs.map fun r => reachS r.1)
theorem reachB_le {m : Int} {rs : List Rl} (h : BkOk m rs) : 0 ≤ reachB m rs ∧ reachB m rs ≤ 5 ∧ m - 1 ≤ reachB m rs := by
  have h4 := h.m4
  refine ⟨mx_nn _, mx_le (by decide) fun y hy => ?_, ?_⟩
  · rcases List.mem_cons.mp hy with rfl | hy
    · omega
    · obtain ⟨r, hr, rfl⟩ := List.mem_map.mp hy
      exact (reachS_le (h.ok r hr).1).2
  · show m - 1 ≤ max (m - 1) _
    omega
/-- whose rule holds -/
def pick (rs : List Rl) (p : List Int) : Option Rl := rs.find? fun r => truth p r.1
def waitA (l : List Int) (i : Nat) : Int := if (i : Int) ∈ l then (idx (i : Int) l.reverse : Nat) else (l.length : Int) + 1
def waitsA (n : Nat) (l : List Int) : List Int := (List.range n).map (waitA l)
def longA (m : Int) (l : List Int) : Int := (idx (mx (waitsA m.toNat l)) (waitsA m.toNat l) : Nat)
theorem waitA_nn (l : List Int) (i : Nat) : 0 ≤ waitA l i := by
  unfold waitA
  split <;> omega
theorem waitsA_nn (n : Nat) (l : List Int) : ∀ x ∈ waitsA n l, 0 ≤ x := fun x hx => by
  obtain ⟨i, _, rfl⟩ := List.mem_map.mp hx
  exact waitA_nn l i
theorem waitsA_len (n : Nat) (l : List Int) : (waitsA n l).length = n := by unfold waitsA; rw [List.length_map, List.length_range]
theorem waitsA_mx {n : Nat} {l : List Int} (h : 0 < n) : mx (waitsA n l) ∈ waitsA n l := mx_mem (fun z => by have := waitsA_len n l; rw [z] at this; simp at this; omega) (waitsA_nn n l)
theorem longA_in {m : Int} {l : List Int} (h : 1 ≤ m) : 0 ≤ longA m l ∧ longA m l < m := by
  have h1 := idx_lt (waitsA_mx (n := m.toNat) (l := l) (by omega))
  rw [waitsA_len] at h1
  unfold longA
  omega
theorem waitsA_succ (n : Nat) (l : List Int) : waitsA (n + 1) l = waitsA n l ++ [waitA l n] := by
  unfold waitsA
  rw [List.range_succ, List.map_append]
  rfl
def lastN (R : Int) (p : List Int) : List Int := cutD p (some ((p.length : Int) - (if (p.length : Int) < R then (p.length : Int) else R))) none
def choiceB (m : Int) (rs : List Rl) (R : Int) (p : List Int) : Int := match pick rs p with
  | some r => r.2
  | none => longA m (lastN R p)
theorem choiceB_in {m : Int} {rs : List Rl} {R : Int} {p : List Int} (h : BkOk m rs) : 0 ≤ choiceB m rs R p ∧ choiceB m rs R p < m := by
  unfold choiceB
  cases e : pick rs p with
  | some r => exact (h.ok r (List.mem_of_find?_eq_some e)).2
  | none => exact longA_in h.m1
section
variable {P : Program} {w : World} {K : PySem.W.Frag} {mg : Str → Option Value} {base : Heap}
def sg_is_rule : Sg := fun ds R => ∃ r m, ds = [rld r, .int m] ∧ (SOk m r.1 ∧ 0 ≤ r.2 ∧ r.2 < m) ∧ R = Eq (.bl true)
abbrev N_is_rule : List Str := ["thing", "many"]
theorem sc_is_rule : FnScope N_is_rule ["thing", "many"] (defScope (top 58)) := ⟨rfl, rfl, rfl, by decide +kernel, rfl, by decide +kernel, by decide +kernel⟩
abbrev H_is_rule (P : Program) (w : World) (K : PySem.W.Frag) (mg : Str → Option Value) (base : Heap) : Prop := Has P w K mg base "is_rule" 7 ["thing", "many"] (spX K sg_is_rule)

theorem ok_is_rule (B : Blt K mg) (Df : Dfd K mg "is_rule" 58) (h_greatest_claimant : H_greatest_claimant P w K mg base) (h_is_sentence : H_is_sentence P w K mg base) (h_is_within : H_is_within P w K mg base) : H_is_rule P w K mg base := by
  refine has_mk Df (fun _ _ _ _ _ _ us hl => match us, hl with | [_, _], _ => rfl) fun f fd F => ?_
  refine fn_ok F sc_is_rule (fun ds R ⟨_, _, e, _⟩ => e ▸ rfl) (fun cdv A outer s H E hr => ⟨_, (pss_cons (ps_if (PW.pt (pw_or (pt_not (pt_val (pe_callB call_isi rfl B.isinstance bt_isinstance (pa_cons (pv 0) (pa_cons (pe_ty rfl B.tuple bt_tuple) pa_nil))))) (pw_or (pt_cmpR op_ne (pe_callB cr_lenS rfl B.len bt_len (pa_cons (pv 0) pa_nil)) pe_int (nomark _)) (pw_or1 (pt_not (pt_val (pe_callH h_is_within (hr.mono (by decide)) rfl (pa_cons (pe_ix ix_tup (pv 0) pe_int (fun _ _ => rfl)) (pa_cons pe_int (pa_cons (pe_op op_sub (pv 1) pe_int) pa_nil)))))))))) (pss_one (ps_ret pe_bl)) pss_nil)
    (pss_one (ps_ret (pe_and (pe_callH h_is_sentence (hr.mono (by decide)) rfl (pa_cons (pe_ix ix_tup (pv 0) pe_int (fun _ _ => rfl)) pa_nil)) (pe_one (pe_cmpR op_lt (pe_callH h_greatest_claimant (hr.mono (by decide)) rfl (pa_cons (pe_ix ix_tup (pv 0) pe_int (fun _ _ => rfl)) pa_nil)) (pv 1) (nomark _))))))), fun ds R h => ?_⟩)
  obtain ⟨⟨s, c⟩, m, rfl, ⟨h0, h1, h2⟩, rfl⟩ := h
  have h1 : 0 ≤ c := h1
  have h2 : c < m := h2
  walk_at "grd"
  · simp
    omega
  · refine xs_ret (R := Eq (.bl true)) ?_ fun x hx => hx
    apply xd_andT
    · apply xe_call; walk_at "xa"
      exact ⟨s, m, rfl, h0, rfl⟩
    · refine xe_op (Rb := Eq (.int m)) (xe_call (xa_cons (xd_ixT (xu_of (xd_var rfl)) xd_int rfl) xa_nil) ⟨s, m, rfl, ⟨h0, by omega⟩, rfl⟩) (xd_var rfl) fun a b ha hb => ?_
      obtain ⟨g, rfl, hg⟩ := ha
      subst hb
      have q := ox_I0 (K := K) (g := fun i j => V.bl (decide (i < j))) (i := g) (j := m) (x := .bl (decide (g < m))) fun _ => .bl _
      rw [decide_eq_true hg] at q
      exact q
def sg_check_book : Sg := fun ds R => ∃ m rs, ds = [bd m rs] ∧ BkOk m rs ∧ R = Eq .non
abbrev N_check_book : List Str := ["thing", "at", "rule"]
theorem sc_check_book : FnScope N_check_book ["thing"] (defScope (top 59)) := ⟨rfl, rfl, rfl, by decide +kernel, rfl, by decide +kernel, by decide +kernel⟩
abbrev H_check_book (P : Program) (w : World) (K : PySem.W.Frag) (mg : Str → Option Value) (base : Heap) : Prop := Has P w K mg base "check_book" 8 ["thing"] (spX K sg_check_book)

theorem ok_check_book (B : Blt K mg) (Df : Dfd K mg "check_book" 59) (h_is_rule : H_is_rule P w K mg base) (h_is_within : H_is_within P w K mg base) : H_check_book P w K mg base := by
  obtain ⟨_, c_MOST_RULES⟩ := B.MOST_RULES
  obtain ⟨_, c_MOST_MANY⟩ := B.MOST_MANY
  refine has_mk Df (fun _ _ _ _ _ _ us hl => match us, hl with | [_], _ => rfl) fun f fd F => ?_
  refine fn_ok F sc_check_book (fun ds R ⟨_, _, e, _⟩ => e ▸ rfl) (fun cdv A outer s H E hr => ⟨_, (pss_cons (ps_if (PW.pt (pw_or (pt_not (pt_val (pe_callB call_isi rfl B.isinstance bt_isinstance (pa_cons (pv 0) (pa_cons (pe_ty rfl B.tuple bt_tuple) pa_nil))))) (pw_or (pt_cmpR op_ne (pe_callB cr_lenS rfl B.len bt_len (pa_cons (pv 0) pa_nil)) pe_int (nomark _)) (pw_or1 (pt_not (pt_val (pe_callH h_is_within (hr.mono (by decide)) rfl (pa_cons (pe_ix ix_tup (pv 0) pe_int (fun _ _ => rfl)) (pa_cons pe_int (pa_cons (pe_glob (v := .int 4) rfl c_MOST_MANY ⟨_, rfl⟩) pa_nil)))))))))) (pss_one ps_never) pss_nil)
    (pss_cons (ps_if (PW.pt (pw_or (pt_not (pt_val (pe_callB call_isi rfl B.isinstance bt_isinstance (pa_cons (pe_ix ix_tup (pv 0) pe_int (fun _ _ => rfl)) (pa_cons (pe_ty rfl B.list bt_list) pa_nil))))) (pw_or1 (pt_cmpR op_gt (pe_callB cr_lenS rfl B.len bt_len (pa_cons (pe_ix ix_tup (pv 0) pe_int (fun _ _ => rfl)) pa_nil)) (pe_glob (v := .int 8) rfl c_MOST_RULES ⟨_, rfl⟩) (nomark _))))) (pss_one ps_never) pss_nil)
    (pss_one (ps_for PassesOwn.never rfl (pi_enum rfl B.enumerate (pa_cons (pe_ix ix_tup (pv 0) pe_int (fun _ _ => rfl)) pa_nil)) (pg_tup rfl (pgs_cons (pg_name (i := 1) sc_check_book.nd rfl (by first | exact Or.inl rfl | exact Or.inr rfl)) (pgs_cons (pg_name (i := 2) sc_check_book.nd rfl (by first | exact Or.inl rfl | exact Or.inr rfl)) pgs_nil))) (pss_one (ps_if (pt_not (pt_val (pe_callH h_is_rule (hr.mono (by decide)) rfl (pa_cons (pv 2) (pa_cons (pe_ix ix_tup (pv 0) pe_int (fun _ _ => rfl)) pa_nil))))) (pss_one ps_never) pss_nil)))))), fun ds R h => ?_⟩)
  obtain ⟨m, rs, rfl, h0, rfl⟩ := h
  have h1 := h0.m1
  have h4 := h0.m4
  have h8 := h0.l8
  walk_at "grd"
  · simp
    omega
  walk_at "grd"
  · simp
    omega
  refine xs_for (js := [1, 2]) (ys := enumD (rs.map rld)) (fun _ r => ∃ s1 s2, r = [.d (bd m rs), s1, s2]) (ix_enum (xd_ixT (xu_of (xd_var rfl)) xd_int rfl)) ⟨_, _, rfl⟩ (fun i y r hy hr => ?_) (fun r hr => rfl)
  obtain ⟨s1, s2, rfl⟩ := hr
  obtain ⟨x, hx, rfl⟩ := enumD_get hy
  rw [List.getElem?_map] at hx
  obtain ⟨rl, hrl, rfl⟩ := Option.map_eq_some_iff.mp hx
  refine ⟨_, xg_tup (xgs_cons (xgs_cons xgs_nil)) rfl, ?_⟩
  refine xs_guard (a := false) ?_ rfl ⟨_, _, rfl⟩
  refine xt_not (b := true) (xt_T ?_)
  apply xe_call; walk_at "xa"
  exact ⟨rl, m, rfl, h0.ok rl (List.mem_of_getElem? hrl), rfl⟩
def sg_book_reach : Sg := fun ds R => ∃ m rs, ds = [bd m rs] ∧ BkOk m rs ∧ R = Eq (.int (reachB m rs))
abbrev N_book_reach : List Str := ["book", "sentence", "one"]
theorem sc_book_reach : FnScope N_book_reach ["book"] (defScope (top 60)) := ⟨rfl, rfl, rfl, by decide +kernel, rfl, by decide +kernel, by decide +kernel⟩
abbrev H_book_reach (P : Program) (w : World) (K : PySem.W.Frag) (mg : Str → Option Value) (base : Heap) : Prop := Has P w K mg base "book_reach" 7 ["book"] (spX K sg_book_reach)

theorem ok_book_reach (B : Blt K mg) (Df : Dfd K mg "book_reach" 60) (h_reach_in : H_reach_in P w K mg base) : H_book_reach P w K mg base := by
  refine has_mk Df (fun _ _ _ _ _ _ us hl => match us, hl with | [_], _ => rfl) fun f fd F => ?_
  refine fn_ok F sc_book_reach (fun ds R ⟨_, _, e, _⟩ => e ▸ rfl) (fun cdv A outer s H E hr => ⟨_, (pss_one (ps_ret (pe_callB (cr_max rfl) rfl B.max bt_max (pa_cons (pe_op op_cat (pe_lst (pa_cons (pe_op op_sub (pe_ix ix_tup (pv 0) pe_int (fun _ _ => rfl)) pe_int) pa_nil)) (pe_lc (own := [("sentence", 1), ("one", 2)]) (g := (gTup _ 2 (gCons (gName 1) (gCons (gName 2) gNil)))) (by rfl) sc_book_reach.nd (pi_list (pe_ix ix_tup (pv 0) pe_int (fun _ _ => rfl))) (blkOk_by (own := [("sentence", 1), ("one", 2)]) (N := N_book_reach) (sc := defScope (top 60)) (by decide +kernel)) (fun _ _ _ _ _ => (pg_tup rfl (pgs_cons (pg_name (i := 1) sc_book_reach.nd rfl (Or.inl rfl)) (pgs_cons (pg_name (i := 2) sc_book_reach.nd rfl (Or.inl rfl)) pgs_nil)))) (fun _ _ _ _ _ => pts_nil) (fun _ _ _ _ _ => (pe_callH h_reach_in (hr.mono (by decide)) rfl (pa_cons (pv 1) pa_nil))))) pa_nil)))), fun ds R h => ?_⟩)
  obtain ⟨m, rs, rfl, h0, rfl⟩ := h
  have h1 := h0.m1
  have h8 := h0.l8
  apply xs_retE
  · apply xd_max (ns := (m - 1) :: rs.map fun r => reachS r.1)
    · apply xl_of
      apply XD.eq
      · apply xd_cat
        · apply xm_of
          walk_at "xd"
        · apply xm_of
          refine xd_lcMG (js := [1, 2]) rs rld (fun r => .int (reachS r.1)) _ (ix_listD (xd_ixT (xu_of (xd_var rfl)) xd_int rfl)) (by decide) (by omega) (fun a ha => xg_tup (xgs_cons (xgs_cons xgs_nil)) rfl) fun a ha => ?_
          apply xe_call; walk_at "xa"
          exact ⟨a.1, m, rfl, (h0.ok a ha).1, rfl⟩
        · rw [List.length_map]
          show 1 + _ ≤ _
          omega
      · show D.lst ([.int (m - 1)] ++ rs.map _) = _
        rw [List.map_cons, List.map_map]
        rfl
    · exact Nat.succ_pos _
    · intro n hn
      rcases List.mem_cons.mp hn with rfl | hn
      · omega
      · obtain ⟨r, hr, rfl⟩ := List.mem_map.mp hn
        exact (reachS_le (h0.ok r hr).1).1
  · exact rfl
  · rfl
def sg_rule_in : Sg := fun ds R => ∃ m rs p, ds = [bd m rs, .key p] ∧ (BkOk m rs ∧ p.length ≤ 100000) ∧ R = fun x => (x = .non ∧ pick rs p = none) ∨ ∃ (n : Nat) (r : Rl), x = .int n ∧ rs[n]? = some r ∧ pick rs p = some r
abbrev N_rule_in : List Str := ["book", "past", "number", "rule"]
theorem sc_rule_in : FnScope N_rule_in ["book", "past"] (defScope (top 61)) := ⟨rfl, rfl, rfl, by decide +kernel, rfl, by decide +kernel, by decide +kernel⟩
abbrev H_rule_in (P : Program) (w : World) (K : PySem.W.Frag) (mg : Str → Option Value) (base : Heap) : Prop := Has P w K mg base "rule_in" 6 ["book", "past"] (spX K sg_rule_in)

theorem find_take {α : Type} (f : α → Bool) (l : List α) (i : Nat) {a : α} (h : l[i]? = some a) : (l.take (i + 1)).find? f = ((l.take i).find? f).or (if f a then some a else none) := by
  rw [List.take_add_one, h, List.find?_append]
  show _ = ((l.take i).find? f).or _
  congr 1
  show List.find? f [a] = _
  rw [List.find?_cons]
  cases f a <;> rfl
theorem ok_rule_in (B : Blt K mg) (Df : Dfd K mg "rule_in" 61) (h_is_true : H_is_true P w K mg base) : H_rule_in P w K mg base := by
  refine has_mk Df (fun _ _ _ _ _ _ us hl => match us, hl with | [_, _], _ => rfl) fun f fd F => ?_
  refine fn_ok F sc_rule_in (fun ds R ⟨_, _, _, e, _⟩ => e ▸ rfl) (fun cdv A outer s H E hr => ⟨_, (pss_cons (ps_for PassesOwn.never rfl (pi_enum rfl B.enumerate (pa_cons (pe_ix ix_tup (pv 0) pe_int (fun _ _ => rfl)) pa_nil)) (pg_tup rfl (pgs_cons (pg_name (i := 2) sc_rule_in.nd rfl (by first | exact Or.inl rfl | exact Or.inr rfl)) (pgs_cons (pg_name (i := 3) sc_rule_in.nd rfl (by first | exact Or.inl rfl | exact Or.inr rfl)) pgs_nil))) (pss_one (ps_if (pt_val (pe_callH h_is_true (hr.mono (by decide)) rfl (pa_cons (pe_ix ix_tup (pv 3) pe_int (fun _ _ => rfl)) (pa_cons (pv 1) pa_nil)))) (pss_one (ps_ret (pv 2))) pss_nil)))
    (pss_one (ps_ret pe_non))), fun ds R h => ?_⟩)
  obtain ⟨m, rs, p, rfl, ⟨h0, hp⟩, rfl⟩ := h
  apply xs_seq
  refine xs_for (js := [2, 3]) (ys := enumD (rs.map rld)) (fun i r => ∃ s1 s2, r = [.d (bd m rs), .d (.key p), s1, s2] ∧ pick (rs.take i) p = none) (ix_enum (xd_ixT (xu_of (xd_var rfl)) xd_int rfl)) ⟨_, _, rfl, by rw [List.take_zero]; rfl⟩ (fun i y r hy hr => ?_) (fun r hr => ?_)
  · obtain ⟨s1, s2, rfl, hn⟩ := hr
    obtain ⟨x, hx, rfl⟩ := enumD_get hy
    rw [List.getElem?_map] at hx
    obtain ⟨rl, hrl, rfl⟩ := Option.map_eq_some_iff.mp hx
    have hk := h0.ok rl (List.mem_of_getElem? hrl)
    have e := find_take (fun r : Rl => truth p r.1) rs i hrl
    rw [show (rs.take i).find? (fun r : Rl => truth p r.1) = none from hn, Option.none_or] at e
    refine ⟨_, xg_tup (xgs_cons (xgs_cons xgs_nil)) rfl, ?_⟩
    refine xs_if (b := truth p rl.1) (xt_T ?_) (fun hb => ?_) fun hb => ?_
    · apply xe_call; walk_at "xa"
      exact ⟨rl.1, p, rfl, ⟨hk.1.six, hk.1.dp, hp⟩, rfl⟩
    · refine xs_ret (R := Eq (.int (i : Nat))) (xd_var rfl) fun x hx => ?_
      subst hx
      refine .inr ⟨i, rl, rfl, hrl, ?_⟩
      rw [hb] at e
      have q : rs.find? (fun r : Rl => truth p r.1) = (rs.take (i + 1) ++ rs.drop (i + 1)).find? (fun r : Rl => truth p r.1) := by rw [List.take_append_drop]
      unfold pick
      rw [q, List.find?_append, e]
      rfl
    · refine xs_next ⟨_, _, rfl, ?_⟩
      rw [hb] at e
      exact e
  · obtain ⟨s1, s2, rfl, hn⟩ := hr
    rw [enumD_len, List.length_map, List.take_length] at hn
    refine xs_ret (R := Eq .non) xd_non fun x hx => ?_
    subst hx
    exact .inl ⟨rfl, hn⟩
def sg_longest_ago : Sg := fun ds R => ∃ (m : Int) (l : List Int), ds = [.int m, .lst (ID l)] ∧ (1 ≤ m ∧ m ≤ 4) ∧ R = Eq (.int (longA m l))
abbrev N_longest_ago : List Str := ["many", "last", "waits", "one", "wait"]
theorem sc_longest_ago : FnScope N_longest_ago ["many", "last"] (defScope (top 62)) := ⟨rfl, rfl, rfl, by decide +kernel, rfl, by decide +kernel, by decide +kernel⟩
abbrev H_longest_ago (P : Program) (w : World) (K : PySem.W.Frag) (mg : Str → Option Value) (base : Heap) : Prop := Has P w K mg base "longest_ago" 1 ["many", "last"] (spX K sg_longest_ago)

theorem ok_longest_ago (B : Blt K mg) (Df : Dfd K mg "longest_ago" 62)  : H_longest_ago P w K mg base := by
  refine has_mk Df (fun _ _ _ _ _ _ us hl => match us, hl with | [_, _], _ => rfl) fun f fd F => ?_
  refine fn_ok F sc_longest_ago (fun ds R ⟨_, _, e, _⟩ => e ▸ rfl) (fun cdv A outer s H E hr => ⟨_, (pss_cons (ps_set (i := 2) sc_longest_ago.nd rfl (by first | exact Or.inl rfl | exact Or.inr rfl) (pe_lst pa_nil))
    (pss_cons (ps_for PassesOwn.never rfl (pi_range1 rfl B.range (pa_cons (pv 0) pa_nil)) (pg_name (i := 3) sc_longest_ago.nd rfl (by first | exact Or.inl rfl | exact Or.inr rfl)) (pss_cons (ps_set (i := 4) sc_longest_ago.nd rfl (by first | exact Or.inl rfl | exact Or.inr rfl) (pe_op op_add (pe_callB cr_lenS rfl B.len bt_len (pa_cons (pv 1) pa_nil)) pe_int))
    (pss_cons (ps_if (pt_cmpR op_in_seq (pv 3) (pv 1) (by rfl)) (pss_one (ps_set (i := 4) sc_longest_ago.nd rfl (by first | exact Or.inl rfl | exact Or.inr rfl) (pe_bm PySem.F.plainAttrs_list PySem.F.slot_list_index PySem.F.type_list_index mt_index (pe_revL (pv 1)) (pa_cons (pv 3) pa_nil)))) pss_nil)
    (pss_one (ps_expr (pe_bm PySem.F.plainAttrs_list PySem.F.slot_list_append PySem.F.type_list_append mt_append (pv 2) (pa_cons (pv 4) pa_nil)))))))
    (pss_one (ps_ret (pe_bm PySem.F.plainAttrs_list PySem.F.slot_list_index PySem.F.type_list_index mt_index (pv 2) (pa_cons (pe_callB (cr_max rfl) rfl B.max bt_max (pa_cons (pv 2) pa_nil)) pa_nil)))))), fun ds R h => ?_⟩)
  obtain ⟨m, l, rfl, ⟨h0, h1⟩, rfl⟩ := h
  apply xs_seq; apply xs_asgM xa_nil (by decide)
  apply xs_seq
  refine xs_forN (ys := intsD 0 m.toNat) (fun i r => ∃ s1 s2, r = [.d (.int m), .d (.lst (ID l)), .l (ID (waitsA i l)), s1, s2]) (ix_rng1 (xa_cons (xd_var rfl) xa_nil) (by omega) (by omega)) ⟨_, _, rfl⟩ (fun i y r hy hr => ?_) (fun r hr => ?_)
  · obtain ⟨s1, s2, rfl⟩ := hr
    have hi : i < m.toNat := by
      have := (List.getElem?_eq_some_iff.mp hy).1
      rw [ints_len] at this
      exact this
    rw [ints_at hi] at hy
    cases hy
    rw [show (0 : Int) + ((i : Nat) : Int) = ((i : Nat) : Int) by omega]
    have hz : (ID (waitsA i l)).length < 100000 := by
      rw [List.length_map, waitsA_len]
      omega
    walk_at "asg"
    apply xs_seq
    refine xs_if (b := decide ((i : Int) ∈ l)) (xt_T (xd_inI (xd_var rfl) (xl_of (xd_var rfl)))) (fun hb => ?_) fun hb => ?_
    · have hb := of_decide_eq_true hb
      apply xs_asgD (x := .int (idx (i : Int) l.reverse : Nat))
      · apply xd_index
        · apply xl_of
          apply XD.eq
          · apply xd_rev
            exact xl_of (xd_var rfl)
          · rw [← List.map_reverse]
        · walk_at "xd"
        · exact List.mem_reverse.mpr hb
      · apply xs_app (x := .int (idx (i : Int) l.reverse : Nat)) rfl (xd_var rfl) hz
        refine ⟨.d (.int (i : Nat)), .d (.int (idx (i : Int) l.reverse : Nat)), ?_⟩
        rw [waitsA_succ, show waitA l i = (idx (i : Int) l.reverse : Nat) from if_pos hb, show ID (waitsA i l ++ [((idx (i : Int) l.reverse : Nat) : Int)]) = ID (waitsA i l) ++ [.int (idx (i : Int) l.reverse : Nat)] from List.map_append]
        rfl
    · have hb := of_decide_eq_false hb
      refine xs_next ?_
      apply xs_app (x := .int ((l.length : Int) + 1)) rfl ?_ hz
      · refine ⟨.d (.int (i : Nat)), .d (.int (((ID l).length : Nat) + 1)), ?_⟩
        rw [waitsA_succ, show waitA l i = (l.length : Int) + 1 from if_neg hb, show ID (waitsA i l ++ [((l.length : Int) + 1)]) = ID (waitsA i l) ++ [.int ((l.length : Int) + 1)] from List.map_append]
        rfl
      · apply XD.eq
        · exact xd_var rfl
        · rw [List.length_map]
  · obtain ⟨s1, s2, rfl⟩ := hr
    rw [ints_len]
    apply xs_retE
    · apply xd_index
      · exact xl_own rfl
      · apply xd_max
        · exact xl_own rfl
        · rw [waitsA_len]
          omega
        · exact waitsA_nn _ _
      · exact waitsA_mx (by omega)
    · exact rfl
    · rfl
def sg_choice_within : Sg := fun ds R => ∃ m rs k p, ds = [bd m rs, .int k, .key p] ∧ (BkOk m rs ∧ p.length ≤ 100000) ∧ R = Eq (.int (choiceB m rs k p))
abbrev N_choice_within : List Str := ["book", "reach", "past", "number"]
theorem sc_choice_within : FnScope N_choice_within ["book", "reach", "past"] (defScope (top 63)) := ⟨rfl, rfl, rfl, by decide +kernel, rfl, by decide +kernel, by decide +kernel⟩
abbrev H_choice_within (P : Program) (w : World) (K : PySem.W.Frag) (mg : Str → Option Value) (base : Heap) : Prop := Has P w K mg base "choice_within" 7 ["book", "reach", "past"] (spX K sg_choice_within)

theorem ok_choice_within (B : Blt K mg) (Df : Dfd K mg "choice_within" 63) (h_longest_ago : H_longest_ago P w K mg base) (h_rule_in : H_rule_in P w K mg base) : H_choice_within P w K mg base := by
  refine has_mk Df (fun _ _ _ _ _ _ us hl => match us, hl with | [_, _, _], _ => rfl) fun f fd F => ?_
  refine fn_ok F sc_choice_within (fun ds R ⟨_, _, _, _, e, _⟩ => e ▸ rfl) (fun cdv A outer s H E hr => ⟨_, (pss_cons (ps_set (i := 3) sc_choice_within.nd rfl (by first | exact Or.inl rfl | exact Or.inr rfl) (pe_callH h_rule_in (hr.mono (by decide)) rfl (pa_cons (pv 0) (pa_cons (pv 2) pa_nil))))
    (pss_cons (ps_if (pt_cmpR op_isNo (pv 3) pe_non (nomark _)) (pss_one (ps_ret (pe_callH h_longest_ago (hr.mono (by decide)) rfl (pa_cons (pe_ix ix_tup (pv 0) pe_int (fun _ _ => rfl)) (pa_cons (pe_callTy cr_listS rfl B.list bt_list (pa_cons (pe_slice sl_tupK (pv 2) (po_some (pe_op op_sub (pe_callB cr_lenS rfl B.len bt_len (pa_cons (pv 2) pa_nil)) (pe_callB (cr_min2 rfl) rfl B.min bt_min (pa_cons (pv 1) (pa_cons (pe_callB cr_lenS rfl B.len bt_len (pa_cons (pv 2) pa_nil)) pa_nil))))) po_none) pa_nil)) pa_nil))))) pss_nil)
    (pss_one (ps_ret (pe_ix ix_tup (pe_ix ix_list (pe_ix ix_tup (pv 0) pe_int (fun _ _ => rfl)) (pv 3) (fun _ _ => rfl)) pe_int (fun _ _ => rfl)))))), fun ds R h => ?_⟩)
  obtain ⟨m, rs, k, p, rfl, ⟨h0, hp⟩, rfl⟩ := h
  have el : ((p.map D.int).length : Nat) = p.length := List.length_map _
  apply xs_seq
  refine xs_asg (xe_call (xa_cons (xd_var rfl) (xa_cons (xd_var rfl) xa_nil)) ⟨m, rs, p, rfl, ⟨h0, hp⟩, rfl⟩) fun x hx => ?_
  rcases hx with ⟨rfl, hn⟩ | ⟨n, r, rfl, hr, hs⟩
  · apply xs_seq; apply xs_ifET
    · walk_at "xt"
    · rfl
    apply xs_retE
    · apply xe_call
      · apply xa_cons
        · walk_at "xd"
        · apply xa_cons
          · apply XD.eq
            · apply xd_listU
              apply xu_k
              walk_at "xd"
            · rw [el]
          · exact xa_nil
      · exact ⟨m, lastN k p, rfl, ⟨h0.m1, h0.m4⟩, rfl⟩
    · exact rfl
    · unfold choiceB
      rw [hn]
  · apply xs_seq; apply xs_ifEF
    · walk_at "xt"
    · rfl
    refine xs_next ?_
    have hlt := (List.getElem?_eq_some_iff.mp hr).1
    apply xs_retE
    · refine xd_ixT (x := .int r.2) (xu_of (xs := [sd r.1, .int r.2]) (xd_ixL (xs := rs.map rld) (i := (n : Int)) (xl_of (xd_ixT (xu_of (xd_var rfl)) xd_int rfl)) (xd_var rfl) ?_)) xd_int rfl
      rw [atI_nat (j := n) (v := rld r) (by rw [List.getElem?_map, hr]; rfl)]
      rfl
    · exact rfl
    · unfold choiceB
      rw [hs]
def sg_check_both : Sg := fun ds R => ∃ m rs p, ds = [bd m rs, .lst (ID p)] ∧ (BkOk m rs ∧ inC m p ∧ p.length ≤ 120) ∧ R = Eq .non
abbrev N_check_both : List Str := ["book", "past"]
theorem sc_check_both : FnScope N_check_both ["book", "past"] (defScope (top 64)) := ⟨rfl, rfl, rfl, by decide +kernel, rfl, by decide +kernel, by decide +kernel⟩
abbrev H_check_both (P : Program) (w : World) (K : PySem.W.Frag) (mg : Str → Option Value) (base : Heap) : Prop := Has P w K mg base "check_both" 9 ["book", "past"] (spX K sg_check_both)

theorem ok_check_both (B : Blt K mg) (Df : Dfd K mg "check_both" 64) (h_check_past : H_check_past P w K mg base) (h_check_book : H_check_book P w K mg base) : H_check_both P w K mg base := by
  refine has_mk Df (fun _ _ _ _ _ _ us hl => match us, hl with | [_, _], _ => rfl) fun f fd F => ?_
  refine fn_ok F sc_check_both (fun ds R ⟨_, _, _, e, _⟩ => e ▸ rfl) (fun cdv A outer s H E hr => ⟨_, (pss_cons (ps_expr (pe_callH h_check_book (hr.mono (by decide)) rfl (pa_cons (pv 0) pa_nil)))
    (pss_one (ps_expr (pe_callH h_check_past (hr.mono (by decide)) rfl (pa_cons (pv 1) (pa_cons (pe_ix ix_tup (pv 0) pe_int (fun _ _ => rfl)) pa_nil)))))), fun ds R h => ?_⟩)
  obtain ⟨m, rs, p, rfl, ⟨h0, h1, h2⟩, rfl⟩ := h
  apply xs_seq
  refine xs_drop (xe_call (xa_cons (xd_var rfl) xa_nil) ⟨m, rs, rfl, h0, rfl⟩) ?_
  refine xs_drop (xe_call (xa_cons (xd_var rfl) (xa_cons (xd_ixT (xu_of (xd_var rfl)) xd_int rfl) xa_nil)) ⟨p, m, rfl, ⟨h1, h2⟩, rfl⟩) rfl
end
end Dx
end

section
set_option Elab.async false
set_option linter.all false
set_option maxRecDepth 100000
set_option maxHeartbeats 4000000
namespace Dx
open PySem PySem.Spec PyProof.Rows L2 Evl RZ
local macro_rules | `(tactic| walk_at "sd") => `(tactic| first | rfl | assumption | omega | exact Nat.le_of_ble_eq_true rfl | exact decide_eq_false (by omega) | exact decide_eq_true (by omega) | decide | (constructor <;> omega) | (simp only [List.length_map]; omega) | (simp only [List.length_map]; constructor <;> omega))
local macro_rules | `(tactic| walk_at "sd?") => `(tactic| first | walk_at "sd" | rotate_left)
local macro_rules | `(tactic| walk_at "xl") => `(tactic| first | exact xl_own rfl | (apply xl_of; walk_at "xd") | (apply xl_r; walk_at "xd"))
local macro_rules | `(tactic| walk_at "xm") => `(tactic| first | exact xm_own rfl | (apply xm_of; walk_at "xd"))
local macro_rules | `(tactic| walk_at "xu") => `(tactic| first | (apply xu_of; walk_at "xd") | (apply xu_r; walk_at "xd") | (apply xu_k; walk_at "xd"))
local macro_rules | `(tactic| walk_at "xa") => `(tactic| first | exact xa_nil | (apply xa_cons; walk_at "xd"; walk_at "xa"))
local macro_rules | `(tactic| walk_at "xo") => `(tactic| first | exact xo_none | (apply xo_some; walk_at "xd"))
local macro_rules | `(tactic| walk_at "xd") => `(tactic| first
  | exact xd_int | exact xd_str | exact xd_bl | exact xd_non | exact xd_var rfl
  | (apply xd_add; walk_at "xd"; walk_at "xd") | (apply xd_sub; walk_at "xd"; walk_at "xd") | (apply xd_neg; walk_at "xd")
  | (apply xd_mul; walk_at "xd"; walk_at "xd"; walk_at "sd?") | (apply xd_fdiv; walk_at "xd"; walk_at "xd"; walk_at "sd?") | (apply xd_mod; walk_at "xd"; walk_at "xd"; walk_at "sd?")
  | (apply xd_lt; walk_at "xd"; walk_at "xd") | (apply xd_le; walk_at "xd"; walk_at "xd") | (apply xd_gt; walk_at "xd"; walk_at "xd") | (apply xd_ge; walk_at "xd"; walk_at "xd")
  | (apply xd_chainLe; walk_at "xd"; walk_at "xd"; walk_at "xd")
  | (apply xd_eqI; walk_at "xd"; walk_at "xd") | (apply xd_neI; walk_at "xd"; walk_at "xd") | (apply xd_eqS; walk_at "xd"; walk_at "xd") | (apply xd_neS; walk_at "xd"; walk_at "xd")
  | (apply xd_isN; walk_at "xd"; walk_at "xd") | (apply xd_notN; walk_at "xd"; walk_at "xd")
  | (apply xd_not; walk_at "xd") | (apply xd_and; walk_at "xd"; (intro _; walk_at "xd")) | (apply xd_or; walk_at "xd"; (intro _; walk_at "xd"))
  | (apply xd_ixT; walk_at "xu"; walk_at "xd"; rfl) | (apply xd_ixIU; walk_at "xu"; walk_at "xd"; walk_at "sd?") | (apply xd_ixI; walk_at "xl"; walk_at "xd"; walk_at "sd?") | (apply xd_ixL; walk_at "xl"; walk_at "xd"; walk_at "sd?")
  | (apply xd_tup; walk_at "xa"; walk_at "sd?") | (apply xd_lst; walk_at "xa"; walk_at "sd?")
  | (apply xd_len; walk_at "xl") | (apply xd_lenU; walk_at "xu") | (apply xd_abs; walk_at "xd") | (apply xd_min2; walk_at "xd"; walk_at "xd")
  | (apply xd_isi; walk_at "xd"; (first | exact kb_int | exact kb_int_bool | exact kb_tuple | exact kb_list | exact kb_str | exact kb_bool_bool))
  | (apply xd_slL; walk_at "xl"; walk_at "xo"; walk_at "xo") | (apply xd_slT; walk_at "xd"; walk_at "xo"; walk_at "xo")
  | (apply xd_cat; walk_at "xm"; walk_at "xm"; walk_at "sd?") | (apply xd_catT; walk_at "xd"; walk_at "xd"; walk_at "sd?")
  | (apply xd_list; walk_at "xl") | (apply xd_listU; walk_at "xu") | (apply xd_tuple; walk_at "xl") | (apply xd_tupleT; walk_at "xd")
  | (apply xd_slk; walk_at "xd"; walk_at "xo"; walk_at "xo") | (apply xd_catK; walk_at "xd"; walk_at "xd"; walk_at "sd?") | exact xd_tupK0 | (apply xd_tupK1; walk_at "xd")
  | (apply xe_call; walk_at "xa"; walk_at "sg"))
local macro_rules | `(tactic| walk_at "sg") => `(tactic| first | exact ⟨_, rfl, rfl⟩ | exact ⟨_, _, rfl, rfl⟩ | exact ⟨_, _, _, rfl, rfl⟩ | exact ⟨_, _, _, _, rfl, rfl⟩ | exact ⟨_, _, _, _, _, rfl, rfl⟩ | exact ⟨_, _, _, _, _, _, rfl, rfl⟩ | exact ⟨_, _, _, _, _, _, _, rfl, rfl⟩ | (refine' ⟨_, rfl, ?_, rfl⟩; walk_at "sd?") | (refine' ⟨_, _, rfl, ?_, rfl⟩; walk_at "sd?") | (refine' ⟨_, _, _, rfl, ?_, rfl⟩; walk_at "sd?") | (refine' ⟨_, _, _, _, rfl, ?_, rfl⟩; walk_at "sd?") | (refine' ⟨_, _, _, _, _, rfl, ?_, rfl⟩; walk_at "sd?") | (refine' ⟨_, _, _, _, _, _, rfl, ?_, rfl⟩; walk_at "sd?") | (refine' ⟨_, _, _, _, _, _, _, rfl, ?_, rfl⟩; walk_at "sd?"))
local macro_rules | `(tactic| walk_at "asg") => `(tactic| (apply xs_seq; apply xs_asgD; walk_at "xd"))
local macro_rules | `(tactic| walk_at "guard") => `(tactic| (apply xs_seq; apply xs_guard; walk_at "xt"; walk_at "sd?"))
local macro_rules | `(tactic| walk_at "ret") => `(tactic| (apply xs_retE; walk_at "xd"; exact rfl; walk_at "sd?"))
local macro_rules | `(tactic| walk_at "xt") => `(tactic| first
  | (apply xt_B; walk_at "xd") | (apply xt_T; walk_at "xd") | (apply xt_not; walk_at "xt") | (apply xt_and; walk_at "xt"; (intro _; walk_at "xt")) | (apply xt_or; walk_at "xt"; (intro _; walk_at "xt")) | exact xt_yes)
local macro_rules | `(tactic| walk_at "grd") => `(tactic| (apply xs_seq; apply xs_guard; walk_at "xt"))
local macro_rules | `(tactic| walk_at "grl") => `(tactic| (apply xs_guard; walk_at "xt"))
local macro_rules | `(tactic| walk_at "unp2") => `(tactic| (apply xs_seq; apply xs_asgG; walk_at "xd"; exact xg_tup (xgs_cons (xgs_cons xgs_nil)) rfl))
local macro_rules | `(tactic| walk_at "if") => `(tactic| (apply xs_seq; apply xs_if; walk_at "xt"))
local macro_rules | `(tactic| walk_at "drop") => `(tactic| (apply xs_seq; apply xs_drop; walk_at "xd"))

open Ma
theorem inC_inM {m : Int} {p : List Int} (hm : 0 ≤ m) : inC m p ↔ inM m.toNat p := by
  constructor
  · intro h a ha
    have := h a ha
    omega
  · intro h a ha
    have := h a ha
    omega
theorem lastN_eq {R : Int} (p : List Int) (h : 0 ≤ R) : lastN R p = p.drop (p.length - R.toNat) := by
  unfold lastN cutD
  have e : ((p.length : Int) - (if (p.length : Int) < R then (p.length : Int) else R)) = ((p.length - R.toNat : Nat) : Int) := by
    split <;> omega
  rw [e, HT.sIx_nat, HT.sIx_none, Nat.min_eq_left (by omega), List.take_of_length_le (by rw [List.length_drop]; omega)]
theorem lastN_len {R : Int} {p : List Int} (h : 0 ≤ R) : (lastN R p).length ≤ R.toNat ∧ (lastN R p).length ≤ p.length := by
  rw [lastN_eq p h, List.length_drop]
  omega
theorem lastN_in {R : Int} {p : List Int} {m : Int} (h : 0 ≤ R) (hp : inC m p) : inC m (lastN R p) := fun a ha => by
  rw [lastN_eq p h] at ha
  exact hp a (List.mem_of_mem_drop ha)
/-- all stands of a book; the step from each -/
def stands (m : Int) (rs : List Rl) : List (List Int) := allS m.toNat (reachB m rs).toNat
def cho (m : Int) (rs : List Rl) (p : List Int) : Int := choiceB m rs (reachB m rs) p
def nxt (m : Int) (rs : List Rl) (p : List Int) : List Int := lastN (reachB m rs) (p ++ [cho m rs p])
theorem stands_mem {m : Int} {rs : List Rl} (h : BkOk m rs) {p : List Int} : p ∈ stands m rs ↔ p.length ≤ (reachB m rs).toNat ∧ inC m p := by
  have := h.m1
  unfold stands
  rw [allS_mem, inC_inM (by omega)]
theorem stands_len {m : Int} {rs : List Rl} (h : BkOk m rs) : (stands m rs).length ≤ 2048 := by
  have h1 := h.m1
  have h4 := h.m4
  have hr := reachB_le h
  exact allS_2048 (by omega) (by omega)
theorem stands_nodup (m : Int) (rs : List Rl) : (stands m rs).Nodup := allS_nodup _
theorem nxt_mem {m : Int} {rs : List Rl} (h : BkOk m rs) {p : List Int} (hp : p ∈ stands m rs) : nxt m rs p ∈ stands m rs := by
  rw [stands_mem h] at hp ⊢
  have hr := reachB_le h
  refine ⟨(lastN_len hr.1).1, lastN_in hr.1 fun a ha => ?_⟩
  rcases List.mem_append.mp ha with ha | ha
  · exact hp.2 a ha
  · rw [List.mem_singleton.mp ha]
    exact choiceB_in h
theorem first_mem {m : Int} {rs : List Rl} (h : BkOk m rs) {p : List Int} (hp : inC m p) : lastN (reachB m rs) p ∈ stands m rs := by
  rw [stands_mem h]
  have hr := reachB_le h
  exact ⟨(lastN_len hr.1).1, lastN_in hr.1 hp⟩
abbrev keysD (ps : List (List Int)) : List D := ps.map D.key
/-! dicts that are told by a list of keys -/
def tab (l : List (List Int)) (f : List Int → D) : Kvs := l.map fun p => (p, f p)
theorem atK_tab (f : List Int → D) (k : List Int) : ∀ l : List (List Int), atK (tab l f) k = if k ∈ l then some (f k) else none
  | [] => rfl
  | p :: l => by
    have ih := atK_tab f k l
    unfold atK tab at ih ⊢
    rw [List.map_cons, List.find?_cons]
    by_cases c : p = k
    · subst c
      rw [decide_eq_true rfl, if_pos List.mem_cons_self]
      rfl
    · rw [decide_eq_false c, ih]
      by_cases d : k ∈ l
      · rw [if_pos d, if_pos (List.mem_cons_of_mem _ d)]
      · rw [if_neg d, if_neg fun z => (List.mem_cons.mp z).elim (fun z => c z.symm) d]
theorem putK_new {kvs : Kvs} {k : List Int} {d : D} (h : atK kvs k = none) : putK' kvs k d = kvs ++ [(k, d)] := by
  unfold putK'
  rw [h]
  rfl
theorem tab_snoc (l : List (List Int)) (f : List Int → D) (k : List Int) : tab (l ++ [k]) f = tab l f ++ [(k, f k)] := List.map_append
theorem nodup_at {l : List (List Int)} (h : l.Nodup) {i : Nat} {k : List Int} (e : l[i]? = some k) : k ∉ l.take i := fun hm => by
  obtain ⟨j, hj, e2⟩ := List.mem_iff_getElem.mp hm
  have hi : i < l.length := (List.getElem?_eq_some_iff.mp e).1
  rw [List.length_take] at hj
  rw [List.getElem_take] at e2
  have e3 := (List.getElem?_eq_some_iff.mp e).2
  have := (List.getElem_inj h).mp (e2.trans e3.symm)
  omega
theorem take_snoc {α : Type} {l : List α} {i : Nat} {k : α} (e : l[i]? = some k) : l.take (i + 1) = l.take i ++ [k] := by
  rw [List.take_add_one, e]
  rfl
section
variable {P : Program} {w : World} {K : PySem.W.Frag} {mg : Str → Option Value} {base : Heap}
def sg_pasts_to : Sg := fun ds R => ∃ m k : Int, ds = [.int m, .int k] ∧ (1 ≤ m ∧ m ≤ 4 ∧ 0 ≤ k ∧ k ≤ 5) ∧ R = Eq (.lst (keysD (allS m.toNat k.toNat)))
abbrev N_pasts_to : List Str := ["many", "most", "found", "last", "step", "longer", "past", "one"]
theorem sc_pasts_to : FnScope N_pasts_to ["many", "most"] (defScope (top 66)) := ⟨rfl, rfl, rfl, by decide +kernel, rfl, by decide +kernel, by decide +kernel⟩
abbrev H_pasts_to (P : Program) (w : World) (K : PySem.W.Frag) (mg : Str → Option Value) (base : Heap) : Prop := Has P w K mg base "pasts_to" 1 ["many", "most"] (spX K sg_pasts_to)

theorem lvl_succ (m k : Nat) : lvl m (k + 1) = (lvl m k).flatMap fun p => (List.range m).map fun (i : Nat) => p ++ [(i : Int)] := rfl
theorem fm_len (m : Nat) (l : List (List Int)) : (l.flatMap fun p => (List.range m).map fun (i : Nat) => p ++ [(i : Int)]).length = l.length * m := by
  induction l with
  | nil => exact (Nat.zero_mul m).symm
  | cons p l ih2 => rw [List.flatMap_cons, List.length_append, ih2, List.length_map, List.length_range, List.length_cons, Nat.succ_mul, Nat.add_comm]
theorem ok_pasts_to (B : Blt K mg) (Df : Dfd K mg "pasts_to" 66)  : H_pasts_to P w K mg base := by
  refine has_mk Df (fun _ _ _ _ _ _ us hl => match us, hl with | [_, _], _ => rfl) fun f fd F => ?_
  refine fn_ok F sc_pasts_to (fun ds R ⟨_, _, e, _⟩ => e ▸ rfl) (fun cdv A outer s H E hr => ⟨_, (pss_cons (ps_set (i := 2) sc_pasts_to.nd rfl (by first | exact Or.inl rfl | exact Or.inr rfl) (pe_lst (pa_cons (pe_tupK pa_nil) pa_nil)))
    (pss_cons (ps_set (i := 3) sc_pasts_to.nd rfl (by first | exact Or.inl rfl | exact Or.inr rfl) (pe_lst (pa_cons (pe_tupK pa_nil) pa_nil)))
    (pss_cons (ps_for PassesOwn.never rfl (pi_range1 rfl B.range (pa_cons (pv 1) pa_nil)) (pg_name (i := 4) sc_pasts_to.nd rfl (by first | exact Or.inl rfl | exact Or.inr rfl)) (pss_cons (ps_set (i := 5) sc_pasts_to.nd rfl (by first | exact Or.inl rfl | exact Or.inr rfl) (pe_lst pa_nil))
    (pss_cons (ps_for PassesOwn.never rfl (pi_list (pv 3)) (pg_name (i := 6) sc_pasts_to.nd rfl (by first | exact Or.inl rfl | exact Or.inr rfl)) (pss_one (ps_expr (pe_bm PySem.F.plainAttrs_list PySem.F.slot_list_extend PySem.F.type_list_extend mt_extend (pv 5) (pa_cons (pe_lc (own := [("one", 7)]) (g := (gName 7)) (by rfl) sc_pasts_to.nd (pi_range1 rfl B.range (pa_cons (pv 0) pa_nil)) (blkOk_by (own := [("one", 7)]) (N := N_pasts_to) (sc := defScope (top 66)) (by decide +kernel)) (fun _ _ _ _ _ => (pg_name (i := 7) sc_pasts_to.nd rfl (Or.inl rfl))) (fun _ _ _ _ _ => pts_nil) (fun _ _ _ _ _ => (pe_op (op_catKK (K := K) rfl) (pv 6) (pe_tupK (pa_cons (pv 7) pa_nil))))) pa_nil)))))
    (pss_cons (ps_set (i := 3) sc_pasts_to.nd rfl (by first | exact Or.inl rfl | exact Or.inr rfl) (pv 5))
    (pss_one (ps_set (i := 2) sc_pasts_to.nd rfl (by first | exact Or.inl rfl | exact Or.inr rfl) (pe_op op_cat (pv 2) (pv 3))))))))
    (pss_one (ps_ret (pv 2)))))), fun ds R h => ?_⟩)
  obtain ⟨m, k, rfl, ⟨h1, h4, h0, h5⟩, rfl⟩ := h
  apply xs_seq; apply xs_asgD (x := .lst (keysD [[]]))
  · exact xd_lst (xa_cons xd_tupK0 xa_nil) (by show 1 ≤ 100000; decide)
  apply xs_seq; apply xs_asgD (x := .lst (keysD [[]]))
  · exact xd_lst (xa_cons xd_tupK0 xa_nil) (by show 1 ≤ 100000; decide)
  apply xs_seq
  have lv : ∀ i, i ≤ 5 → (lvl m.toNat i).length ≤ 1024 := fun i hi => Nat.le_trans (lvl_len (by omega) i) (by
    have : 4 ^ i ≤ 4 ^ 5 := Nat.pow_le_pow_right (by decide) hi
    omega)
  refine xs_forN (ys := intsD 0 k.toNat) (fun i r => ∃ s4 s5 s6 s7, r = [.d (.int m), .d (.int k), .d (.lst (keysD (allS m.toNat i))), .d (.lst (keysD (lvl m.toNat i))), s4, s5, s6, s7]) (ix_rng1 (xa_cons (xd_var rfl) xa_nil) (by omega) (by omega)) ⟨_, _, _, _, rfl⟩ (fun i y r hy hr => ?_) (fun r hr => ?_)
  · obtain ⟨s4, s5, s6, s7, rfl⟩ := hr
    have hi : i < k.toNat := by
      have := (List.getElem?_eq_some_iff.mp hy).1
      rw [ints_len] at this
      exact this
    apply xs_seq; apply xs_asgM xa_nil (by decide)
    apply xs_seq
    refine xs_forN (ys := keysD (lvl m.toNat i)) (fun j r => ∃ s6 s7, r = [.d (.int m), .d (.int k), .d (.lst (keysD (allS m.toNat i))), .d (.lst (keysD (lvl m.toNat i))), .d y, .l (keysD (((lvl m.toNat i).take j).flatMap fun p => (List.range m.toNat).map fun (i : Nat) => p ++ [(i : Int)])), s6, s7]) (ix_listD (xd_var rfl)) ⟨s6, s7, by rw [List.take_zero]; rfl⟩ (fun j z r hz hr => ?_) (fun r hr => ?_)
    · obtain ⟨s6, s7, rfl⟩ := hr
      rw [List.getElem?_map] at hz
      obtain ⟨p, hp, rfl⟩ := Option.map_eq_some_iff.mp hz
      have pl : p.length = i := (lvl_mem.mp (List.mem_of_getElem? hp)).1
      have hjl := (List.getElem?_eq_some_iff.mp hp).1
      have := lv i (by omega)
      have tl : (((lvl m.toNat i).take j).flatMap fun p => (List.range m.toNat).map fun (i : Nat) => p ++ [(i : Int)]).length ≤ 4096 := by
        rw [fm_len, List.length_take]
        have a1 : min j (lvl m.toNat i).length ≤ 1024 := by omega
        have a2 : m.toNat ≤ 4 := by omega
        have := Nat.mul_le_mul a1 a2
        omega
      apply xs_ext (ys := (List.range m.toNat).map fun (a : Nat) => D.key (p ++ [(0 : Int) + (a : Int)])) rfl
      · refine xd_lcM (List.range m.toNat) (fun (a : Nat) => .int ((0 : Int) + (a : Int))) (fun (a : Nat) => D.key (p ++ [(0 : Int) + (a : Int)])) (ix_rng1 (xa_cons (xd_var rfl) xa_nil) (by omega) (by omega)) (by decide) (by rw [List.length_range]; omega) fun a ha => ?_
        apply xd_catK
        · walk_at "xd"
        · walk_at "xd"
        · rw [pl]
          show i + 1 ≤ _
          omega
      · rw [List.length_map, List.length_map, List.length_range]
        omega
      · refine ⟨.d (.key p), s7, ?_⟩
        rw [take_fm _ _ j hp]
        show [_, _, _, _, _, Sl.l (keysD _ ++ _), _, _] = _
        rw [show ∀ a b, keysD (a ++ b) = keysD a ++ keysD b from fun a b => List.map_append, show keysD ((List.range m.toNat).map fun (a : Nat) => p ++ [(a : Int)]) = (List.range m.toNat).map fun (a : Nat) => D.key (p ++ [(0 : Int) + (a : Int)]) from by
          unfold keysD
          rw [List.map_map]
          exact List.map_congr_left fun a _ => by
            show D.key _ = D.key _
            rw [Int.zero_add]]
    · obtain ⟨s6, s7, rfl⟩ := hr
      rw [List.length_map, List.take_length, ← lvl_succ]
      show XS K _ [_, _, _, _, _, .l (keysD (lvl m.toNat (i + 1))), _, _] _
      refine xs_frz 5 rfl ?_
      walk_at "asg"
      apply xs_asgD (x := .lst (keysD (allS m.toNat (i + 1))))
      · apply XD.eq
        · apply xd_cat
          · apply xm_of
            walk_at "xd"
          · apply xm_of
            walk_at "xd"
          · have a1 : (allS m.toNat i).length ≤ 2048 := allS_2048 (by omega) (by omega)
            have a2 := lv (i + 1) (by omega)
            rw [List.length_map, List.length_map]
            omega
        · rw [← List.map_append]
          rfl
      exact ⟨_, _, _, _, rfl⟩
  · obtain ⟨s4, s5, s6, s7, rfl⟩ := hr
    rw [ints_len]
    walk_at "ret"
def sg_all_stands : Sg := fun ds R => ∃ m rs, ds = [bd m rs] ∧ BkOk m rs ∧ R = Eq (.lst (keysD (stands m rs)))
abbrev N_all_stands : List Str := ["book"]
theorem sc_all_stands : FnScope N_all_stands ["book"] (defScope (top 67)) := ⟨rfl, rfl, rfl, by decide +kernel, rfl, by decide +kernel, by decide +kernel⟩
abbrev H_all_stands (P : Program) (w : World) (K : PySem.W.Frag) (mg : Str → Option Value) (base : Heap) : Prop := Has P w K mg base "all_stands" 8 ["book"] (spX K sg_all_stands)

theorem ok_all_stands (B : Blt K mg) (Df : Dfd K mg "all_stands" 67) (h_pasts_to : H_pasts_to P w K mg base) (h_book_reach : H_book_reach P w K mg base) : H_all_stands P w K mg base := by
  refine has_mk Df (fun _ _ _ _ _ _ us hl => match us, hl with | [_], _ => rfl) fun f fd F => ?_
  refine fn_ok F sc_all_stands (fun ds R ⟨_, _, e, _⟩ => e ▸ rfl) (fun cdv A outer s H E hr => ⟨_, (pss_one (ps_ret (pe_callH h_pasts_to (hr.mono (by decide)) rfl (pa_cons (pe_ix ix_tup (pv 0) pe_int (fun _ _ => rfl)) (pa_cons (pe_callH h_book_reach (hr.mono (by decide)) rfl (pa_cons (pv 0) pa_nil)) pa_nil))))), fun ds R h => ?_⟩)
  obtain ⟨m, rs, rfl, h0, rfl⟩ := h
  have hr := reachB_le h0
  apply xs_retE
  · apply xe_call
    · apply xa_cons
      · walk_at "xd"
      · apply xa_cons
        · apply xe_call; walk_at "xa"
          exact ⟨m, rs, rfl, h0, rfl⟩
        · exact xa_nil
    · exact ⟨m, reachB m rs, rfl, ⟨h0.m1, h0.m4, hr.1, hr.2.1⟩, rfl⟩
  · exact rfl
  · rfl
def sg_cut_to : Sg := fun ds R => ∃ (p : List Int) (k : Int), (ds = [.key p, .int k] ∨ ds = [.lst (ID p), .int k]) ∧ R = Eq (.key (lastN k p))
abbrev N_cut_to : List Str := ["past", "reach"]
theorem sc_cut_to : FnScope N_cut_to ["past", "reach"] (defScope (top 68)) := ⟨rfl, rfl, rfl, by decide +kernel, rfl, by decide +kernel, by decide +kernel⟩

abbrev H_cut_to (P : Program) (w : World) (K : PySem.W.Frag) (mg : Str → Option Value) (base : Heap) : Prop := Has P w K mg base "cut_to" 1 ["past", "reach"] (spX K sg_cut_to)
theorem ok_cut_to (B : Blt K mg) (Df : Dfd K mg "cut_to" 68) : H_cut_to P w K mg base := by
  refine has_mk Df (fun _ _ _ _ _ _ us hl => match us, hl with | [_, _], _ => rfl) fun f fd F => ?_
  refine fn_ok F sc_cut_to (fun ds R ⟨_, _, e, _⟩ => by rcases e with e | e <;> rw [e] <;> rfl) (fun cdv A outer s H E hr => ⟨_, (pss_one (ps_ret (pe_callTy cr_tupK rfl B.tuple bt_tuple (pa_cons (pe_slice sl_2 (pv 0) (po_some (pe_op op_sub (pe_callB cr_lenS rfl B.len bt_len (pa_cons (pv 0) pa_nil)) (pe_callB (cr_min2 rfl) rfl B.min bt_min (pa_cons (pv 1) (pa_cons (pe_callB cr_lenS rfl B.len bt_len (pa_cons (pv 0) pa_nil)) pa_nil))))) po_none) pa_nil)))), fun ds R h => ?_⟩)
  obtain ⟨p, k, e, rfl⟩ := h
  have el : ((p.map D.int).length : Nat) = p.length := List.length_map _
  rcases e with rfl | rfl
  · apply xs_retE
    · apply xd_keyK
      apply xd_sl2k
      · walk_at "xd"
      · apply xo_some
        apply xd_sub
        · apply xd_lenU
          apply xu_k
          walk_at "xd"
        · apply xd_min2
          · walk_at "xd"
          · apply xd_lenU
            apply xu_k
            walk_at "xd"
      · exact xo_none
    · exact rfl
    · rw [el]
      rfl
  · apply xs_retE
    · apply xd_keyL (ns := lastN k p)
      apply xl_of
      apply XD.eq
      · apply xd_sl2l
        · walk_at "xl"
        · apply xo_some
          apply xd_sub
          · walk_at "xd"
          · walk_at "xd"
        · exact xo_none
      · rw [el, cutD_map]
        rfl
    · exact rfl
    · rfl
def sg_stand_of : Sg := fun ds R => ∃ m rs p, ds = [bd m rs, .lst (ID p)] ∧ (BkOk m rs ∧ inC m p ∧ p.length ≤ 120) ∧ R = Eq (.key (lastN (reachB m rs) p))
abbrev N_stand_of : List Str := ["book", "past"]
theorem sc_stand_of : FnScope N_stand_of ["book", "past"] (defScope (top 69)) := ⟨rfl, rfl, rfl, by decide +kernel, rfl, by decide +kernel, by decide +kernel⟩
abbrev H_stand_of (P : Program) (w : World) (K : PySem.W.Frag) (mg : Str → Option Value) (base : Heap) : Prop := Has P w K mg base "stand_of" 10 ["book", "past"] (spX K sg_stand_of)

theorem ok_stand_of (B : Blt K mg) (Df : Dfd K mg "stand_of" 69) (h_cut_to : H_cut_to P w K mg base) (h_book_reach : H_book_reach P w K mg base) (h_check_both : H_check_both P w K mg base) : H_stand_of P w K mg base := by
  refine has_mk Df (fun _ _ _ _ _ _ us hl => match us, hl with | [_, _], _ => rfl) fun f fd F => ?_
  refine fn_ok F sc_stand_of (fun ds R ⟨_, _, _, e, _⟩ => e ▸ rfl) (fun cdv A outer s H E hr => ⟨_, (pss_cons (ps_expr (pe_callH h_check_both (hr.mono (by decide)) rfl (pa_cons (pv 0) (pa_cons (pv 1) pa_nil))))
    (pss_one (ps_ret (pe_callH h_cut_to (hr.mono (by decide)) rfl (pa_cons (pv 1) (pa_cons (pe_callH h_book_reach (hr.mono (by decide)) rfl (pa_cons (pv 0) pa_nil)) pa_nil)))))), fun ds R h => ?_⟩)
  obtain ⟨m, rs, p, rfl, ⟨h0, h1, h2⟩, rfl⟩ := h
  apply xs_seq
  refine xs_drop (xe_call (xa_cons (xd_var rfl) (xa_cons (xd_var rfl) xa_nil)) ⟨m, rs, p, rfl, ⟨h0, h1, h2⟩, rfl⟩) ?_
  apply xs_retE
  · apply xe_call
    · apply xa_cons
      · walk_at "xd"
      · apply xa_cons
        · apply xe_call; walk_at "xa"
          exact ⟨m, rs, rfl, h0, rfl⟩
        · exact xa_nil
    · exact ⟨p, _, .inr rfl, rfl⟩
  · exact rfl
  · rfl
/-- what stands behind a stand -/
def stepD (m : Int) (rs : List Rl) (p : List Int) : D := .tup [.int (cho m rs p), .key (nxt m rs p)]
def sg_steps_of : List D → (Kvs → Prop) → Prop := fun ds R => ∃ m rs, ds = [bd m rs] ∧ BkOk m rs ∧ R = Eq (tab (stands m rs) (stepD m rs))
abbrev N_steps_of : List Str := ["book", "reach", "found", "stand", "one"]
theorem sc_steps_of : FnScope N_steps_of ["book"] (defScope (top 70)) := ⟨rfl, rfl, rfl, by decide +kernel, rfl, by decide +kernel, by decide +kernel⟩
abbrev H_steps_of (P : Program) (w : World) (K : PySem.W.Frag) (mg : Str → Option Value) (base : Heap) : Prop := Has P w K mg base "steps_of" 9 ["book"] (spT K sg_steps_of)

theorem ok_steps_of (B : Blt K mg) (Df : Dfd K mg "steps_of" 70) (h_all_stands : H_all_stands P w K mg base) (h_cut_to : H_cut_to P w K mg base) (h_choice_within : H_choice_within P w K mg base) (h_book_reach : H_book_reach P w K mg base) : H_steps_of P w K mg base := by
  refine has_mk Df (fun _ _ _ _ _ _ us hl => match us, hl with | [_], _ => rfl) fun f fd F => ?_
  refine fn_okT F sc_steps_of (fun ds R ⟨_, _, e, _⟩ => e ▸ rfl) (fun cdv A outer s H E hr => ⟨_, (pss_cons (ps_set (i := 1) sc_steps_of.nd rfl (by first | exact Or.inl rfl | exact Or.inr rfl) (pe_callH h_book_reach (hr.mono (by decide)) rfl (pa_cons (pv 0) pa_nil)))
    (pss_cons (ps_set (i := 2) sc_steps_of.nd rfl (by first | exact Or.inl rfl | exact Or.inr rfl) pe_rnew)
    (pss_cons (ps_for PassesOwn.never rfl (pi_list (pe_callH h_all_stands (hr.mono (by decide)) rfl (pa_cons (pv 0) pa_nil))) (pg_name (i := 3) sc_steps_of.nd rfl (by first | exact Or.inl rfl | exact Or.inr rfl)) (pss_cons (ps_set (i := 4) sc_steps_of.nd rfl (by first | exact Or.inl rfl | exact Or.inr rfl) (pe_callH h_choice_within (hr.mono (by decide)) rfl (pa_cons (pv 0) (pa_cons (pv 1) (pa_cons (pv 3) pa_nil)))))
    (pss_one (ps_rput (hu_of hr) (pv 2) (pv 3) (pe_tup (pa_cons (pv 4) (pa_cons (pe_callH h_cut_to (hr.mono (by decide)) rfl (pa_cons (pe_op op_catK (pv 3) (pe_tupK (pa_cons (pv 4) pa_nil))) (pa_cons (pv 1) pa_nil))) pa_nil))) rfl))))
    (pss_one (ps_lockP (ps_ret (pv 2))))))), fun ds R h => ?_⟩)
  obtain ⟨m, rs, rfl, h0, rfl⟩ := h
  have hr := reachB_le h0
  have hl := stands_len h0
  apply xs_seq; apply xs_asgD (x := .int (reachB m rs))
  · apply xe_call; walk_at "xa"
    exact ⟨m, rs, rfl, h0, rfl⟩
  apply xs_seq; apply xs_asgT
  apply xs_seq
  refine xs_forN (ys := keysD (stands m rs)) (fun i r => ∃ s3 s4, r = [.d (bd m rs), .d (.int (reachB m rs)), .t (tab ((stands m rs).take i) (stepD m rs)), s3, s4]) (ix_listD ?_) ⟨_, _, by rw [List.take_zero]; rfl⟩ (fun i y r hy hr => ?_) (fun r hr => ?_)
  · apply xe_call; walk_at "xa"
    exact ⟨m, rs, rfl, h0, rfl⟩
  · obtain ⟨s3, s4, rfl⟩ := hr
    rw [List.getElem?_map] at hy
    obtain ⟨p, hp, rfl⟩ := Option.map_eq_some_iff.mp hy
    have hpm := (stands_mem h0).mp (List.mem_of_getElem? hp)
    apply xs_seq; apply xs_asgD (x := .int (cho m rs p))
    · apply xe_call; walk_at "xa"
      exact ⟨m, rs, reachB m rs, p, rfl, ⟨h0, by omega⟩, rfl⟩
    apply xs_rput (kvs := tab ((stands m rs).take i) (stepD m rs)) (k := p) (d := stepD m rs p) rfl (xd_var rfl)
    · apply xd_tup
      · apply xa_cons
        · walk_at "xd"
        · apply xa_cons
          · apply xe_call
            · apply xa_cons
              · apply xd_catK
                · walk_at "xd"
                · walk_at "xd"
                · show p.length + 1 ≤ _
                  omega
              · apply xa_cons
                · walk_at "xd"
                · exact xa_nil
            · exact ⟨p ++ [cho m rs p], reachB m rs, .inl rfl, rfl⟩
          · exact xa_nil
      · show 2 ≤ 100000
        decide
    · unfold tab
      rw [List.length_map, List.length_take]
      omega
    · refine ⟨.d (.key p), .d (.int (cho m rs p)), ?_⟩
      rw [putK_new (by rw [atK_tab, if_neg (nodup_at (stands_nodup m rs) hp)]), ← tab_snoc, ← take_snoc hp]
      rfl
  · obtain ⟨s3, s4, rfl⟩ := hr
    rw [List.length_map, List.take_length]
    show XS K _ [_, _, .t (tab (stands m rs) (stepD m rs)), _, _] _
    refine xs_lock 2 rfl ?_
    exact xs_retC rfl rfl
/-- what dealt gives: the least form of the row that comes of the stand -/
structure Dealt (m : Int) (rs : List Rl) (s : List Int) (h l : List Int) : Prop where
  nf : NF h l
  at_ : ∀ i, rowAt h l i = cho m rs (orb (nxt m rs) s i)
  len : h.length + l.length ≤ 2048
def sg_dealt : Sg := fun ds R => ∃ m rs p, ds = [bd m rs, .lst (ID p)] ∧ (BkOk m rs ∧ inC m p ∧ p.length ≤ 120) ∧ R = fun x => ∃ h l, x = run h l ∧ Dealt m rs (lastN (reachB m rs) p) h l
abbrev N_dealt : List Str := ["book", "past", "reach", "stand", "seen", "row"]
theorem sc_dealt : FnScope N_dealt ["book", "past"] (defScope (top 71)) := ⟨rfl, rfl, rfl, by decide +kernel, rfl, by decide +kernel, by decide +kernel⟩
abbrev H_dealt (P : Program) (w : World) (K : PySem.W.Frag) (mg : Str → Option Value) (base : Heap) : Prop := Has P w K mg base "dealt" 10 ["book", "past"] (spX K sg_dealt)

theorem ok_dealt (B : Blt K mg) (Df : Dfd K mg "dealt" 71) (h_least_of : H_least_of P w K mg base) (h_cut_to : H_cut_to P w K mg base) (h_choice_within : H_choice_within P w K mg base) (h_book_reach : H_book_reach P w K mg base) (h_check_both : H_check_both P w K mg base) : H_dealt P w K mg base := by
  refine has_mk Df (fun _ _ _ _ _ _ us hl => match us, hl with | [_, _], _ => rfl) fun f fd F => ?_
  refine fn_ok F sc_dealt (fun ds R ⟨_, _, _, e, _⟩ => e ▸ rfl) (fun cdv A outer s H E hr => ⟨_, (pss_cons (ps_expr (pe_callH h_check_both (hr.mono (by decide)) rfl (pa_cons (pv 0) (pa_cons (pv 1) pa_nil))))
    (pss_cons (ps_set (i := 2) sc_dealt.nd rfl (by first | exact Or.inl rfl | exact Or.inr rfl) (pe_callH h_book_reach (hr.mono (by decide)) rfl (pa_cons (pv 0) pa_nil)))
    (pss_cons (ps_set (i := 3) sc_dealt.nd rfl (by first | exact Or.inl rfl | exact Or.inr rfl) (pe_callH h_cut_to (hr.mono (by decide)) rfl (pa_cons (pv 1) (pa_cons (pv 2) pa_nil))))
    (pss_cons (ps_set (i := 4) sc_dealt.nd rfl (by first | exact Or.inl rfl | exact Or.inr rfl) pe_rnew)
    (pss_cons (ps_set (i := 5) sc_dealt.nd rfl (by first | exact Or.inl rfl | exact Or.inr rfl) (pe_lst pa_nil))
    (pss_cons (ps_while PassesOwn.never (pt_cmp (pc_rnotin (hu_of hr) (pv 3) (pv 4)) rfl) (pss_cons (ps_rput (hu_of hr) (pv 4) (pv 3) (pe_callB cr_lenS rfl B.len bt_len (pa_cons (pv 5) pa_nil)) rfl)
    (pss_cons (ps_expr (pe_bm PySem.F.plainAttrs_list PySem.F.slot_list_append PySem.F.type_list_append mt_append (pv 5) (pa_cons (pe_callH h_choice_within (hr.mono (by decide)) rfl (pa_cons (pv 0) (pa_cons (pv 2) (pa_cons (pv 3) pa_nil)))) pa_nil)))
    (pss_one (ps_set (i := 3) sc_dealt.nd rfl (by first | exact Or.inl rfl | exact Or.inr rfl) (pe_callH h_cut_to (hr.mono (by decide)) rfl (pa_cons (pe_op op_catK (pv 3) (pe_tupK (pa_cons (pe_ix ix_list (pv 5) (pe_un un_neg pe_int) (fun _ _ => rfl)) pa_nil))) (pa_cons (pv 2) pa_nil))))))))
    (pss_one (ps_ret (pe_callH h_least_of (hr.mono (by decide)) rfl (pa_cons (pe_tup (pa_cons (pe_slice sl_list (pv 5) po_none (po_some (pe_rget (hu_of hr) (pv 4) (pv 3) (fun _ _ => rfl)))) (pa_cons (pe_slice sl_list (pv 5) (po_some (pe_rget (hu_of hr) (pv 4) (pv 3) (fun _ _ => rfl))) po_none) pa_nil))) pa_nil)))))))))), fun ds R h => ?_⟩)
  obtain ⟨m, rs, p, rfl, ⟨h0, h1, h2⟩, rfl⟩ := h
  have hr := reachB_le h0
  have hm4 := h0.m4
  apply xs_seq
  refine xs_drop (xe_call (xa_cons (xd_var rfl) (xa_cons (xd_var rfl) xa_nil)) ⟨m, rs, p, rfl, ⟨h0, h1, h2⟩, rfl⟩) ?_
  apply xs_seq; apply xs_asgD (x := .int (reachB m rs))
  · apply xe_call; walk_at "xa"
    exact ⟨m, rs, rfl, h0, rfl⟩
  generalize hs0 : lastN (reachB m rs) p = s0
  have hs0m : s0 ∈ stands m rs := hs0 ▸ first_mem h0 h1
  have om : ∀ i, orb (nxt m rs) s0 i ∈ stands m rs := fun i => by
    induction i with
    | zero => exact hs0m
    | succ i ih => exact nxt_mem h0 ih
  apply xs_seq; apply xs_asgD (x := .key s0)
  · apply xe_call; walk_at "xa"
    exact ⟨p, reachB m rs, .inr rfl, by rw [hs0]⟩
  apply xs_seq; apply xs_asgT
  apply xs_seq; apply xs_asgM xa_nil (by decide)
  apply xs_seq
  refine xs_while (fun n r => ∃ i : Nat, n + i = 2048 ∧ r = [.d (bd m rs), .d (.lst (ID p)), .d (.int (reachB m rs)), .d (.key (orb (nxt m rs) s0 i)), .t ((List.range i).map fun j => (orb (nxt m rs) s0 j, .int (j : Nat))), .l (ID (row (cho m rs) (nxt m rs) s0 i))] ∧ ((List.range i).map (orb (nxt m rs) s0)).Nodup) 2048 ⟨0, rfl, rfl, List.nodup_nil⟩ fun n r hm => ?_
  obtain ⟨i, hi, rfl, hn⟩ := hm
  have hle : i ≤ (stands m rs).length := by
    have := nodup_le hn fun x hx => by
      obtain ⟨j, _, rfl⟩ := List.mem_map.mp hx
      exact om j
    rw [List.length_map, List.length_range] at this
    exact this
  have hl := stands_len h0
  have look : ∀ n, atK ((List.range n).map fun j => (orb (nxt m rs) s0 j, D.int (j : Nat))) (orb (nxt m rs) s0 i) = none ∨ ∃ j, j < n ∧ orb (nxt m rs) s0 j = orb (nxt m rs) s0 i ∧ atK ((List.range n).map fun j => (orb (nxt m rs) s0 j, D.int (j : Nat))) (orb (nxt m rs) s0 i) = some (.int (j : Nat)) := by
    intro n
    unfold atK
    cases e : ((List.range n).map fun j => (orb (nxt m rs) s0 j, D.int (j : Nat))).find? (fun p => decide (p.1 = orb (nxt m rs) s0 i)) with
    | none => exact .inl rfl
    | some q =>
      obtain ⟨j, hj, rfl⟩ := List.mem_map.mp (List.mem_of_find?_eq_some e)
      have e3 := List.find?_some e
      exact .inr ⟨j, List.mem_range.mp hj, of_decide_eq_true e3, rfl⟩
  refine ⟨true ^^ (atK ((List.range i).map fun j => (orb (nxt m rs) s0 j, D.int (j : Nat))) (orb (nxt m rs) s0 i)).isSome, ?_, fun hb => ?_, fun hb => ?_⟩
  · apply xt_B
    exact xd_rin (xd_var rfl) (xdc_t rfl)
  · have hnone : atK ((List.range i).map fun j => (orb (nxt m rs) s0 j, D.int (j : Nat))) (orb (nxt m rs) s0 i) = none := by
      rcases look i with h | ⟨j, _, _, h⟩
      · exact h
      · rw [h] at hb
        cases hb
    have nj : ∀ j, j < i → orb (nxt m rs) s0 j ≠ orb (nxt m rs) s0 i := by
      intro j hj e
      have : ((List.range i).map fun j => (orb (nxt m rs) s0 j, D.int (j : Nat))).find? (fun p => decide (p.1 = orb (nxt m rs) s0 i)) = none := by
        unfold atK at hnone
        exact Option.map_eq_none_iff.mp hnone
      have q := List.find?_eq_none.mp this (orb (nxt m rs) s0 j, D.int (j : Nat)) (List.mem_map.mpr ⟨j, List.mem_range.mpr hj, rfl⟩)
      exact q (decide_eq_true e)
    have hn2 : ((List.range (i + 1)).map (orb (nxt m rs) s0)).Nodup := by
      rw [List.range_succ, List.map_append]
      refine List.nodup_append.mpr ⟨hn, List.pairwise_singleton _ _, fun a ha b hb e => ?_⟩
      obtain ⟨j, hj, rfl⟩ := List.mem_map.mp ha
      rw [List.mem_singleton.mp hb] at e
      exact nj j (List.mem_range.mp hj) e
    have hle2 : i + 1 ≤ 2048 := by
      have := nodup_le hn2 fun x hx => by
        obtain ⟨j, _, rfl⟩ := List.mem_map.mp hx
        exact om j
      rw [List.length_map, List.length_range] at this
      omega
    have hpl := ((stands_mem h0).mp (om i)).1
    apply xs_seq
    apply xs_rput (k := orb (nxt m rs) s0 i) (d := .int (i : Nat)) rfl (xd_var rfl)
    · apply XD.eq
      · apply xd_len
        exact xl_own rfl
      · rw [List.length_map, row_len]
    · rw [List.length_map, List.length_range]
      omega
    rw [putK_new hnone]
    apply xs_seq
    apply xs_app (xs := ID (row (cho m rs) (nxt m rs) s0 i)) (x := .int (cho m rs (orb (nxt m rs) s0 i))) rfl
    · apply xe_call; walk_at "xa"
      exact ⟨m, rs, reachB m rs, _, rfl, ⟨h0, by omega⟩, rfl⟩
    · rw [List.length_map, row_len]
      omega
    have er : ID (row (cho m rs) (nxt m rs) s0 i) ++ [.int (cho m rs (orb (nxt m rs) s0 i))] = ID (row (cho m rs) (nxt m rs) s0 (i + 1)) := by
      rw [row_succ, show ∀ a b, ID (a ++ b) = ID a ++ ID b from fun a b => List.map_append]
      rfl
    rw [er]
    apply xs_asgD (x := .key (orb (nxt m rs) s0 (i + 1)))
    · apply xe_call
      · apply xa_cons
        · apply xd_catK (xs := orb (nxt m rs) s0 i) (ys := [cho m rs (orb (nxt m rs) s0 i)])
          · walk_at "xd"
          · apply xd_tupK1
            apply XD.eq
            · apply xd_last (ns := row (cho m rs) (nxt m rs) s0 (i + 1))
              · exact xl_own rfl
              · walk_at "xd"
              · intro z
                have := row_len (cho m rs) (nxt m rs) s0 (i + 1)
                rw [z] at this
                cases this
            · rw [row_len, Nat.add_sub_cancel, row_get _ _ _ (Nat.lt_succ_self i)]
          · show _ + 1 ≤ _
            omega
        · apply xa_cons
          · walk_at "xd"
          · exact xa_nil
      · exact ⟨_, reachB m rs, .inl rfl, rfl⟩
    refine ⟨2048 - (i + 1), by omega, i + 1, by omega, ?_, hn2⟩
    rw [List.range_succ, List.map_append]
    rfl
  · obtain ⟨j, hj, ej, hat⟩ : ∃ j, j < i ∧ orb (nxt m rs) s0 j = orb (nxt m rs) s0 i ∧ atK ((List.range i).map fun j => (orb (nxt m rs) s0 j, D.int (j : Nat))) (orb (nxt m rs) s0 i) = some (.int (j : Nat)) := by
      rcases look i with h | h
      · rw [h] at hb
        cases hb
      · exact h
    have rl := row_len (cho m rs) (nxt m rs) s0 i
    have rc : inC 6 (row (cho m rs) (nxt m rs) s0 i) := fun a ha => by
      obtain ⟨k, _, rfl⟩ := List.mem_map.mp ha
      have := choiceB_in (R := reachB m rs) (p := orb (nxt m rs) s0 k) h0
      show 0 ≤ choiceB m rs (reachB m rs) _ ∧ choiceB m rs (reachB m rs) _ < 6
      omega
    have ok : RunOk ((row (cho m rs) (nxt m rs) s0 i).take j) ((row (cho m rs) (nxt m rs) s0 i).drop j) := by
      refine ⟨fun a ha => rc a (List.mem_of_mem_take ha), fun a ha => rc a (List.mem_of_mem_drop ha), fun z => ?_, ?_, ?_⟩
      · have := congrArg List.length z
        rw [List.length_drop, rl] at this
        have : i - j = 0 := this
        omega
      · rw [List.length_take, rl]
        omega
      · rw [List.length_drop, rl]
        omega
    refine xs_ret (xe_call (ds := [run ((row (cho m rs) (nxt m rs) s0 i).take j) ((row (cho m rs) (nxt m rs) s0 i).drop j)]) (xa_cons ?_ xa_nil) ⟨_, _, rfl, ok, rfl⟩) fun x hx => ?_
    · apply xd_tup
      · apply xa_cons
        · apply XD.eq
          · apply xd_slL
            · exact xl_own rfl
            · exact xo_none
            · apply xo_some
              exact xd_rget (xdc_t rfl) (xd_var rfl) hat
          · rw [cutD_map, cutD_pre _ _ (by omega), Int.toNat_natCast]
        · apply xa_cons
          · apply XD.eq
            · apply xd_slL
              · exact xl_own rfl
              · apply xo_some
                exact xd_rget (xdc_t rfl) (xd_var rfl) hat
              · exact xo_none
            · rw [cutD_map]
              unfold cutD
              rw [HT.sIx_nat, HT.sIx_none, rl, Nat.min_eq_left (by omega), List.take_of_length_le (by rw [List.length_drop, rl]; omega)]
          · exact xa_nil
      · show 2 ≤ 100000
        decide
    · obtain ⟨h', l', rfl, L⟩ := hx
      refine ⟨h', l', rfl, L.nf, fun k => ?_, ?_⟩
      · rw [L.row, row_cut _ _ _ ej.symm hj]
      · have a1 := L.hl
        have a2 := L.ll
        rw [List.length_take, rl] at a1
        rw [List.length_drop, rl] at a2
        omega
end
end Dx
end

section
set_option Elab.async false
set_option linter.all false
set_option maxRecDepth 100000
set_option maxHeartbeats 4000000
namespace Dx
open PySem PySem.Spec PyProof.Rows L2 Evl RZ
local macro_rules | `(tactic| walk_at "sd") => `(tactic| first | rfl | assumption | omega | exact Nat.le_of_ble_eq_true rfl | exact decide_eq_false (by omega) | exact decide_eq_true (by omega) | decide | (constructor <;> omega) | (simp only [List.length_map]; omega) | (simp only [List.length_map]; constructor <;> omega))
local macro_rules | `(tactic| walk_at "sd?") => `(tactic| first | walk_at "sd" | rotate_left)
local macro_rules | `(tactic| walk_at "xl") => `(tactic| first | exact xl_own rfl | (apply xl_of; walk_at "xd") | (apply xl_r; walk_at "xd"))
local macro_rules | `(tactic| walk_at "xm") => `(tactic| first | exact xm_own rfl | (apply xm_of; walk_at "xd"))
local macro_rules | `(tactic| walk_at "xu") => `(tactic| first | (apply xu_of; walk_at "xd") | (apply xu_r; walk_at "xd") | (apply xu_k; walk_at "xd"))
local macro_rules | `(tactic| walk_at "xa") => `(tactic| first | exact xa_nil | (apply xa_cons; walk_at "xd"; walk_at "xa"))
local macro_rules | `(tactic| walk_at "xo") => `(tactic| first | exact xo_none | (apply xo_some; walk_at "xd"))
local macro_rules | `(tactic| walk_at "xd") => `(tactic| first
  | exact xd_int | exact xd_str | exact xd_bl | exact xd_non | exact xd_var rfl
  | (apply xd_add; walk_at "xd"; walk_at "xd") | (apply xd_sub; walk_at "xd"; walk_at "xd") | (apply xd_neg; walk_at "xd")
  | (apply xd_mul; walk_at "xd"; walk_at "xd"; walk_at "sd?") | (apply xd_fdiv; walk_at "xd"; walk_at "xd"; walk_at "sd?") | (apply xd_mod; walk_at "xd"; walk_at "xd"; walk_at "sd?")
  | (apply xd_lt; walk_at "xd"; walk_at "xd") | (apply xd_le; walk_at "xd"; walk_at "xd") | (apply xd_gt; walk_at "xd"; walk_at "xd") | (apply xd_ge; walk_at "xd"; walk_at "xd")
  | (apply xd_chainLe; walk_at "xd"; walk_at "xd"; walk_at "xd")
  | (apply xd_eqI; walk_at "xd"; walk_at "xd") | (apply xd_neI; walk_at "xd"; walk_at "xd") | (apply xd_eqS; walk_at "xd"; walk_at "xd") | (apply xd_neS; walk_at "xd"; walk_at "xd")
  | (apply xd_isN; walk_at "xd"; walk_at "xd") | (apply xd_notN; walk_at "xd"; walk_at "xd")
  | (apply xd_not; walk_at "xd") | (apply xd_and; walk_at "xd"; (intro _; walk_at "xd")) | (apply xd_or; walk_at "xd"; (intro _; walk_at "xd"))
  | (apply xd_ixT; walk_at "xu"; walk_at "xd"; rfl) | (apply xd_ixIU; walk_at "xu"; walk_at "xd"; walk_at "sd?") | (apply xd_ixI; walk_at "xl"; walk_at "xd"; walk_at "sd?") | (apply xd_ixL; walk_at "xl"; walk_at "xd"; walk_at "sd?")
  | (apply xd_tup; walk_at "xa"; walk_at "sd?") | (apply xd_lst; walk_at "xa"; walk_at "sd?")
  | (apply xd_len; walk_at "xl") | (apply xd_lenU; walk_at "xu") | (apply xd_abs; walk_at "xd") | (apply xd_min2; walk_at "xd"; walk_at "xd")
  | (apply xd_isi; walk_at "xd"; (first | exact kb_int | exact kb_int_bool | exact kb_tuple | exact kb_list | exact kb_str | exact kb_bool_bool))
  | (apply xd_slL; walk_at "xl"; walk_at "xo"; walk_at "xo") | (apply xd_slT; walk_at "xd"; walk_at "xo"; walk_at "xo")
  | (apply xd_cat; walk_at "xm"; walk_at "xm"; walk_at "sd?") | (apply xd_catT; walk_at "xd"; walk_at "xd"; walk_at "sd?")
  | (apply xd_list; walk_at "xl") | (apply xd_listU; walk_at "xu") | (apply xd_tuple; walk_at "xl") | (apply xd_tupleT; walk_at "xd")
  | (apply xd_slk; walk_at "xd"; walk_at "xo"; walk_at "xo") | (apply xd_catK; walk_at "xd"; walk_at "xd"; walk_at "sd?") | exact xd_tupK0 | (apply xd_tupK1; walk_at "xd")
  | (apply xe_call; walk_at "xa"; walk_at "sg"))
local macro_rules | `(tactic| walk_at "sg") => `(tactic| first | exact ⟨_, rfl, rfl⟩ | exact ⟨_, _, rfl, rfl⟩ | exact ⟨_, _, _, rfl, rfl⟩ | exact ⟨_, _, _, _, rfl, rfl⟩ | exact ⟨_, _, _, _, _, rfl, rfl⟩ | exact ⟨_, _, _, _, _, _, rfl, rfl⟩ | exact ⟨_, _, _, _, _, _, _, rfl, rfl⟩ | (refine' ⟨_, rfl, ?_, rfl⟩; walk_at "sd?") | (refine' ⟨_, _, rfl, ?_, rfl⟩; walk_at "sd?") | (refine' ⟨_, _, _, rfl, ?_, rfl⟩; walk_at "sd?") | (refine' ⟨_, _, _, _, rfl, ?_, rfl⟩; walk_at "sd?") | (refine' ⟨_, _, _, _, _, rfl, ?_, rfl⟩; walk_at "sd?") | (refine' ⟨_, _, _, _, _, _, rfl, ?_, rfl⟩; walk_at "sd?") | (refine' ⟨_, _, _, _, _, _, _, rfl, ?_, rfl⟩; walk_at "sd?"))
local macro_rules | `(tactic| walk_at "asg") => `(tactic| (apply xs_seq; apply xs_asgD; walk_at "xd"))
local macro_rules | `(tactic| walk_at "guard") => `(tactic| (apply xs_seq; apply xs_guard; walk_at "xt"; walk_at "sd?"))
local macro_rules | `(tactic| walk_at "ret") => `(tactic| (apply xs_retE; walk_at "xd"; exact rfl; walk_at "sd?"))
local macro_rules | `(tactic| walk_at "xt") => `(tactic| first
  | (apply xt_B; walk_at "xd") | (apply xt_T; walk_at "xd") | (apply xt_not; walk_at "xt") | (apply xt_and; walk_at "xt"; (intro _; walk_at "xt")) | (apply xt_or; walk_at "xt"; (intro _; walk_at "xt")) | exact xt_yes)
local macro_rules | `(tactic| walk_at "grd") => `(tactic| (apply xs_seq; apply xs_guard; walk_at "xt"))
local macro_rules | `(tactic| walk_at "grl") => `(tactic| (apply xs_guard; walk_at "xt"))
local macro_rules | `(tactic| walk_at "unp2") => `(tactic| (apply xs_seq; apply xs_asgG; walk_at "xd"; exact xg_tup (xgs_cons (xgs_cons xgs_nil)) rfl))
local macro_rules | `(tactic| walk_at "if") => `(tactic| (apply xs_seq; apply xs_if; walk_at "xt"))
local macro_rules | `(tactic| walk_at "drop") => `(tactic| (apply xs_seq; apply xs_drop; walk_at "xd"))

open Ma
abbrev WaitOk (m : Int) (rs : List Rl) (one : Int) (p : List Int) (o : Option Int) : Prop := WOk (cho m rs) (nxt m rs) one p o
/-! the lists of those ahead -/
def atG (gs : Grp) (k : List Int) : Option (List D) := (gs.find? fun q => decide (q.1 = k)).map (·.2)
theorem atK_grp (gs : Grp) (k : List Int) : atK (grpK gs) k = (atG gs k).map D.lst := by
  unfold atK atG grpK
  induction gs with
  | nil => rfl
  | cons q gs ih =>
    rw [List.map_cons, List.find?_cons, List.find?_cons]
    by_cases c : q.1 = k
    · rw [decide_eq_true c]
      rfl
    · rw [decide_eq_false c]
      exact ih
theorem atG_app (gs : Grp) (k : List Int) (d : D) (k' : List Int) : atG (appG gs k d) k' = if k' = k then (atG gs k').map (· ++ [d]) else atG gs k' := by
  unfold atG appG
  induction gs with
  | nil => split <;> rfl
  | cons q gs ih =>
    rw [List.map_cons, List.find?_cons, List.find?_cons]
    by_cases c : q.1 = k
    · rw [if_pos c]
      by_cases c' : q.1 = k'
      · rw [decide_eq_true c', if_pos (c'.symm.trans c)]
        rfl
      · rw [decide_eq_false c']
        exact ih
    · rw [if_neg c]
      by_cases c' : q.1 = k'
      · rw [decide_eq_true c', if_neg (fun z => c (c'.trans z))]
      · rw [decide_eq_false c']
        exact ih
theorem atG_ens (gs : Grp) (k k' : List Int) : atG (ensG gs k) k' = if k' = k then some ((atG gs k').getD []) else atG gs k' := by
  unfold ensG
  by_cases h : (gs.any fun q => decide (q.1 = k)) = true
  · rw [if_pos h]
    by_cases e : k' = k
    · subst e
      rw [if_pos rfl]
      unfold atG
      cases hf : gs.find? (fun q => decide (q.1 = k')) with
      | none =>
        obtain ⟨q, hq, hd⟩ := List.any_eq_true.mp h
        exact absurd hd (List.find?_eq_none.mp hf q hq)
      | some q => rfl
    · rw [if_neg e]
  · rw [if_neg h]
    have hn : gs.find? (fun q => decide (q.1 = k)) = none := List.find?_eq_none.mpr fun q hq hd => h (List.any_eq_true.mpr ⟨q, hq, hd⟩)
    unfold atG
    rw [List.find?_append]
    by_cases e : k' = k
    · subst e
      rw [if_pos rfl, hn, List.find?_cons, decide_eq_true rfl]
      rfl
    · rw [if_neg e, List.find?_cons, decide_eq_false (fun z => e z.symm)]
      cases gs.find? (fun q => decide (q.1 = k')) <;> rfl
theorem atG_add (gs : Grp) (k : List Int) (d : D) (k' : List Int) : atG (addG gs k d) k' = if k' = k then some ((atG gs k').getD [] ++ [d]) else atG gs k' := by
  unfold addG
  rw [atG_app, atG_ens]
  by_cases e : k' = k
  · rw [if_pos e, if_pos e, if_pos e]
    rfl
  · rw [if_neg e, if_neg e, if_neg e]
def preds (nx : List Int → List Int) (S : List (List Int)) (q : List Int) : List (List Int) := S.filter fun p => decide (nx p = q)
theorem grp_at (nx : List Int → List Int) (S : List (List Int)) : ∀ n, n ≤ S.length → ∀ q, (atG (grpN (fun i => nx (S.getD i [])) (fun i => .key (S.getD i [])) n) q).getD [] = keysD (preds nx (S.take n) q)
  | 0, _, q => by
    rw [List.take_zero]
    rfl
  | n + 1, h, q => by
    have e : S[n]? = some (S.getD n []) := by
      rw [List.getD_eq_getElem?_getD, List.getElem?_eq_getElem (by omega)]
      rfl
    have ih := grp_at nx S n (by omega) q
    show (atG (addG (grpN _ _ n) _ _) q).getD [] = _
    rw [atG_add, take_snoc e]
    unfold preds at ih ⊢
    rw [List.filter_append, show ∀ a b, keysD (a ++ b) = keysD a ++ keysD b from fun a b => List.map_append]
    by_cases c : q = nx (S.getD n [])
    · rw [if_pos c, Option.getD_some, ih, List.filter_cons, if_pos (decide_eq_true c.symm)]
      rfl
    · rw [if_neg c, ih, List.filter_cons, if_neg (by rw [decide_eq_false (fun z => c z.symm)]; decide)]
      exact (List.append_nil _).symm
section
variable {P : Program} {w : World} {K : PySem.W.Frag} {mg : Str → Option Value} {base : Heap}
/-- the search's state -/
structure Bf (m : Int) (rs : List Rl) (one : Int) (L : List (List Int)) (W : List Int → Nat) : Prop where
  nd : L.Nodup
  ok : ∀ p ∈ L, p ∈ stands m rs ∧ IsW (cho m rs) (nxt m rs) one p (W p)
  all : ∀ p ∈ stands m rs, cho m rs p = one → p ∈ L
theorem Bf.len {m : Int} {rs : List Rl} {one : Int} {L : List (List Int)} {W : List Int → Nat} (b : Bf m rs one L W) (h : BkOk m rs) : L.length ≤ 2048 := Nat.le_trans (nodup_le b.nd fun p hp => (b.ok p hp).1) (stands_len h)
theorem atK_tabW (L : List (List Int)) (W : List Int → Nat) (p : List Int) : atK (tab L fun q => .int (W q : Nat)) p = if p ∈ L then some (.int (W p : Nat)) else none := atK_tab (fun q => .int (W q : Nat)) p L
def sg_waits_in : List D → (Kvs → Prop) → Prop := fun ds R => ∃ m rs one, ds = [bd m rs, .int one] ∧ BkOk m rs ∧ R = fun kvs => ∃ o : List Int → Option Int, ∀ p ∈ stands m rs, WaitOk m rs one p (o p) ∧ atK kvs p = (o p).map D.int
abbrev N_waits_in : List Str := ["book", "one", "steps", "ahead", "found", "line", "at", "stand", "step"]
theorem sc_waits_in : FnScope N_waits_in ["book", "one"] (defScope (top 73)) := ⟨rfl, rfl, rfl, by decide +kernel, rfl, by decide +kernel, by decide +kernel⟩
abbrev H_waits_in (P : Program) (w : World) (K : PySem.W.Frag) (mg : Str → Option Value) (base : Heap) : Prop := Has P w K mg base "waits_in" 10 ["book", "one"] (spT K sg_waits_in)

theorem ok_waits_in (B : Blt K mg) (Df : Dfd K mg "waits_in" 73) (h_steps_of : H_steps_of P w K mg base) : H_waits_in P w K mg base := by
  refine has_mk Df (fun _ _ _ _ _ _ us hl => match us, hl with | [_, _], _ => rfl) fun f fd F => ?_
  refine fn_okT F sc_waits_in (fun ds R ⟨_, _, _, e, _⟩ => e ▸ rfl) (fun cdv A outer s H E hr => ⟨_, (pss_cons (ps_set (i := 2) sc_waits_in.nd rfl (by first | exact Or.inl rfl | exact Or.inr rfl) (pe_callH h_steps_of (hr.mono (by decide)) rfl (pa_cons (pv 0) pa_nil)))
    (pss_cons (ps_set (i := 3) sc_waits_in.nd rfl (by first | exact Or.inl rfl | exact Or.inr rfl) pe_rnew)
    (pss_cons (ps_set (i := 4) sc_waits_in.nd rfl (by first | exact Or.inl rfl | exact Or.inr rfl) pe_rnew)
    (pss_cons (ps_set (i := 5) sc_waits_in.nd rfl (by first | exact Or.inl rfl | exact Or.inr rfl) (pe_lst pa_nil))
    (pss_cons (ps_for PassesOwn.never rfl (pi_ritems (pv 2)) (pg_tup rfl (pgs_cons (pg_name (i := 7) sc_waits_in.nd rfl (by first | exact Or.inl rfl | exact Or.inr rfl)) (pgs_cons (pg_name (i := 8) sc_waits_in.nd rfl (by first | exact Or.inl rfl | exact Or.inr rfl)) pgs_nil))) (pss_cons (ps_expr (pe_bm PySem.F.plainAttrs_list PySem.F.slot_list_append PySem.F.type_list_append mt_append (pe_bmY ty_raw PySem.F.plainAttrs_dict PySem.F.slot_dict_setdefault PySem.F.type_dict_setdefault (mt_setd (hu_of hr)) (pv 3) (pa_cons (pe_ix ix_tup (pv 8) pe_int (fun _ _ => rfl)) (pa_cons (pe_lst pa_nil) pa_nil))) (pa_cons (pv 7) pa_nil)))
    (pss_one (ps_if (pt_cmpR op_eq (pe_ix ix_tup (pv 8) pe_int (fun _ _ => rfl)) (pv 1) (nomark _)) (pss_cons (ps_rput (hu_of hr) (pv 4) (pv 7) pe_int rfl)
    (pss_one (ps_expr (pe_bm PySem.F.plainAttrs_list PySem.F.slot_list_append PySem.F.type_list_append mt_append (pv 5) (pa_cons (pv 7) pa_nil))))) pss_nil))))
    (pss_cons (ps_set (i := 6) sc_waits_in.nd rfl (by first | exact Or.inl rfl | exact Or.inr rfl) pe_int)
    (pss_cons (ps_while PassesOwn.never (pt_cmpR op_lt (pv 6) (pe_callB cr_lenS rfl B.len bt_len (pa_cons (pv 5) pa_nil)) (nomark _)) (pss_cons (ps_for PassesOwn.never rfl (pi_list (pe_bmY ty_raw PySem.F.plainAttrs_dict PySem.F.slot_dict_get PySem.F.type_dict_get (mt_rget2 (hu_of hr)) (pv 3) (pa_cons (pe_ix ix_list (pv 5) (pv 6) (fun _ _ => rfl)) (pa_cons (pe_lst pa_nil) pa_nil)))) (pg_name (i := 7) sc_waits_in.nd rfl (by first | exact Or.inl rfl | exact Or.inr rfl)) (pss_one (ps_if (pt_cmp (pc_rnotin (hu_of hr) (pv 7) (pv 4)) rfl) (pss_cons (ps_rput (hu_of hr) (pv 4) (pv 7) (pe_op op_add (pe_rget (hu_of hr) (pv 4) (pe_ix ix_list (pv 5) (pv 6) (fun _ _ => rfl)) (fun _ _ => rfl)) pe_int) rfl)
    (pss_one (ps_expr (pe_bm PySem.F.plainAttrs_list PySem.F.slot_list_append PySem.F.type_list_append mt_append (pv 5) (pa_cons (pv 7) pa_nil))))) pss_nil)))
    (pss_one (ps_aug (i := 6) sc_waits_in.nd rfl (by first | exact Or.inl rfl | exact Or.inr rfl) pe_int ip_add))))
    (pss_one (ps_lockP (ps_ret (pv 4))))))))))), fun ds R h => ?_⟩)
  obtain ⟨m, rs, one, rfl, h0, rfl⟩ := h
  have hsl := stands_len h0
  apply xs_seq
  refine xs_asgC (Rk := Eq (tab (stands m rs) (stepD m rs))) (xa_cons (xd_var rfl) xa_nil) ⟨m, rs, rfl, h0, rfl⟩ fun kvs hk => ?_
  subst hk
  apply xs_seq; apply xs_asgT
  apply xs_seq; apply xs_asgT
  apply xs_seq; apply xs_asgM xa_nil (by decide)
  apply xs_seq
  have yl : (pairsD (tab (stands m rs) (stepD m rs))).length = (stands m rs).length := by
    unfold pairsD tab
    rw [List.length_map, List.length_map]
  refine xs_group (js := [7, 8]) (fun i => nxt m rs ((stands m rs).getD i [])) (fun i => .key ((stands m rs).getD i [])) (fun v i r => ∃ s6 s7 s8, r = [.d (bd m rs), .d (.int one), .c (tab (stands m rs) (stepD m rs)), .v v, .t (tab (((stands m rs).take i).filter fun p => decide (cho m rs p = one)) fun _ => .int ((1 : Nat) : Int)), .l (keysD (((stands m rs).take i).filter fun p => decide (cho m rs p = one))), s6, s7, s8])
    rfl (ix_itemsD rfl) (by rw [yl]; omega) (fun v => ⟨.u, .u, .u, rfl⟩) (fun v i y r hy hr => ?_) (fun v r hr => ?_)
  · obtain ⟨s6, s7, s8, rfl⟩ := hr
    unfold pairsD tab at hy
    rw [List.map_map, List.getElem?_map] at hy
    obtain ⟨p, hp, rfl⟩ := Option.map_eq_some_iff.mp hy
    have hg : (stands m rs).getD i [] = p := getD_of hp
    rw [hg]
    have hnin := nodup_at (stands_nodup m rs) hp
    have hnf : p ∉ ((stands m rs).take i).filter fun p => decide (cho m rs p = one) := fun z => hnin (List.mem_filter.mp z).1
    refine ⟨_, xg_tup (xgs_cons (xgs_cons xgs_nil)) rfl, rfl, xd_ixT (xu_of (xd_var rfl)) xd_int rfl, xd_var rfl, ?_⟩
    refine xs_if (b := decide (cho m rs p = one)) (xt_T (xd_eqI (xd_ixT (xu_of (xd_var rfl)) xd_int rfl) (xd_var rfl))) (fun hb => ?_) fun hb => ?_
    · have hb' := of_decide_eq_true hb
      apply xs_seq
      refine xs_rput (kvs := tab (((stands m rs).take i).filter fun p => decide (cho m rs p = one)) fun _ => .int ((1 : Nat) : Int)) (k := p) (d := .int ((1 : Nat) : Int)) rfl (xd_var rfl) xd_int ?_ ?_
      · unfold tab
        rw [List.length_map]
        have := List.length_filter_le (fun p => decide (cho m rs p = one)) ((stands m rs).take i)
        rw [List.length_take] at this
        omega
      · rw [putK_new (by rw [atK_tab, if_neg hnf])]
        refine xs_app (xs := keysD (((stands m rs).take i).filter fun p => decide (cho m rs p = one))) (x := .key p) rfl (xd_var rfl) ?_ ?_
        · rw [List.length_map]
          have := List.length_filter_le (fun p => decide (cho m rs p = one)) ((stands m rs).take i)
          rw [List.length_take] at this
          omega
        · refine ⟨s6, .d (.key p), .d (stepD m rs p), ?_⟩
          rw [take_snoc hp, List.filter_append, List.filter_cons, if_pos hb]
          show _ = [_, _, _, _, Sl.t (tab (_ ++ [p]) _), Sl.l (keysD (_ ++ [p])), _, _, _]
          rw [tab_snoc, show ∀ a b, keysD (a ++ b) = keysD a ++ keysD b from fun a b => List.map_append]
          rfl
    · refine xs_next ⟨s6, .d (.key p), .d (stepD m rs p), ?_⟩
      rw [take_snoc hp, List.filter_append, List.filter_cons, if_neg (by rw [hb]; decide)]
      show _ = [_, _, _, _, Sl.t (tab (_ ++ []) _), Sl.l (keysD (_ ++ [])), _, _, _]
      rw [List.append_nil]
      rfl
  · obtain ⟨s6, s7, s8, rfl⟩ := hr
    refine ⟨rfl, ?_⟩
    rw [yl, List.take_length]
    have gat := grp_at (nxt m rs) (stands m rs) (stands m rs).length (Nat.le_refl _)
    rw [List.take_length] at gat
    generalize grpN (fun i => nxt m rs ((stands m rs).getD i [])) (fun i => D.key ((stands m rs).getD i [])) (stands m rs).length = gs at gat ⊢
    show XS K _ [_, _, _, .t (grpK gs), .t (tab _ fun _ => .int ((1 : Nat) : Int)), .l (keysD _), _, _, _] _
    walk_at "asg"
    apply xs_seq
    refine xs_while (fun n r => ∃ (L : List (List Int)) (W : List Int → Nat) (a : Nat) (s7 s8 : Sl), n = 2048 - a ∧ r = [.d (bd m rs), .d (.int one), .c (tab (stands m rs) (stepD m rs)), .t (grpK gs), .t (tab L fun q => .int (W q : Nat)), .l (keysD L), .d (.int (a : Nat)), s7, s8] ∧ Bf m rs one L W ∧ a ≤ L.length ∧ ∀ i q, i < a → L[i]? = some q → ∀ p ∈ stands m rs, nxt m rs p = q → p ∈ L)
      2048 ⟨(stands m rs).filter fun p => decide (cho m rs p = one), fun _ => 1, 0, s7, s8, rfl, rfl, ⟨(stands_nodup m rs).filter _, fun p hp => ?_, fun p hp e => List.mem_filter.mpr ⟨hp, decide_eq_true e⟩⟩, Nat.zero_le _, fun i q hi => by omega⟩ fun n r hm => ?_
    · obtain ⟨h1, h2⟩ := List.mem_filter.mp hp
      exact ⟨h1, IsW.first (of_decide_eq_true h2)⟩
    obtain ⟨L, W, a, s7, s8, rfl, rfl, bf, ha, hpr⟩ := hm
    have hL := bf.len h0
    have eL : (keysD L).length = L.length := List.length_map _
    refine ⟨decide ((a : Int) < L.length), ?_, fun hb => ?_, fun hb => ?_⟩
    · apply xt_T
      refine xd_lt (xd_var rfl) (XD.eq (xd_len (xl_own (xs := keysD L) rfl)) ?_)
      rw [eL]
    · have hb := of_decide_eq_true hb
      have hal : a < L.length := by omega
      obtain ⟨q, hq⟩ : ∃ q, L[a]? = some q := ⟨_, List.getElem?_eq_getElem hal⟩
      have hqL := List.mem_of_getElem? hq
      have hq2 := (bf.ok q hqL).2
      apply xs_seq
      have vis : ∀ {L' : List (List Int)} {r : List Sl}, r[5]? = some (.l (keysD L')) → r[6]? = some (.d (.int (a : Nat))) → L'[a]? = some q → XD K (tOp (rIxL K) (tVar 5) (tVar 6)) r (.key q) := fun {L' r} h5 h6 hq' => by
        refine xd_ixL (xl_own h5) (xd_var h6) ?_
        exact atI_nat (j := a) (v := D.key q) (by rw [List.getElem?_map, hq']; rfl)
      refine xs_forN (ys := keysD (preds (nxt m rs) (stands m rs) q)) (fun j r => ∃ (L' : List (List Int)) (W' : List Int → Nat) (s7 : Sl), r = [.d (bd m rs), .d (.int one), .c (tab (stands m rs) (stepD m rs)), .t (grpK gs), .t (tab L' fun q => .int (W' q : Nat)), .l (keysD L'), .d (.int (a : Nat)), s7, s8] ∧ Bf m rs one L' W' ∧ (∀ (i : Nat) p, L[i]? = some p → L'[i]? = some p) ∧ W' q = W q ∧ ∀ p ∈ (preds (nxt m rs) (stands m rs) q).take j, p ∈ L')
        (ix_listD (XD.eq (xd_rget2 (xdc_t (kvs := grpK gs) rfl) (vis rfl rfl hq) (xd_lst xa_nil (by decide))) ?_)) ⟨L, W, s7, rfl, bf, fun i p h => h, rfl, fun p hp => by rw [List.take_zero] at hp; cases hp⟩ (fun j y r hy hr => ?_) (fun r hr => ?_)
      · rw [atK_grp, ← gat q]
        cases atG gs q <;> rfl
      · obtain ⟨L', W', s7, rfl, bf', hpre, hW, htk⟩ := hr
        rw [List.getElem?_map] at hy
        obtain ⟨p, hp, rfl⟩ := Option.map_eq_some_iff.mp hy
        obtain ⟨hpS, hpn⟩ := List.mem_filter.mp (List.mem_of_getElem? hp)
        have hpn := of_decide_eq_true hpn
        have hL' := bf'.len h0
        refine xs_if (b := true ^^ (atK (tab L' fun q => .int (W' q : Nat)) p).isSome) (xt_B (xd_rin (xd_var rfl) (xdc_t rfl))) (fun hb => ?_) fun hb => ?_
        · have hnp : p ∉ L' := fun z => by
            rw [atK_tabW, if_pos z] at hb
            cases hb
          have hco : cho m rs p ≠ one := fun z => hnp (bf'.all p hpS z)
          have hq'L := hpre a q hq
          apply xs_seq
          refine xs_rput (kvs := tab L' fun q => .int (W' q : Nat)) (k := p) (d := .int ((W q + 1 : Nat) : Int)) rfl (xd_var rfl) ?_ ?_ ?_
          · refine XD.eq (xd_add (i := ((W q : Nat) : Int)) (xd_rget (xdc_t rfl) (vis rfl rfl hq'L) ?_) xd_int) ?_
            · rw [atK_tabW, if_pos (List.mem_of_getElem? hq'L), hW]
            · show D.int (((W q : Nat) : Int) + 1) = D.int ((W q + 1 : Nat) : Int)
              rw [Int.natCast_add]
              rfl
          · unfold tab
            rw [List.length_map]
            omega
          · rw [putK_new (by rw [atK_tabW, if_neg hnp])]
            refine xs_app (xs := keysD L') (x := .key p) rfl (xd_var rfl) (by rw [List.length_map]; omega) ?_
            have hne : ∀ x ∈ L', x ≠ p := fun x hx z => hnp (z ▸ hx)
            refine ⟨L' ++ [p], fun x => if x = p then W q + 1 else W' x, .d (.key p), ?_, ⟨?_, fun x hx => ?_, fun x hx e => List.mem_append_left _ (bf'.all x hx e)⟩, fun i x h => ?_, ?_, fun x hx => ?_⟩
            · rw [tab_snoc, show ∀ a b, keysD (a ++ b) = keysD a ++ keysD b from fun a b => List.map_append]
              rw [show tab L' (fun x => D.int ((if x = p then W q + 1 else W' x : Nat) : Int)) = tab L' (fun q => .int (W' q : Nat)) from by
                unfold tab
                exact List.map_congr_left fun x hx => by
                  show (x, D.int ((if x = p then W q + 1 else W' x : Nat) : Int)) = _
                  rw [if_neg (hne x hx)], show (fun x => if x = p then W q + 1 else W' x) p = W q + 1 from if_pos rfl]
              rfl
            · refine List.nodup_append.mpr ⟨bf'.nd, List.pairwise_singleton _ _, fun x hx y hy e => ?_⟩
              rw [List.mem_singleton.mp hy] at e
              exact hne x hx e
            · rcases List.mem_append.mp hx with hx | hx
              · rw [if_neg (hne x hx)]
                exact bf'.ok x hx
              · have e := List.mem_singleton.mp hx
                subst e
                rw [if_pos rfl]
                exact ⟨hpS, IsW.step hco (by rw [hpn]; exact hq2)⟩
            · rw [List.getElem?_append_left (List.getElem?_eq_some_iff.mp (hpre i x h)).1]
              exact hpre i x h
            · show (if q = p then W q + 1 else W' q) = W q
              rw [if_neg (hne q (List.mem_of_getElem? hq'L))]
              exact hW
            · rw [take_snoc hp] at hx
              rcases List.mem_append.mp hx with hx | hx
              · exact List.mem_append_left _ (htk x hx)
              · exact List.mem_append_right _ hx
        · have hin : p ∈ L' := by
            by_cases c : p ∈ L'
            · exact c
            · rw [atK_tabW, if_neg c] at hb
              cases hb
          refine xs_next ⟨L', W', .d (.key p), rfl, bf', hpre, hW, fun x hx => ?_⟩
          rw [take_snoc hp] at hx
          rcases List.mem_append.mp hx with hx | hx
          · exact htk x hx
          · rw [List.mem_singleton.mp hx]
            exact hin
      · obtain ⟨L', W', s7, rfl, bf', hpre, hW, htk⟩ := hr
        rw [List.length_map, List.take_length] at htk
        refine xs_aug (a := (a : Int)) (b := 1) rfl xd_int ?_
        have hL' : L.length ≤ L'.length := by
          rcases Nat.lt_or_ge L'.length L.length with z | z
          · have e := hpre L'.length _ (List.getElem?_eq_getElem z)
            rw [List.getElem?_eq_none (Nat.le_refl _)] at e
            cases e
          · exact z
        refine ⟨2048 - (a + 1), by omega, L', W', a + 1, s7, s8, rfl, rfl, bf', by omega, fun i x hi hx p hp e => ?_⟩
        rcases Nat.lt_or_ge i a with c | c
        · have hxL : L[i]? = some x := by
            obtain ⟨x', hx'⟩ : ∃ x', L[i]? = some x' := ⟨_, List.getElem?_eq_getElem (by omega)⟩
            rw [hpre i x' hx'] at hx
            cases hx
            exact hx'
          obtain ⟨i2, hi2⟩ := List.mem_iff_getElem?.mp (hpr i x c hxL p hp e)
          exact List.mem_of_getElem? (hpre i2 p hi2)
        · have : i = a := by omega
          subst this
          rw [hpre i q hq] at hx
          cases hx
          exact htk p (List.mem_filter.mpr ⟨hp, decide_eq_true e⟩)
    · have hb := of_decide_eq_false hb
      have hae : a = L.length := by omega
      show XS K _ [_, _, _, _, .t (tab L fun q => .int (W q : Nat)), _, _, _, _] _
      refine xs_lock 4 rfl ?_
      refine xs_retC rfl ⟨fun p => if p ∈ L then some (W p : Nat) else none, fun p hp => ?_⟩
      show WaitOk m rs one p (if p ∈ L then some ((W p : Nat) : Int) else none) ∧ _ = (if p ∈ L then some ((W p : Nat) : Int) else none).map D.int
      rw [atK_tabW]
      by_cases c : p ∈ L
      · rw [if_pos c, if_pos c]
        exact ⟨⟨W p, rfl, (bf.ok p c).2⟩, rfl⟩
      · rw [if_neg c, if_neg c]
        refine ⟨never_of (fun p hp => nxt_mem h0 hp) bf.all (fun q hq p hp e => ?_) hp c, rfl⟩
        obtain ⟨i, hi⟩ := List.mem_iff_getElem?.mp hq
        have := (List.getElem?_eq_some_iff.mp hi).1
        exact hpr i q (by omega) hi p hp e
end
end Dx
end

section
set_option Elab.async false
set_option linter.all false
set_option maxRecDepth 100000
set_option maxHeartbeats 4000000
namespace Dx
open PySem PySem.Spec PyProof.Rows L2 Evl RZ
local macro_rules | `(tactic| walk_at "sd") => `(tactic| first | rfl | assumption | omega | exact Nat.le_of_ble_eq_true rfl | exact decide_eq_false (by omega) | exact decide_eq_true (by omega) | decide | (constructor <;> omega) | (simp only [List.length_map]; omega) | (simp only [List.length_map]; constructor <;> omega))
local macro_rules | `(tactic| walk_at "sd?") => `(tactic| first | walk_at "sd" | rotate_left)
local macro_rules | `(tactic| walk_at "xl") => `(tactic| first | exact xl_own rfl | (apply xl_of; walk_at "xd") | (apply xl_r; walk_at "xd"))
local macro_rules | `(tactic| walk_at "xm") => `(tactic| first | exact xm_own rfl | (apply xm_of; walk_at "xd"))
local macro_rules | `(tactic| walk_at "xu") => `(tactic| first | (apply xu_of; walk_at "xd") | (apply xu_r; walk_at "xd") | (apply xu_k; walk_at "xd"))
local macro_rules | `(tactic| walk_at "xa") => `(tactic| first | exact xa_nil | (apply xa_cons; walk_at "xd"; walk_at "xa"))
local macro_rules | `(tactic| walk_at "xo") => `(tactic| first | exact xo_none | (apply xo_some; walk_at "xd"))
local macro_rules | `(tactic| walk_at "xd") => `(tactic| first
  | exact xd_int | exact xd_str | exact xd_bl | exact xd_non | exact xd_var rfl
  | (apply xd_add; walk_at "xd"; walk_at "xd") | (apply xd_sub; walk_at "xd"; walk_at "xd") | (apply xd_neg; walk_at "xd")
  | (apply xd_mul; walk_at "xd"; walk_at "xd"; walk_at "sd?") | (apply xd_fdiv; walk_at "xd"; walk_at "xd"; walk_at "sd?") | (apply xd_mod; walk_at "xd"; walk_at "xd"; walk_at "sd?")
  | (apply xd_lt; walk_at "xd"; walk_at "xd") | (apply xd_le; walk_at "xd"; walk_at "xd") | (apply xd_gt; walk_at "xd"; walk_at "xd") | (apply xd_ge; walk_at "xd"; walk_at "xd")
  | (apply xd_chainLe; walk_at "xd"; walk_at "xd"; walk_at "xd")
  | (apply xd_eqI; walk_at "xd"; walk_at "xd") | (apply xd_neI; walk_at "xd"; walk_at "xd") | (apply xd_eqS; walk_at "xd"; walk_at "xd") | (apply xd_neS; walk_at "xd"; walk_at "xd")
  | (apply xd_isN; walk_at "xd"; walk_at "xd") | (apply xd_notN; walk_at "xd"; walk_at "xd")
  | (apply xd_not; walk_at "xd") | (apply xd_and; walk_at "xd"; (intro _; walk_at "xd")) | (apply xd_or; walk_at "xd"; (intro _; walk_at "xd"))
  | (apply xd_ixT; walk_at "xu"; walk_at "xd"; rfl) | (apply xd_ixIU; walk_at "xu"; walk_at "xd"; walk_at "sd?") | (apply xd_ixI; walk_at "xl"; walk_at "xd"; walk_at "sd?") | (apply xd_ixL; walk_at "xl"; walk_at "xd"; walk_at "sd?")
  | (apply xd_tup; walk_at "xa"; walk_at "sd?") | (apply xd_lst; walk_at "xa"; walk_at "sd?")
  | (apply xd_len; walk_at "xl") | (apply xd_lenU; walk_at "xu") | (apply xd_abs; walk_at "xd") | (apply xd_min2; walk_at "xd"; walk_at "xd")
  | (apply xd_isi; walk_at "xd"; (first | exact kb_int | exact kb_int_bool | exact kb_tuple | exact kb_list | exact kb_str | exact kb_bool_bool))
  | (apply xd_slL; walk_at "xl"; walk_at "xo"; walk_at "xo") | (apply xd_slT; walk_at "xd"; walk_at "xo"; walk_at "xo")
  | (apply xd_cat; walk_at "xm"; walk_at "xm"; walk_at "sd?") | (apply xd_catT; walk_at "xd"; walk_at "xd"; walk_at "sd?")
  | (apply xd_list; walk_at "xl") | (apply xd_listU; walk_at "xu") | (apply xd_tuple; walk_at "xl") | (apply xd_tupleT; walk_at "xd")
  | (apply xd_slk; walk_at "xd"; walk_at "xo"; walk_at "xo") | (apply xd_catK; walk_at "xd"; walk_at "xd"; walk_at "sd?") | exact xd_tupK0 | (apply xd_tupK1; walk_at "xd")
  | (apply xe_call; walk_at "xa"; walk_at "sg"))
local macro_rules | `(tactic| walk_at "sg") => `(tactic| first | exact ⟨_, rfl, rfl⟩ | exact ⟨_, _, rfl, rfl⟩ | exact ⟨_, _, _, rfl, rfl⟩ | exact ⟨_, _, _, _, rfl, rfl⟩ | exact ⟨_, _, _, _, _, rfl, rfl⟩ | exact ⟨_, _, _, _, _, _, rfl, rfl⟩ | exact ⟨_, _, _, _, _, _, _, rfl, rfl⟩ | (refine' ⟨_, rfl, ?_, rfl⟩; walk_at "sd?") | (refine' ⟨_, _, rfl, ?_, rfl⟩; walk_at "sd?") | (refine' ⟨_, _, _, rfl, ?_, rfl⟩; walk_at "sd?") | (refine' ⟨_, _, _, _, rfl, ?_, rfl⟩; walk_at "sd?") | (refine' ⟨_, _, _, _, _, rfl, ?_, rfl⟩; walk_at "sd?") | (refine' ⟨_, _, _, _, _, _, rfl, ?_, rfl⟩; walk_at "sd?") | (refine' ⟨_, _, _, _, _, _, _, rfl, ?_, rfl⟩; walk_at "sd?"))
local macro_rules | `(tactic| walk_at "asg") => `(tactic| (apply xs_seq; apply xs_asgD; walk_at "xd"))
local macro_rules | `(tactic| walk_at "guard") => `(tactic| (apply xs_seq; apply xs_guard; walk_at "xt"; walk_at "sd?"))
local macro_rules | `(tactic| walk_at "ret") => `(tactic| (apply xs_retE; walk_at "xd"; exact rfl; walk_at "sd?"))
local macro_rules | `(tactic| walk_at "xt") => `(tactic| first
  | (apply xt_B; walk_at "xd") | (apply xt_T; walk_at "xd") | (apply xt_not; walk_at "xt") | (apply xt_and; walk_at "xt"; (intro _; walk_at "xt")) | (apply xt_or; walk_at "xt"; (intro _; walk_at "xt")) | exact xt_yes)
local macro_rules | `(tactic| walk_at "grd") => `(tactic| (apply xs_seq; apply xs_guard; walk_at "xt"))
local macro_rules | `(tactic| walk_at "grl") => `(tactic| (apply xs_guard; walk_at "xt"))
local macro_rules | `(tactic| walk_at "unp2") => `(tactic| (apply xs_seq; apply xs_asgG; walk_at "xd"; exact xg_tup (xgs_cons (xgs_cons xgs_nil)) rfl))
local macro_rules | `(tactic| walk_at "if") => `(tactic| (apply xs_seq; apply xs_if; walk_at "xt"))
local macro_rules | `(tactic| walk_at "drop") => `(tactic| (apply xs_seq; apply xs_drop; walk_at "xd"))

open Ma
def U : List (List Int) := allS 4 3 ++ (lvl 2 4 ++ lvl 2 5)
theorem u_nodup : (U.map hashI).Nodup := by decide +kernel
theorem u_in {m : Int} {rs : List Rl} (h : BkOk m rs) {p : List Int} (hp : p ∈ stands m rs) : p ∈ U := by
  obtain ⟨h1, h2⟩ := (stands_mem h).mp hp
  have hr := reachB_le h
  have h4 := h.m4
  have hm1 := h.m1
  unfold U
  by_cases c : p.length ≤ 3
  · refine List.mem_append_left _ (allS_mem.mpr ⟨c, fun a ha => ?_⟩)
    have := h2 a ha
    omega
  · have m2 : m ≤ 2 := by
      rcases Int.lt_or_le m 3 with z | z
      · omega
      · have : reachB m rs ≤ 3 := mx_le (by decide) fun y hy => by
          rcases List.mem_cons.mp hy with rfl | hy
          · omega
          · obtain ⟨r, hr, rfl⟩ := List.mem_map.mp hy
            exact h.far z r hr
        omega
    have hin : inM 2 p := fun a ha => by
      have := h2 a ha
      omega
    refine List.mem_append_right _ ?_
    by_cases d : p.length = 4
    · exact List.mem_append_left _ (lvl_mem.mpr ⟨d, hin⟩)
    · exact List.mem_append_right _ (lvl_mem.mpr ⟨by omega, hin⟩)
theorem nodup_inj {α β : Type} {f : α → β} : ∀ {l : List α}, (l.map f).Nodup → ∀ a ∈ l, ∀ b ∈ l, f a = f b → a = b
  | x :: l, h, a, ha, b, hb, e => by
    rw [List.map_cons, List.nodup_cons] at h
    rcases List.mem_cons.mp ha with ha1 | ha1
    · rcases List.mem_cons.mp hb with hb1 | hb1
      · rw [ha1, hb1]
      · rw [ha1] at e
        exact absurd (List.mem_map.mpr ⟨b, hb1, e.symm⟩ : f x ∈ l.map f) h.1
    · rcases List.mem_cons.mp hb with hb1 | hb1
      · rw [hb1] at e
        exact absurd (List.mem_map.mpr ⟨a, ha1, e⟩ : f x ∈ l.map f) h.1
      · exact nodup_inj h.2 a ha1 b hb1 e
theorem hash_inj {m : Int} {rs : List Rl} (h : BkOk m rs) {p q : List Int} (hp : p ∈ stands m rs) (hq : q ∈ stands m rs) (e : hashI p = hashI q) : p = q := nodup_inj u_nodup p (u_in h hp) q (u_in h hq) e
theorem optD_get {kvs : Kvs} {p : List Int} {o : Option Int} (h : atK kvs p = o.map D.int) : (atK kvs p).getD .non = optD o := by
  rw [h]
  cases o <;> rfl
/-- the paper of waits -/
def paper (S : List (List Int)) (o : List Int → Option Int) : Kvs := tab S fun p => optD (o p)
section
variable {P : Program} {w : World} {K : PySem.W.Frag} {mg : Str → Option Value} {base : Heap}
def sg_waits_of : Sg := fun ds R => ∃ m rs one, ds = [bd m rs, .int one] ∧ (BkOk m rs ∧ 0 ≤ one ∧ one < m) ∧ R = fun x => ∃ o : List Int → Option Int, x = .lst (pairsD (paper (stands m rs) o)) ∧ ∀ p ∈ stands m rs, WaitOk m rs one p (o p)
abbrev N_waits_of : List Str := ["book", "one", "found", "stand"]
theorem sc_waits_of : FnScope N_waits_of ["book", "one"] (defScope (top 74)) := ⟨rfl, rfl, rfl, by decide +kernel, rfl, by decide +kernel, by decide +kernel⟩
abbrev H_waits_of (P : Program) (w : World) (K : PySem.W.Frag) (mg : Str → Option Value) (base : Heap) : Prop := Has P w K mg base "waits_of" 11 ["book", "one"] (spX K sg_waits_of)

theorem ok_waits_of (B : Blt K mg) (Df : Dfd K mg "waits_of" 74) (h_all_stands : H_all_stands P w K mg base) (h_waits_in : H_waits_in P w K mg base) (h_check_claimant : H_check_claimant P w K mg base) (h_check_book : H_check_book P w K mg base) : H_waits_of P w K mg base := by
  refine has_mk Df (fun _ _ _ _ _ _ us hl => match us, hl with | [_, _], _ => rfl) fun f fd F => ?_
  refine fn_ok F sc_waits_of (fun ds R ⟨_, _, _, e, _⟩ => e ▸ rfl) (fun cdv A outer s H E hr => ⟨_, (pss_cons (ps_expr (pe_callH h_check_book (hr.mono (by decide)) rfl (pa_cons (pv 0) pa_nil)))
    (pss_cons (ps_expr (pe_callH h_check_claimant (hr.mono (by decide)) rfl (pa_cons (pv 1) (pa_cons (pe_ix ix_tup (pv 0) pe_int (fun _ _ => rfl)) pa_nil))))
    (pss_cons (ps_set (i := 2) sc_waits_of.nd rfl (by first | exact Or.inl rfl | exact Or.inr rfl) (pe_callH h_waits_in (hr.mono (by decide)) rfl (pa_cons (pv 0) (pa_cons (pv 1) pa_nil))))
    (pss_one (ps_ret (pe_lc (own := [("stand", 3)]) (g := (gName 3)) (by rfl) sc_waits_of.nd (pi_list (pe_callH h_all_stands (hr.mono (by decide)) rfl (pa_cons (pv 0) pa_nil))) (blkOk_by (own := [("stand", 3)]) (N := N_waits_of) (sc := defScope (top 74)) (by decide +kernel)) (fun _ _ _ _ _ => (pg_name (i := 3) sc_waits_of.nd rfl (Or.inl rfl))) (fun _ _ _ _ _ => pts_nil) (fun _ _ _ _ _ => (pe_tup (pa_cons (pv 3) (pa_cons (pe_bmY (ty_rawK (K := K) rfl) PySem.F.plainAttrs_dict PySem.F.slot_dict_get PySem.F.type_dict_get (mt_rget1K (K := K) rfl (hu_of hr)) (pv 2) (pa_cons (pv 3) pa_nil)) pa_nil)))))))))), fun ds R h => ?_⟩)
  obtain ⟨m, rs, one, rfl, ⟨h0, h1, h2⟩, rfl⟩ := h
  have hsl := stands_len h0
  apply xs_seq
  refine xs_drop (xe_call (xa_cons (xd_var rfl) xa_nil) ⟨m, rs, rfl, h0, rfl⟩) ?_
  apply xs_seq
  refine xs_drop (xe_call (xa_cons (xd_var rfl) (xa_cons (xd_ixT (xu_of (xd_var rfl)) xd_int rfl) xa_nil)) ⟨one, m, rfl, ⟨h1, by omega⟩, rfl⟩) ?_
  apply xs_seq
  refine xs_asgC (xa_cons (xd_var rfl) (xa_cons (xd_var rfl) xa_nil)) ⟨m, rs, one, rfl, h0, rfl⟩ fun kvs hk => ?_
  obtain ⟨o, ho⟩ := hk
  refine xs_ret (R := Eq (.lst (pairsD (paper (stands m rs) o)))) ?_ fun x hx => ⟨o, hx.symm, fun p hp => (ho p hp).1⟩
  unfold pairsD paper tab
  rw [List.map_map]
  refine xd_lcM (stands m rs) D.key _ (ix_listD (xe_call (xa_cons (xd_var rfl) xa_nil) ⟨m, rs, rfl, h0, rfl⟩)) (by decide) (by omega) fun p hp => ?_
  apply xd_tup
  · apply xa_cons
    · walk_at "xd"
    · apply xa_cons
      · refine XD.eq (xd_rget1 (xdc_c (kvs := kvs) rfl) (xd_var rfl)) (optD_get (ho p hp).2)
      · exact xa_nil
  · show 2 ≤ 100000
    decide
def sg_wait_behind : Sg := fun ds R => ∃ m rs one p, ds = [bd m rs, .int one, .lst (ID p)] ∧ (BkOk m rs ∧ 0 ≤ one ∧ one < m ∧ inC m p ∧ p.length ≤ 120) ∧ R = fun x => ∃ o, x = optD o ∧ WaitOk m rs one (lastN (reachB m rs) p) o
abbrev N_wait_behind : List Str := ["book", "one", "past"]
theorem sc_wait_behind : FnScope N_wait_behind ["book", "one", "past"] (defScope (top 75)) := ⟨rfl, rfl, rfl, by decide +kernel, rfl, by decide +kernel, by decide +kernel⟩
abbrev H_wait_behind (P : Program) (w : World) (K : PySem.W.Frag) (mg : Str → Option Value) (base : Heap) : Prop := Has P w K mg base "wait_behind" 11 ["book", "one", "past"] (spX K sg_wait_behind)

theorem ok_wait_behind (B : Blt K mg) (Df : Dfd K mg "wait_behind" 75) (h_waits_in : H_waits_in P w K mg base) (h_stand_of : H_stand_of P w K mg base) (h_check_claimant : H_check_claimant P w K mg base) (h_check_book : H_check_book P w K mg base) : H_wait_behind P w K mg base := by
  refine has_mk Df (fun _ _ _ _ _ _ us hl => match us, hl with | [_, _, _], _ => rfl) fun f fd F => ?_
  refine fn_ok F sc_wait_behind (fun ds R ⟨_, _, _, _, e, _⟩ => e ▸ rfl) (fun cdv A outer s H E hr => ⟨_, (pss_cons (ps_expr (pe_callH h_check_book (hr.mono (by decide)) rfl (pa_cons (pv 0) pa_nil)))
    (pss_cons (ps_expr (pe_callH h_check_claimant (hr.mono (by decide)) rfl (pa_cons (pv 1) (pa_cons (pe_ix ix_tup (pv 0) pe_int (fun _ _ => rfl)) pa_nil))))
    (pss_one (ps_ret (pe_bmY ty_raw PySem.F.plainAttrs_dict PySem.F.slot_dict_get PySem.F.type_dict_get (mt_rget1 (hu_of hr)) (pe_callH h_waits_in (hr.mono (by decide)) rfl (pa_cons (pv 0) (pa_cons (pv 1) pa_nil))) (pa_cons (pe_callH h_stand_of (hr.mono (by decide)) rfl (pa_cons (pv 0) (pa_cons (pv 2) pa_nil))) pa_nil)))))), fun ds R h => ?_⟩)
  obtain ⟨m, rs, one, p, rfl, ⟨h0, h1, h2, h3, h4⟩, rfl⟩ := h
  apply xs_seq
  refine xs_drop (xe_call (xa_cons (xd_var rfl) xa_nil) ⟨m, rs, rfl, h0, rfl⟩) ?_
  apply xs_seq
  refine xs_drop (xe_call (xa_cons (xd_var rfl) (xa_cons (xd_ixT (xu_of (xd_var rfl)) xd_int rfl) xa_nil)) ⟨one, m, rfl, ⟨h1, by omega⟩, rfl⟩) ?_
  refine xs_ret (xe_getC (xa_cons (xd_var rfl) (xa_cons (xd_var rfl) xa_nil)) ⟨m, rs, one, rfl, h0, rfl⟩ (xe_call (xa_cons (xd_var rfl) (xa_cons (xd_var rfl) xa_nil)) ⟨m, rs, p, rfl, ⟨h0, h3, h4⟩, rfl⟩)) fun x hx => ?_
  obtain ⟨kvs, ⟨o, ho⟩, rfl⟩ := hx
  have q := ho _ (first_mem h0 h3)
  exact ⟨_, optD_get q.2, q.1⟩
theorem zip_same (p : List Int) : zipD (ID p) (ID p) = p.map fun a => .tup [.int a, .int a] := by
  unfold zipD
  induction p with
  | nil => rfl
  | cons a p ih =>
    show _ :: List.zipWith (fun x y => D.tup [x, y]) (ID p) (ID p) = _
    rw [ih]
    rfl
def sg_same_stand : Sg := fun ds R => ∃ p : List Int, ds = [.key p, .key p] ∧ p.length ≤ 1000 ∧ R = Eq (.bl true)
abbrev N_same_stand : List Str := ["thing", "stand", "part", "one"]
theorem sc_same_stand : FnScope N_same_stand ["thing", "stand"] (defScope (top 77)) := ⟨rfl, rfl, rfl, by decide +kernel, rfl, by decide +kernel, by decide +kernel⟩
abbrev H_same_stand (P : Program) (w : World) (K : PySem.W.Frag) (mg : Str → Option Value) (base : Heap) : Prop := Has P w K mg base "same_stand" 3 ["thing", "stand"] (spX K sg_same_stand)

theorem ok_same_stand (B : Blt K mg) (Df : Dfd K mg "same_stand" 77) (h_is_within : H_is_within P w K mg base) : H_same_stand P w K mg base := by
  refine has_mk Df (fun _ _ _ _ _ _ us hl => match us, hl with | [_, _], _ => rfl) fun f fd F => ?_
  refine fn_ok F sc_same_stand (fun ds R ⟨_, e, _⟩ => e ▸ rfl) (fun cdv A outer s H E hr => ⟨_, (pss_cons (ps_if (PW.pt (pw_or (pt_not (pt_val (pe_callB call_isi rfl B.isinstance bt_isinstance (pa_cons (pv 0) (pa_cons (pe_ty rfl B.tuple bt_tuple) pa_nil))))) (pw_or1 (pt_cmpR op_ne (pe_callB cr_lenS rfl B.len bt_len (pa_cons (pv 0) pa_nil)) (pe_callB cr_lenS rfl B.len bt_len (pa_cons (pv 1) pa_nil)) (nomark _))))) (pss_one (ps_ret pe_bl)) pss_nil)
    (pss_one (ps_ret (pe_callB (cr_all rfl) rfl B.all bt_all (pa_cons (pe_lc (own := [("part", 2), ("one", 3)]) (g := (gTup _ 2 (gCons (gName 2) (gCons (gName 3) gNil)))) (by rfl) sc_same_stand.nd (pi_zipA rfl B.zip (pa_cons (pv 0) (pa_cons (pv 1) pa_nil))) (blkOk_by (own := [("part", 2), ("one", 3)]) (N := N_same_stand) (sc := defScope (top 77)) (by decide +kernel)) (fun _ _ _ _ _ => (pg_tup rfl (pgs_cons (pg_name (i := 2) sc_same_stand.nd rfl (Or.inl rfl)) (pgs_cons (pg_name (i := 3) sc_same_stand.nd rfl (Or.inl rfl)) pgs_nil)))) (fun _ _ _ _ _ => pts_nil) (fun _ _ _ _ _ => (pe_callH h_is_within (hr.mono (by decide)) rfl (pa_cons (pv 2) (pa_cons (pv 3) (pa_cons (pv 3) pa_nil)))))) pa_nil))))), fun ds R h => ?_⟩)
  obtain ⟨p, rfl, h0, rfl⟩ := h
  walk_at "grd"
  · simp
  apply xs_retE
  · apply xd_all (bs := p.map fun _ => true)
    apply xl_of
    rw [List.map_map]
    refine xd_lcMG (js := [2, 3]) p (fun a => .tup [.int a, .int a]) _ _ ?_ (by decide) (by omega) (fun a ha => xg_tup (xgs_cons (xgs_cons xgs_nil)) rfl) fun a ha => ?_
    · rw [← zip_same]
      exact ix_zipI (xd_var rfl) (xd_var rfl) rfl rfl
    · refine XD.eq (xe_call (xa_cons (xd_var rfl) (xa_cons (xd_var rfl) (xa_cons (xd_var rfl) xa_nil))) ⟨a, a, a, rfl, rfl⟩) ?_
      rw [decide_eq_true (Int.le_refl a)]
      rfl
  · exact rfl
  · rw [show ((p.map fun _ => true).all id) = true from List.all_eq_true.mpr fun b hb => by
      obtain ⟨_, _, e⟩ := List.mem_map.mp hb
      rw [← e]
      rfl]
theorem zip_paper (S : List (List Int)) (o : List Int → Option Int) : zipD (pairsD (paper S o)) (keysD S) = S.map fun p => .tup [.tup [.key p, optD (o p)], .key p] := by
  unfold zipD pairsD paper tab keysD
  rw [List.map_map]
  induction S with
  | nil => rfl
  | cons a p ih =>
    rw [List.map_cons, List.map_cons, List.zipWith_cons_cons, ih]
    rfl
def sg_has_form : Sg := fun ds R => ∃ S o, ds = [.lst (pairsD (paper S o)), .lst (keysD S)] ∧ (S.length ≤ 2048 ∧ ∀ p ∈ S, p.length ≤ 1000 ∧ ∀ v, o p = some v → 0 < v) ∧ R = Eq (.bl true)
abbrev N_has_form : List Str := ["paper", "stands", "pair", "stand"]
theorem sc_has_form : FnScope N_has_form ["paper", "stands"] (defScope (top 76)) := ⟨rfl, rfl, rfl, by decide +kernel, rfl, by decide +kernel, by decide +kernel⟩
abbrev H_has_form (P : Program) (w : World) (K : PySem.W.Frag) (mg : Str → Option Value) (base : Heap) : Prop := Has P w K mg base "has_form" 4 ["paper", "stands"] (spX K sg_has_form)

theorem ok_has_form (B : Blt K mg) (Df : Dfd K mg "has_form" 76) (h_same_stand : H_same_stand P w K mg base) : H_has_form P w K mg base := by
  refine has_mk Df (fun _ _ _ _ _ _ us hl => match us, hl with | [_, _], _ => rfl) fun f fd F => ?_
  refine fn_ok F sc_has_form (fun ds R ⟨_, _, e, _⟩ => e ▸ rfl) (fun cdv A outer s H E hr => ⟨_, (pss_cons (ps_if (PW.pt (pw_or (pt_not (pt_val (pe_callB call_isi rfl B.isinstance bt_isinstance (pa_cons (pv 0) (pa_cons (pe_ty rfl B.list bt_list) pa_nil))))) (pw_or1 (pt_cmpR op_ne (pe_callB cr_lenS rfl B.len bt_len (pa_cons (pv 0) pa_nil)) (pe_callB cr_lenS rfl B.len bt_len (pa_cons (pv 1) pa_nil)) (nomark _))))) (pss_one (ps_ret pe_bl)) pss_nil)
    (pss_cons (ps_for PassesOwn.never rfl (pi_zipA rfl B.zip (pa_cons (pv 0) (pa_cons (pv 1) pa_nil))) (pg_tup rfl (pgs_cons (pg_name (i := 2) sc_has_form.nd rfl (by first | exact Or.inl rfl | exact Or.inr rfl)) (pgs_cons (pg_name (i := 3) sc_has_form.nd rfl (by first | exact Or.inl rfl | exact Or.inr rfl)) pgs_nil))) (pss_cons (ps_if (PW.pt (pw_or (pt_not (pt_val (pe_callB call_isi rfl B.isinstance bt_isinstance (pa_cons (pv 2) (pa_cons (pe_ty rfl B.tuple bt_tuple) pa_nil))))) (pw_or (pt_cmpR op_ne (pe_callB cr_lenS rfl B.len bt_len (pa_cons (pv 2) pa_nil)) pe_int (nomark _)) (pw_or1 (pt_not (pt_val (pe_callH h_same_stand (hr.mono (by decide)) rfl (pa_cons (pe_ix ix_tup (pv 2) pe_int (fun _ _ => rfl)) (pa_cons (pv 3) pa_nil))))))))) (pss_one (ps_ret pe_bl)) pss_nil)
    (pss_one (ps_if (PW.pt (pw_and (pt_cmpR op_notNo (pe_ix ix_tup (pv 2) pe_int (fun _ _ => rfl)) pe_non (nomark _)) (pw_and1 (pt_not (PW.pt (pw_and (pt_val (pe_callB call_isi rfl B.isinstance bt_isinstance (pa_cons (pe_ix ix_tup (pv 2) pe_int (fun _ _ => rfl)) (pa_cons (pe_ty rfl B.int bt_int) pa_nil)))) (pw_and (pt_not (pt_val (pe_callB call_isi rfl B.isinstance bt_isinstance (pa_cons (pe_ix ix_tup (pv 2) pe_int (fun _ _ => rfl)) (pa_cons (pe_ty rfl B.bool bt_bool) pa_nil))))) (pw_and1 (pt_cmpR op_gt (pe_ix ix_tup (pv 2) pe_int (fun _ _ => rfl)) pe_int (nomark _)))))))))) (pss_one (ps_ret pe_bl)) pss_nil))))
    (pss_one (ps_ret pe_bl)))), fun ds R h => ?_⟩)
  obtain ⟨S, o, rfl, ⟨h0, h1⟩, rfl⟩ := h
  have l1 : (pairsD (paper S o)).length = S.length := by unfold pairsD paper tab; rw [List.length_map, List.length_map]
  have l2 : (keysD S).length = S.length := List.length_map _
  walk_at "grd"
  · rw [l1, l2]
    simp
  apply xs_seq
  refine xs_for (js := [2, 3]) (fun i r => ∃ s2 s3, r = [.d (.lst (pairsD (paper S o))), .d (.lst (keysD S)), s2, s3]) (ix_zipL (xd_var rfl) (xd_var rfl)) ⟨_, _, rfl⟩ (fun i y r hy hr => ?_) (fun r hr => ?_)
  · obtain ⟨s2, s3, rfl⟩ := hr
    rw [zip_paper, List.getElem?_map] at hy
    obtain ⟨p, hp, rfl⟩ := Option.map_eq_some_iff.mp hy
    obtain ⟨g1, g2⟩ := h1 p (List.mem_of_getElem? hp)
    refine ⟨_, xg_tup (xgs_cons (xgs_cons xgs_nil)) rfl, ?_⟩
    apply xs_seq
    refine xs_guard (a := false || (false || false)) (xt_or (xt_not (b := true) (xt_T (xd_isi (xd_var rfl) kb_tuple))) fun _ => xt_or (a := false) ?_ fun _ => xt_not (b := true) (xt_T ?_)) rfl ?_
    · apply XT.eq
      · walk_at "xt"
      · rfl
    · exact xe_call (xa_cons (xd_ixT (xu_of (xd_var rfl)) xd_int rfl) (xa_cons (xd_var rfl) xa_nil)) ⟨p, rfl, g1, rfl⟩
    cases e : o p with
    | none =>
      refine xs_guard (a := false) (xt_andF ?_) rfl ⟨_, _, rfl⟩
      apply xt_T
      exact xd_notN (x := .non) (xd_ixT (xu_of (xd_var rfl)) xd_int rfl) xd_non
    | some v =>
      have hv := g2 v e
      have hx : ∀ {r : List Sl}, r[2]? = some (.d (.tup [.key p, optD (some v)])) → XD K (tOp (rIxT K) (tVar 2) (tC (.int 1))) r (.int v) := fun {r} hr => xd_ixT (xu_of (xd_var hr)) xd_int rfl
      refine xs_guard (a := true && !(true && (true && decide (0 < v)))) (xt_and (xt_T (xd_notN (x := .int v) (hx rfl) xd_non)) fun _ => xt_not (xt_and (xt_T (xd_isi (hx rfl) kb_int)) fun _ => xt_and (a := true) (xt_not (b := false) (xt_T (xd_isi (hx rfl) kb_int_bool))) fun _ => xt_T (xd_gt (hx rfl) xd_int))) ?_ ⟨_, _, rfl⟩
      rw [decide_eq_true hv]
      rfl
  · obtain ⟨s2, s3, rfl⟩ := hr
    walk_at "ret"
def sg_waits_hold : Sg := fun ds R => ∃ m rs one o, ds = [bd m rs, .int one, .lst (pairsD (paper (stands m rs) o))] ∧ (BkOk m rs ∧ 0 ≤ one ∧ one < m ∧ ∀ p ∈ stands m rs, WaitOk m rs one p (o p)) ∧ R = Eq (.bl true)
abbrev N_waits_hold : List Str := ["book", "one", "paper", "told", "stand", "step", "behind"]
theorem sc_waits_hold : FnScope N_waits_hold ["book", "one", "paper"] (defScope (top 78)) := ⟨rfl, rfl, rfl, by decide +kernel, rfl, by decide +kernel, by decide +kernel⟩
abbrev H_waits_hold (P : Program) (w : World) (K : PySem.W.Frag) (mg : Str → Option Value) (base : Heap) : Prop := Has P w K mg base "waits_hold" 10 ["book", "one", "paper"] (spX K sg_waits_hold)

theorem ok_waits_hold (B : Blt K mg) (Df : Dfd K mg "waits_hold" 78) (h_steps_of : H_steps_of P w K mg base) (h_has_form : H_has_form P w K mg base) (h_all_stands : H_all_stands P w K mg base) (h_check_claimant : H_check_claimant P w K mg base) (h_check_book : H_check_book P w K mg base) : H_waits_hold P w K mg base := by
  refine has_mk Df (fun _ _ _ _ _ _ us hl => match us, hl with | [_, _, _], _ => rfl) fun f fd F => ?_
  refine fn_ok F sc_waits_hold (fun ds R ⟨_, _, _, _, e, _⟩ => e ▸ rfl) (fun cdv A outer s H E hr => ⟨_, (pss_cons (ps_expr (pe_callH h_check_book (hr.mono (by decide)) rfl (pa_cons (pv 0) pa_nil)))
    (pss_cons (ps_expr (pe_callH h_check_claimant (hr.mono (by decide)) rfl (pa_cons (pv 1) (pa_cons (pe_ix ix_tup (pv 0) pe_int (fun _ _ => rfl)) pa_nil))))
    (pss_cons (ps_if (pt_not (pt_val (pe_callH h_has_form (hr.mono (by decide)) rfl (pa_cons (pv 2) (pa_cons (pe_callH h_all_stands (hr.mono (by decide)) rfl (pa_cons (pv 0) pa_nil)) pa_nil))))) (pss_one (ps_ret pe_bl)) pss_nil)
    (pss_cons (ps_set (i := 3) sc_waits_hold.nd rfl (by first | exact Or.inl rfl | exact Or.inr rfl) (pe_callTy (cr_dictP rfl (hu3_of hr)) rfl B.dict bt_dict (pa_cons (pv 2) pa_nil)))
    (pss_cons (ps_for PassesOwn.never rfl (pi_ritems (pe_callH h_steps_of (hr.mono (by decide)) rfl (pa_cons (pv 0) pa_nil))) (pg_tup rfl (pgs_cons (pg_name (i := 4) sc_waits_hold.nd rfl (by first | exact Or.inl rfl | exact Or.inr rfl)) (pgs_cons (pg_name (i := 5) sc_waits_hold.nd rfl (by first | exact Or.inl rfl | exact Or.inr rfl)) pgs_nil))) (pss_cons (ps_set (i := 6) sc_waits_hold.nd rfl (by first | exact Or.inl rfl | exact Or.inr rfl) (pe_rget (hu_of hr) (pv 3) (pe_ix ix_tup (pv 5) pe_int (fun _ _ => rfl)) (fun _ _ => rfl)))
    (pss_cons (ps_if (PW.pt (pw_and (pt_cmpR op_isNo (pe_rget (hu_of hr) (pv 3) (pv 4) (fun _ _ => rfl)) pe_non (nomark _)) (pw_and1 (PW.pt (pw_or (pt_cmpR op_eq (pe_ix ix_tup (pv 5) pe_int (fun _ _ => rfl)) (pv 1) (nomark _)) (pw_or1 (pt_cmpR op_notNo (pv 6) pe_non (nomark _)))))))) (pss_one (ps_ret pe_bl)) pss_nil)
    (pss_one (ps_if (PW.pt (pw_and (pt_cmpR op_notNo (pe_rget (hu_of hr) (pv 3) (pv 4) (fun _ _ => rfl)) pe_non (nomark _)) (pw_and (pt_cmpR op_ne (pe_ix ix_tup (pv 5) pe_int (fun _ _ => rfl)) (pv 1) (nomark _)) (pw_and1 (PW.pt (pw_or (pt_cmpR op_isNo (pv 6) pe_non (nomark _)) (pw_or1 (pt_cmpR op_ge (pv 6) (pe_rget (hu_of hr) (pv 3) (pv 4) (fun _ _ => rfl)) (nomark _))))))))) (pss_one (ps_ret pe_bl)) pss_nil)))))
    (pss_one (ps_ret pe_bl))))))), fun ds R h => ?_⟩)
  obtain ⟨m, rs, one, o, rfl, ⟨h0, h1, h2, h3⟩, rfl⟩ := h
  have hr := reachB_le h0
  have at_ : ∀ p, p ∈ stands m rs → atK (paper (stands m rs) o) p = some (optD (o p)) := fun p hp => by
    unfold paper
    rw [atK_tab (fun p => optD (o p)) p, if_pos hp]
  apply xs_seq
  refine xs_drop (xe_call (xa_cons (xd_var rfl) xa_nil) ⟨m, rs, rfl, h0, rfl⟩) ?_
  apply xs_seq
  refine xs_drop (xe_call (xa_cons (xd_var rfl) (xa_cons (xd_ixT (xu_of (xd_var rfl)) xd_int rfl) xa_nil)) ⟨one, m, rfl, ⟨h1, by omega⟩, rfl⟩) ?_
  apply xs_seq
  refine xs_guard (a := false) (xt_not (b := true) (xt_T (xe_call (xa_cons (xd_var rfl) (xa_cons (xe_call (xa_cons (xd_var rfl) xa_nil) ⟨m, rs, rfl, h0, rfl⟩) xa_nil)) ⟨stands m rs, o, rfl, ⟨stands_len h0, fun p hp => ⟨?_, fun v hv => ?_⟩⟩, rfl⟩))) rfl ?_
  · have := ((stands_mem h0).mp hp).1
    omega
  · have q := h3 p hp
    rw [hv] at q
    obtain ⟨n, rfl, hn⟩ := q
    have := hn.1
    omega
  apply xs_seq
  refine xs_dictP (kvs := paper (stands m rs) o) (xd_var rfl) ?_ ?_
  · unfold paper tab
    rw [List.map_map]
    show ((stands m rs).map fun p => p).Nodup
    rw [List.map_id']
    exact stands_nodup m rs
  apply xs_seq
  refine xs_for (js := [4, 5]) (ys := pairsD (tab (stands m rs) (stepD m rs))) (fun i r => ∃ s4 s5 s6, r = [.d (bd m rs), .d (.int one), .d (.lst (pairsD (paper (stands m rs) o))), .t (paper (stands m rs) o), s4, s5, s6]) (ix_itemsC (xa_cons (xd_var rfl) xa_nil) ⟨m, rs, rfl, h0, rfl⟩) ⟨_, _, _, rfl⟩ (fun i y r hy hr => ?_) (fun r hr => ?_)
  · obtain ⟨s4, s5, s6, rfl⟩ := hr
    unfold pairsD tab at hy
    rw [List.map_map, List.getElem?_map] at hy
    obtain ⟨p, hp, rfl⟩ := Option.map_eq_some_iff.mp hy
    have hpS := List.mem_of_getElem? hp
    have hnS := nxt_mem h0 hpS
    have w1 := h3 p hpS
    have w2 := h3 _ hnS
    refine ⟨_, xg_tup (xgs_cons (xgs_cons xgs_nil)) rfl, ?_⟩
    apply xs_seq
    refine xs_asgD (x := optD (o (nxt m rs p))) (xd_rget (xdc_t (kvs := paper (stands m rs) o) rfl) (xd_ixT (xu_of (xd_var rfl)) xd_int rfl) (at_ _ hnS)) ?_
    have told : ∀ {r : List Sl}, r[3]? = some (.t (paper (stands m rs) o)) → r[4]? = some (.d (.key p)) → XD K (tRGet K (tVar 3) (tVar 4)) r (optD (o p)) := fun {r} e3 e4 => xd_rget (xdc_t e3) (xd_var e4) (at_ p hpS)
    have ch : ∀ {r : List Sl}, r[5]? = some (.d (stepD m rs p)) → XD K (tOp (rIxT K) (tVar 5) (tC (.int 0))) r (.int (cho m rs p)) := fun {r} e5 => xd_ixT (xu_of (xd_var e5)) xd_int rfl
    cases e : o p with
    | none =>
      rw [e] at w1 told
      obtain ⟨n1, n2⟩ := never_next w1
      have e2 : o (nxt m rs p) = none := WOk.uniq w2 (show WaitOk m rs one (nxt m rs p) none from n2)
      rw [e2]
      apply xs_seq
      refine xs_guard (a := true && (decide (cho m rs p = one) || false)) (xt_and (xt_T (xd_isN (x := .non) (told rfl rfl) xd_non)) fun _ => xt_or (xt_T (xd_eqI (ch rfl) (xd_var rfl))) fun _ => xt_T (xd_notN (x := .non) (xd_var rfl) xd_non)) ?_ ?_
      · rw [decide_eq_false n1]
        rfl
      · exact xs_guard (a := false) (xt_andF (xt_T (xd_notN (x := .non) (told rfl rfl) xd_non))) rfl ⟨_, _, _, rfl⟩
    | some v =>
      rw [e] at w1 told
      apply xs_seq
      refine xs_guard (a := false) (xt_andF (xt_T (xd_isN (x := .int v) (told rfl rfl) xd_non))) rfl ?_
      by_cases c : cho m rs p = one
      · refine xs_guard (a := false) (xt_andT (xt_T (xd_notN (x := .int v) (told rfl rfl) xd_non)) (xt_andF (xt_T (XD.eq (xd_neI (ch rfl) (xd_var rfl)) ?_)))) rfl ⟨_, _, _, rfl⟩
        rw [decide_eq_true c]
        rfl
      · obtain ⟨n, rfl, hn⟩ := w1
        obtain ⟨k, rfl, hk⟩ := hn.back c
        have e2 : o (nxt m rs p) = some (k : Int) := WOk.uniq w2 (show WaitOk m rs one (nxt m rs p) (some (k : Int)) from ⟨k, rfl, hk⟩)
        rw [e2]
        refine xs_guard (a := true && (!decide (cho m rs p = one) && (false || decide (((k + 1 : Nat) : Int) ≤ (k : Int))))) (xt_and (xt_T (xd_notN (x := .int ((k + 1 : Nat) : Int)) (told rfl rfl) xd_non)) fun _ => xt_and (xt_T (xd_neI (ch rfl) (xd_var rfl))) fun _ => xt_or (xt_T (xd_isN (x := .int (k : Int)) (xd_var rfl) xd_non)) fun _ => xt_T (xd_ge (xd_var rfl) (told rfl rfl))) ?_ ⟨_, _, _, rfl⟩
        rw [decide_eq_false (p := ((k + 1 : Nat) : Int) ≤ (k : Int)) (by omega)]
        cases decide (cho m rs p = one) <;> rfl
  · obtain ⟨s4, s5, s6, rfl⟩ := hr
    walk_at "ret"
def sg_least_turned : Sg := fun ds R => ∃ l : List Int, ds = [.lst (ID l)] ∧ (l ≠ [] ∧ l.length ≤ 4000) ∧ R = Eq (.lst (ID (turnL l)))
theorem cutD_from {α : Type} (xs : List α) (t : Nat) (h : t ≤ xs.length) : cutD xs (some (t : Int)) none = xs.drop t := by
  unfold cutD
  rw [HT.sIx_nat, HT.sIx_none, Nat.min_eq_left h, List.take_of_length_le (by rw [List.length_drop]; omega)]
theorem xd_turns {ρ : List Sl} {te : TE} {l : List Int} (h : XL K te ρ ((rots l).map fun x => D.lst (ID x))) (hl : l ≠ []) : XD K (tCB (rMinA (List Int) K) (tCons te tNil)) ρ (.lst (ID (turnL l))) := by
  unfold turnL
  cases e : rots l with
  | nil =>
    have := congrArg List.length e
    unfold rots at this
    rw [List.length_map, List.length_range] at this
    exact absurd (List.eq_nil_of_length_eq_zero this) hl
  | cons x xs =>
    rw [e] at h
    exact xd_minL h
abbrev N_least_turned : List Str := ["lap", "at"]
theorem sc_least_turned : FnScope N_least_turned ["lap"] (defScope (top 79)) := ⟨rfl, rfl, rfl, by decide +kernel, rfl, by decide +kernel, by decide +kernel⟩
abbrev H_least_turned (P : Program) (w : World) (K : PySem.W.Frag) (mg : Str → Option Value) (base : Heap) : Prop := Has P w K mg base "least_turned" 1 ["lap"] (spX K sg_least_turned)

theorem ok_least_turned (B : Blt K mg) (Df : Dfd K mg "least_turned" 79)  : H_least_turned P w K mg base := by
  refine has_mk Df (fun _ _ _ _ _ _ us hl => match us, hl with | [_], _ => rfl) fun f fd F => ?_
  refine fn_ok F sc_least_turned (fun ds R ⟨_, e, _⟩ => e ▸ rfl) (fun cdv A outer s H E hr => ⟨_, (pss_one (ps_ret (pe_callB (cr_minA (α := List Int) rfl hr.units) rfl B.min bt_min (pa_cons (pe_lc (own := [("at", 1)]) (g := (gName 1)) (by rfl) sc_least_turned.nd (pi_range1 rfl B.range (pa_cons (pe_callB cr_lenS rfl B.len bt_len (pa_cons (pv 0) pa_nil)) pa_nil)) (blkOk_by (own := [("at", 1)]) (N := N_least_turned) (sc := defScope (top 79)) (by decide +kernel)) (fun _ _ _ _ _ => (pg_name (i := 1) sc_least_turned.nd rfl (Or.inl rfl))) (fun _ _ _ _ _ => pts_nil) (fun _ _ _ _ _ => (pe_op op_cat (pe_slice (sl_listK (K := K) rfl) (pv 0) (po_some (pv 1)) po_none) (pe_slice (sl_listK (K := K) rfl) (pv 0) po_none (po_some (pv 1)))))) pa_nil)))), fun ds R h => ?_⟩)
  obtain ⟨l, rfl, ⟨h0, h1⟩, rfl⟩ := h
  have el : ((ID l).length : Nat) = l.length := List.length_map _
  refine xs_retD (xd_turns (xl_of ?_) h0) rfl
  unfold rots
  rw [List.map_map]
  refine xd_lcM (List.range l.length) (fun (i : Nat) => .int ((0 : Int) + (i : Int))) _ ?_ (by decide) (by rw [List.length_range]; omega) fun i hi => ?_
  · refine ix_rng1 (n := ((l.length : Nat) : Int)) (xa_cons (XD.eq (xd_len (xl_of (xd_var rfl))) ?_) xa_nil) (by omega) (by omega)
    rw [el]
  · have hi := List.mem_range.mp hi
    refine XD.eq (xd_cat (xm_of (xd_slL (xl_of (xd_var rfl)) (xo_some (xd_var rfl)) xo_none)) (xm_of (xd_slL (xl_of (xd_var rfl)) xo_none (xo_some (xd_var rfl)))) ?_) ?_
    · rw [cutD_map, cutD_map, Int.zero_add, cutD_from _ _ (by omega), cutD_pre _ _ (by omega), List.length_map, List.length_map, List.length_drop, List.length_take]
      omega
    · rw [cutD_map, cutD_map, Int.zero_add, cutD_from _ _ (by omega), cutD_pre _ _ (by omega), ← List.map_append, Int.toNat_natCast]
      rfl
end
end Dx
end

section
set_option Elab.async false
set_option linter.all false
set_option maxRecDepth 100000
set_option maxHeartbeats 4000000
namespace Dx
open PySem PySem.Spec PyProof.Rows L2 Evl RZ
local macro_rules | `(tactic| walk_at "sd") => `(tactic| first | rfl | assumption | omega | exact Nat.le_of_ble_eq_true rfl | exact decide_eq_false (by omega) | exact decide_eq_true (by omega) | decide | (constructor <;> omega) | (simp only [List.length_map]; omega) | (simp only [List.length_map]; constructor <;> omega))
local macro_rules | `(tactic| walk_at "sd?") => `(tactic| first | walk_at "sd" | rotate_left)
local macro_rules | `(tactic| walk_at "xl") => `(tactic| first | exact xl_own rfl | (apply xl_of; walk_at "xd") | (apply xl_r; walk_at "xd"))
local macro_rules | `(tactic| walk_at "xm") => `(tactic| first | exact xm_own rfl | (apply xm_of; walk_at "xd"))
local macro_rules | `(tactic| walk_at "xu") => `(tactic| first | (apply xu_of; walk_at "xd") | (apply xu_r; walk_at "xd") | (apply xu_k; walk_at "xd"))
local macro_rules | `(tactic| walk_at "xa") => `(tactic| first | exact xa_nil | (apply xa_cons; walk_at "xd"; walk_at "xa"))
local macro_rules | `(tactic| walk_at "xo") => `(tactic| first | exact xo_none | (apply xo_some; walk_at "xd"))
local macro_rules | `(tactic| walk_at "xd") => `(tactic| first
  | exact xd_int | exact xd_str | exact xd_bl | exact xd_non | exact xd_var rfl
  | (apply xd_add; walk_at "xd"; walk_at "xd") | (apply xd_sub; walk_at "xd"; walk_at "xd") | (apply xd_neg; walk_at "xd")
  | (apply xd_mul; walk_at "xd"; walk_at "xd"; walk_at "sd?") | (apply xd_fdiv; walk_at "xd"; walk_at "xd"; walk_at "sd?") | (apply xd_mod; walk_at "xd"; walk_at "xd"; walk_at "sd?")
  | (apply xd_lt; walk_at "xd"; walk_at "xd") | (apply xd_le; walk_at "xd"; walk_at "xd") | (apply xd_gt; walk_at "xd"; walk_at "xd") | (apply xd_ge; walk_at "xd"; walk_at "xd")
  | (apply xd_chainLe; walk_at "xd"; walk_at "xd"; walk_at "xd")
  | (apply xd_eqI; walk_at "xd"; walk_at "xd") | (apply xd_neI; walk_at "xd"; walk_at "xd") | (apply xd_eqS; walk_at "xd"; walk_at "xd") | (apply xd_neS; walk_at "xd"; walk_at "xd")
  | (apply xd_isN; walk_at "xd"; walk_at "xd") | (apply xd_notN; walk_at "xd"; walk_at "xd")
  | (apply xd_not; walk_at "xd") | (apply xd_and; walk_at "xd"; (intro _; walk_at "xd")) | (apply xd_or; walk_at "xd"; (intro _; walk_at "xd"))
  | (apply xd_ixT; walk_at "xu"; walk_at "xd"; rfl) | (apply xd_ixIU; walk_at "xu"; walk_at "xd"; walk_at "sd?") | (apply xd_ixI; walk_at "xl"; walk_at "xd"; walk_at "sd?") | (apply xd_ixL; walk_at "xl"; walk_at "xd"; walk_at "sd?")
  | (apply xd_tup; walk_at "xa"; walk_at "sd?") | (apply xd_lst; walk_at "xa"; walk_at "sd?")
  | (apply xd_len; walk_at "xl") | (apply xd_lenU; walk_at "xu") | (apply xd_abs; walk_at "xd") | (apply xd_min2; walk_at "xd"; walk_at "xd")
  | (apply xd_isi; walk_at "xd"; (first | exact kb_int | exact kb_int_bool | exact kb_tuple | exact kb_list | exact kb_str | exact kb_bool_bool))
  | (apply xd_slL; walk_at "xl"; walk_at "xo"; walk_at "xo") | (apply xd_slT; walk_at "xd"; walk_at "xo"; walk_at "xo")
  | (apply xd_cat; walk_at "xm"; walk_at "xm"; walk_at "sd?") | (apply xd_catT; walk_at "xd"; walk_at "xd"; walk_at "sd?")
  | (apply xd_list; walk_at "xl") | (apply xd_listU; walk_at "xu") | (apply xd_tuple; walk_at "xl") | (apply xd_tupleT; walk_at "xd")
  | (apply xd_slk; walk_at "xd"; walk_at "xo"; walk_at "xo") | (apply xd_catK; walk_at "xd"; walk_at "xd"; walk_at "sd?") | exact xd_tupK0 | (apply xd_tupK1; walk_at "xd")
  | (apply xe_call; walk_at "xa"; walk_at "sg"))
local macro_rules | `(tactic| walk_at "sg") => `(tactic| first | exact ⟨_, rfl, rfl⟩ | exact ⟨_, _, rfl, rfl⟩ | exact ⟨_, _, _, rfl, rfl⟩ | exact ⟨_, _, _, _, rfl, rfl⟩ | exact ⟨_, _, _, _, _, rfl, rfl⟩ | exact ⟨_, _, _, _, _, _, rfl, rfl⟩ | exact ⟨_, _, _, _, _, _, _, rfl, rfl⟩ | (refine' ⟨_, rfl, ?_, rfl⟩; walk_at "sd?") | (refine' ⟨_, _, rfl, ?_, rfl⟩; walk_at "sd?") | (refine' ⟨_, _, _, rfl, ?_, rfl⟩; walk_at "sd?") | (refine' ⟨_, _, _, _, rfl, ?_, rfl⟩; walk_at "sd?") | (refine' ⟨_, _, _, _, _, rfl, ?_, rfl⟩; walk_at "sd?") | (refine' ⟨_, _, _, _, _, _, rfl, ?_, rfl⟩; walk_at "sd?") | (refine' ⟨_, _, _, _, _, _, _, rfl, ?_, rfl⟩; walk_at "sd?"))
local macro_rules | `(tactic| walk_at "asg") => `(tactic| (apply xs_seq; apply xs_asgD; walk_at "xd"))
local macro_rules | `(tactic| walk_at "guard") => `(tactic| (apply xs_seq; apply xs_guard; walk_at "xt"; walk_at "sd?"))
local macro_rules | `(tactic| walk_at "ret") => `(tactic| (apply xs_retE; walk_at "xd"; exact rfl; walk_at "sd?"))
local macro_rules | `(tactic| walk_at "xt") => `(tactic| first
  | (apply xt_B; walk_at "xd") | (apply xt_T; walk_at "xd") | (apply xt_not; walk_at "xt") | (apply xt_and; walk_at "xt"; (intro _; walk_at "xt")) | (apply xt_or; walk_at "xt"; (intro _; walk_at "xt")) | exact xt_yes)
local macro_rules | `(tactic| walk_at "grd") => `(tactic| (apply xs_seq; apply xs_guard; walk_at "xt"))
local macro_rules | `(tactic| walk_at "grl") => `(tactic| (apply xs_guard; walk_at "xt"))
local macro_rules | `(tactic| walk_at "unp2") => `(tactic| (apply xs_seq; apply xs_asgG; walk_at "xd"; exact xg_tup (xgs_cons (xgs_cons xgs_nil)) rfl))
local macro_rules | `(tactic| walk_at "if") => `(tactic| (apply xs_seq; apply xs_if; walk_at "xt"))
local macro_rules | `(tactic| walk_at "drop") => `(tactic| (apply xs_seq; apply xs_drop; walk_at "xd"))

open Ma
/-- the lap that a stand ends in, turned or not -/
def Ev (m : Int) (rs : List Rl) (p l : List Int) : Prop := l ≠ [] ∧ Prim l ∧ ∃ N, ∀ i, cho m rs (orb (nxt m rs) p (N + i)) = per l i
def Good (m : Int) (rs : List Rl) (F : List (List Int)) (p : List Int) : Prop := ∀ l, Ev m rs p l → turnL l ∈ F
section
variable {m : Int} {rs : List Rl}
theorem dealt_ev {p h l : List Int} (d : Dealt m rs p h l) : Ev m rs p l := ⟨d.nf.ne, d.nf.pr, h.length, fun i => by rw [← d.at_, rowAt_ge (by omega), show h.length + i - h.length = i by omega]⟩
theorem ev_turn {p l l' : List Int} (a : Ev m rs p l) (b : Ev m rs p l') : turnL l = turnL l' := by
  obtain ⟨a1, a2, N, a3⟩ := a
  obtain ⟨b1, b2, M, b3⟩ := b
  refine turn_eq a1 b1 a2 b2 (s := M) (t := N) fun i => ?_
  rw [← a3, ← b3, show N + (M + i) = M + (N + i) by omega]
theorem ev_on {p l : List Int} (a : Ev m rs p l) (k : Nat) : Ev m rs (orb (nxt m rs) p k) l := by
  obtain ⟨a1, a2, N, a3⟩ := a
  have hl := List.length_pos_iff.mpr a1
  have hk : k ≤ k * l.length := Nat.le_mul_of_pos_right k hl
  refine ⟨a1, a2, N + k * l.length - k, fun i => ?_⟩
  rw [← orb_add, show k + (N + k * l.length - k + i) = N + (i + k * l.length) by omega, a3, per_mul _ _ (per_add l)]
theorem ev_back {p l : List Int} {k : Nat} (a : Ev m rs (orb (nxt m rs) p k) l) : Ev m rs p l := by
  obtain ⟨a1, a2, N, a3⟩ := a
  refine ⟨a1, a2, k + N, fun i => ?_⟩
  rw [Nat.add_assoc, orb_add]
  exact a3 i
theorem good_back {F : List (List Int)} {p : List Int} {k : Nat} (g : Good m rs F (orb (nxt m rs) p k)) : Good m rs F p := fun l e => g l (ev_on e k)
theorem good_on {F : List (List Int)} {p : List Int} (g : Good m rs F p) (k : Nat) : Good m rs F (orb (nxt m rs) p k) := fun l e => g l (ev_back e)
theorem good_up {F F' : List (List Int)} {p : List Int} (g : Good m rs F p) (h : ∀ l ∈ F, l ∈ F') : Good m rs F' p := fun l e => h _ (g l e)
theorem cyc_ev {p r : List Int} {j n : Nat} (h : orb (nxt m rs) p n = orb (nxt m rs) p j) (hj : j < n) (hr : IsRoot ((row (cho m rs) (nxt m rs) p n).drop j) r) : Ev m rs p r := by
  obtain ⟨k, h1, h2, h3, h4, rfl⟩ := hr
  have hl : ((row (cho m rs) (nxt m rs) p n).drop j).length = n - j := by rw [List.length_drop, row_len]
  refine ⟨fun z => ?_, root_prim h1 h2 h3 h4, j, fun i => ?_⟩
  · have := congrArg List.length z
    rw [List.length_take] at this
    have : min k ((row (cho m rs) (nxt m rs) p n).drop j).length = 0 := this
    omega
  · rw [rep_per h1 h2 h3, ← row_cut (cho m rs) (nxt m rs) p h hj, rowAt_ge (by rw [List.length_take, row_len]; omega), show ((row (cho m rs) (nxt m rs) p n).take j).length = j by rw [List.length_take, row_len]; omega, show j + i - j = i by omega]
theorem root_ex {l : List Int} (h : l ≠ []) : ∃ r, IsRoot l r := by
  have hl := List.length_pos_iff.mpr h
  have key : ∀ n k, k ≤ n → 1 ≤ k → k ≤ l.length → rep l k = l → ∃ r, IsRoot l r := by
    intro n
    induction n with
    | zero => exact fun k a b => by omega
    | succ n ih =>
      intro k a b c d
      by_cases e : ∃ j, 1 ≤ j ∧ j < k ∧ rep l j = l
      · obtain ⟨j, j1, j2, j3⟩ := e
        exact ih j (by omega) j1 (by omega) j3
      · exact ⟨_, k, b, c, d, fun j j1 j2 j3 => e ⟨j, j1, j2, j3⟩, rfl⟩
  exact key l.length l.length (Nat.le_refl _) hl (Nat.le_refl _) (rep_self hl)
end
theorem atK_some (kvs : Kvs) (k : List Int) : (atK kvs k).isSome = decide (k ∈ kvs.map (·.1)) := by
  unfold atK
  induction kvs with
  | nil => rfl
  | cons q kvs ih =>
    rw [List.find?_cons, List.map_cons]
    by_cases c : q.1 = k
    · rw [decide_eq_true c, decide_eq_true (by rw [c]; exact List.mem_cons_self)]
      rfl
    · rw [decide_eq_false c, ih]
      exact decide_eq_decide.mpr ⟨fun h => List.mem_cons_of_mem _ h, fun h => (List.mem_cons.mp h).resolve_left fun z => c z.symm⟩
theorem putAll_new : ∀ (more kvs : Kvs), ((kvs ++ more).map (·.1)).Nodup → putAllK kvs more = kvs ++ more
  | [], kvs, _ => (List.append_nil kvs).symm
  | p :: more, kvs, h => by
    have hn : atK kvs p.1 = none := by
      have : (atK kvs p.1).isSome = false := by
        rw [atK_some]
        refine decide_eq_false fun z => ?_
        rw [List.map_append, List.nodup_append] at h
        exact h.2.2 p.1 z p.1 (List.mem_map.mpr ⟨p, List.mem_cons_self, rfl⟩) rfl
      cases e : atK kvs p.1 with
      | none => rfl
      | some d =>
        rw [e] at this
        cases this
    show putAllK (putK' kvs p.1 p.2) more = _
    rw [putK_new hn, putAll_new more _ (by rw [List.append_assoc]; exact h), List.append_assoc]
    rfl
theorem tab_put (F : List (List Int)) (d : D) (k : List Int) : ∃ F', putK' (tab F fun _ => d) k d = tab F' (fun _ => d) ∧ k ∈ F' ∧ (∀ x ∈ F, x ∈ F') ∧ (∀ x ∈ F', x = k ∨ x ∈ F) ∧ F'.length ≤ F.length + 1 := by
  by_cases c : k ∈ F
  · refine ⟨F, ?_, c, fun _ h => h, fun _ h => .inr h, by omega⟩
    unfold putK'
    rw [atK_tab (fun _ => d) k F, if_pos c]
    show (tab F _).map _ = _
    unfold tab
    rw [List.map_map]
    refine List.map_congr_left fun x _ => ?_
    show (if x = k then (x, d) else (x, d)) = (x, d)
    split <;> rfl
  · refine ⟨F ++ [k], ?_, List.mem_append_right _ List.mem_cons_self, fun _ h => List.mem_append_left _ h, fun x h => ?_, by rw [List.length_append]; exact Nat.le_refl _⟩
    · rw [putK_new (by rw [atK_tab (fun _ => d) k F, if_neg c]), tab_snoc]
    · rcases List.mem_append.mp h with h | h
      · exact .inr h
      · exact .inl (List.mem_singleton.mp h)
section
variable {P : Program} {w : World} {K : PySem.W.Frag} {mg : Str → Option Value} {base : Heap}
def sg_laps_of : Sg := fun ds R => ∃ m rs, ds = [bd m rs] ∧ BkOk m rs ∧ R = fun x => ∃ ls : List (List Int), x = .lst (ls.map fun l => .lst (ID l)) ∧ ∀ p ∈ stands m rs, Good m rs ls p
def trailK (m : Int) (rs : List Rl) (p : List Int) (i : Nat) : Kvs := (List.range i).map fun j => (orb (nxt m rs) p j, .int (j : Nat))
theorem trail_keys (m : Int) (rs : List Rl) (p : List Int) (i : Nat) : (trailK m rs p i).map (·.1) = (List.range i).map (orb (nxt m rs) p) := by
  unfold trailK
  rw [List.map_map]
  rfl
abbrev N_laps_of : List Str := ["book", "steps", "found", "done", "stand", "here", "trail", "row", "lap"]
theorem sc_laps_of : FnScope N_laps_of ["book"] (defScope (top 80)) := ⟨rfl, rfl, rfl, by decide +kernel, rfl, by decide +kernel, by decide +kernel⟩
abbrev H_laps_of (P : Program) (w : World) (K : PySem.W.Frag) (mg : Str → Option Value) (base : Heap) : Prop := Has P w K mg base "laps_of" 10 ["book"] (spX K sg_laps_of)

theorem ok_laps_of (B : Blt K mg) (Df : Dfd K mg "laps_of" 80) (h_all_stands : H_all_stands P w K mg base) (h_least_turned : H_least_turned P w K mg base) (h_root_of : H_root_of P w K mg base) (h_steps_of : H_steps_of P w K mg base) (h_check_book : H_check_book P w K mg base) : H_laps_of P w K mg base := by
  refine has_mk Df (fun _ _ _ _ _ _ us hl => match us, hl with | [_], _ => rfl) fun f fd F => ?_
  refine fn_ok F sc_laps_of (fun ds R ⟨_, _, e, _⟩ => e ▸ rfl) (fun cdv A outer s H E hr => ⟨_, (pss_cons (ps_expr (pe_callH h_check_book (hr.mono (by decide)) rfl (pa_cons (pv 0) pa_nil)))
    (pss_cons (ps_set (i := 1) sc_laps_of.nd rfl (by first | exact Or.inl rfl | exact Or.inr rfl) (pe_callH h_steps_of (hr.mono (by decide)) rfl (pa_cons (pv 0) pa_nil)))
    (pss_cons (ps_set (i := 2) sc_laps_of.nd rfl (by first | exact Or.inl rfl | exact Or.inr rfl) pe_rnew)
    (pss_cons (ps_set (i := 3) sc_laps_of.nd rfl (by first | exact Or.inl rfl | exact Or.inr rfl) pe_rnew)
    (pss_cons (ps_for PassesOwn.never rfl (pi_list (pe_callH h_all_stands (hr.mono (by decide)) rfl (pa_cons (pv 0) pa_nil))) (pg_name (i := 4) sc_laps_of.nd rfl (by first | exact Or.inl rfl | exact Or.inr rfl)) (pss_cons (ps_set (i := 5) sc_laps_of.nd rfl (by first | exact Or.inl rfl | exact Or.inr rfl) (pv 4))
    (pss_cons (ps_set (i := 6) sc_laps_of.nd rfl (by first | exact Or.inl rfl | exact Or.inr rfl) pe_rnew)
    (pss_cons (ps_set (i := 7) sc_laps_of.nd rfl (by first | exact Or.inl rfl | exact Or.inr rfl) (pe_lst pa_nil))
    (pss_cons (ps_while PassesOwn.never (PW.pt (pw_and (pt_cmp (pc_rnotin (hu_of hr) (pv 5) (pv 3)) rfl) (pw_and1 (pt_cmp (pc_rnotin (hu_of hr) (pv 5) (pv 6)) rfl)))) (pss_cons (ps_rput (hu_of hr) (pv 6) (pv 5) (pe_callB cr_lenS rfl B.len bt_len (pa_cons (pv 7) pa_nil)) rfl)
    (pss_cons (ps_expr (pe_bm PySem.F.plainAttrs_list PySem.F.slot_list_append PySem.F.type_list_append mt_append (pv 7) (pa_cons (pe_ix ix_tup (pe_rget (hu_of hr) (pv 1) (pv 5) (fun _ _ => rfl)) pe_int (fun _ _ => rfl)) pa_nil)))
    (pss_one (ps_set (i := 5) sc_laps_of.nd rfl (by first | exact Or.inl rfl | exact Or.inr rfl) (pe_ix ix_tup (pe_rget (hu_of hr) (pv 1) (pv 5) (fun _ _ => rfl)) pe_int (fun _ _ => rfl)))))))
    (pss_cons (ps_if (pt_cmp (pc_rin (hu_of hr) (pv 5) (pv 6)) rfl) (pss_one (ps_rput (hu_of hr) (pv 2) (pe_callTy cr_tupK rfl B.tuple bt_tuple (pa_cons (pe_callH h_least_turned (hr.mono (by decide)) rfl (pa_cons (pe_callH h_root_of (hr.mono (by decide)) rfl (pa_cons (pe_slice sl_list (pv 7) (po_some (pe_rget (hu_of hr) (pv 6) (pv 5) (fun _ _ => rfl))) po_none) pa_nil)) pa_nil)) pa_nil)) pe_bl rfl)) pss_nil)
    (pss_one (ps_expr (pe_bmY ty_raw PySem.F.plainAttrs_dict PySem.F.slot_dict_update PySem.F.type_dict_update (mt_rupd (hu_of hr)) (pv 3) (pa_cons (pv 6) pa_nil))))))))))
    (pss_one (ps_ret (pe_lc (own := [("lap", 8)]) (g := (gName 8)) (by rfl) sc_laps_of.nd (pi_list (pe_callB (cr_sortR rfl) rfl B.sorted bt_sorted (pa_cons (pv 2) pa_nil))) (blkOk_by (own := [("lap", 8)]) (N := N_laps_of) (sc := defScope (top 80)) (by decide +kernel)) (fun _ _ _ _ _ => (pg_name (i := 8) sc_laps_of.nd rfl (Or.inl rfl))) (fun _ _ _ _ _ => pts_nil) (fun _ _ _ _ _ => (pe_callTy (cr_listK (K := K) rfl) rfl B.list bt_list (pa_cons (pv 8) pa_nil))))))))))), fun ds R h => ?_⟩)
  obtain ⟨m, rs, rfl, h0, rfl⟩ := h
  have hsl := stands_len h0
  have hr := reachB_le h0
  have hm4 := h0.m4
  apply xs_seq
  refine xs_drop (xe_call (xa_cons (xd_var rfl) xa_nil) ⟨m, rs, rfl, h0, rfl⟩) ?_
  apply xs_seq
  refine xs_asgC (Rk := Eq (tab (stands m rs) (stepD m rs))) (xa_cons (xd_var rfl) xa_nil) ⟨m, rs, rfl, h0, rfl⟩ fun kvs hk => ?_
  subst hk
  apply xs_seq; apply xs_asgT
  apply xs_seq; apply xs_asgT
  apply xs_seq
  have om : ∀ {p}, p ∈ stands m rs → ∀ i, orb (nxt m rs) p i ∈ stands m rs := fun hp i => by
    induction i with
    | zero => exact hp
    | succ i ih => exact nxt_mem h0 ih
  refine xs_forN (ys := keysD (stands m rs)) (fun i r => ∃ (F : List (List Int)) (DK : Kvs) (s4 s5 s6 s7 s8 : Sl), r = [.d (bd m rs), .c (tab (stands m rs) (stepD m rs)), .t (tab F fun _ => .bl true), .t DK, s4, s5, s6, s7, s8] ∧ (∀ l ∈ F, l ≠ []) ∧ F.length ≤ i ∧ (DK.map (·.1)).Nodup ∧ (∀ p ∈ DK.map (·.1), p ∈ stands m rs ∧ Good m rs F p) ∧ ∀ p ∈ (stands m rs).take i, p ∈ DK.map (·.1))
    (ix_listD (xe_call (xa_cons (xd_var rfl) xa_nil) ⟨m, rs, rfl, h0, rfl⟩)) ⟨[], [], _, _, _, _, _, rfl, (fun l hl => nomatch hl), Nat.le_refl _, List.nodup_nil, (fun p hp => nomatch hp), fun p hp => by rw [List.take_zero] at hp; cases hp⟩ (fun i y r hy hr => ?_) (fun r hr => ?_)
  · obtain ⟨F, DK, s4, s5, s6, s7, s8, rfl, f1, f2, f3, f4, f5⟩ := hr
    rw [List.getElem?_map] at hy
    obtain ⟨p, hp, rfl⟩ := Option.map_eq_some_iff.mp hy
    have hpS := List.mem_of_getElem? hp
    have hil := (List.getElem?_eq_some_iff.mp hp).1
    have dl : DK.length ≤ 2048 := by
      have := nodup_le f3 fun x hx => (f4 x hx).1
      rw [List.length_map] at this
      omega
    apply xs_seq; apply xs_asgD (xd_var rfl)
    apply xs_seq; apply xs_asgT
    apply xs_seq; apply xs_asgM xa_nil (by decide)
    apply xs_seq
    refine xs_while (fun n r => ∃ k : Nat, n + k = 2048 ∧ r = [.d (bd m rs), .c (tab (stands m rs) (stepD m rs)), .t (tab F fun _ => .bl true), .t DK, .d (.key p), .d (.key (orb (nxt m rs) p k)), .t (trailK m rs p k), .l (ID (row (cho m rs) (nxt m rs) p k)), s8] ∧ ((List.range k).map (orb (nxt m rs) p)).Nodup ∧ ∀ j, j < k → orb (nxt m rs) p j ∉ DK.map (·.1))
      2048 ⟨0, rfl, rfl, List.nodup_nil, fun j hj => by omega⟩ fun n r hm => ?_
    obtain ⟨k, hk, rfl, hn, hnd⟩ := hm
    have hkl : ∀ {k}, ((List.range k).map (orb (nxt m rs) p)).Nodup → k ≤ 2048 := fun {k} hn => by
      have := nodup_le hn fun x hx => by
        obtain ⟨j, _, rfl⟩ := List.mem_map.mp hx
        exact om hpS j
      rw [List.length_map, List.length_range] at this
      omega
    have hS := om hpS k
    have hpl := ((stands_mem h0).mp hS).1
    have hst : atK (tab (stands m rs) (stepD m rs)) (orb (nxt m rs) p k) = some (stepD m rs (orb (nxt m rs) p k)) := by rw [atK_tab (stepD m rs), if_pos hS]
    have rl := row_len (cho m rs) (nxt m rs) p k
    refine ⟨(true ^^ (atK DK (orb (nxt m rs) p k)).isSome) && (true ^^ (atK (trailK m rs p k) (orb (nxt m rs) p k)).isSome), xt_and (xt_B (xd_rin (xd_var rfl) (xdc_t rfl))) fun _ => xt_B (xd_rin (xd_var rfl) (xdc_t rfl)), fun hb => ?_, fun hb => ?_⟩
    · rw [Bool.and_eq_true, atK_some, atK_some, trail_keys] at hb
      obtain ⟨b1, b2⟩ := hb
      have n1 : orb (nxt m rs) p k ∉ DK.map (·.1) := fun z => by
        rw [decide_eq_true z] at b1
        cases b1
      have n2 : orb (nxt m rs) p k ∉ (List.range k).map (orb (nxt m rs) p) := fun z => by
        rw [decide_eq_true z] at b2
        cases b2
      have hn2 : ((List.range (k + 1)).map (orb (nxt m rs) p)).Nodup := by
        rw [List.range_succ, List.map_append]
        refine List.nodup_append.mpr ⟨hn, List.pairwise_singleton _ _, fun a ha b hb e => ?_⟩
        rw [List.mem_singleton.mp hb] at e
        rw [e] at ha
        exact n2 ha
      have hk2 := hkl hn2
      have hnone : atK (trailK m rs p k) (orb (nxt m rs) p k) = none := by
        cases e : atK (trailK m rs p k) (orb (nxt m rs) p k) with
        | none => rfl
        | some d =>
          have := atK_some (trailK m rs p k) (orb (nxt m rs) p k)
          rw [e, trail_keys, decide_eq_false n2] at this
          cases this
      apply xs_seq
      apply xs_rput (k := orb (nxt m rs) p k) (d := .int (k : Nat)) rfl (xd_var rfl)
      · apply XD.eq
        · apply xd_len
          exact xl_own rfl
        · rw [List.length_map, rl]
      · unfold trailK
        rw [List.length_map, List.length_range]
        omega
      rw [putK_new hnone]
      apply xs_seq
      apply xs_app (xs := ID (row (cho m rs) (nxt m rs) p k)) (x := .int (cho m rs (orb (nxt m rs) p k))) rfl
      · exact xd_ixT (xu_of (xd_rget (xdc_c rfl) (xd_var rfl) hst)) xd_int rfl
      · rw [List.length_map, rl]
        omega
      apply xs_asgD (x := .key (orb (nxt m rs) p (k + 1)))
      · exact xd_ixT (xu_of (xd_rget (xdc_c rfl) (xd_var rfl) hst)) xd_int rfl
      refine ⟨2048 - (k + 1), by omega, k + 1, by omega, ?_, hn2, fun j hj => ?_⟩
      · rw [row_succ, show ∀ a b, ID (a ++ b) = ID a ++ ID b from fun a b => List.map_append]
        unfold trailK
        rw [List.range_succ, List.map_append]
        rfl
      · rcases Nat.lt_or_ge j k with c | c
        · exact hnd j c
        · have : j = k := by omega
          rw [this]
          exact n1
    · have hk1 := hkl hn
      -- what is known of the stand p, and what the two sets become
      have fin2 : ∀ (F' : List (List Int)), (∀ l ∈ F, l ∈ F') → (∀ l ∈ F', l ≠ []) → F'.length ≤ i + 1 → Good m rs F' p → (0 < k ∨ p ∈ DK.map (·.1)) →
          ∃ (F : List (List Int)) (DK' : Kvs) (s4 s5 s6 s7 s8' : Sl), [.d (bd m rs), .c (tab (stands m rs) (stepD m rs)), .t (tab F' fun _ => .bl true), .t (putAllK DK (trailK m rs p k)), .d (.key p), .d (.key (orb (nxt m rs) p k)), .t (trailK m rs p k), .l (ID (row (cho m rs) (nxt m rs) p k)), s8] = [Sl.d (bd m rs), .c (tab (stands m rs) (stepD m rs)), .t (tab F fun _ => .bl true), .t DK', s4, s5, s6, s7, s8'] ∧ (∀ l ∈ F, l ≠ []) ∧ F.length ≤ i + 1 ∧ (DK'.map (·.1)).Nodup ∧ (∀ p ∈ DK'.map (·.1), p ∈ stands m rs ∧ Good m rs F p) ∧ ∀ p ∈ (stands m rs).take (i + 1), p ∈ DK'.map (·.1) := by
        intro F' u1 u2 u3 u4 u5
        have dis : ((DK ++ trailK m rs p k).map (·.1)).Nodup := by
          rw [List.map_append, trail_keys]
          refine List.nodup_append.mpr ⟨f3, hn, fun a ha b hb e => ?_⟩
          obtain ⟨j, hj, rfl⟩ := List.mem_map.mp hb
          rw [e] at ha
          exact hnd j (List.mem_range.mp hj) ha
        refine ⟨F', DK ++ trailK m rs p k, _, _, _, _, _, by rw [putAll_new _ _ dis], u2, u3, dis, fun q hq => ?_, fun q hq => ?_⟩
        · rw [List.map_append, trail_keys] at hq
          rcases List.mem_append.mp hq with hq | hq
          · exact ⟨(f4 q hq).1, good_up (f4 q hq).2 u1⟩
          · obtain ⟨j, hj, rfl⟩ := List.mem_map.mp hq
            exact ⟨om hpS j, good_on u4 j⟩
        · rw [List.map_append, trail_keys]
          rw [take_snoc hp] at hq
          rcases List.mem_append.mp hq with hq | hq
          · exact List.mem_append_left _ (f5 q hq)
          · rw [List.mem_singleton.mp hq]
            rcases u5 with u5 | u5
            · exact List.mem_append_right _ (List.mem_map.mpr ⟨0, List.mem_range.mpr u5, rfl⟩)
            · exact List.mem_append_left _ u5
      have hh : ((trailK m rs p k).map fun p => hashI p.1).Nodup := by
        have e : ((trailK m rs p k).map fun p => hashI p.1) = ((List.range k).map (orb (nxt m rs) p)).map hashI := by
          rw [← trail_keys, List.map_map]
          rfl
        rw [e]
        refine List.pairwise_map.mpr (List.Pairwise.imp_of_mem (fun {a b} ha hb hab z => ?_) hn)
        obtain ⟨ja, _, rfl⟩ := List.mem_map.mp ha
        obtain ⟨jb, _, rfl⟩ := List.mem_map.mp hb
        exact hab (hash_inj h0 (om hpS ja) (om hpS jb) z)
      have hsz : DK.length + (trailK m rs p k).length ≤ 100000 := by
        unfold trailK
        rw [List.length_map, List.length_range]
        omega
      apply xs_seq
      refine xs_if (b := false ^^ (atK (trailK m rs p k) (orb (nxt m rs) p k)).isSome) (xt_B (xd_rin (xd_var rfl) (xdc_t rfl))) (fun hb2 => ?_) fun hb2 => ?_
      · -- a new lap
        rw [Bool.false_xor] at hb2
        obtain ⟨j, hj, ej, hat⟩ : ∃ j, j < k ∧ orb (nxt m rs) p j = orb (nxt m rs) p k ∧ atK (trailK m rs p k) (orb (nxt m rs) p k) = some (.int (j : Nat)) := by
          unfold atK at hb2 ⊢
          cases e : (trailK m rs p k).find? (fun q => decide (q.1 = orb (nxt m rs) p k)) with
          | none =>
            rw [e] at hb2
            cases hb2
          | some q =>
            have e3 := List.find?_some e
            obtain ⟨j, hj, rfl⟩ := List.mem_map.mp (List.mem_of_find?_eq_some e)
            exact ⟨j, List.mem_range.mp hj, of_decide_eq_true e3, rfl⟩
        have dne : (row (cho m rs) (nxt m rs) p k).drop j ≠ [] := fun z => by
          have := congrArg List.length z
          rw [List.length_drop, rl] at this
          have : k - j = 0 := this
          omega
        obtain ⟨r0, hr0⟩ := root_ex dne
        have evr := cyc_ev ej.symm hj hr0
        have r0l : r0.length ≤ 4000 := by
          obtain ⟨k', _, _, _, _, e⟩ := hr0
          rw [e, List.length_take, List.length_drop, rl]
          omega
        obtain ⟨F', eF, hin, hup, hof, hlen⟩ := tab_put F (.bl true) (turnL r0)
        refine xs_rput (kvs := tab F fun _ => .bl true) (k := turnL r0) (d := .bl true) rfl (xd_keyL (xl_of (xe_call (xa_cons ?_ xa_nil) ⟨r0, rfl, ⟨evr.1, r0l⟩, rfl⟩))) xd_bl ?_ ?_
        · refine XE.imp (xe_call (ds := [.lst (ID ((row (cho m rs) (nxt m rs) p k).drop j))]) (xa_cons (XD.eq (xd_slL (xl_own rfl) (xo_some (xd_rget (xdc_t rfl) (xd_var rfl) hat)) xo_none) ?_) xa_nil) ⟨_, rfl, ⟨dne, ?_⟩, rfl⟩) fun x hx => ?_
          · rw [cutD_map, cutD_from _ _ (by rw [rl]; omega)]
          · rw [List.length_drop, rl]
            omega
          · obtain ⟨r1, rfl, hr1⟩ := hx
            rw [hr0.one hr1]
        · unfold tab
          rw [List.length_map]
          omega
        · rw [eF]
          refine xs_upd (i := 3) (j := 6) (kvs := DK) (more := trailK m rs p k) rfl rfl (by decide) hh hsz (fin2 F' hup (fun l hl => ?_) (by omega) (fun l e => ?_) (.inl (by omega)))
          · rcases hof l hl with rfl | hl
            · intro z
              have t1 := (turn_spec evr.1).1
              rw [z] at t1
              obtain ⟨i1, hi1, e1⟩ := List.mem_map.mp t1
              have := congrArg List.length e1
              rw [rot_len (List.mem_range.mp hi1)] at this
              exact evr.1 (List.eq_nil_of_length_eq_zero this)
            · exact f1 l hl
          · rw [ev_turn e evr]
            exact hin
      · rw [Bool.false_xor] at hb2
        have hin : orb (nxt m rs) p k ∈ DK.map (·.1) := by
          rw [hb2, Bool.xor_false, Bool.and_true] at hb
          by_cases c : orb (nxt m rs) p k ∈ DK.map (·.1)
          · exact c
          · rw [atK_some, decide_eq_false c] at hb
            cases hb
        refine xs_next ?_
        refine xs_upd (i := 3) (j := 6) (kvs := DK) (more := trailK m rs p k) rfl rfl (by decide) hh hsz (fin2 F (fun _ h => h) f1 (by omega) (good_back (f4 _ hin).2) ?_)
        rcases Nat.eq_zero_or_pos k with z | z
        · subst z
          exact .inr hin
        · exact .inl z
  · obtain ⟨F, DK, s4, s5, s6, s7, s8, rfl, f1, f2, f3, f4, f5⟩ := hr
    rw [List.length_map, List.take_length] at f5
    rw [List.length_map] at f2
    refine xs_ret (xe_lcE (fun ys => ∃ ks : List (List Int), ys = keysD ks ∧ ks.Perm F) (fun ys i => match ys[i]? with | some (.key l) => .lst (ID l) | _ => .non) (ixe_list (xe_sort (kvs := tab F fun _ => .bl true) rfl fun q hq => ?_) fun x hx => ?_) (by decide) (fun ys hy => ?_) fun ys hy i y hi => ?_) fun x hx => ?_
    · obtain ⟨l, hl, rfl⟩ := List.mem_map.mp hq
      exact f1 l hl
    · obtain ⟨ks, rfl, hp⟩ := hx
      refine ⟨_, rfl, ks, rfl, ?_⟩
      unfold tab at hp
      rw [List.map_map] at hp
      rw [show (F.map ((fun x : List Int × D => x.1) ∘ fun p => (p, D.bl true))) = F from List.map_id' F] at hp
      exact hp
    · obtain ⟨ks, rfl, hp⟩ := hy
      rw [List.length_map, hp.length_eq]
      omega
    · obtain ⟨ks, rfl, hp⟩ := hy
      rw [List.getElem?_map] at hi
      obtain ⟨l, hl, rfl⟩ := Option.map_eq_some_iff.mp hi
      rw [List.getElem?_map, hl]
      exact xd_listU (xu_k (xd_var rfl))
    · obtain ⟨ys, ⟨ks, rfl, hp⟩, rfl⟩ := hx
      refine ⟨ks, ?_, fun p hp2 l e => hp.mem_iff.mpr ((f4 p (f5 p hp2)).2 l e)⟩
      congr 1
      apply List.ext_getElem?
      intro i
      rw [List.getElem?_map, List.getElem?_map]
      by_cases hi : i < ks.length
      · rw [List.getElem?_range (by rw [List.length_map]; exact hi), List.getElem?_eq_getElem hi]
        show some (match (keysD ks)[i]? with | some (.key l) => D.lst (ID l) | _ => .non) = _
        rw [List.getElem?_map, List.getElem?_eq_getElem hi]
        rfl
      · rw [List.getElem?_eq_none (by rw [List.length_range, List.length_map]; omega), List.getElem?_eq_none (by omega)]
        rfl
end
end Dx
end

section
set_option Elab.async false
set_option linter.all false
set_option maxRecDepth 100000
set_option maxHeartbeats 4000000
namespace Dx
open PySem PySem.Spec PyProof.Rows L2 Evl RZ
local macro_rules | `(tactic| walk_at "sd") => `(tactic| first | rfl | assumption | omega | exact Nat.le_of_ble_eq_true rfl | exact decide_eq_false (by omega) | exact decide_eq_true (by omega) | decide | (constructor <;> omega) | (simp only [List.length_map]; omega) | (simp only [List.length_map]; constructor <;> omega))
local macro_rules | `(tactic| walk_at "sd?") => `(tactic| first | walk_at "sd" | rotate_left)
local macro_rules | `(tactic| walk_at "xl") => `(tactic| first | exact xl_own rfl | (apply xl_of; walk_at "xd") | (apply xl_r; walk_at "xd"))
local macro_rules | `(tactic| walk_at "xm") => `(tactic| first | exact xm_own rfl | (apply xm_of; walk_at "xd"))
local macro_rules | `(tactic| walk_at "xu") => `(tactic| first | (apply xu_of; walk_at "xd") | (apply xu_r; walk_at "xd") | (apply xu_k; walk_at "xd"))
local macro_rules | `(tactic| walk_at "xa") => `(tactic| first | exact xa_nil | (apply xa_cons; walk_at "xd"; walk_at "xa"))
local macro_rules | `(tactic| walk_at "xo") => `(tactic| first | exact xo_none | (apply xo_some; walk_at "xd"))
local macro_rules | `(tactic| walk_at "xd") => `(tactic| first
  | exact xd_int | exact xd_str | exact xd_bl | exact xd_non | exact xd_var rfl
  | (apply xd_add; walk_at "xd"; walk_at "xd") | (apply xd_sub; walk_at "xd"; walk_at "xd") | (apply xd_neg; walk_at "xd")
  | (apply xd_mul; walk_at "xd"; walk_at "xd"; walk_at "sd?") | (apply xd_fdiv; walk_at "xd"; walk_at "xd"; walk_at "sd?") | (apply xd_mod; walk_at "xd"; walk_at "xd"; walk_at "sd?")
  | (apply xd_lt; walk_at "xd"; walk_at "xd") | (apply xd_le; walk_at "xd"; walk_at "xd") | (apply xd_gt; walk_at "xd"; walk_at "xd") | (apply xd_ge; walk_at "xd"; walk_at "xd")
  | (apply xd_chainLe; walk_at "xd"; walk_at "xd"; walk_at "xd")
  | (apply xd_eqI; walk_at "xd"; walk_at "xd") | (apply xd_neI; walk_at "xd"; walk_at "xd") | (apply xd_eqS; walk_at "xd"; walk_at "xd") | (apply xd_neS; walk_at "xd"; walk_at "xd")
  | (apply xd_isN; walk_at "xd"; walk_at "xd") | (apply xd_notN; walk_at "xd"; walk_at "xd")
  | (apply xd_not; walk_at "xd") | (apply xd_and; walk_at "xd"; (intro _; walk_at "xd")) | (apply xd_or; walk_at "xd"; (intro _; walk_at "xd"))
  | (apply xd_ixT; walk_at "xu"; walk_at "xd"; rfl) | (apply xd_ixIU; walk_at "xu"; walk_at "xd"; walk_at "sd?") | (apply xd_ixI; walk_at "xl"; walk_at "xd"; walk_at "sd?") | (apply xd_ixL; walk_at "xl"; walk_at "xd"; walk_at "sd?")
  | (apply xd_tup; walk_at "xa"; walk_at "sd?") | (apply xd_lst; walk_at "xa"; walk_at "sd?")
  | (apply xd_len; walk_at "xl") | (apply xd_lenU; walk_at "xu") | (apply xd_abs; walk_at "xd") | (apply xd_min2; walk_at "xd"; walk_at "xd")
  | (apply xd_isi; walk_at "xd"; (first | exact kb_int | exact kb_int_bool | exact kb_tuple | exact kb_list | exact kb_str | exact kb_bool_bool))
  | (apply xd_slL; walk_at "xl"; walk_at "xo"; walk_at "xo") | (apply xd_slT; walk_at "xd"; walk_at "xo"; walk_at "xo")
  | (apply xd_cat; walk_at "xm"; walk_at "xm"; walk_at "sd?") | (apply xd_catT; walk_at "xd"; walk_at "xd"; walk_at "sd?")
  | (apply xd_list; walk_at "xl") | (apply xd_listU; walk_at "xu") | (apply xd_tuple; walk_at "xl") | (apply xd_tupleT; walk_at "xd")
  | (apply xd_slk; walk_at "xd"; walk_at "xo"; walk_at "xo") | (apply xd_catK; walk_at "xd"; walk_at "xd"; walk_at "sd?") | exact xd_tupK0 | (apply xd_tupK1; walk_at "xd")
  | (apply xe_call; walk_at "xa"; walk_at "sg"))
local macro_rules | `(tactic| walk_at "sg") => `(tactic| first | exact ⟨_, rfl, rfl⟩ | exact ⟨_, _, rfl, rfl⟩ | exact ⟨_, _, _, rfl, rfl⟩ | exact ⟨_, _, _, _, rfl, rfl⟩ | exact ⟨_, _, _, _, _, rfl, rfl⟩ | exact ⟨_, _, _, _, _, _, rfl, rfl⟩ | exact ⟨_, _, _, _, _, _, _, rfl, rfl⟩ | (refine' ⟨_, rfl, ?_, rfl⟩; walk_at "sd?") | (refine' ⟨_, _, rfl, ?_, rfl⟩; walk_at "sd?") | (refine' ⟨_, _, _, rfl, ?_, rfl⟩; walk_at "sd?") | (refine' ⟨_, _, _, _, rfl, ?_, rfl⟩; walk_at "sd?") | (refine' ⟨_, _, _, _, _, rfl, ?_, rfl⟩; walk_at "sd?") | (refine' ⟨_, _, _, _, _, _, rfl, ?_, rfl⟩; walk_at "sd?") | (refine' ⟨_, _, _, _, _, _, _, rfl, ?_, rfl⟩; walk_at "sd?"))
local macro_rules | `(tactic| walk_at "asg") => `(tactic| (apply xs_seq; apply xs_asgD; walk_at "xd"))
local macro_rules | `(tactic| walk_at "guard") => `(tactic| (apply xs_seq; apply xs_guard; walk_at "xt"; walk_at "sd?"))
local macro_rules | `(tactic| walk_at "ret") => `(tactic| (apply xs_retE; walk_at "xd"; exact rfl; walk_at "sd?"))
local macro_rules | `(tactic| walk_at "xt") => `(tactic| first
  | (apply xt_B; walk_at "xd") | (apply xt_T; walk_at "xd") | (apply xt_not; walk_at "xt") | (apply xt_and; walk_at "xt"; (intro _; walk_at "xt")) | (apply xt_or; walk_at "xt"; (intro _; walk_at "xt")) | exact xt_yes)
local macro_rules | `(tactic| walk_at "grd") => `(tactic| (apply xs_seq; apply xs_guard; walk_at "xt"))
local macro_rules | `(tactic| walk_at "grl") => `(tactic| (apply xs_guard; walk_at "xt"))
local macro_rules | `(tactic| walk_at "unp2") => `(tactic| (apply xs_seq; apply xs_asgG; walk_at "xd"; exact xg_tup (xgs_cons (xgs_cons xgs_nil)) rfl))
local macro_rules | `(tactic| walk_at "if") => `(tactic| (apply xs_seq; apply xs_if; walk_at "xt"))
local macro_rules | `(tactic| walk_at "drop") => `(tactic| (apply xs_seq; apply xs_drop; walk_at "xd"))

open Ma
theorem gcdI_dvd (a b : Int) : gcdI a b ∣ a ∧ gcdI a b ∣ b := ⟨Int.ofNat_dvd_left.mpr (Nat.gcd_dvd_left _ _), Int.ofNat_dvd_left.mpr (Nat.gcd_dvd_right _ _)⟩
theorem mk_gcd {a b : Int} (h : 0 < b) : gcdI (a / gcdI a b) (b / gcdI a b) = 1 := by
  have hg := gcd_pos (a := a) h
  obtain ⟨⟨x, hx⟩, ⟨y, hy⟩⟩ := gcdI_dvd a b
  have e : gcdI a b = (Nat.gcd a.natAbs b.natAbs : Nat) := rfl
  generalize hG : gcdI a b = g at *
  have ea : a / g = x := by rw [hx, Int.mul_ediv_cancel_left _ (Int.ne_of_gt hg)]
  have eb : b / g = y := by rw [hy, Int.mul_ediv_cancel_left _ (Int.ne_of_gt hg)]
  rw [ea, eb]
  have en : g.natAbs = Nat.gcd a.natAbs b.natAbs := by rw [e, Int.natAbs_natCast]
  rw [hx, hy, Int.natAbs_mul, Int.natAbs_mul, Nat.gcd_mul_left] at en
  have hp : 0 < g.natAbs := by omega
  have : Nat.gcd x.natAbs y.natAbs = 1 := by
    have h2 : g.natAbs * Nat.gcd x.natAbs y.natAbs = g.natAbs * 1 := by omega
    exact Nat.eq_of_mul_eq_mul_left hp h2
  unfold gcdI
  rw [this]
  rfl
theorem mk_fr (a b : Int) : mk a b = fr (a / gcdI a b) (b / gcdI a b) := rfl
/-- a fraction of value v / n -/
structure Fv (n : Int) (a b v : Int) : Prop where
  pos : 0 < b
  le : b ≤ n
  g1 : gcdI a b = 1
  val : a * n = v * b
theorem fv_mk {n a b v : Int} (h0 : 0 < b) (h1 : b ≤ n) (h : a * n = v * b) : ∃ x y, mk a b = fr x y ∧ Fv n x y v := by
  have hg := gcd_pos (a := a) h0
  obtain ⟨d1, d2⟩ := gcdI_dvd a b
  obtain ⟨p1, p2⟩ := div_pos hg h0 d2
  exact ⟨_, _, rfl, p1, by omega, mk_gcd h0, div_val hg d1 d2 h⟩
theorem xd_its {K : PySem.W.Frag} {ρ : List Sl} {te : TE} {x : D} {ds : List D} (h : XD K te ρ x) (hx : x.its = some ds) : XU K te ρ ds := fun H0 G H σ e s Q q => h H0 G H σ e s _ fun v y G1 H1 A1 ry dy => by
  subst ry
  obtain ⟨a, vs, rfl, hs, d1⟩ := its_da dy hx
  exact q a vs G1 H1 A1 (hs _ A1.i) d1
theorem xd_nought {K : PySem.W.Frag} {ρ : List Sl} {a : Addr} (h : ∃ (o : Obj) (its : Array Value) (n : Nat), K.lookup a = some o ∧ o.cls = .type "tuple" ∧ o.data = .seq its n ∧ its.size ≤ sizeLine ∧ Vals [.int 0, .int 1] its.toList) : XD K (tC (.ref a)) ρ (.rtup [.int 0, .int 1]) := xd_c fun G => by
  obtain ⟨o, its, n, h1, h2, h3, h4, h5⟩ := h
  exact .rtup (.inr ⟨o, its, n, h1, h2, h3, h4, h5⟩) (.cons (.int 0) (.cons (.int 1) .nil))
structure LagC (ws h l : List Int) : Prop where
  ok : RunOk h l
  sz : h.length + l.length ≤ 2048
  k1 : 1 ≤ ws.length
  k6 : ws.length ≤ 6
  wr : ∀ a ∈ ws, 0 ≤ a ∧ a ≤ 1000
  sm : ws.sum = l.length
  ch : inC ws.length h
  cl : inC ws.length l
  wc : ∀ who : Nat, who < ws.length → ws.getD who 0 = ((l.count (who : Int) : Nat) : Int)
def lagV (ws h l : List Int) (who t : Nat) : Int := (t : Int) * ws.getD who 0 - cntF h l (who : Int) (t : Int) * l.length
theorem getD_mem {ws : List Int} {i : Nat} (h : i < ws.length) : ws.getD i 0 ∈ ws := by
  rw [getD_lt h]
  exact List.getElem_mem h
section
variable {P : Program} {w : World} {K : PySem.W.Frag} {mg : Str → Option Value} {base : Heap}
def sg_check_bound : Sg := fun ds R => ∃ F G b, ds = [.tup [fr F G, .bl b]] ∧ (0 ≤ F ∧ 0 < G ∧ gcdI F G = 1 ∧ F ≤ 300 * G ∧ lim G) ∧ R = Eq .non
abbrev N_check_bound : List Str := ["bound"]
theorem sc_check_bound : FnScope N_check_bound ["bound"] (defScope (top 83)) := ⟨rfl, rfl, rfl, by decide +kernel, rfl, by decide +kernel, by decide +kernel⟩
abbrev H_check_bound (P : Program) (w : World) (K : PySem.W.Frag) (mg : Str → Option Value) (base : Heap) : Prop := Has P w K mg base "check_bound" 3 ["bound"] (spX K sg_check_bound)

theorem ok_check_bound (B : Blt K mg) (Df : Dfd K mg "check_bound" 83) (h_less : H_less P w K mg base) (h_is_fraction : H_is_fraction P w K mg base) : H_check_bound P w K mg base := by
  obtain ⟨_, c_MOST_BOUND⟩ := B.MOST_BOUND
  refine has_mk Df (fun _ _ _ _ _ _ us hl => match us, hl with | [_], _ => rfl) fun f fd F => ?_
  refine fn_ok F sc_check_bound (fun ds R ⟨_, _, _, e, _⟩ => e ▸ rfl) (fun cdv A outer s H E hr => ⟨_, (pss_cons (ps_if (PW.pt (pw_or (pt_not (pt_val (pe_callB call_isi rfl B.isinstance bt_isinstance (pa_cons (pv 0) (pa_cons (pe_ty rfl B.tuple bt_tuple) pa_nil))))) (pw_or (pt_cmpR op_ne (pe_callB cr_lenS rfl B.len bt_len (pa_cons (pv 0) pa_nil)) pe_int (nomark _)) (pw_or1 (pt_not (pt_val (pe_callB call_isi rfl B.isinstance bt_isinstance (pa_cons (pe_ix ix_tup (pv 0) pe_int (fun _ _ => rfl)) (pa_cons (pe_ty rfl B.bool bt_bool) pa_nil))))))))) (pss_one ps_never) pss_nil)
    (pss_one (ps_if (PW.pt (pw_or (pt_not (pt_val (pe_callH h_is_fraction (hr.mono (by decide)) rfl (pa_cons (pe_ix ix_tup (pv 0) pe_int (fun _ _ => rfl)) pa_nil)))) (pw_or (pt_cmpR op_lt (pe_ix ix_tup (pe_ix ix_tup (pv 0) pe_int (fun _ _ => rfl)) pe_int (fun _ _ => rfl)) pe_int (nomark _)) (pw_or1 (pt_val (pe_callH h_less (hr.mono (by decide)) rfl (pa_cons (pe_tup (pa_cons (pe_glob (v := .int 300) rfl c_MOST_BOUND ⟨_, rfl⟩) (pa_cons pe_int pa_nil))) (pa_cons (pe_ix ix_tup (pv 0) pe_int (fun _ _ => rfl)) pa_nil)))))))) (pss_one ps_never) pss_nil))), fun ds R h => ?_⟩)
  obtain ⟨F, G, b, rfl, ⟨h0, h1, h2, h3, h4⟩, rfl⟩ := h
  have b0 : ∀ {r : List Sl}, r[0]? = some (.d (.tup [fr F G, .bl b])) → XD K (tOp (rIxT K) (tVar 0) (tC (.int 0))) r (fr F G) := fun {r} e => xd_ixT (xu_of (xd_var e)) xd_int rfl
  apply xs_seq
  refine xs_guard (a := false || (false || false)) (xt_or (xt_not (b := true) (xt_T (xd_isi (xd_var rfl) kb_tuple))) fun _ => xt_or (xt_T (XD.eq (xd_neI (xd_lenU (xu_of (xd_var rfl))) xd_int) rfl)) fun _ => xt_not (b := true) (xt_T (xd_isi (x := .bl b) (xd_ixT (xu_of (xd_var rfl)) xd_int rfl) kb_bool_bool))) rfl ?_
  refine xs_guard (a := false || (false || false)) (xt_or (xt_not (b := true) (xt_T (XD.eq (xe_call (xa_cons (b0 rfl) xa_nil) ⟨F, G, rfl, rfl⟩) ?_))) fun _ => xt_or (xt_T (XD.eq (xd_lt (xd_ixT (xu_of (b0 rfl)) xd_int rfl) xd_int) ?_)) fun _ => xt_T (XD.eq (xe_call (xa_cons (xd_tup (xa_cons xd_int (xa_cons xd_int xa_nil)) (by show 2 ≤ 100000; decide)) (xa_cons (b0 rfl) xa_nil)) ⟨fr 300 1, fr F G, rfl, ⟨.inl ⟨_, _, rfl⟩, .inl ⟨_, _, rfl⟩, by unfold lim; show -1099511627776 < (1 : Int) ∧ (1 : Int) < 1099511627776; decide, h4⟩, rfl⟩) ?_)) rfl rfl
  · rw [decide_eq_true h1, decide_eq_true h2]
    rfl
  · rw [decide_eq_false (by omega)]
  · show D.bl (decide (300 * G < F * 1)) = _
    rw [decide_eq_false (by omega)]
def keepsF (b : Bool) (F G x y : Int) : Bool := if b then decide ((x.natAbs : Int) * G < F * y) else !decide (F * y < (x.natAbs : Int) * G)
def sg_lag_keeps : Sg := fun ds R => ∃ F G b x y, ds = [.tup [fr F G, .bl b], fr x y] ∧ (lim G ∧ lim y) ∧ R = Eq (.bl (keepsF b F G x y))
abbrev N_lag_keeps : List Str := ["bound", "far"]
theorem sc_lag_keeps : FnScope N_lag_keeps ["bound", "far"] (defScope (top 84)) := ⟨rfl, rfl, rfl, by decide +kernel, rfl, by decide +kernel, by decide +kernel⟩
abbrev H_lag_keeps (P : Program) (w : World) (K : PySem.W.Frag) (mg : Str → Option Value) (base : Heap) : Prop := Has P w K mg base "lag_keeps" 2 ["bound", "far"] (spX K sg_lag_keeps)

theorem ok_lag_keeps (B : Blt K mg) (Df : Dfd K mg "lag_keeps" 84) (h_less : H_less P w K mg base) (h_unsigned : H_unsigned P w K mg base) : H_lag_keeps P w K mg base := by
  refine has_mk Df (fun _ _ _ _ _ _ us hl => match us, hl with | [_, _], _ => rfl) fun f fd F => ?_
  refine fn_ok F sc_lag_keeps (fun ds R ⟨_, _, _, _, _, e, _⟩ => e ▸ rfl) (fun cdv A outer s H E hr => ⟨_, (pss_cons (ps_if (pt_val (pe_ix ix_tup (pv 0) pe_int (fun _ _ => rfl))) (pss_one (ps_ret (pe_callH h_less (hr.mono (by decide)) rfl (pa_cons (pe_callH h_unsigned (hr.mono (by decide)) rfl (pa_cons (pv 1) pa_nil)) (pa_cons (pe_ix ix_tup (pv 0) pe_int (fun _ _ => rfl)) pa_nil))))) pss_nil)
    (pss_one (ps_ret (pe_not (pe_callH h_less (hr.mono (by decide)) rfl (pa_cons (pe_ix ix_tup (pv 0) pe_int (fun _ _ => rfl)) (pa_cons (pe_callH h_unsigned (hr.mono (by decide)) rfl (pa_cons (pv 1) pa_nil)) pa_nil))))))), fun ds R h => ?_⟩)
  obtain ⟨F, G, b, x, y, rfl, ⟨h0, h1⟩, rfl⟩ := h
  have b0 : ∀ {r : List Sl}, r[0]? = some (.d (.tup [fr F G, .bl b])) → XD K (tOp (rIxT K) (tVar 0) (tC (.int 0))) r (fr F G) := fun {r} e => xd_ixT (xu_of (xd_var e)) xd_int rfl
  have b1 : ∀ {r : List Sl}, r[0]? = some (.d (.tup [fr F G, .bl b])) → XD K (tOp (rIxT K) (tVar 0) (tC (.int 1))) r (.bl b) := fun {r} e => xd_ixT (xu_of (xd_var e)) xd_int rfl
  apply xs_seq
  refine xs_if (b := b) (xt_T (b1 rfl)) (fun hb => ?_) fun hb => ?_
  · subst hb
    exact xs_retD (xe_call (xa_cons (xe_call (xa_cons (xd_var rfl) xa_nil) ⟨x, y, rfl, rfl⟩) (xa_cons (b0 rfl) xa_nil)) ⟨fr x.natAbs y, fr F G, rfl, ⟨.inl ⟨_, _, rfl⟩, .inl ⟨_, _, rfl⟩, h1, h0⟩, rfl⟩) rfl
  · subst hb
    refine xs_next ?_
    exact xs_retD (xd_not (xe_call (xa_cons (b0 rfl) (xa_cons (xe_call (xa_cons (xd_var rfl) xa_nil) ⟨x, y, rfl, rfl⟩) xa_nil)) ⟨fr F G, fr x.natAbs y, rfl, ⟨.inl ⟨_, _, rfl⟩, .inl ⟨_, _, rfl⟩, h0, h1⟩, rfl⟩)) rfl
def sg_check_weights : Sg := fun ds R => ∃ ws : List Int, ds = [.lst (ID ws)] ∧ (1 ≤ ws.length ∧ ws.length ≤ 6 ∧ (∀ a ∈ ws, 0 ≤ a ∧ a ≤ 1000) ∧ 0 < ws.sum) ∧ R = Eq .non
abbrev N_check_weights : List Str := ["thing"]
theorem sc_check_weights : FnScope N_check_weights ["thing"] (defScope (top 86)) := ⟨rfl, rfl, rfl, by decide +kernel, rfl, by decide +kernel, by decide +kernel⟩
abbrev H_check_weights (P : Program) (w : World) (K : PySem.W.Frag) (mg : Str → Option Value) (base : Heap) : Prop := Has P w K mg base "check_weights" 3 ["thing"] (spX K sg_check_weights)

theorem ok_check_weights (B : Blt K mg) (Df : Dfd K mg "check_weights" 86) (h_are_weights : H_are_weights P w K mg base) : H_check_weights P w K mg base := by
  refine has_mk Df (fun _ _ _ _ _ _ us hl => match us, hl with | [_], _ => rfl) fun f fd F => ?_
  refine fn_ok F sc_check_weights (fun ds R ⟨_, e, _⟩ => e ▸ rfl) (fun cdv A outer s H E hr => ⟨_, (pss_one (ps_if (pt_not (pt_val (pe_callH h_are_weights (hr.mono (by decide)) rfl (pa_cons (pv 0) pa_nil)))) (pss_one ps_never) pss_nil)), fun ds R h => ?_⟩)
  obtain ⟨ws, rfl, h0, rfl⟩ := h
  exact xs_guard (a := false) (xt_not (b := true) (xt_T (xe_call (xa_cons (xd_var rfl) xa_nil) ⟨ws, rfl, h0, rfl⟩))) rfl rfl
def sg_check_among : Sg := fun ds R => ∃ ws h l, ds = [.lst (ID ws), run h l] ∧ LagC ws h l ∧ R = Eq .non
abbrev N_check_among : List Str := ["weights", "running"]
theorem sc_check_among : FnScope N_check_among ["weights", "running"] (defScope (top 87)) := ⟨rfl, rfl, rfl, by decide +kernel, rfl, by decide +kernel, by decide +kernel⟩
abbrev H_check_among (P : Program) (w : World) (K : PySem.W.Frag) (mg : Str → Option Value) (base : Heap) : Prop := Has P w K mg base "check_among" 6 ["weights", "running"] (spX K sg_check_among)

theorem ok_check_among (B : Blt K mg) (Df : Dfd K mg "check_among" 87) (h_check_running : H_check_running P w K mg base) (h_check_weights : H_check_weights P w K mg base) : H_check_among P w K mg base := by
  refine has_mk Df (fun _ _ _ _ _ _ us hl => match us, hl with | [_, _], _ => rfl) fun f fd F => ?_
  refine fn_ok F sc_check_among (fun ds R ⟨_, _, _, e, _⟩ => e ▸ rfl) (fun cdv A outer s H E hr => ⟨_, (pss_cons (ps_expr (pe_callH h_check_weights (hr.mono (by decide)) rfl (pa_cons (pv 0) pa_nil)))
    (pss_cons (ps_expr (pe_callH h_check_running (hr.mono (by decide)) rfl (pa_cons (pv 1) pa_nil)))
    (pss_one (ps_if (pt_cmpR op_ge (pe_callB (cr_max rfl) rfl B.max bt_max (pa_cons (pe_op op_cat (pe_ix ix_tup (pv 1) pe_int (fun _ _ => rfl)) (pe_ix ix_tup (pv 1) pe_int (fun _ _ => rfl))) pa_nil)) (pe_callB cr_lenS rfl B.len bt_len (pa_cons (pv 0) pa_nil)) (nomark _)) (pss_one ps_never) pss_nil)))), fun ds R h => ?_⟩)
  obtain ⟨ws, h, l, rfl, c, rfl⟩ := h
  have hp := c.ok.pos
  have hsz := c.sz
  apply xs_seq
  refine xs_drop (xe_call (xa_cons (xd_var rfl) xa_nil) ⟨ws, rfl, ⟨c.k1, c.k6, c.wr, by rw [c.sm]; omega⟩, rfl⟩) ?_
  apply xs_seq
  refine xs_drop (xe_call (xa_cons (xd_var rfl) xa_nil) ⟨h, l, rfl, c.ok, rfl⟩) ?_
  have hnn : ∀ a ∈ h ++ l, 0 ≤ a ∧ a < (ws.length : Int) := fun a ha => (List.mem_append.mp ha).elim (c.ch a) (c.cl a)
  have hmx := mx_mem (l := h ++ l) (fun z => c.ok.ne (List.append_eq_nil_iff.mp z).2) fun a ha => (hnn a ha).1
  have hlt := (hnn _ hmx).2
  refine xs_guard (xt_T (xd_ge (xd_max (ns := h ++ l) (xl_of (XD.eq (xd_cat (xm_of (xd_ixT (xu_of (xd_var rfl)) xd_int rfl)) (xm_of (xd_ixT (xu_of (xd_var rfl)) xd_int rfl)) ?_) ?_)) ?_ fun a ha => (hnn a ha).1) (xd_len (xl_of (xd_var rfl))))) ?_ rfl
  · rw [List.length_map, List.length_map]
    omega
  · rw [← List.map_append]
  · rw [List.length_append]
    omega
  · rw [List.length_map]
    exact decide_eq_false (by omega)
def sg_lag_of : Sg := fun ds R => ∃ (ws h l : List Int) (who t : Nat), ds = [.lst (ID ws), run h l, .int who, .int t] ∧ (LagC ws h l ∧ who < ws.length ∧ t ≤ 2048) ∧ R = fun x => ∃ a b, x = fr a b ∧ Fv l.length a b (lagV ws h l who t)
abbrev N_lag_of : List Str := ["weights", "running", "who", "turns"]
theorem sc_lag_of : FnScope N_lag_of ["weights", "running", "who", "turns"] (defScope (top 88)) := ⟨rfl, rfl, rfl, by decide +kernel, rfl, by decide +kernel, by decide +kernel⟩
abbrev H_lag_of (P : Program) (w : World) (K : PySem.W.Frag) (mg : Str → Option Value) (base : Heap) : Prop := Has P w K mg base "lag_of" 4 ["weights", "running", "who", "turns"] (spX K sg_lag_of)

theorem cntF_le {h l : List Int} {a : Int} {t : Nat} (hl : 0 < l.length) : 0 ≤ cntF h l a t ∧ cntF h l a t ≤ (t : Int) := by
  unfold cntF
  split
  · rename_i c
    have := List.count_le_length (l := h.take (t : Int).toNat) (a := a)
    rw [List.length_take] at this
    omega
  · rename_i c
    have h1 := List.count_le_length (l := h) (a := a)
    have h2 := List.count_le_length (l := l) (a := a)
    have h3 := List.count_le_length (l := l.take (((t : Int) - h.length) % l.length).toNat) (a := a)
    rw [List.length_take] at h3
    have q0 : 0 ≤ ((t : Int) - h.length) / l.length := Int.ediv_nonneg (by omega) (by omega)
    have m0 : 0 ≤ ((t : Int) - h.length) % l.length := Int.emod_nonneg _ (by omega)
    have e := Int.emod_add_mul_ediv ((t : Int) - h.length) l.length
    have m1 : ((t : Int) - h.length) / l.length * ((l.count a : Nat) : Int) ≤ ((t : Int) - h.length) / l.length * (l.length : Int) := Int.mul_le_mul_of_nonneg_left (by omega) q0
    have m2 : 0 ≤ ((t : Int) - h.length) / l.length * ((l.count a : Nat) : Int) := Int.mul_nonneg q0 (by omega)
    rw [Int.mul_comm (l.length : Int)] at e
    omega
theorem ok_lag_of (B : Blt K mg) (Df : Dfd K mg "lag_of" 88) (h_minus : H_minus P w K mg base) (h_count_in : H_count_in P w K mg base) (h_made : H_made P w K mg base) : H_lag_of P w K mg base := by
  refine has_mk Df (fun _ _ _ _ _ _ us hl => match us, hl with | [_, _, _, _], _ => rfl) fun f fd F => ?_
  refine fn_ok F sc_lag_of (fun ds R ⟨_, _, _, _, _, e, _⟩ => e ▸ rfl) (fun cdv A outer s H E hr => ⟨_, (pss_one (ps_ret (pe_callH h_minus (hr.mono (by decide)) rfl (pa_cons (pe_callH h_made (hr.mono (by decide)) rfl (pa_cons (pe_op op_mul (pv 3) (pe_ix ix_list (pv 0) (pv 2) (fun _ _ => rfl))) (pa_cons (pe_callB (cr_sum rfl) rfl B.sum bt_sum (pa_cons (pv 0) pa_nil)) pa_nil))) (pa_cons (pe_tup (pa_cons (pe_callH h_count_in (hr.mono (by decide)) rfl (pa_cons (pv 1) (pa_cons (pv 2) (pa_cons (pv 3) pa_nil)))) (pa_cons pe_int pa_nil))) pa_nil))))), fun ds R h => ?_⟩)
  obtain ⟨ws, h, l, who, t, rfl, ⟨c, h0, h1⟩, rfl⟩ := h
  have hp := c.ok.pos
  have hsz := c.sz
  have hw := c.wr _ (getD_mem h0)
  have hc := cntF_le (h := h) (l := l) (a := (who : Int)) (t := t) hp
  have wx : ∀ {r : List Sl}, r[0]? = some (.d (.lst (ID ws))) → r[2]? = some (.d (.int (who : Nat))) → XD K (tOp (rIxL K) (tVar 0) (tVar 2)) r (.int (ws.getD who 0)) := fun {r} e1 e2 => XD.eq (xd_ixI (xl_of (xd_var e1)) (xd_var e2) (by omega)) (by rw [Int.toNat_natCast])
  have n0 : (0 : Int) < l.length := by omega
  obtain ⟨A, B, eAB, fAB⟩ := fv_mk (n := l.length) (a := (t : Int) * ws.getD who 0) (b := l.length) (v := (t : Int) * ws.getD who 0) n0 (Int.le_refl _) rfl
  have hB := fAB.pos
  have hB2 := fAB.le
  obtain ⟨a, b, eab, fab⟩ := fv_mk (n := l.length) (a := A * 1 - cntF h l who t * B) (b := B * 1) (v := lagV ws h l who t) (by omega) (by omega) (by
    rw [Int.mul_one, Int.mul_one, Int.sub_mul, fAB.val]
    unfold lagV
    rw [Int.sub_mul, Int.mul_right_comm (cntF h l who t) B])
  refine xs_ret (R := Eq (fr a b)) (XD.eq (xe_call (xa_cons (XD.eq (xe_call (xa_cons (xd_mul (xd_var rfl) (wx rfl rfl) ?_) (xa_cons (XD.eq (xd_sum (xl_of (xd_var rfl))) (by rw [c.sm])) xa_nil)) ⟨(t : Int) * ws.getD who 0, l.length, rfl, ⟨n0, by omega⟩, rfl⟩) eAB) (xa_cons (xd_tup (xa_cons (xe_call (xa_cons (xd_var rfl) (xa_cons (xd_var rfl) (xa_cons (xd_var rfl) xa_nil))) ⟨h, l, who, t, rfl, ⟨c.ok, by omega, by omega⟩, rfl⟩) (xa_cons xd_int xa_nil)) (by show 2 ≤ 100000; decide)) xa_nil)) ⟨A, B, cntF h l who t, 1, rfl, ⟨hB, by decide, ?_, ?_, by omega⟩, rfl⟩) eab) fun x hx => ⟨a, b, hx.symm, fab⟩
  · exact .inr ⟨by omega, by omega⟩
  · unfold lim
    omega
  · unfold lim
    decide
def sg_drift_of : Sg := fun ds R => ∃ (ws h l : List Int) (who : Nat), ds = [.lst (ID ws), run h l, .int who] ∧ (LagC ws h l ∧ who < ws.length) ∧ R = Eq (fr 0 1)
abbrev N_drift_of : List Str := ["weights", "running", "who", "lap"]
theorem sc_drift_of : FnScope N_drift_of ["weights", "running", "who"] (defScope (top 89)) := ⟨rfl, rfl, rfl, by decide +kernel, rfl, by decide +kernel, by decide +kernel⟩
abbrev H_drift_of (P : Program) (w : World) (K : PySem.W.Frag) (mg : Str → Option Value) (base : Heap) : Prop := Has P w K mg base "drift_of" 4 ["weights", "running", "who"] (spX K sg_drift_of)

theorem ok_drift_of (B : Blt K mg) (Df : Dfd K mg "drift_of" 89) (h_minus : H_minus P w K mg base) (h_made : H_made P w K mg base) : H_drift_of P w K mg base := by
  refine has_mk Df (fun _ _ _ _ _ _ us hl => match us, hl with | [_, _, _], _ => rfl) fun f fd F => ?_
  refine fn_ok F sc_drift_of (fun ds R ⟨_, _, _, _, e, _⟩ => e ▸ rfl) (fun cdv A outer s H E hr => ⟨_, (pss_cons (ps_set (i := 3) sc_drift_of.nd rfl (by first | exact Or.inl rfl | exact Or.inr rfl) (pe_ix ix_tup (pv 1) pe_int (fun _ _ => rfl)))
    (pss_one (ps_ret (pe_callH h_minus (hr.mono (by decide)) rfl (pa_cons (pe_callH h_made (hr.mono (by decide)) rfl (pa_cons (pe_op op_mul (pe_callB cr_lenS rfl B.len bt_len (pa_cons (pv 3) pa_nil)) (pe_ix ix_list (pv 0) (pv 2) (fun _ _ => rfl))) (pa_cons (pe_callB (cr_sum rfl) rfl B.sum bt_sum (pa_cons (pv 0) pa_nil)) pa_nil))) (pa_cons (pe_tup (pa_cons (pe_bm PySem.F.plainAttrs_list PySem.F.slot_list_count PySem.F.type_list_count mt_lcount (pv 3) (pa_cons (pv 2) pa_nil)) (pa_cons pe_int pa_nil))) pa_nil)))))), fun ds R h => ?_⟩)
  obtain ⟨ws, h, l, who, rfl, ⟨c, h0⟩, rfl⟩ := h
  have hp := c.ok.pos
  have hsz := c.sz
  have hw := c.wr _ (getD_mem h0)
  have n0 : (0 : Int) < l.length := by omega
  apply xs_seq
  refine xs_asgD (x := .lst (ID l)) (xd_ixT (xu_of (xd_var rfl)) xd_int rfl) ?_
  have wx : ∀ {r : List Sl}, r[0]? = some (.d (.lst (ID ws))) → r[2]? = some (.d (.int (who : Nat))) → XD K (tOp (rIxL K) (tVar 0) (tVar 2)) r (.int (ws.getD who 0)) := fun {r} e1 e2 => XD.eq (xd_ixI (xl_of (xd_var e1)) (xd_var e2) (by omega)) (by rw [Int.toNat_natCast])
  have e1 : mk ((l.length : Int) * ws.getD who 0) l.length = fr (ws.getD who 0) 1 := by
    have eg : gcdI ((l.length : Int) * ws.getD who 0) l.length = l.length := by
      unfold gcdI
      rw [Int.natAbs_mul, Int.natAbs_natCast]
      rw [Nat.gcd_comm, Nat.gcd_mul_right_right]
    rw [mk_fr, eg, Int.mul_ediv_cancel_left _ (by omega), Int.ediv_self (by omega)]
  have e2 : mk (ws.getD who 0 * 1 - ((l.count (who : Int) : Nat) : Int) * 1) (1 * 1) = fr 0 1 := by
    rw [c.wc who h0, Int.sub_self]
    rfl
  refine xs_retD (XD.eq (xe_call (xa_cons (XD.eq (xe_call (xa_cons (xd_mul (XD.eq (xd_len (xl_of (xd_var rfl))) (by rw [List.length_map])) (wx rfl rfl) ?_) (xa_cons (XD.eq (xd_sum (xl_of (xd_var rfl))) (by rw [c.sm])) xa_nil)) ⟨(l.length : Int) * ws.getD who 0, l.length, rfl, ⟨n0, by omega⟩, rfl⟩) e1) (xa_cons (xd_tup (xa_cons (xd_count (xl_of (xd_var rfl)) (xd_var rfl)) (xa_cons xd_int xa_nil)) (by show 2 ≤ 100000; decide)) xa_nil)) ⟨ws.getD who 0, 1, ((l.count (who : Int) : Nat) : Int), 1, rfl, ⟨by decide, by decide, by unfold lim; decide, by unfold lim; decide, by decide⟩, rfl⟩) e2) rfl
  exact .inr ⟨by omega, by omega⟩
end
end Dx
end

section
set_option Elab.async false
set_option linter.all false
set_option maxRecDepth 100000
set_option maxHeartbeats 4000000
namespace Dx
open PySem PySem.Spec PyProof.Rows L2 Evl RZ
local macro_rules | `(tactic| walk_at "sd") => `(tactic| first | rfl | assumption | omega | exact Nat.le_of_ble_eq_true rfl | exact decide_eq_false (by omega) | exact decide_eq_true (by omega) | decide | (constructor <;> omega) | (simp only [List.length_map]; omega) | (simp only [List.length_map]; constructor <;> omega))
local macro_rules | `(tactic| walk_at "sd?") => `(tactic| first | walk_at "sd" | rotate_left)
local macro_rules | `(tactic| walk_at "xl") => `(tactic| first | exact xl_own rfl | (apply xl_of; walk_at "xd") | (apply xl_r; walk_at "xd"))
local macro_rules | `(tactic| walk_at "xm") => `(tactic| first | exact xm_own rfl | (apply xm_of; walk_at "xd"))
local macro_rules | `(tactic| walk_at "xu") => `(tactic| first | (apply xu_of; walk_at "xd") | (apply xu_r; walk_at "xd") | (apply xu_k; walk_at "xd"))
local macro_rules | `(tactic| walk_at "xa") => `(tactic| first | exact xa_nil | (apply xa_cons; walk_at "xd"; walk_at "xa"))
local macro_rules | `(tactic| walk_at "xo") => `(tactic| first | exact xo_none | (apply xo_some; walk_at "xd"))
local macro_rules | `(tactic| walk_at "xd") => `(tactic| first
  | exact xd_int | exact xd_str | exact xd_bl | exact xd_non | exact xd_var rfl
  | (apply xd_add; walk_at "xd"; walk_at "xd") | (apply xd_sub; walk_at "xd"; walk_at "xd") | (apply xd_neg; walk_at "xd")
  | (apply xd_mul; walk_at "xd"; walk_at "xd"; walk_at "sd?") | (apply xd_fdiv; walk_at "xd"; walk_at "xd"; walk_at "sd?") | (apply xd_mod; walk_at "xd"; walk_at "xd"; walk_at "sd?")
  | (apply xd_lt; walk_at "xd"; walk_at "xd") | (apply xd_le; walk_at "xd"; walk_at "xd") | (apply xd_gt; walk_at "xd"; walk_at "xd") | (apply xd_ge; walk_at "xd"; walk_at "xd")
  | (apply xd_chainLe; walk_at "xd"; walk_at "xd"; walk_at "xd")
  | (apply xd_eqI; walk_at "xd"; walk_at "xd") | (apply xd_neI; walk_at "xd"; walk_at "xd") | (apply xd_eqS; walk_at "xd"; walk_at "xd") | (apply xd_neS; walk_at "xd"; walk_at "xd")
  | (apply xd_isN; walk_at "xd"; walk_at "xd") | (apply xd_notN; walk_at "xd"; walk_at "xd")
  | (apply xd_not; walk_at "xd") | (apply xd_and; walk_at "xd"; (intro _; walk_at "xd")) | (apply xd_or; walk_at "xd"; (intro _; walk_at "xd"))
  | (apply xd_ixT; walk_at "xu"; walk_at "xd"; rfl) | (apply xd_ixIU; walk_at "xu"; walk_at "xd"; walk_at "sd?") | (apply xd_ixI; walk_at "xl"; walk_at "xd"; walk_at "sd?") | (apply xd_ixL; walk_at "xl"; walk_at "xd"; walk_at "sd?")
  | (apply xd_tup; walk_at "xa"; walk_at "sd?") | (apply xd_lst; walk_at "xa"; walk_at "sd?")
  | (apply xd_len; walk_at "xl") | (apply xd_lenU; walk_at "xu") | (apply xd_abs; walk_at "xd") | (apply xd_min2; walk_at "xd"; walk_at "xd")
  | (apply xd_isi; walk_at "xd"; (first | exact kb_int | exact kb_int_bool | exact kb_tuple | exact kb_list | exact kb_str | exact kb_bool_bool))
  | (apply xd_slL; walk_at "xl"; walk_at "xo"; walk_at "xo") | (apply xd_slT; walk_at "xd"; walk_at "xo"; walk_at "xo")
  | (apply xd_cat; walk_at "xm"; walk_at "xm"; walk_at "sd?") | (apply xd_catT; walk_at "xd"; walk_at "xd"; walk_at "sd?")
  | (apply xd_list; walk_at "xl") | (apply xd_listU; walk_at "xu") | (apply xd_tuple; walk_at "xl") | (apply xd_tupleT; walk_at "xd")
  | (apply xd_slk; walk_at "xd"; walk_at "xo"; walk_at "xo") | (apply xd_catK; walk_at "xd"; walk_at "xd"; walk_at "sd?") | exact xd_tupK0 | (apply xd_tupK1; walk_at "xd")
  | (apply xe_call; walk_at "xa"; walk_at "sg"))
local macro_rules | `(tactic| walk_at "sg") => `(tactic| first | exact ⟨_, rfl, rfl⟩ | exact ⟨_, _, rfl, rfl⟩ | exact ⟨_, _, _, rfl, rfl⟩ | exact ⟨_, _, _, _, rfl, rfl⟩ | exact ⟨_, _, _, _, _, rfl, rfl⟩ | exact ⟨_, _, _, _, _, _, rfl, rfl⟩ | exact ⟨_, _, _, _, _, _, _, rfl, rfl⟩ | (refine' ⟨_, rfl, ?_, rfl⟩; walk_at "sd?") | (refine' ⟨_, _, rfl, ?_, rfl⟩; walk_at "sd?") | (refine' ⟨_, _, _, rfl, ?_, rfl⟩; walk_at "sd?") | (refine' ⟨_, _, _, _, rfl, ?_, rfl⟩; walk_at "sd?") | (refine' ⟨_, _, _, _, _, rfl, ?_, rfl⟩; walk_at "sd?") | (refine' ⟨_, _, _, _, _, _, rfl, ?_, rfl⟩; walk_at "sd?") | (refine' ⟨_, _, _, _, _, _, _, rfl, ?_, rfl⟩; walk_at "sd?"))
local macro_rules | `(tactic| walk_at "asg") => `(tactic| (apply xs_seq; apply xs_asgD; walk_at "xd"))
local macro_rules | `(tactic| walk_at "guard") => `(tactic| (apply xs_seq; apply xs_guard; walk_at "xt"; walk_at "sd?"))
local macro_rules | `(tactic| walk_at "ret") => `(tactic| (apply xs_retE; walk_at "xd"; exact rfl; walk_at "sd?"))
local macro_rules | `(tactic| walk_at "xt") => `(tactic| first
  | (apply xt_B; walk_at "xd") | (apply xt_T; walk_at "xd") | (apply xt_not; walk_at "xt") | (apply xt_and; walk_at "xt"; (intro _; walk_at "xt")) | (apply xt_or; walk_at "xt"; (intro _; walk_at "xt")) | exact xt_yes)
local macro_rules | `(tactic| walk_at "grd") => `(tactic| (apply xs_seq; apply xs_guard; walk_at "xt"))
local macro_rules | `(tactic| walk_at "grl") => `(tactic| (apply xs_guard; walk_at "xt"))
local macro_rules | `(tactic| walk_at "unp2") => `(tactic| (apply xs_seq; apply xs_asgG; walk_at "xd"; exact xg_tup (xgs_cons (xgs_cons xgs_nil)) rfl))
local macro_rules | `(tactic| walk_at "if") => `(tactic| (apply xs_seq; apply xs_if; walk_at "xt"))
local macro_rules | `(tactic| walk_at "drop") => `(tactic| (apply xs_seq; apply xs_drop; walk_at "xd"))

open Ma
section
variable {K : PySem.W.Frag} {ρ : List Sl} {ta tb tc te tl : TE} {P : Po} {R : D → Prop}
theorem ox_catT {xs ys : List D} (hl : xs.length + ys.length ≤ 100000) : OX K (rCatA K) (.tup xs) (.tup ys) (Eq (.tup (xs ++ ys))) := ox_of fun G H va vb e da db Q q => by
  cases da with
  | @tup a vs _ g1 d1 =>
    cases db with
    | @tup b ws _ g2 d2 =>
      refine ⟨a, b, vs, ws, rfl, rfl, st_of (e _ _ g1), st_of (e _ _ g2), by rw [d1.length, d2.length]; exact sz_of hl, fun z => ?_, fun _ z => ?_, fun _ _ p hp => q _ _ _ (Adv.new e hp) (.tup upd_same ((d1.append d2).mono (Adv.new e hp).g))⟩
      · subst z
        cases d1
        exact q _ G H (Adv.refl e) (.tup g2 d2)
      · subst z
        cases d2
        rw [List.append_nil] at q
        exact q _ G H (Adv.refl e) (.tup g1 d1)
theorem xs_appE {i : Nat} {xs : List D} (hi : ρ[i]? = some (.l xs)) (h : XE K te ρ R) (hz : xs.length < 100000) (k : ∀ x, R x → P.nx (ρ.set i (.l (xs ++ [x])))) : XS K (tDrop (tBM K "list" rAppend (tVar i) (tCons te tNil))) ρ P := fun G0 H0 σ H E ⟨G, A, s⟩ f => by
  obtain ⟨o, h1, p, vs, h2, h3, h4, h5, h6⟩ := s.ok i _ hi
  subst h2
  refine ⟨_, h1, .inl ⟨rfl, vs, sq_of h5⟩, h H0 G H σ A.i s _ fun v y G1 H1 A1 ry dy => ?_⟩
  have g1 := A1.o _ _ h5 h4
  refine ⟨p, vs, v, rfl, rfl, A1.h _ _ h5, by rw [h6.length]; exact sz_lt hz, f.nx _ _ _ (k y ry) ⟨G1, ?_, (s.adv A1).change hi rfl h1 ⟨p, vs ++ [v], rfl, h3, g1, upd_same, (h6.mono A1.g).append (.one dy)⟩⟩⟩
  have A2 := A.trans A1
  exact ⟨A2.g, Ex.mut A2.h h3, Ex.mut A2.i g1, A2.o⟩
end
/-- a number told as a fraction -/
def FrV (n : Int) (x : D) (v : Int) : Prop := ∃ a b, (x = fr a b ∨ x = .rtup [.int a, .int b]) ∧ Fv n a b v
theorem FrV.isFr {n : Int} {x : D} {v : Int} (h : FrV n x v) : isFr x ∧ x.its = some [.int x.tp, .int x.bt] ∧ Fv n x.tp x.bt v := by
  obtain ⟨a, b, rfl | rfl, f⟩ := h
  · exact ⟨.inl ⟨_, _, rfl⟩, rfl, f⟩
  · exact ⟨.inr ⟨_, _, rfl⟩, rfl, f⟩
theorem Fv.lim {n a b v : Int} (f : Fv n a b v) (hn : n ≤ 4000) : lim b := by
  have := f.pos
  have := f.le
  unfold Dx.lim
  omega
def LowO (f : Nat → Int) (i : Nat) (v : Int) (a : Nat) : Prop := v ≤ 0 ∧ (∀ t, t < i → v ≤ f t) ∧ ((v = 0 ∧ a = 0) ∨ (a < i ∧ f a = v ∧ v < 0 ∧ ∀ t, t < a → v < f t))
def HighO (f : Nat → Int) (i : Nat) (v : Int) (a : Nat) : Prop := 0 ≤ v ∧ (∀ t, t < i → f t ≤ v) ∧ ((v = 0 ∧ a = 0) ∨ (a < i ∧ f a = v ∧ 0 < v ∧ ∀ t, t < a → f t < v))
theorem LowO.keep {f : Nat → Int} {i : Nat} {v : Int} {a : Nat} (h : LowO f i v a) (c : ¬ f i < v) : LowO f (i + 1) v a := by
  obtain ⟨h1, h2, h3⟩ := h
  refine ⟨h1, fun t ht => ?_, ?_⟩
  · rcases Nat.lt_or_ge t i with c2 | c2
    · exact h2 t c2
    · rw [show t = i by omega]
      omega
  · rcases h3 with h3 | ⟨h3, h4⟩
    · exact .inl h3
    · exact .inr ⟨by omega, h4⟩
theorem LowO.new {f : Nat → Int} {i : Nat} {v : Int} {a : Nat} (h : LowO f i v a) (c : f i < v) : LowO f (i + 1) (f i) i := by
  obtain ⟨h1, h2, h3⟩ := h
  refine ⟨by omega, fun t ht => ?_, .inr ⟨by omega, rfl, by omega, fun t ht => ?_⟩⟩
  · rcases Nat.lt_or_ge t i with c2 | c2
    · have := h2 t c2
      omega
    · rw [show t = i by omega]
      exact Int.le_refl _
  · have := h2 t ht
    omega
theorem HighO.keep {f : Nat → Int} {i : Nat} {v : Int} {a : Nat} (h : HighO f i v a) (c : ¬ v < f i) : HighO f (i + 1) v a := by
  obtain ⟨h1, h2, h3⟩ := h
  refine ⟨h1, fun t ht => ?_, ?_⟩
  · rcases Nat.lt_or_ge t i with c2 | c2
    · exact h2 t c2
    · rw [show t = i by omega]
      omega
  · rcases h3 with h3 | ⟨h3, h4⟩
    · exact .inl h3
    · exact .inr ⟨by omega, h4⟩
theorem HighO.new {f : Nat → Int} {i : Nat} {v : Int} {a : Nat} (h : HighO f i v a) (c : v < f i) : HighO f (i + 1) (f i) i := by
  obtain ⟨h1, h2, h3⟩ := h
  refine ⟨by omega, fun t ht => ?_, .inr ⟨by omega, rfl, by omega, fun t ht => ?_⟩⟩
  · rcases Nat.lt_or_ge t i with c2 | c2
    · have := h2 t c2
      omega
    · rw [show t = i by omega]
      exact Int.le_refl _
  · have := h2 t ht
    omega
structure En where
  lo : D
  la : Nat
  hi : D
  ha : Nat
  vl : Int
  vh : Int
instance : Inhabited En := ⟨⟨.non, 0, .non, 0, 0, 0⟩⟩
structure EnOk (ws h l : List Int) (who : Nat) (e : En) : Prop where
  lo : FrV l.length e.lo e.vl
  hi : FrV l.length e.hi e.vh
  lw : LowO (lagV ws h l who) (h.length + l.length) e.vl e.la
  hg : HighO (lagV ws h l who) (h.length + l.length) e.vh e.ha
def enD (e : En) : D := .tup [e.lo, .int e.la, e.hi, .int e.ha]
def enW (e : En) : D := .tup [.str "within", e.lo, .int e.la, e.hi, .int e.ha]
theorem less_iff {n : Int} {x y : D} {v u : Int} (hn : 0 < n) (fx : Fv n x.tp x.bt v) (fy : Fv n y.tp y.bt u) : decide (x.tp * y.bt < y.tp * x.bt) = decide (v < u) := decide_eq_decide.mpr (cross hn fx.pos fy.pos fx.val fy.val)
section
variable {P : Program} {w : World} {K : PySem.W.Frag} {mg : Str → Option Value} {base : Heap}
def sg_ends_of : Sg := fun ds R => ∃ (ws h l : List Int) (who : Nat), ds = [.lst (ID ws), run h l, .int who] ∧ (LagC ws h l ∧ who < ws.length) ∧ R = fun x => ∃ e, x = enD e ∧ EnOk ws h l who e
abbrev N_ends_of : List Str := ["weights", "running", "who", "low", "high", "low_at", "high_at", "turns", "far"]
theorem sc_ends_of : FnScope N_ends_of ["weights", "running", "who"] (defScope (top 90)) := ⟨rfl, rfl, rfl, by decide +kernel, rfl, by decide +kernel, by decide +kernel⟩
abbrev H_ends_of (P : Program) (w : World) (K : PySem.W.Frag) (mg : Str → Option Value) (base : Heap) : Prop := Has P w K mg base "ends_of" 5 ["weights", "running", "who"] (spX K sg_ends_of)

theorem ok_ends_of (B : Blt K mg) (Df : Dfd K mg "ends_of" 90) (h_less : H_less P w K mg base) (h_lag_of : H_lag_of P w K mg base) : H_ends_of P w K mg base := by
  obtain ⟨a_NOUGHT, c_NOUGHT, nought⟩ := B.NOUGHT
  refine has_mk Df (fun _ _ _ _ _ _ us hl => match us, hl with | [_, _, _], _ => rfl) fun f fd F => ?_
  refine fn_ok F sc_ends_of (fun ds R ⟨_, _, _, _, e, _⟩ => e ▸ rfl) (fun cdv A outer s H E hr => ⟨_, (pss_cons (ps_set (i := 3) sc_ends_of.nd rfl (by first | exact Or.inl rfl | exact Or.inr rfl) (pe_glob (v := .ref a_NOUGHT) rfl c_NOUGHT rfl))
    (pss_cons (ps_set (i := 4) sc_ends_of.nd rfl (by first | exact Or.inl rfl | exact Or.inr rfl) (pe_glob (v := .ref a_NOUGHT) rfl c_NOUGHT rfl))
    (pss_cons (ps_set (i := 5) sc_ends_of.nd rfl (by first | exact Or.inl rfl | exact Or.inr rfl) pe_int)
    (pss_cons (ps_set (i := 6) sc_ends_of.nd rfl (by first | exact Or.inl rfl | exact Or.inr rfl) pe_int)
    (pss_cons (ps_for PassesOwn.never rfl (pi_range1 rfl B.range (pa_cons (pe_op op_add (pe_callB cr_lenS rfl B.len bt_len (pa_cons (pe_ix ix_tup (pv 1) pe_int (fun _ _ => rfl)) pa_nil)) (pe_callB cr_lenS rfl B.len bt_len (pa_cons (pe_ix ix_tup (pv 1) pe_int (fun _ _ => rfl)) pa_nil))) pa_nil)) (pg_name (i := 7) sc_ends_of.nd rfl (by first | exact Or.inl rfl | exact Or.inr rfl)) (pss_cons (ps_set (i := 8) sc_ends_of.nd rfl (by first | exact Or.inl rfl | exact Or.inr rfl) (pe_callH h_lag_of (hr.mono (by decide)) rfl (pa_cons (pv 0) (pa_cons (pv 1) (pa_cons (pv 2) (pa_cons (pv 7) pa_nil))))))
    (pss_cons (ps_if (pt_val (pe_callH h_less (hr.mono (by decide)) rfl (pa_cons (pv 8) (pa_cons (pv 3) pa_nil)))) (pss_cons (ps_set (i := 3) sc_ends_of.nd rfl (by first | exact Or.inl rfl | exact Or.inr rfl) (pv 8))
    (pss_one (ps_set (i := 5) sc_ends_of.nd rfl (by first | exact Or.inl rfl | exact Or.inr rfl) (pv 7)))) pss_nil)
    (pss_one (ps_if (pt_val (pe_callH h_less (hr.mono (by decide)) rfl (pa_cons (pv 4) (pa_cons (pv 8) pa_nil)))) (pss_cons (ps_set (i := 4) sc_ends_of.nd rfl (by first | exact Or.inl rfl | exact Or.inr rfl) (pv 8))
    (pss_one (ps_set (i := 6) sc_ends_of.nd rfl (by first | exact Or.inl rfl | exact Or.inr rfl) (pv 7)))) pss_nil)))))
    (pss_one (ps_ret (pe_tup (pa_cons (pv 3) (pa_cons (pv 5) (pa_cons (pv 4) (pa_cons (pv 6) pa_nil)))))))))))), fun ds R h => ?_⟩)
  obtain ⟨ws, h, l, who, rfl, ⟨c, h0⟩, rfl⟩ := h
  have hp := c.ok.pos
  have hsz := c.sz
  have n0 : (0 : Int) < l.length := by omega
  have eh : ((ID h).length : Nat) = h.length := List.length_map _
  have el : ((ID l).length : Nat) = l.length := List.length_map _
  have fn : FrV l.length (.rtup [.int 0, .int 1]) 0 := ⟨0, 1, .inr rfl, by decide, by omega, by decide, by rw [Int.zero_mul, Int.zero_mul]⟩
  apply xs_seq; apply xs_asgD (xd_nought nought)
  apply xs_seq; apply xs_asgD (xd_nought nought)
  walk_at "asg"
  walk_at "asg"
  apply xs_seq
  refine xs_forN (ys := intsD 0 (((h.length + l.length : Nat) : Int)).toNat) (fun i r => ∃ (e : En) (s7 s8 : Sl), r = [.d (.lst (ID ws)), .d (run h l), .d (.int (who : Nat)), .d e.lo, .d e.hi, .d (.int (e.la : Nat)), .d (.int (e.ha : Nat)), s7, s8] ∧ FrV l.length e.lo e.vl ∧ FrV l.length e.hi e.vh ∧ LowO (lagV ws h l who) i e.vl e.la ∧ HighO (lagV ws h l who) i e.vh e.ha)
    (ix_rng1 (n := ((h.length + l.length : Nat) : Int)) (xa_cons (XD.eq (xd_add (xd_len (xl_of (xd_ixT (xu_of (xd_var rfl)) xd_int rfl))) (xd_len (xl_of (xd_ixT (xu_of (xd_var rfl)) xd_int rfl)))) ?_) xa_nil) (by omega) (by omega))
    ⟨⟨.rtup [.int 0, .int 1], 0, .rtup [.int 0, .int 1], 0, 0, 0⟩, _, _, rfl, fn, fn, ⟨Int.le_refl _, fun t ht => by omega, .inl ⟨rfl, rfl⟩⟩, ⟨Int.le_refl _, fun t ht => by omega, .inl ⟨rfl, rfl⟩⟩⟩ (fun i y r hy hr => ?_) (fun r hr => ?_)
  · rw [eh, el, Int.natCast_add]
  · obtain ⟨e, s7, s8, rfl, f1, f2, f3, f4⟩ := hr
    have hi : i < h.length + l.length := by
      have := (List.getElem?_eq_some_iff.mp hy).1
      rw [ints_len] at this
      omega
    rw [ints_at (by omega)] at hy
    cases hy
    rw [show (0 : Int) + ((i : Nat) : Int) = ((i : Nat) : Int) by omega]
    apply xs_seq
    refine xs_asg (xe_call (xa_cons (xd_var rfl) (xa_cons (xd_var rfl) (xa_cons (xd_var rfl) (xa_cons (xd_var rfl) xa_nil)))) ⟨ws, h, l, who, i, rfl, ⟨c, h0, by omega⟩, rfl⟩) fun x hx => ?_
    obtain ⟨a, b, rfl, fab⟩ := hx
    have hfr : FrV l.length (fr a b) (lagV ws h l who i) := ⟨a, b, .inl rfl, fab⟩
    obtain ⟨g1, _, g3⟩ := hfr.isFr
    obtain ⟨l1, _, l3⟩ := f1.isFr
    obtain ⟨k1, _, k3⟩ := f2.isFr
    have lm : ∀ {a b v : Int}, Fv l.length a b v → lim b := fun f => f.lim (by omega)
    apply xs_seq
    refine XS.imp (P := { nx := fun r => ∃ e' : En, r = [.d (.lst (ID ws)), .d (run h l), .d (.int (who : Nat)), .d e'.lo, .d e.hi, .d (.int (e'.la : Nat)), .d (.int (e.ha : Nat)), .d (.int (i : Nat)), .d (fr a b)] ∧ FrV l.length e'.lo e'.vl ∧ LowO (lagV ws h l who) (i + 1) e'.vl e'.la, rt := fun _ => False }) ?_ (fun r hr => ?_) (fun _ z => z.elim) (fun _ z => z.elim) (fun _ z => z.elim) (fun _ z => z.elim)
    · refine xs_if (b := decide (lagV ws h l who i < e.vl)) (xt_T (XD.eq (xe_call (xa_cons (xd_var rfl) (xa_cons (xd_var rfl) xa_nil)) ⟨fr a b, e.lo, rfl, ⟨g1, l1, lm g3, lm l3⟩, rfl⟩) ?_)) (fun hb => ?_) fun hb => ?_
      · rw [less_iff n0 g3 l3]
      · have hb := of_decide_eq_true hb
        apply xs_seq; apply xs_asgD (xd_var rfl)
        apply xs_asgD (xd_var rfl)
        exact ⟨⟨fr a b, i, e.hi, e.ha, lagV ws h l who i, e.vh⟩, rfl, hfr, f3.new hb⟩
      · have hb := of_decide_eq_false hb
        exact xs_next ⟨e, rfl, f1, f3.keep hb⟩
    · obtain ⟨e', rfl, q1, q2⟩ := hr
      refine xs_if (b := decide (e.vh < lagV ws h l who i)) (xt_T (XD.eq (xe_call (xa_cons (xd_var rfl) (xa_cons (xd_var rfl) xa_nil)) ⟨e.hi, fr a b, rfl, ⟨k1, g1, lm k3, lm g3⟩, rfl⟩) ?_)) (fun hb => ?_) fun hb => ?_
      · rw [less_iff n0 k3 g3]
      · have hb := of_decide_eq_true hb
        apply xs_seq; apply xs_asgD (xd_var rfl)
        apply xs_asgD (xd_var rfl)
        exact ⟨⟨e'.lo, e'.la, fr a b, i, e'.vl, lagV ws h l who i⟩, _, _, rfl, q1, hfr, q2, f4.new hb⟩
      · have hb := of_decide_eq_false hb
        exact xs_next ⟨⟨e'.lo, e'.la, e.hi, e.ha, e'.vl, e.vh⟩, _, _, rfl, q1, f2, q2, f4.keep hb⟩
  · obtain ⟨e, s7, s8, rfl, f1, f2, f3, f4⟩ := hr
    rw [ints_len, Int.toNat_natCast] at f3 f4
    refine xs_ret (R := Eq (enD e)) (xd_tup (xa_cons (xd_var rfl) (xa_cons (xd_var rfl) (xa_cons (xd_var rfl) (xa_cons (xd_var rfl) xa_nil)))) (by show 4 ≤ 100000; decide)) fun x hx => ⟨e, hx.symm, f1, f2, f3, f4⟩
theorem ceq_fr (a b c d : Int) : CEq (fr a b).py (fr c d).py (decide (a = c) && decide (b = d)) := ⟨rfl, rfl, by
  show ((a == c) && ((b == d) && true)) = _
  rw [Bool.and_true]
  by_cases h1 : a = c <;> by_cases h2 : b = d <;> simp [h1, h2]⟩
theorem ceq_nn : CEq (fr 0 1).py (D.rtup [.int 0, .int 1]).py true := ceq_fr 0 1 0 1
def sg_lags_of : Sg := fun ds R => ∃ (ws h l : List Int), ds = [.lst (ID ws), run h l] ∧ LagC ws h l ∧ R = fun x => ∃ es : List En, x = .lst (es.map enW) ∧ es.length = ws.length ∧ ∀ who, who < ws.length → EnOk ws h l who (es.getD who default)
abbrev N_lags_of : List Str := ["weights", "running", "found", "who", "drift"]
theorem sc_lags_of : FnScope N_lags_of ["weights", "running"] (defScope (top 91)) := ⟨rfl, rfl, rfl, by decide +kernel, rfl, by decide +kernel, by decide +kernel⟩
abbrev H_lags_of (P : Program) (w : World) (K : PySem.W.Frag) (mg : Str → Option Value) (base : Heap) : Prop := Has P w K mg base "lags_of" 7 ["weights", "running"] (spX K sg_lags_of)

theorem ok_lags_of (B : Blt K mg) (Df : Dfd K mg "lags_of" 91) (h_ends_of : H_ends_of P w K mg base) (h_drift_of : H_drift_of P w K mg base) (h_check_among : H_check_among P w K mg base) : H_lags_of P w K mg base := by
  obtain ⟨a_NOUGHT, c_NOUGHT, nought⟩ := B.NOUGHT
  refine has_mk Df (fun _ _ _ _ _ _ us hl => match us, hl with | [_, _], _ => rfl) fun f fd F => ?_
  refine fn_ok F sc_lags_of (fun ds R ⟨_, _, _, e, _⟩ => e ▸ rfl) (fun cdv A outer s H E hr => ⟨_, (pss_cons (ps_expr (pe_callH h_check_among (hr.mono (by decide)) rfl (pa_cons (pv 0) (pa_cons (pv 1) pa_nil))))
    (pss_cons (ps_set (i := 2) sc_lags_of.nd rfl (by first | exact Or.inl rfl | exact Or.inr rfl) (pe_lst pa_nil))
    (pss_cons (ps_for PassesOwn.never rfl (pi_range1 rfl B.range (pa_cons (pe_callB cr_lenS rfl B.len bt_len (pa_cons (pv 0) pa_nil)) pa_nil)) (pg_name (i := 3) sc_lags_of.nd rfl (by first | exact Or.inl rfl | exact Or.inr rfl)) (pss_cons (ps_set (i := 4) sc_lags_of.nd rfl (by first | exact Or.inl rfl | exact Or.inr rfl) (pe_callH h_drift_of (hr.mono (by decide)) rfl (pa_cons (pv 0) (pa_cons (pv 1) (pa_cons (pv 3) pa_nil)))))
    (pss_one (ps_if (pt_cmpR (op_eqD hr.units) (pv 4) (pe_glob (v := .ref a_NOUGHT) rfl c_NOUGHT rfl) (nomark _)) (pss_one (ps_expr (pe_bm PySem.F.plainAttrs_list PySem.F.slot_list_append PySem.F.type_list_append mt_append (pv 2) (pa_cons (pe_op op_catA (pe_tup (pa_cons pe_str pa_nil)) (pe_callH h_ends_of (hr.mono (by decide)) rfl (pa_cons (pv 0) (pa_cons (pv 1) (pa_cons (pv 3) pa_nil))))) pa_nil)))) (pss_one (ps_expr (pe_bm PySem.F.plainAttrs_list PySem.F.slot_list_append PySem.F.type_list_append mt_append (pv 2) (pa_cons (pe_tup (pa_cons pe_str (pa_cons (pv 4) pa_nil))) pa_nil))))))))
    (pss_one (ps_ret (pv 2)))))), fun ds R h => ?_⟩)
  obtain ⟨ws, h, l, rfl, c, rfl⟩ := h
  have k6 := c.k6
  have ew : ((ID ws).length : Nat) = ws.length := List.length_map _
  apply xs_seq
  refine xs_drop (xe_call (xa_cons (xd_var rfl) (xa_cons (xd_var rfl) xa_nil)) ⟨ws, h, l, rfl, c, rfl⟩) ?_
  apply xs_seq; apply xs_asgM xa_nil (by decide)
  apply xs_seq
  refine xs_forN (ys := intsD 0 ((ws.length : Nat) : Int).toNat) (fun i r => ∃ (es : List En) (s3 s4 : Sl), r = [.d (.lst (ID ws)), .d (run h l), .l (es.map enW), s3, s4] ∧ es.length = i ∧ ∀ who, who < i → EnOk ws h l who (es.getD who default))
    (ix_rng1 (n := ((ws.length : Nat) : Int)) (xa_cons (XD.eq (xd_len (xl_of (xd_var rfl))) (by rw [ew])) xa_nil) (by omega) (by omega)) ⟨[], _, _, rfl, rfl, fun who hw => by omega⟩ (fun i y r hy hr => ?_) (fun r hr => ?_)
  · obtain ⟨es, s3, s4, rfl, e1, e2⟩ := hr
    have hi : i < ws.length := by
      have := (List.getElem?_eq_some_iff.mp hy).1
      rw [ints_len] at this
      omega
    rw [ints_at (by omega)] at hy
    cases hy
    rw [show (0 : Int) + ((i : Nat) : Int) = ((i : Nat) : Int) by omega]
    apply xs_seq
    refine xs_asgD (x := fr 0 1) (xe_call (xa_cons (xd_var rfl) (xa_cons (xd_var rfl) (xa_cons (xd_var rfl) xa_nil))) ⟨ws, h, l, i, rfl, ⟨c, hi⟩, rfl⟩) ?_
    refine xs_ifT (xt_T (xd_eqD (xd_var rfl) (xd_nought nought) ceq_nn)) ?_
    refine xs_appE (xs := es.map enW) (R := fun x => ∃ e, x = enW e ∧ EnOk ws h l i e) rfl (xe_op (Ra := Eq (.tup [.str "within"])) (Rb := fun x => ∃ e, x = enD e ∧ EnOk ws h l i e) (xd_tup (xa_cons xd_str xa_nil) (by show 1 ≤ 100000; decide)) (xe_call (xa_cons (xd_var rfl) (xa_cons (xd_var rfl) (xa_cons (xd_var rfl) xa_nil))) ⟨ws, h, l, i, rfl, ⟨c, hi⟩, rfl⟩) fun a b ha hb => ?_) (by rw [List.length_map]; omega) fun x hx => ?_
    · subst ha
      obtain ⟨e, rfl, he⟩ := hb
      intro G H va vb ex da db Q q
      exact ox_catT (xs := [.str "within"]) (ys := [e.lo, .int e.la, e.hi, .int e.ha]) (by show 1 + 4 ≤ 100000; decide) G H va vb ex da db Q fun v x G' H' A rx dx => q v x G' H' A ⟨e, rx.symm, he⟩ dx
    · obtain ⟨e, rfl, he⟩ := hx
      refine ⟨es ++ [e], .d (.int (i : Nat)), .d (fr 0 1), ?_, by rw [List.length_append, e1]; rfl, fun who hw => ?_⟩
      · rw [List.map_append]
        rfl
      · rcases Nat.lt_or_ge who i with cc | cc
        · rw [List.getD_eq_getElem?_getD, List.getElem?_append_left (by omega), ← List.getD_eq_getElem?_getD]
          exact e2 who cc
        · have : who = i := by omega
          subst this
          rw [List.getD_eq_getElem?_getD, List.getElem?_append_right (by omega), e1, Nat.sub_self]
          exact he
  · obtain ⟨es, s3, s4, rfl, e1, e2⟩ := hr
    rw [ints_len, Int.toNat_natCast] at e1 e2
    show XS K _ [_, _, .l (es.map enW), _, _] _
    refine xs_frz 2 rfl ?_
    exact xs_ret (R := Eq (.lst (es.map enW))) (xd_var rfl) fun x hx => ⟨es, hx.symm, e1, e2⟩
/-! the bounds -/
def keepsV (b : Bool) (vf v : Int) : Bool := if b then decide ((v.natAbs : Int) < vf) else !decide (vf < (v.natAbs : Int))
structure BdOk (n F G vf : Int) : Prop where
  f0 : 0 ≤ F
  pos : 0 < G
  le : G ≤ n
  g1 : gcdI F G = 1
  big : F ≤ 300 * G
  val : F * n = vf * G
theorem keeps_iff {n F G vf a b v : Int} {k : Bool} (hn : 0 < n) (B : BdOk n F G vf) (f : Fv n a b v) : keepsF k F G a b = keepsV k vf v := by
  have e : (a.natAbs : Int) * n = (v.natAbs : Int) * b := by
    have h := congrArg Int.natAbs f.val
    rw [Int.natAbs_mul, Int.natAbs_mul] at h
    have hb := f.pos
    have e1 : ((n.natAbs : Nat) : Int) = n := by omega
    have e2 : ((b.natAbs : Nat) : Int) = b := by omega
    have h2 : ((a.natAbs * n.natAbs : Nat) : Int) = ((v.natAbs * b.natAbs : Nat) : Int) := by rw [h]
    rw [Int.natCast_mul, Int.natCast_mul, e1, e2] at h2
    exact h2
  unfold keepsF keepsV
  cases k with
  | true =>
    rw [if_pos rfl, if_pos rfl]
    exact decide_eq_decide.mpr (cross hn f.pos B.pos e B.val)
  | false =>
    rw [if_neg (by decide), if_neg (by decide)]
    congr 1
    exact decide_eq_decide.mpr (cross hn B.pos f.pos B.val e)
def sg_laps_till : Sg := fun ds R => ∃ F G b x y, ds = [fr x y, fr 0 1, .tup [fr F G, .bl b]] ∧ (lim G ∧ lim y ∧ keepsF b F G x y = false) ∧ R = Eq (.int 0)
abbrev N_laps_till : List Str := ["far", "drift", "bound", "many"]
theorem sc_laps_till : FnScope N_laps_till ["far", "drift", "bound"] (defScope (top 92)) := ⟨rfl, rfl, rfl, by decide +kernel, rfl, by decide +kernel, by decide +kernel⟩
abbrev H_laps_till (P : Program) (w : World) (K : PySem.W.Frag) (mg : Str → Option Value) (base : Heap) : Prop := Has P w K mg base "laps_till" 4 ["far", "drift", "bound"] (spX K sg_laps_till)

theorem ok_laps_till (B : Blt K mg) (Df : Dfd K mg "laps_till" 92) (h_lag_keeps : H_lag_keeps P w K mg base) : H_laps_till P w K mg base := by
  refine has_mk Df (fun _ _ _ _ _ _ us hl => match us, hl with | [_, _, _], _ => rfl) fun f fd F => ?_
  refine fn_ok F sc_laps_till (fun ds R ⟨_, _, _, _, _, e, _⟩ => e ▸ rfl) (fun cdv A outer s H E hr => ⟨_, (pss_cons (ps_if (pt_not (pt_val (pe_callH h_lag_keeps (hr.mono (by decide)) rfl (pa_cons (pv 2) (pa_cons (pv 0) pa_nil))))) (pss_one (ps_ret pe_int)) pss_nil)
    (pss_cons ps_never
    (pss_cons ps_never
    (pss_cons ps_never
    (pss_one ps_never))))), fun ds R h => ?_⟩)
  obtain ⟨F, G, b, x, y, rfl, ⟨h0, h1, h2⟩, rfl⟩ := h
  apply xs_seq
  refine xs_ifT (xt_not (b := false) (xt_T (XD.eq (xe_call (xa_cons (xd_var rfl) (xa_cons (xd_var rfl) xa_nil)) ⟨F, G, b, x, y, rfl, ⟨h0, h1⟩, rfl⟩) (by rw [h2])))) ?_
  walk_at "ret"
/-- the first turn of T that does not keep -/
def FirstO (k : Nat → Bool) (T : Nat) : Option Int → Prop
  | none => ∀ t, t < T → k t = true
  | some v => ∃ t : Nat, v = (t : Int) ∧ t < T ∧ k t = false ∧ ∀ s, s < t → k s = true
def outL (k : Nat → Bool) (hl i : Nat) : List Int := ((List.range i).filter fun t => decide (hl ≤ t) && !k t).map fun (t : Nat) => (t : Int)
theorem outL_succ (k : Nat → Bool) (hl i : Nat) : outL k hl (i + 1) = outL k hl i ++ (if (decide (hl ≤ i) && !k i) = true then [(i : Int)] else []) := by
  unfold outL
  rw [List.range_succ, List.filter_append, List.map_append, List.filter_cons]
  split <;> rfl
def sg_first_out : Sg := fun ds R => ∃ (ws h l : List Int) (who : Nat) (F G vf : Int) (b : Bool), ds = [.lst (ID ws), run h l, .int who, .tup [fr F G, .bl b]] ∧ (LagC ws h l ∧ who < ws.length ∧ BdOk l.length F G vf) ∧ R = fun x => ∃ o, x = optD o ∧ FirstO (fun t => keepsV b vf (lagV ws h l who t)) (h.length + l.length) o
abbrev N_first_out : List Str := ["weights", "running", "who", "bound", "head", "lap", "drift", "found", "turns", "far"]
theorem sc_first_out : FnScope N_first_out ["weights", "running", "who", "bound"] (defScope (top 93)) := ⟨rfl, rfl, rfl, by decide +kernel, rfl, by decide +kernel, by decide +kernel⟩
abbrev H_first_out (P : Program) (w : World) (K : PySem.W.Frag) (mg : Str → Option Value) (base : Heap) : Prop := Has P w K mg base "first_out" 5 ["weights", "running", "who", "bound"] (spX K sg_first_out)

theorem ok_first_out (B : Blt K mg) (Df : Dfd K mg "first_out" 93) (h_lag_keeps : H_lag_keeps P w K mg base) (h_laps_till : H_laps_till P w K mg base) (h_lag_of : H_lag_of P w K mg base) (h_drift_of : H_drift_of P w K mg base) : H_first_out P w K mg base := by
  obtain ⟨a_NOUGHT, c_NOUGHT, nought⟩ := B.NOUGHT
  refine has_mk Df (fun _ _ _ _ _ _ us hl => match us, hl with | [_, _, _, _], _ => rfl) fun f fd F => ?_
  refine fn_ok F sc_first_out (fun ds R ⟨_, _, _, _, _, _, _, _, e, _⟩ => e ▸ rfl) (fun cdv A outer s H E hr => ⟨_, (pss_cons (ps_set (i := 4) sc_first_out.nd rfl (by first | exact Or.inl rfl | exact Or.inr rfl) (pe_ix ix_tup (pv 1) pe_int (fun _ _ => rfl)))
    (pss_cons (ps_set (i := 5) sc_first_out.nd rfl (by first | exact Or.inl rfl | exact Or.inr rfl) (pe_ix ix_tup (pv 1) pe_int (fun _ _ => rfl)))
    (pss_cons (ps_set (i := 6) sc_first_out.nd rfl (by first | exact Or.inl rfl | exact Or.inr rfl) (pe_callH h_drift_of (hr.mono (by decide)) rfl (pa_cons (pv 0) (pa_cons (pv 1) (pa_cons (pv 2) pa_nil)))))
    (pss_cons (ps_set (i := 7) sc_first_out.nd rfl (by first | exact Or.inl rfl | exact Or.inr rfl) (pe_lst pa_nil))
    (pss_cons (ps_for PassesOwn.never rfl (pi_range1 rfl B.range (pa_cons (pe_op op_add (pe_callB cr_lenS rfl B.len bt_len (pa_cons (pv 4) pa_nil)) (pe_callB cr_lenS rfl B.len bt_len (pa_cons (pv 5) pa_nil))) pa_nil)) (pg_name (i := 8) sc_first_out.nd rfl (by first | exact Or.inl rfl | exact Or.inr rfl)) (pss_cons (ps_set (i := 9) sc_first_out.nd rfl (by first | exact Or.inl rfl | exact Or.inr rfl) (pe_callH h_lag_of (hr.mono (by decide)) rfl (pa_cons (pv 0) (pa_cons (pv 1) (pa_cons (pv 2) (pa_cons (pv 8) pa_nil))))))
    (pss_cons (ps_if (PW.pt (pw_and (pt_cmpR op_lt (pv 8) (pe_callB cr_lenS rfl B.len bt_len (pa_cons (pv 4) pa_nil)) (nomark _)) (pw_and1 (pt_not (pt_val (pe_callH h_lag_keeps (hr.mono (by decide)) rfl (pa_cons (pv 3) (pa_cons (pv 9) pa_nil)))))))) (pss_one (ps_ret (pv 8))) pss_nil)
    (pss_one (ps_if (PW.pt (pw_and (pt_cmpR op_ge (pv 8) (pe_callB cr_lenS rfl B.len bt_len (pa_cons (pv 4) pa_nil)) (nomark _)) (pw_and1 (PW.pt (pw_or (pt_cmpR (op_neD hr.units) (pv 6) (pe_glob (v := .ref a_NOUGHT) rfl c_NOUGHT rfl) (nomark _)) (pw_or1 (pt_not (pt_val (pe_callH h_lag_keeps (hr.mono (by decide)) rfl (pa_cons (pv 3) (pa_cons (pv 9) pa_nil))))))))))) (pss_one (ps_expr (pe_bm PySem.F.plainAttrs_list PySem.F.slot_list_append PySem.F.type_list_append mt_append (pv 7) (pa_cons (pe_op op_add (pv 8) (pe_op op_mul (pe_callB cr_lenS rfl B.len bt_len (pa_cons (pv 5) pa_nil)) (pe_callH h_laps_till (hr.mono (by decide)) rfl (pa_cons (pv 9) (pa_cons (pv 6) (pa_cons (pv 3) pa_nil)))))) pa_nil)))) pss_nil)))))
    (pss_cons (ps_if (pt_cmpR (op_eqD hr.units) (pv 7) (pe_lst pa_nil) (nomark _)) (pss_one (ps_ret pe_non)) pss_nil)
    (pss_one (ps_ret (pe_callB (cr_min rfl) rfl B.min bt_min (pa_cons (pv 7) pa_nil)))))))))), fun ds R h => ?_⟩)
  obtain ⟨ws, h, l, who, F, G, vf, b, rfl, ⟨c, h0, B⟩, rfl⟩ := h
  have hp := c.ok.pos
  have hsz := c.sz
  have n0 : (0 : Int) < l.length := by omega
  have eh : ((ID h).length : Nat) = h.length := List.length_map _
  have el : ((ID l).length : Nat) = l.length := List.length_map _
  have hG : lim G := by
    have := B.pos
    have := B.le
    unfold lim
    omega
  apply xs_seq; apply xs_asgD (x := .lst (ID h)) (xd_ixT (xu_of (xd_var rfl)) xd_int rfl)
  apply xs_seq; apply xs_asgD (x := .lst (ID l)) (xd_ixT (xu_of (xd_var rfl)) xd_int rfl)
  apply xs_seq
  refine xs_asgD (x := fr 0 1) (xe_call (xa_cons (xd_var rfl) (xa_cons (xd_var rfl) (xa_cons (xd_var rfl) xa_nil))) ⟨ws, h, l, who, rfl, ⟨c, h0⟩, rfl⟩) ?_
  apply xs_seq; apply xs_asgM xa_nil (by decide)
  apply xs_seq
  have ol : ∀ i, (outL (fun t => keepsV b vf (lagV ws h l who t)) h.length i).length ≤ i := fun i => by
    unfold outL
    rw [List.length_map]
    have := List.length_filter_le (fun t => decide (h.length ≤ t) && !keepsV b vf (lagV ws h l who t)) (List.range i)
    rw [List.length_range] at this
    exact this
  refine xs_forN (ys := intsD 0 ((h.length + l.length : Nat) : Int).toNat) (fun i r => ∃ (s8 s9 : Sl), r = [.d (.lst (ID ws)), .d (run h l), .d (.int (who : Nat)), .d (.tup [fr F G, .bl b]), .d (.lst (ID h)), .d (.lst (ID l)), .d (fr 0 1), .l (ID (outL (fun t => keepsV b vf (lagV ws h l who t)) h.length i)), s8, s9] ∧ ∀ t, t < i → t < h.length → keepsV b vf (lagV ws h l who t) = true)
    (ix_rng1 (n := ((h.length + l.length : Nat) : Int)) (xa_cons (XD.eq (xd_add (xd_len (xl_of (xd_var rfl))) (xd_len (xl_of (xd_var rfl)))) ?_) xa_nil) (by omega) (by omega)) ⟨_, _, rfl, fun t ht => by omega⟩ (fun i y r hy hr => ?_) (fun r hr => ?_)
  · rw [eh, el, Int.natCast_add]
  · obtain ⟨s8, s9, rfl, f1⟩ := hr
    have hi : i < h.length + l.length := by
      have := (List.getElem?_eq_some_iff.mp hy).1
      rw [ints_len] at this
      omega
    rw [ints_at (by omega)] at hy
    cases hy
    rw [show (0 : Int) + ((i : Nat) : Int) = ((i : Nat) : Int) by omega]
    have hol := ol i
    apply xs_seq
    refine xs_asg (xe_call (xa_cons (xd_var rfl) (xa_cons (xd_var rfl) (xa_cons (xd_var rfl) (xa_cons (xd_var rfl) xa_nil)))) ⟨ws, h, l, who, i, rfl, ⟨c, h0, by omega⟩, rfl⟩) fun x hx => ?_
    obtain ⟨a, b', rfl, fab⟩ := hx
    have hb' : lim b' := fab.lim (by omega)
    have kp : ∀ {r : List Sl}, r[3]? = some (.d (.tup [fr F G, .bl b])) → r[9]? = some (.d (fr a b')) → XD K (tCall (spX K sg_lag_keeps) [] E0 (tCons (tVar 3) (tCons (tVar 9) tNil))) r (.bl (keepsV b vf (lagV ws h l who i))) := fun {r} e3 e9 => XD.eq (xe_call (xa_cons (xd_var e3) (xa_cons (xd_var e9) xa_nil)) ⟨F, G, b, a, b', rfl, ⟨hG, hb'⟩, rfl⟩) (by rw [keeps_iff n0 B fab])
    apply xs_seq
    refine xs_if (b := decide ((i : Int) < h.length) && !keepsV b vf (lagV ws h l who i)) (xt_and (xt_T (XD.eq (xd_lt (xd_var rfl) (xd_len (xl_of (xd_var rfl)))) (by rw [eh]))) fun _ => xt_not (xt_T (kp rfl rfl))) (fun hb => ?_) fun hb => ?_
    · rw [Bool.and_eq_true] at hb
      obtain ⟨b1, b2⟩ := hb
      have b1 := of_decide_eq_true b1
      refine xs_ret (R := Eq (.int (i : Nat))) (xd_var rfl) fun x hx => ⟨some (i : Nat), hx.symm, i, rfl, hi, ?_, fun s hs => f1 s hs (by omega)⟩
      show keepsV b vf (lagV ws h l who i) = false
      cases e : keepsV b vf (lagV ws h l who i) with
      | false => rfl
      | true =>
        rw [e] at b2
        cases b2
    · refine xs_next ?_
      have f2 : ∀ t, t < i + 1 → t < h.length → keepsV b vf (lagV ws h l who t) = true := fun t ht htl => by
        rcases Nat.lt_or_ge t i with cc | cc
        · exact f1 t cc htl
        · have : t = i := by omega
          subst this
          rw [decide_eq_true (by omega), Bool.true_and] at hb
          cases e : keepsV b vf (lagV ws h l who t) with
          | true => rfl
          | false =>
            rw [e] at hb
            cases hb
      refine xs_if (b := decide ((h.length : Int) ≤ (i : Int)) && (false || !keepsV b vf (lagV ws h l who i))) (xt_and (xt_T (XD.eq (xd_ge (xd_var rfl) (xd_len (xl_of (xd_var rfl)))) (by rw [eh]))) fun _ => xt_or (xt_T (xd_neD (c := true) (xd_var rfl) (xd_nought nought) ceq_nn)) fun _ => xt_not (xt_T (kp rfl rfl))) (fun hb2 => ?_) fun hb2 => ?_
      · rw [Bool.false_or, Bool.and_eq_true] at hb2
        obtain ⟨b1, b2⟩ := hb2
        have b1 := of_decide_eq_true b1
        have hk : keepsV b vf (lagV ws h l who i) = false := by
          cases e : keepsV b vf (lagV ws h l who i) with
          | false => rfl
          | true =>
            rw [e] at b2
            cases b2
        apply xs_app (xs := ID (outL (fun t => keepsV b vf (lagV ws h l who t)) h.length i)) (x := .int (i : Nat)) rfl
        · refine XD.eq (xd_add (xd_var rfl) (xd_mul (xd_len (xl_of (xd_var rfl))) (xe_call (xa_cons (xd_var rfl) (xa_cons (xd_var rfl) (xa_cons (xd_var rfl) xa_nil))) ⟨F, G, b, a, b', rfl, ⟨hG, hb', by rw [keeps_iff n0 B fab]; exact hk⟩, rfl⟩) ?_)) ?_
          · exact .inr ⟨by omega, by omega⟩
          · rw [Int.mul_zero, Int.add_zero]
        · rw [List.length_map]
          omega
        · refine ⟨.d (.int (i : Nat)), .d (fr a b'), ?_, f2⟩
          rw [outL_succ, if_pos (by rw [decide_eq_true (by omega), hk]; rfl), show ∀ a b, ID (a ++ b) = ID a ++ ID b from fun a b => List.map_append]
          rfl
      · refine xs_next ⟨.d (.int (i : Nat)), .d (fr a b'), ?_, f2⟩
        rw [outL_succ, if_neg (fun z => ?_), List.append_nil]
        · rfl
        · rw [Bool.false_or] at hb2
          rw [Bool.and_eq_true] at z
          obtain ⟨z1, z2⟩ := z
          have z1 := of_decide_eq_true z1
          rw [decide_eq_true (by omega), z2] at hb2
          cases hb2
  · obtain ⟨s8, s9, rfl, f1⟩ := hr
    rw [ints_len, Int.toNat_natCast] at f1 ⊢
    generalize hL : outL (fun t => keepsV b vf (lagV ws h l who t)) h.length (h.length + l.length) = L
    have mem : ∀ x, x ∈ L ↔ ∃ t : Nat, x = (t : Int) ∧ t < h.length + l.length ∧ h.length ≤ t ∧ keepsV b vf (lagV ws h l who t) = false := fun x => by
      rw [← hL]
      unfold outL
      rw [List.mem_map]
      constructor
      · rintro ⟨t, ht, rfl⟩
        obtain ⟨h1, h2⟩ := List.mem_filter.mp ht
        rw [Bool.and_eq_true] at h2
        refine ⟨t, rfl, List.mem_range.mp h1, of_decide_eq_true h2.1, ?_⟩
        cases e : keepsV b vf (lagV ws h l who t) with
        | false => rfl
        | true =>
          have this : (!keepsV b vf (lagV ws h l who t)) = true := h2.2
          rw [e] at this
          cases this
      · rintro ⟨t, rfl, h1, h2, h3⟩
        exact ⟨t, List.mem_filter.mpr ⟨List.mem_range.mpr h1, by
          show (decide (h.length ≤ t) && !keepsV b vf (lagV ws h l who t)) = true
          rw [decide_eq_true h2, h3]
          rfl⟩, rfl⟩
    show XS K _ [_, _, _, _, _, _, _, .l (ID L), _, _] _
    apply xs_seq
    refine xs_if (b := decide (L = [])) (xt_T (xd_eqDM (b := .lst []) (xm_own rfl) (xd_lst xa_nil (by decide)) (ceq_nil L))) (fun hb => ?_) fun hb => ?_
    · have hb := of_decide_eq_true hb
      refine xs_ret (R := Eq .non) xd_non fun x hx => ⟨none, hx.symm, fun t ht => ?_⟩
      rcases Nat.lt_or_ge t h.length with cc | cc
      · exact f1 t ht cc
      · show keepsV b vf (lagV ws h l who t) = true
        cases e : keepsV b vf (lagV ws h l who t) with
        | true => rfl
        | false =>
          have := (mem (t : Int)).mpr ⟨t, rfl, ht, cc, e⟩
          rw [hb] at this
          cases this
    · have hb := of_decide_eq_false hb
      refine xs_next ?_
      refine xs_ret (xe_min (ns := L) (xl_own rfl) (List.length_pos_iff.mpr hb)) fun x hx => ?_
      obtain ⟨m, rfl, m1, m2⟩ := hx
      obtain ⟨t, rfl, t1, t2, t3⟩ := (mem m).mp m1
      refine ⟨some (t : Int), rfl, t, rfl, t1, t3, fun s hs => ?_⟩
      rcases Nat.lt_or_ge s h.length with cc | cc
      · exact f1 s (by omega) cc
      · show keepsV b vf (lagV ws h l who s) = true
        cases e : keepsV b vf (lagV ws h l who s) with
        | true => rfl
        | false =>
          have := m2 _ ((mem (s : Int)).mpr ⟨s, rfl, by omega, cc, e⟩)
          omega
end
end Dx
end

section
set_option Elab.async false
set_option linter.all false
set_option maxRecDepth 100000
set_option maxHeartbeats 4000000
namespace Dx
open PySem PySem.Spec PyProof.Rows L2 Evl RZ
local macro_rules | `(tactic| walk_at "sd") => `(tactic| first | rfl | assumption | omega | exact Nat.le_of_ble_eq_true rfl | exact decide_eq_false (by omega) | exact decide_eq_true (by omega) | decide | (constructor <;> omega) | (simp only [List.length_map]; omega) | (simp only [List.length_map]; constructor <;> omega))
local macro_rules | `(tactic| walk_at "sd?") => `(tactic| first | walk_at "sd" | rotate_left)
local macro_rules | `(tactic| walk_at "xl") => `(tactic| first | exact xl_own rfl | (apply xl_of; walk_at "xd") | (apply xl_r; walk_at "xd"))
local macro_rules | `(tactic| walk_at "xm") => `(tactic| first | exact xm_own rfl | (apply xm_of; walk_at "xd"))
local macro_rules | `(tactic| walk_at "xu") => `(tactic| first | (apply xu_of; walk_at "xd") | (apply xu_r; walk_at "xd") | (apply xu_k; walk_at "xd"))
local macro_rules | `(tactic| walk_at "xa") => `(tactic| first | exact xa_nil | (apply xa_cons; walk_at "xd"; walk_at "xa"))
local macro_rules | `(tactic| walk_at "xo") => `(tactic| first | exact xo_none | (apply xo_some; walk_at "xd"))
local macro_rules | `(tactic| walk_at "xd") => `(tactic| first
  | exact xd_int | exact xd_str | exact xd_bl | exact xd_non | exact xd_var rfl
  | (apply xd_add; walk_at "xd"; walk_at "xd") | (apply xd_sub; walk_at "xd"; walk_at "xd") | (apply xd_neg; walk_at "xd")
  | (apply xd_mul; walk_at "xd"; walk_at "xd"; walk_at "sd?") | (apply xd_fdiv; walk_at "xd"; walk_at "xd"; walk_at "sd?") | (apply xd_mod; walk_at "xd"; walk_at "xd"; walk_at "sd?")
  | (apply xd_lt; walk_at "xd"; walk_at "xd") | (apply xd_le; walk_at "xd"; walk_at "xd") | (apply xd_gt; walk_at "xd"; walk_at "xd") | (apply xd_ge; walk_at "xd"; walk_at "xd")
  | (apply xd_chainLe; walk_at "xd"; walk_at "xd"; walk_at "xd")
  | (apply xd_eqI; walk_at "xd"; walk_at "xd") | (apply xd_neI; walk_at "xd"; walk_at "xd") | (apply xd_eqS; walk_at "xd"; walk_at "xd") | (apply xd_neS; walk_at "xd"; walk_at "xd")
  | (apply xd_isN; walk_at "xd"; walk_at "xd") | (apply xd_notN; walk_at "xd"; walk_at "xd")
  | (apply xd_not; walk_at "xd") | (apply xd_and; walk_at "xd"; (intro _; walk_at "xd")) | (apply xd_or; walk_at "xd"; (intro _; walk_at "xd"))
  | (apply xd_ixT; walk_at "xu"; walk_at "xd"; rfl) | (apply xd_ixIU; walk_at "xu"; walk_at "xd"; walk_at "sd?") | (apply xd_ixI; walk_at "xl"; walk_at "xd"; walk_at "sd?") | (apply xd_ixL; walk_at "xl"; walk_at "xd"; walk_at "sd?")
  | (apply xd_tup; walk_at "xa"; walk_at "sd?") | (apply xd_lst; walk_at "xa"; walk_at "sd?")
  | (apply xd_len; walk_at "xl") | (apply xd_lenU; walk_at "xu") | (apply xd_abs; walk_at "xd") | (apply xd_min2; walk_at "xd"; walk_at "xd")
  | (apply xd_isi; walk_at "xd"; (first | exact kb_int | exact kb_int_bool | exact kb_tuple | exact kb_list | exact kb_str | exact kb_bool_bool))
  | (apply xd_slL; walk_at "xl"; walk_at "xo"; walk_at "xo") | (apply xd_slT; walk_at "xd"; walk_at "xo"; walk_at "xo")
  | (apply xd_cat; walk_at "xm"; walk_at "xm"; walk_at "sd?") | (apply xd_catT; walk_at "xd"; walk_at "xd"; walk_at "sd?")
  | (apply xd_list; walk_at "xl") | (apply xd_listU; walk_at "xu") | (apply xd_tuple; walk_at "xl") | (apply xd_tupleT; walk_at "xd")
  | (apply xd_slk; walk_at "xd"; walk_at "xo"; walk_at "xo") | (apply xd_catK; walk_at "xd"; walk_at "xd"; walk_at "sd?") | exact xd_tupK0 | (apply xd_tupK1; walk_at "xd")
  | (apply xe_call; walk_at "xa"; walk_at "sg"))
local macro_rules | `(tactic| walk_at "sg") => `(tactic| first | exact ⟨_, rfl, rfl⟩ | exact ⟨_, _, rfl, rfl⟩ | exact ⟨_, _, _, rfl, rfl⟩ | exact ⟨_, _, _, _, rfl, rfl⟩ | exact ⟨_, _, _, _, _, rfl, rfl⟩ | exact ⟨_, _, _, _, _, _, rfl, rfl⟩ | exact ⟨_, _, _, _, _, _, _, rfl, rfl⟩ | (refine' ⟨_, rfl, ?_, rfl⟩; walk_at "sd?") | (refine' ⟨_, _, rfl, ?_, rfl⟩; walk_at "sd?") | (refine' ⟨_, _, _, rfl, ?_, rfl⟩; walk_at "sd?") | (refine' ⟨_, _, _, _, rfl, ?_, rfl⟩; walk_at "sd?") | (refine' ⟨_, _, _, _, _, rfl, ?_, rfl⟩; walk_at "sd?") | (refine' ⟨_, _, _, _, _, _, rfl, ?_, rfl⟩; walk_at "sd?") | (refine' ⟨_, _, _, _, _, _, _, rfl, ?_, rfl⟩; walk_at "sd?"))
local macro_rules | `(tactic| walk_at "asg") => `(tactic| (apply xs_seq; apply xs_asgD; walk_at "xd"))
local macro_rules | `(tactic| walk_at "guard") => `(tactic| (apply xs_seq; apply xs_guard; walk_at "xt"; walk_at "sd?"))
local macro_rules | `(tactic| walk_at "ret") => `(tactic| (apply xs_retE; walk_at "xd"; exact rfl; walk_at "sd?"))
local macro_rules | `(tactic| walk_at "xt") => `(tactic| first
  | (apply xt_B; walk_at "xd") | (apply xt_T; walk_at "xd") | (apply xt_not; walk_at "xt") | (apply xt_and; walk_at "xt"; (intro _; walk_at "xt")) | (apply xt_or; walk_at "xt"; (intro _; walk_at "xt")) | exact xt_yes)
local macro_rules | `(tactic| walk_at "grd") => `(tactic| (apply xs_seq; apply xs_guard; walk_at "xt"))
local macro_rules | `(tactic| walk_at "grl") => `(tactic| (apply xs_guard; walk_at "xt"))
local macro_rules | `(tactic| walk_at "unp2") => `(tactic| (apply xs_seq; apply xs_asgG; walk_at "xd"; exact xg_tup (xgs_cons (xgs_cons xgs_nil)) rfl))
local macro_rules | `(tactic| walk_at "if") => `(tactic| (apply xs_seq; apply xs_if; walk_at "xt"))
local macro_rules | `(tactic| walk_at "drop") => `(tactic| (apply xs_seq; apply xs_drop; walk_at "xd"))

open Ma
theorem min_pair : ∀ (xs : List (Int × Int)) (x : Int × Int), PySem.W.minOf x xs ∈ x :: xs ∧ ∀ y ∈ x :: xs, (PySem.W.minOf x xs).1 ≤ y.1 := by
  intro xs
  induction xs with
  | nil =>
    intro x
    refine ⟨List.mem_cons_self, fun y hy => ?_⟩
    rw [List.mem_singleton.mp hy]
    exact Int.le_refl _
  | cons z xs ih =>
    intro x
    show PySem.W.minOf (if PySem.W.DatumOrd.lt z x = true then z else x) xs ∈ x :: z :: xs ∧ ∀ y ∈ x :: z :: xs, (PySem.W.minOf (if PySem.W.DatumOrd.lt z x = true then z else x) xs).1 ≤ y.1
    have hlt : PySem.W.DatumOrd.lt z x = if z.1 = x.1 then decide (z.2 < x.2) else decide (z.1 < x.1) := rfl
    by_cases c : PySem.W.DatumOrd.lt z x = true
    · rw [if_pos c]
      have c1 : z.1 ≤ x.1 := by
        rw [hlt] at c
        split at c
        · omega
        · have := of_decide_eq_true c
          omega
      obtain ⟨h1, h2⟩ := ih z
      refine ⟨List.mem_cons_of_mem _ h1, fun y hy => ?_⟩
      have hz := h2 z List.mem_cons_self
      rcases List.mem_cons.mp hy with rfl | hy
      · omega
      · exact h2 y hy
    · rw [if_neg c]
      have c1 : x.1 ≤ z.1 := by
        rw [hlt] at c
        split at c
        · omega
        · have := of_decide_eq_false (Bool.eq_false_iff.mpr c)
          omega
      obtain ⟨h1, h2⟩ := ih x
      refine ⟨?_, fun y hy => ?_⟩
      · rcases List.mem_cons.mp h1 with h1 | h1
        · rw [h1]
          exact List.mem_cons_self
        · exact List.mem_cons_of_mem _ (List.mem_cons_of_mem _ h1)
      · have hx := h2 x List.mem_cons_self
        rcases List.mem_cons.mp hy with rfl | hy
        · exact hx
        · rcases List.mem_cons.mp hy with rfl | hy
          · omega
          · exact h2 y (List.mem_cons_of_mem _ hy)
theorem can_prs : ∀ ps : List (Int × Int), PyData.canLayAll0 (D.pys (ps.map prD)) = true ∧ PyData.depthAll (D.pys (ps.map prD)) ≤ 1
  | [] => ⟨rfl, Nat.zero_le _⟩
  | p :: ps => by
    obtain ⟨h1, h2⟩ := can_prs ps
    refine ⟨?_, ?_⟩
    · show (true && PyData.canLayAll0 (D.pys (ps.map prD))) = true
      rw [h1]
      rfl
    · show max 1 (PyData.depthAll (D.pys (ps.map prD))) ≤ 1
      omega
theorem ceq_prs (ps : List (Int × Int)) : CEq (D.lst (ps.map prD)).py (D.lst []).py (decide (ps = [])) := by
  refine ⟨?_, rfl, ?_⟩
  · obtain ⟨h1, h2⟩ := can_prs ps
    show (PyData.canLayAll0 (D.pys (ps.map prD)) && decide (PyData.depthAll (D.pys (ps.map prD)) + 1 ≤ 64)) = true
    rw [h1, decide_eq_true (by omega)]
    rfl
  · cases ps with
    | nil => rfl
    | cons p ps =>
      rw [decide_eq_false (by simp)]
      rfl
section
variable {P : Program} {w : World} {K : PySem.W.Frag} {mg : Str → Option Value} {base : Heap}
/-- who is out first, and when -/
def BrokenO (k : Nat → Nat → Bool) (n T : Nat) (x : D) : Prop := (x = .non ∧ ∀ who, who < n → ∀ t, t < T → k who t = true) ∨ ∃ t who : Nat, x = prD (t, who) ∧ t < T ∧ who < n ∧ k who t = false ∧ ∀ who', who' < n → ∀ s, s < t → k who' s = true
def sg_broken_at : Sg := fun ds R => ∃ (ws h l : List Int) (F G vf : Int) (b : Bool), ds = [.lst (ID ws), run h l, .tup [fr F G, .bl b]] ∧ (LagC ws h l ∧ BdOk l.length F G vf) ∧ R = BrokenO (fun who t => keepsV b vf (lagV ws h l who t)) ws.length (h.length + l.length)
abbrev N_broken_at : List Str := ["weights", "running", "bound", "found", "who", "turns"]
theorem sc_broken_at : FnScope N_broken_at ["weights", "running", "bound"] (defScope (top 94)) := ⟨rfl, rfl, rfl, by decide +kernel, rfl, by decide +kernel, by decide +kernel⟩
abbrev H_broken_at (P : Program) (w : World) (K : PySem.W.Frag) (mg : Str → Option Value) (base : Heap) : Prop := Has P w K mg base "broken_at" 7 ["weights", "running", "bound"] (spX K sg_broken_at)

theorem ok_broken_at (B : Blt K mg) (Df : Dfd K mg "broken_at" 94) (h_first_out : H_first_out P w K mg base) (h_check_bound : H_check_bound P w K mg base) (h_check_among : H_check_among P w K mg base) : H_broken_at P w K mg base := by
  refine has_mk Df (fun _ _ _ _ _ _ us hl => match us, hl with | [_, _, _], _ => rfl) fun f fd F => ?_
  refine fn_ok F sc_broken_at (fun ds R ⟨_, _, _, _, _, _, _, e, _⟩ => e ▸ rfl) (fun cdv A outer s H E hr => ⟨_, (pss_cons (ps_expr (pe_callH h_check_among (hr.mono (by decide)) rfl (pa_cons (pv 0) (pa_cons (pv 1) pa_nil))))
    (pss_cons (ps_expr (pe_callH h_check_bound (hr.mono (by decide)) rfl (pa_cons (pv 2) pa_nil)))
    (pss_cons (ps_set (i := 3) sc_broken_at.nd rfl (by first | exact Or.inl rfl | exact Or.inr rfl) (pe_lst pa_nil))
    (pss_cons (ps_for PassesOwn.never rfl (pi_range1 rfl B.range (pa_cons (pe_callB cr_lenS rfl B.len bt_len (pa_cons (pv 0) pa_nil)) pa_nil)) (pg_name (i := 4) sc_broken_at.nd rfl (by first | exact Or.inl rfl | exact Or.inr rfl)) (pss_cons (ps_set (i := 5) sc_broken_at.nd rfl (by first | exact Or.inl rfl | exact Or.inr rfl) (pe_callH h_first_out (hr.mono (by decide)) rfl (pa_cons (pv 0) (pa_cons (pv 1) (pa_cons (pv 4) (pa_cons (pv 2) pa_nil))))))
    (pss_one (ps_if (pt_cmpR op_notNo (pv 5) pe_non (nomark _)) (pss_one (ps_expr (pe_bm PySem.F.plainAttrs_list PySem.F.slot_list_append PySem.F.type_list_append mt_append (pv 3) (pa_cons (pe_tup (pa_cons (pv 5) (pa_cons (pv 4) pa_nil))) pa_nil)))) pss_nil))))
    (pss_cons (ps_if (pt_cmpR (op_eqD hr.units) (pv 3) (pe_lst pa_nil) (nomark _)) (pss_one (ps_ret pe_non)) pss_nil)
    (pss_one (ps_ret (pe_callB (cr_minA (α := Int × Int) rfl hr.units) rfl B.min bt_min (pa_cons (pv 3) pa_nil))))))))), fun ds R h => ?_⟩)
  obtain ⟨ws, h, l, F, G, vf, b, rfl, ⟨c, B⟩, rfl⟩ := h
  have k6 := c.k6
  have hsz := c.sz
  have ew : ((ID ws).length : Nat) = ws.length := List.length_map _
  have hG : lim G := by
    have := B.pos
    have := B.le
    unfold lim
    omega
  apply xs_seq
  refine xs_drop (xe_call (xa_cons (xd_var rfl) (xa_cons (xd_var rfl) xa_nil)) ⟨ws, h, l, rfl, c, rfl⟩) ?_
  apply xs_seq
  refine xs_drop (xe_call (xa_cons (xd_var rfl) xa_nil) ⟨F, G, b, rfl, ⟨B.f0, B.pos, B.g1, B.big, hG⟩, rfl⟩) ?_
  apply xs_seq; apply xs_asgM xa_nil (by decide)
  apply xs_seq
  refine xs_forN (ys := intsD 0 ((ws.length : Nat) : Int).toNat) (fun i r => ∃ (ps : List (Int × Int)) (s4 s5 : Sl), r = [.d (.lst (ID ws)), .d (run h l), .d (.tup [fr F G, .bl b]), .l (ps.map prD), s4, s5] ∧ ps.length ≤ i ∧ (∀ p ∈ ps, ∃ t who : Nat, p = ((t : Int), (who : Int)) ∧ who < i ∧ t < h.length + l.length ∧ keepsV b vf (lagV ws h l who t) = false ∧ ∀ s, s < t → keepsV b vf (lagV ws h l who s) = true) ∧ ∀ who, who < i → (∀ t, t < h.length + l.length → keepsV b vf (lagV ws h l who t) = true) ∨ ∃ t : Nat, ((t : Int), (who : Int)) ∈ ps ∧ ∀ s, s < t → keepsV b vf (lagV ws h l who s) = true)
    (ix_rng1 (n := ((ws.length : Nat) : Int)) (xa_cons (XD.eq (xd_len (xl_of (xd_var rfl))) (by rw [ew])) xa_nil) (by omega) (by omega)) ⟨[], _, _, rfl, Nat.le_refl _, (fun p hp => nomatch hp), fun who hw => by omega⟩ (fun i y r hy hr => ?_) (fun r hr => ?_)
  · obtain ⟨ps, s4, s5, rfl, p0, p1, p2⟩ := hr
    have hi : i < ws.length := by
      have := (List.getElem?_eq_some_iff.mp hy).1
      rw [ints_len] at this
      omega
    rw [ints_at (by omega)] at hy
    cases hy
    rw [show (0 : Int) + ((i : Nat) : Int) = ((i : Nat) : Int) by omega]
    apply xs_seq
    refine xs_asg (xe_call (xa_cons (xd_var rfl) (xa_cons (xd_var rfl) (xa_cons (xd_var rfl) (xa_cons (xd_var rfl) xa_nil)))) ⟨ws, h, l, i, F, G, vf, b, rfl, ⟨c, hi, B⟩, rfl⟩) fun x hx => ?_
    obtain ⟨o, rfl, ho⟩ := hx
    cases o with
    | none =>
      refine xs_ifF (xt_T (xd_notN (x := .non) (xd_var rfl) xd_non)) (xs_next ⟨ps, _, _, rfl, by omega, fun p hp => ?_, fun who hw => ?_⟩)
      · obtain ⟨t, who, e1, e2, e3⟩ := p1 p hp
        exact ⟨t, who, e1, by omega, e3⟩
      · rcases Nat.lt_or_ge who i with cc | cc
        · exact p2 who cc
        · have : who = i := by omega
          rw [this]
          exact .inl ho
    | some v =>
      obtain ⟨t, rfl, t1, t2, t3⟩ := ho
      refine xs_ifT (xt_T (xd_notN (x := .int (t : Nat)) (xd_var rfl) xd_non)) ?_
      refine xs_app (xs := ps.map prD) (x := prD ((t : Int), (i : Int))) rfl (xd_tup (xa_cons (xd_var rfl) (xa_cons (xd_var rfl) xa_nil)) (by show 2 ≤ 100000; decide)) (by rw [List.length_map]; omega) ?_
      refine ⟨ps ++ [((t : Int), (i : Int))], .d (.int (i : Nat)), .d (.int (t : Nat)), ?_, by rw [List.length_append]; exact Nat.succ_le_succ p0, fun p hp => ?_, fun who hw => ?_⟩
      · rw [List.map_append]
        rfl
      · rcases List.mem_append.mp hp with hp | hp
        · obtain ⟨t, who, e1, e2, e3⟩ := p1 p hp
          exact ⟨t, who, e1, by omega, e3⟩
        · exact ⟨t, i, List.mem_singleton.mp hp, by omega, t1, t2, t3⟩
      · rcases Nat.lt_or_ge who i with cc | cc
        · rcases p2 who cc with q | ⟨t', q1, q2⟩
          · exact .inl q
          · exact .inr ⟨t', List.mem_append_left _ q1, q2⟩
        · have : who = i := by omega
          rw [this]
          exact .inr ⟨t, List.mem_append_right _ List.mem_cons_self, t3⟩
  · obtain ⟨ps, s4, s5, rfl, p0, p1, p2⟩ := hr
    rw [ints_len, Int.toNat_natCast] at p0 p1 p2
    apply xs_seq
    refine xs_if (b := decide (ps = [])) (xt_T (xd_eqDM (b := .lst []) (xm_own rfl) (xd_lst xa_nil (by decide)) (ceq_prs ps))) (fun hb => ?_) fun hb => ?_
    · have hb := of_decide_eq_true hb
      subst hb
      refine xs_ret (R := Eq .non) xd_non fun x hx => .inl ⟨hx.symm, fun who hw => ?_⟩
      rcases p2 who hw with q | ⟨t', q1, q2⟩
      · exact q
      · cases q1
    · have hb := of_decide_eq_false hb
      refine xs_next ?_
      cases ps with
      | nil => exact absurd rfl hb
      | cons p ps =>
        obtain ⟨m1, m2⟩ := min_pair ps p
        refine xs_ret (R := Eq (prD (PySem.W.minOf p ps))) (xd_minP (xl_own rfl)) fun x hx => ?_
        obtain ⟨t, who, e1, e2, e3, e4, e5⟩ := p1 _ m1
        refine .inr ⟨t, who, by rw [← hx, e1], e3, e2, e4, fun who' hw' s hs => ?_⟩
        rcases p2 who' hw' with q | ⟨t', q1, q2⟩
        · exact q s (by omega)
        · have := m2 _ q1
          rw [e1] at this
          have this : (t : Int) ≤ (t' : Int) := this
          exact q2 s (by omega)
/-! the law's own helpers -/
def cellF (ns : List Int) (k : Nat) : Int := if k < ns.length then ns.getD k 0 else 0
def sg__law_cell_at : Sg := fun ds R => ∃ (ns : List Int) (k : Nat), ds = [.rlst (ID ns), .int k] ∧ R = Eq (.int (cellF ns k))
abbrev N__law_cell_at : List Str := ["_law_script", "_law_k"]
theorem sc__law_cell_at : FnScope N__law_cell_at ["_law_script", "_law_k"] (defScope (top 96)) := ⟨rfl, rfl, rfl, by decide +kernel, rfl, by decide +kernel, by decide +kernel⟩
abbrev H__law_cell_at (P : Program) (w : World) (K : PySem.W.Frag) (mg : Str → Option Value) (base : Heap) : Prop := Has P w K mg base "_law_cell_at" 1 ["_law_script", "_law_k"] (spX K sg__law_cell_at)

theorem ok__law_cell_at (B : Blt K mg) (Df : Dfd K mg "_law_cell_at" 96)  : H__law_cell_at P w K mg base := by
  refine has_mk Df (fun _ _ _ _ _ _ us hl => match us, hl with | [_, _], _ => rfl) fun f fd F => ?_
  refine fn_ok F sc__law_cell_at (fun ds R ⟨_, _, e, _⟩ => e ▸ rfl) (fun cdv A outer s H E hr => ⟨_, (pss_cons (ps_if (pt_cmpR op_lt (pv 1) (pe_callB cr_lenS rfl B.len bt_len (pa_cons (pv 0) pa_nil)) (nomark _)) (pss_one (ps_ret (pe_ix ix_list (pv 0) (pv 1) (fun _ _ => rfl)))) pss_nil)
    (pss_one (ps_ret pe_int))), fun ds R h => ?_⟩)
  obtain ⟨ns, k, rfl, rfl⟩ := h
  have el : ((ID ns).length : Nat) = ns.length := List.length_map _
  unfold cellF
  apply xs_seq
  refine xs_if (b := decide ((k : Int) < ns.length)) (xt_T (XD.eq (xd_lt (xd_var rfl) (xd_len (xl_r (xd_var rfl)))) (by rw [el]))) (fun hb => ?_) fun hb => ?_
  · have hb := of_decide_eq_true hb
    refine xs_retE (xd_ixI (xl_r (xd_var rfl)) (xd_var rfl) (by omega)) rfl ?_
    rw [if_pos (by omega), Int.toNat_natCast]
  · have hb := of_decide_eq_false hb
    refine xs_next ?_
    refine xs_retE xd_int rfl ?_
    rw [if_neg (by omega)]
def divs (c b : Int) : Nat → Int
  | 0 => c
  | j + 1 => (divs c b j).fdiv b
def stir1 (c : Int) (k : Nat) : Int := ((c.fmod 1000000007 + 1009 * (k : Int) + 17) * 69621).fmod 2147483647
def stir2 (c : Int) (k : Nat) : Int := (stir1 c k * stir1 c k + 40503 * (k : Int) + 5).fmod 2147483629
def drawF (c : Int) (k : Nat) (b : Int) : Int := if 10 ^ 18 ≤ c then (divs c b k).fmod b else (((stir2 c k * 48271).fmod 2147483647).fdiv 32).fmod b
theorem fmod_in (a : Int) {b : Int} (h : 0 < b) : 0 ≤ a.fmod b ∧ a.fmod b < b := ⟨Int.fmod_nonneg_of_pos a h, Int.fmod_lt_of_pos a h⟩
theorem drawF_in (c : Int) (k : Nat) {b : Int} (h : 0 < b) : 0 ≤ drawF c k b ∧ drawF c k b < b := by
  unfold drawF
  split
  · exact fmod_in _ h
  · exact fmod_in _ h
def sg__law_draw : Sg := fun ds R => ∃ (c : Int) (k : Nat) (b : Int), ds = [.int c, .int k, .int b] ∧ (k ≤ 1000 ∧ 0 < b ∧ b ≤ 1000) ∧ R = Eq (.int (drawF c k b))
abbrev N__law_draw : List Str := ["_law_cell", "_law_k", "_law_bound", "_law_stir", "_law_left", "_law_j"]
theorem sc__law_draw : FnScope N__law_draw ["_law_cell", "_law_k", "_law_bound"] (defScope (top 97)) := ⟨rfl, rfl, rfl, by decide +kernel, rfl, by decide +kernel, by decide +kernel⟩
abbrev H__law_draw (P : Program) (w : World) (K : PySem.W.Frag) (mg : Str → Option Value) (base : Heap) : Prop := Has P w K mg base "_law_draw" 1 ["_law_cell", "_law_k", "_law_bound"] (spX K sg__law_draw)

theorem ok__law_draw (B : Blt K mg) (Df : Dfd K mg "_law_draw" 97)  : H__law_draw P w K mg base := by
  refine has_mk Df (fun _ _ _ _ _ _ us hl => match us, hl with | [_, _, _], _ => rfl) fun f fd F => ?_
  refine fn_ok F sc__law_draw (fun ds R ⟨_, _, _, e, _⟩ => e ▸ rfl) (fun cdv A outer s H E hr => ⟨_, (pss_cons (ps_if (pt_cmpR op_ge (pv 0) (pe_op op_pow pe_int pe_int) (nomark _)) (pss_cons (ps_set (i := 4) sc__law_draw.nd rfl (by first | exact Or.inl rfl | exact Or.inr rfl) (pv 0))
    (pss_cons (ps_for PassesOwn.never rfl (pi_range1 rfl B.range (pa_cons (pv 1) pa_nil)) (pg_name (i := 5) sc__law_draw.nd rfl (by first | exact Or.inl rfl | exact Or.inr rfl)) (pss_one (ps_set (i := 4) sc__law_draw.nd rfl (by first | exact Or.inl rfl | exact Or.inr rfl) (pe_op op_fdivN (pv 4) (pv 2)))))
    (pss_one (ps_ret (pe_op op_modN (pv 4) (pv 2)))))) pss_nil)
    (pss_cons (ps_set (i := 3) sc__law_draw.nd rfl (by first | exact Or.inl rfl | exact Or.inr rfl) (pe_op op_modN (pe_op op_mul (pe_op op_add (pe_op op_add (pe_op op_modN (pv 0) pe_int) (pe_op op_mul pe_int (pv 1))) pe_int) pe_int) pe_int))
    (pss_cons (ps_set (i := 3) sc__law_draw.nd rfl (by first | exact Or.inl rfl | exact Or.inr rfl) (pe_op op_modN (pe_op op_add (pe_op op_add (pe_op op_mul (pv 3) (pv 3)) (pe_op op_mul pe_int (pv 1))) pe_int) pe_int))
    (pss_one (ps_ret (pe_op op_modN (pe_op op_fdivN (pe_op op_modN (pe_op op_mul (pv 3) pe_int) pe_int) pe_int) (pv 2))))))), fun ds R h => ?_⟩)
  obtain ⟨c, k, b, rfl, ⟨h0, h1, h2⟩, rfl⟩ := h
  unfold drawF
  apply xs_seq
  refine xs_if (b := decide (10 ^ 18 ≤ c)) (xt_T (xd_ge (xd_var rfl) (xd_pow xd_int xd_int ?_))) (fun hb => ?_) fun hb => ?_
  · unfold CPow
    decide
  · have hb := of_decide_eq_true hb
    walk_at "asg"
    apply xs_seq
    refine xs_forN (ys := intsD 0 ((k : Int)).toNat) (fun i r => ∃ s4 s5, r = [.d (.int c), .d (.int k), .d (.int b), s4, .d (.int (divs c b i)), s5]) (ix_rng1 (xa_cons (xd_var rfl) xa_nil) (by omega) (by omega)) ⟨_, _, rfl⟩ (fun i y r hy hr => ?_) (fun r hr => ?_)
    · obtain ⟨s4, s5, rfl⟩ := hr
      refine xs_asgD (xd_fdiv (xd_var rfl) (xd_var rfl) ⟨by omega, by omega⟩) ⟨_, _, rfl⟩
    · obtain ⟨s4, s5, rfl⟩ := hr
      rw [ints_len, Int.toNat_natCast]
      refine xs_retE (xd_mod (xd_var rfl) (xd_var rfl) (by omega)) rfl ?_
      rw [if_pos hb]
  · have hb := of_decide_eq_false hb
    refine xs_next ?_
    have f0 := fmod_in c (b := 1000000007) (by decide)
    apply xs_seq
    refine xs_asgD (x := .int (stir1 c k)) (xd_mod (xd_mul (xd_add (xd_add (xd_mod (xd_var rfl) xd_int (by decide)) (xd_mul xd_int (xd_var rfl) ?_)) xd_int) xd_int ?_) xd_int (by decide)) ?_
    · exact .inl ⟨by decide, by decide⟩
    · exact .inr ⟨by decide, by decide⟩
    have f1 := fmod_in ((c.fmod 1000000007 + 1009 * (k : Int) + 17) * 69621) (b := 2147483647) (by decide)
    have f1 : 0 ≤ stir1 c k ∧ stir1 c k < 2147483647 := f1
    apply xs_seq
    refine xs_asgD (x := .int (stir2 c k)) (xd_mod (xd_add (xd_add (xd_mul (xd_var rfl) (xd_var rfl) ?_) (xd_mul xd_int (xd_var rfl) ?_)) xd_int) xd_int (by decide)) ?_
    · exact .inl ⟨by omega, by omega⟩
    · exact .inl ⟨by decide, by decide⟩
    refine xs_retE (xd_mod (xd_fdiv (xd_mod (xd_mul (xd_var rfl) xd_int ?_) xd_int (by decide)) xd_int ⟨by decide, by decide⟩) (xd_var rfl) (by omega)) rfl ?_
    · exact .inr ⟨by decide, by decide⟩
    · rw [if_neg hb]
end
end Dx
end

section
set_option Elab.async false
set_option linter.all false
set_option maxRecDepth 100000
set_option maxHeartbeats 4000000
namespace Dx
open PySem PySem.Spec PyProof.Rows L2 Evl RZ
local macro_rules | `(tactic| walk_at "sd") => `(tactic| first | rfl | assumption | omega | exact Nat.le_of_ble_eq_true rfl | exact decide_eq_false (by omega) | exact decide_eq_true (by omega) | decide | (constructor <;> omega) | (simp only [List.length_map]; omega) | (simp only [List.length_map]; constructor <;> omega))
local macro_rules | `(tactic| walk_at "sd?") => `(tactic| first | walk_at "sd" | rotate_left)
local macro_rules | `(tactic| walk_at "xl") => `(tactic| first | exact xl_own rfl | (apply xl_of; walk_at "xd") | (apply xl_r; walk_at "xd"))
local macro_rules | `(tactic| walk_at "xm") => `(tactic| first | exact xm_own rfl | (apply xm_of; walk_at "xd"))
local macro_rules | `(tactic| walk_at "xu") => `(tactic| first | (apply xu_of; walk_at "xd") | (apply xu_r; walk_at "xd") | (apply xu_k; walk_at "xd"))
local macro_rules | `(tactic| walk_at "xa") => `(tactic| first | exact xa_nil | (apply xa_cons; walk_at "xd"; walk_at "xa"))
local macro_rules | `(tactic| walk_at "xo") => `(tactic| first | exact xo_none | (apply xo_some; walk_at "xd"))
local macro_rules | `(tactic| walk_at "xd") => `(tactic| first
  | exact xd_int | exact xd_str | exact xd_bl | exact xd_non | exact xd_var rfl
  | (apply xd_add; walk_at "xd"; walk_at "xd") | (apply xd_sub; walk_at "xd"; walk_at "xd") | (apply xd_neg; walk_at "xd")
  | (apply xd_mul; walk_at "xd"; walk_at "xd"; walk_at "sd?") | (apply xd_fdiv; walk_at "xd"; walk_at "xd"; walk_at "sd?") | (apply xd_mod; walk_at "xd"; walk_at "xd"; walk_at "sd?")
  | (apply xd_lt; walk_at "xd"; walk_at "xd") | (apply xd_le; walk_at "xd"; walk_at "xd") | (apply xd_gt; walk_at "xd"; walk_at "xd") | (apply xd_ge; walk_at "xd"; walk_at "xd")
  | (apply xd_chainLe; walk_at "xd"; walk_at "xd"; walk_at "xd")
  | (apply xd_eqI; walk_at "xd"; walk_at "xd") | (apply xd_neI; walk_at "xd"; walk_at "xd") | (apply xd_eqS; walk_at "xd"; walk_at "xd") | (apply xd_neS; walk_at "xd"; walk_at "xd")
  | (apply xd_isN; walk_at "xd"; walk_at "xd") | (apply xd_notN; walk_at "xd"; walk_at "xd")
  | (apply xd_not; walk_at "xd") | (apply xd_and; walk_at "xd"; (intro _; walk_at "xd")) | (apply xd_or; walk_at "xd"; (intro _; walk_at "xd"))
  | (apply xd_ixT; walk_at "xu"; walk_at "xd"; rfl) | (apply xd_ixIU; walk_at "xu"; walk_at "xd"; walk_at "sd?") | (apply xd_ixI; walk_at "xl"; walk_at "xd"; walk_at "sd?") | (apply xd_ixL; walk_at "xl"; walk_at "xd"; walk_at "sd?")
  | (apply xd_tup; walk_at "xa"; walk_at "sd?") | (apply xd_lst; walk_at "xa"; walk_at "sd?")
  | (apply xd_len; walk_at "xl") | (apply xd_lenU; walk_at "xu") | (apply xd_abs; walk_at "xd") | (apply xd_min2; walk_at "xd"; walk_at "xd")
  | (apply xd_isi; walk_at "xd"; (first | exact kb_int | exact kb_int_bool | exact kb_tuple | exact kb_list | exact kb_str | exact kb_bool_bool))
  | (apply xd_slL; walk_at "xl"; walk_at "xo"; walk_at "xo") | (apply xd_slT; walk_at "xd"; walk_at "xo"; walk_at "xo")
  | (apply xd_cat; walk_at "xm"; walk_at "xm"; walk_at "sd?") | (apply xd_catT; walk_at "xd"; walk_at "xd"; walk_at "sd?")
  | (apply xd_list; walk_at "xl") | (apply xd_listU; walk_at "xu") | (apply xd_tuple; walk_at "xl") | (apply xd_tupleT; walk_at "xd")
  | (apply xd_slk; walk_at "xd"; walk_at "xo"; walk_at "xo") | (apply xd_catK; walk_at "xd"; walk_at "xd"; walk_at "sd?") | exact xd_tupK0 | (apply xd_tupK1; walk_at "xd")
  | (apply xe_call; walk_at "xa"; walk_at "sg"))
local macro_rules | `(tactic| walk_at "sg") => `(tactic| first | exact ⟨_, rfl, rfl⟩ | exact ⟨_, _, rfl, rfl⟩ | exact ⟨_, _, _, rfl, rfl⟩ | exact ⟨_, _, _, _, rfl, rfl⟩ | exact ⟨_, _, _, _, _, rfl, rfl⟩ | exact ⟨_, _, _, _, _, _, rfl, rfl⟩ | exact ⟨_, _, _, _, _, _, _, rfl, rfl⟩ | (refine' ⟨_, rfl, ?_, rfl⟩; walk_at "sd?") | (refine' ⟨_, _, rfl, ?_, rfl⟩; walk_at "sd?") | (refine' ⟨_, _, _, rfl, ?_, rfl⟩; walk_at "sd?") | (refine' ⟨_, _, _, _, rfl, ?_, rfl⟩; walk_at "sd?") | (refine' ⟨_, _, _, _, _, rfl, ?_, rfl⟩; walk_at "sd?") | (refine' ⟨_, _, _, _, _, _, rfl, ?_, rfl⟩; walk_at "sd?") | (refine' ⟨_, _, _, _, _, _, _, rfl, ?_, rfl⟩; walk_at "sd?"))
local macro_rules | `(tactic| walk_at "asg") => `(tactic| (apply xs_seq; apply xs_asgD; walk_at "xd"))
local macro_rules | `(tactic| walk_at "guard") => `(tactic| (apply xs_seq; apply xs_guard; walk_at "xt"; walk_at "sd?"))
local macro_rules | `(tactic| walk_at "ret") => `(tactic| (apply xs_retE; walk_at "xd"; exact rfl; walk_at "sd?"))
local macro_rules | `(tactic| walk_at "xt") => `(tactic| first
  | (apply xt_B; walk_at "xd") | (apply xt_T; walk_at "xd") | (apply xt_not; walk_at "xt") | (apply xt_and; walk_at "xt"; (intro _; walk_at "xt")) | (apply xt_or; walk_at "xt"; (intro _; walk_at "xt")) | exact xt_yes)
local macro_rules | `(tactic| walk_at "grd") => `(tactic| (apply xs_seq; apply xs_guard; walk_at "xt"))
local macro_rules | `(tactic| walk_at "grl") => `(tactic| (apply xs_guard; walk_at "xt"))
local macro_rules | `(tactic| walk_at "unp2") => `(tactic| (apply xs_seq; apply xs_asgG; walk_at "xd"; exact xg_tup (xgs_cons (xgs_cons xgs_nil)) rfl))
local macro_rules | `(tactic| walk_at "if") => `(tactic| (apply xs_seq; apply xs_if; walk_at "xt"))
local macro_rules | `(tactic| walk_at "drop") => `(tactic| (apply xs_seq; apply xs_drop; walk_at "xd"))

open Ma
local macro_rules | `(tactic| walk_at "stl") => `(tactic| first | (apply xd_eqSk; walk_at "xd"; walk_at "xd"; decide +kernel) | (apply xd_in3; walk_at "xd"; walk_at "xu"; decide +kernel) | (apply xd_in2; walk_at "xd"; walk_at "xu"; decide +kernel))
section
variable {K : PySem.W.Frag} {ρ : List Sl} {ta tb tc te ti : TE} {E0' : XK}
theorem xd_draw {c b : Int} (k : Nat) (ha : XD K ta ρ (.int c)) (hb : XD K tb ρ (.int (k : Nat))) (hc : XD K tc ρ (.int b)) (h : k ≤ 1000 ∧ 0 < b ∧ b ≤ 1000) : XD K (tCall (spX K sg__law_draw) [] E0' (tCons ta (tCons tb (tCons tc tNil)))) ρ (.int (drawF c k b)) :=
  xe_call (xa_cons ha (xa_cons hb (xa_cons hc xa_nil))) ⟨c, k, b, rfl, h, rfl⟩
theorem xd_cell {ns : List Int} (k : Nat) (ha : XD K ta ρ (.rlst (ID ns))) (hb : XD K tb ρ (.int (k : Nat))) : XD K (tCall (spX K sg__law_cell_at) [] E0' (tCons ta (tCons tb tNil))) ρ (.int (cellF ns k)) :=
  xe_call (xa_cons ha (xa_cons hb xa_nil)) ⟨ns, k, rfl, rfl⟩
theorem xd_pick {a b : D} {i : Int} (ha : XD K ta ρ a) (hb : XD K tb ρ b) (hi : XD K ti ρ (.int i)) (h : i = 0 ∨ i = 1) : XD K (tOp (rIxL K) (tLst (tCons ta (tCons tb tNil))) ti) ρ (if i = 0 then a else b) := by
  refine xd_ixL (xs := [a, b]) (xl_of (xd_lst (xa_cons ha (xa_cons hb xa_nil)) (by show 2 ≤ 100000; decide))) hi ?_
  rcases h with rfl | rfl
  · rfl
  · rfl
end
/-- a sentence as the law draws it -/
structure SG (m far : Int) (d : Nat) (s : Sent) : Prop where
  ok : AllOk m s
  dp : dep s ≤ d
  fr : ∀ t ∈ vis s, ∀ b ∈ backOf t, b ≤ far
theorem vis_plain {s : Sent} (h : s.parts = []) : vis s = [s] := by rw [vis_parts, h, visR_nil]
theorem sg_plain {m far : Int} {s : Sent} (hp : s.parts = []) (h : nodeOk m s) (hd : dep s ≤ 1) (hb : ∀ b ∈ backOf s, b ≤ far) : SG m far 1 s :=
  ⟨fun t ht => by rw [vis_plain hp] at ht; rw [List.mem_singleton.mp ht]; exact h, hd, fun t ht => by rw [vis_plain hp] at ht; rw [List.mem_singleton.mp ht]; exact hb⟩
theorem SG.up {m far : Int} {d e : Nat} {s : Sent} (h : SG m far d s) (l : d ≤ e) : SG m far e s := ⟨h.ok, Nat.le_trans h.dp l, h.fr⟩
theorem mem_visR2 : ∀ {ss : List Sent} {t : Sent}, t ∈ visR ss → ∃ s ∈ ss, t ∈ vis s
  | s :: ss, t, h => by
    rw [visR_cons] at h
    rcases List.mem_append.mp h with h | h
    · obtain ⟨u, hu, ht⟩ := mem_visR2 h
      exact ⟨u, List.mem_cons_of_mem _ hu, ht⟩
    · exact ⟨s, List.mem_cons_self, h⟩
theorem sg_node {m far : Int} {d : Nat} {s : Sent} (hd : dep s ≤ d + 1) (hn : nodeOk m s) (hb : backOf s = []) (h : ∀ p ∈ s.parts, SG m far d p) : SG m far (d + 1) s := by
  refine ⟨fun t ht => ?_, hd, fun t ht => ?_⟩
  · rw [vis_parts] at ht
    rcases List.mem_cons.mp ht with rfl | ht
    · exact hn
    · obtain ⟨u, hu, hut⟩ := mem_visR2 ht
      exact (h u hu).ok t hut
  · rw [vis_parts] at ht
    rcases List.mem_cons.mp ht with rfl | ht
    · rw [hb]
      exact fun b hb => nomatch hb
    · obtain ⟨u, hu, hut⟩ := mem_visR2 ht
      exact (h u hu).fr t hut
theorem sg_not {m far : Int} {d : Nat} {s : Sent} (h : SG m far d s) : SG m far (d + 1) (.nt s) := sg_node (Nat.succ_le_succ h.dp) trivial rfl fun p hp => by rw [List.mem_singleton.mp hp]; exact h
theorem sg_an {m far : Int} {d : Nat} {ss : List Sent} (h1 : 1 ≤ d) (hl : ss.length ≤ 4) (h : ∀ s ∈ ss, SG m far d s) : SG m far (d + 1) (.an ss) ∧ SG m far (d + 1) (.orr ss) := by
  have hd : deps ss ≤ d := deps_of fun s hs => (h s hs).dp
  exact ⟨sg_node (by show max 1 (deps ss) + 1 ≤ d + 1; omega) hl rfl h, sg_node (by show max 1 (deps ss) + 1 ≤ d + 1; omega) hl rfl h⟩
def plainF (c m far : Int) : Sent :=
  if drawF c 2 3 = 2 ∧ 1 < m then .more (drawF c 0 m) ((drawF c 0 m + 1 + (drawF c 3 60).fmod (m - 1)).fmod m) (1 + drawF c 1 far)
  else if drawF c 2 3 = 0 then .went (drawF c 0 m) (1 + drawF c 1 far)
  else .often (drawF c 0 m) (1 + drawF c 1 far) (1 + (drawF c 4 60).fmod (1 + drawF c 1 far))
theorem plain_ok {c m far : Int} (h1 : 1 ≤ m) (f1 : 1 ≤ far) (f5 : far ≤ 5) : SG m far 1 (plainF c m far) := by
  have w := drawF_in c 0 (b := m) (by omega)
  have b := drawF_in c 1 (b := far) (by omega)
  unfold plainF
  split
  · rename_i hc
    have o := fmod_in (drawF c 0 m + 1 + (drawF c 3 60).fmod (m - 1)) (b := m) (by omega)
    have q := fmod_in (drawF c 3 60) (b := m - 1) (by omega)
    refine sg_plain rfl ⟨w.1, w.2, by omega, by omega, o.1, o.2, fun z => ?_⟩ (Nat.le_refl _) fun b' hb => by rw [List.mem_singleton.mp hb]; omega
    -- who + 1 + q is not who, turned round by m
    have e := Int.emod_add_mul_ediv (drawF c 0 m + 1 + (drawF c 3 60).fmod (m - 1)) m
    rw [Int.fmod_eq_emod_of_nonneg _ (show (0 : Int) ≤ m by omega)] at z
    rw [z] at e
    have hx : m * ((drawF c 0 m + 1 + (drawF c 3 60).fmod (m - 1)) / m) = 1 + (drawF c 3 60).fmod (m - 1) := by omega
    generalize (drawF c 0 m + 1 + (drawF c 3 60).fmod (m - 1)) / m = y at hx
    rcases Int.lt_trichotomy y 0 with c1 | c1 | c1
    · have := Int.mul_neg_of_pos_of_neg (show (0 : Int) < m by omega) c1
      omega
    · rw [c1, Int.mul_zero] at hx
      omega
    · have := Int.mul_le_mul_of_nonneg_left (show 1 ≤ y from c1) (show (0 : Int) ≤ m by omega)
      rw [Int.mul_one] at this
      omega
  · split
    · exact sg_plain rfl ⟨w.1, w.2, by omega, by omega⟩ (Nat.le_refl _) fun b' hb => by rw [List.mem_singleton.mp hb]; omega
    · have n := fmod_in (drawF c 4 60) (b := 1 + drawF c 1 far) (by omega)
      exact sg_plain rfl ⟨w.1, w.2, by omega, by omega, by omega, by omega⟩ (Nat.le_refl _) fun b' hb => by rw [List.mem_singleton.mp hb]; omega
theorem plain_parts (c m far : Int) : (plainF c m far).parts = [] := by
  unfold plainF
  split
  · rfl
  · split <;> rfl
section
variable {P : Program} {w : World} {K : PySem.W.Frag} {mg : Str → Option Value} {base : Heap}
def sg__law_plain_sentence : Sg := fun ds R => ∃ c m far, ds = [.int c, .int m, .int far] ∧ (1 ≤ m ∧ m ≤ 6 ∧ 1 ≤ far ∧ far ≤ 5) ∧ R = Eq (sd (plainF c m far))
abbrev N__law_plain_sentence : List Str := ["_law_cell", "_law_many", "_law_far", "_law_who", "_law_back", "_law_kind"]
theorem sc__law_plain_sentence : FnScope N__law_plain_sentence ["_law_cell", "_law_many", "_law_far"] (defScope (top 98)) := ⟨rfl, rfl, rfl, by decide +kernel, rfl, by decide +kernel, by decide +kernel⟩
abbrev H__law_plain_sentence (P : Program) (w : World) (K : PySem.W.Frag) (mg : Str → Option Value) (base : Heap) : Prop := Has P w K mg base "_law_plain_sentence" 2 ["_law_cell", "_law_many", "_law_far"] (spX K sg__law_plain_sentence)

theorem ok__law_plain_sentence (B : Blt K mg) (Df : Dfd K mg "_law_plain_sentence" 98) (h__law_draw : H__law_draw P w K mg base) : H__law_plain_sentence P w K mg base := by
  refine has_mk Df (fun _ _ _ _ _ _ us hl => match us, hl with | [_, _, _], _ => rfl) fun f fd F => ?_
  refine fn_ok F sc__law_plain_sentence (fun ds R ⟨_, _, _, e, _⟩ => e ▸ rfl) (fun cdv A outer s H E hr => ⟨_, (pss_cons (ps_set (i := 3) sc__law_plain_sentence.nd rfl (by first | exact Or.inl rfl | exact Or.inr rfl) (pe_callH h__law_draw (hr.mono (by decide)) rfl (pa_cons (pv 0) (pa_cons pe_int (pa_cons (pv 1) pa_nil)))))
    (pss_cons (ps_set (i := 4) sc__law_plain_sentence.nd rfl (by first | exact Or.inl rfl | exact Or.inr rfl) (pe_op op_add pe_int (pe_callH h__law_draw (hr.mono (by decide)) rfl (pa_cons (pv 0) (pa_cons pe_int (pa_cons (pv 2) pa_nil))))))
    (pss_cons (ps_set (i := 5) sc__law_plain_sentence.nd rfl (by first | exact Or.inl rfl | exact Or.inr rfl) (pe_callH h__law_draw (hr.mono (by decide)) rfl (pa_cons (pv 0) (pa_cons pe_int (pa_cons pe_int pa_nil)))))
    (pss_cons (ps_if (PW.pt (pw_and (pt_cmpR op_eq (pv 5) pe_int (nomark _)) (pw_and1 (pt_cmpR op_gt (pv 1) pe_int (nomark _))))) (pss_one (ps_ret (pe_tup (pa_cons pe_str (pa_cons (pv 3) (pa_cons (pe_op op_modN (pe_op op_add (pe_op op_add (pv 3) pe_int) (pe_op op_modN (pe_callH h__law_draw (hr.mono (by decide)) rfl (pa_cons (pv 0) (pa_cons pe_int (pa_cons pe_int pa_nil)))) (pe_op op_sub (pv 1) pe_int))) (pv 1)) (pa_cons (pv 4) pa_nil))))))) pss_nil)
    (pss_cons (ps_if (pt_cmpR op_eq (pv 5) pe_int (nomark _)) (pss_one (ps_ret (pe_tup (pa_cons pe_str (pa_cons (pv 3) (pa_cons (pv 4) pa_nil)))))) pss_nil)
    (pss_one (ps_ret (pe_tup (pa_cons pe_str (pa_cons (pv 3) (pa_cons (pv 4) (pa_cons (pe_op op_add pe_int (pe_op op_modN (pe_callH h__law_draw (hr.mono (by decide)) rfl (pa_cons (pv 0) (pa_cons pe_int (pa_cons pe_int pa_nil)))) (pv 4))) pa_nil)))))))))))), fun ds R h => ?_⟩)
  obtain ⟨c, m, far, rfl, ⟨h1, h2, h3, h4⟩, rfl⟩ := h
  have w0 := drawF_in c 0 (b := m) (by omega)
  have b0 := drawF_in c 1 (b := far) (by omega)
  unfold plainF
  apply xs_seq; apply xs_asgD (xd_draw 0 (xd_var rfl) xd_int (xd_var rfl) ⟨by decide, by omega, by omega⟩)
  apply xs_seq; apply xs_asgD (xd_add xd_int (xd_draw 1 (xd_var rfl) xd_int (xd_var rfl) ⟨by decide, by omega, by omega⟩))
  apply xs_seq; apply xs_asgD (xd_draw 2 (xd_var rfl) xd_int xd_int ⟨by decide, by decide, by decide⟩)
  apply xs_seq
  refine xs_if (b := decide (drawF c 2 3 = 2) && decide (1 < m)) (xt_and (xt_T (xd_eqI (xd_var rfl) xd_int)) fun _ => xt_T (xd_gt (xd_var rfl) xd_int)) (fun hb => ?_) fun hb => ?_
  · rw [Bool.and_eq_true] at hb
    have b1 := of_decide_eq_true hb.1
    have b2 := of_decide_eq_true hb.2
    rw [if_pos ⟨b1, b2⟩]
    refine xs_retD (xd_tup (xa_cons xd_str (xa_cons (xd_var rfl) (xa_cons (xd_mod (xd_add (xd_add (xd_var rfl) xd_int) (xd_mod (xd_draw 3 (xd_var rfl) xd_int xd_int ⟨by decide, by decide, by decide⟩) (xd_sub (xd_var rfl) xd_int) (by omega))) (xd_var rfl) (by omega)) (xa_cons (xd_var rfl) xa_nil)))) (by show 4 ≤ 100000; decide)) rfl
  · have hn : ¬ (drawF c 2 3 = 2 ∧ 1 < m) := fun z => by
      rw [decide_eq_true z.1, decide_eq_true z.2] at hb
      cases hb
    rw [if_neg hn]
    refine xs_next ?_
    apply xs_seq
    refine xs_if (b := decide (drawF c 2 3 = 0)) (xt_T (xd_eqI (xd_var rfl) xd_int)) (fun hb => ?_) fun hb => ?_
    · rw [if_pos (of_decide_eq_true hb)]
      exact xs_retD (xd_tup (xa_cons xd_str (xa_cons (xd_var rfl) (xa_cons (xd_var rfl) xa_nil))) (by show 3 ≤ 100000; decide)) rfl
    · rw [if_neg (of_decide_eq_false hb)]
      refine xs_next ?_
      exact xs_retD (xd_tup (xa_cons xd_str (xa_cons (xd_var rfl) (xa_cons (xd_var rfl) (xa_cons (xd_add xd_int (xd_mod (xd_draw 4 (xd_var rfl) xd_int xd_int ⟨by decide, by decide, by decide⟩) (xd_var rfl) (by omega))) xa_nil)))) (by show 4 ≤ 100000; decide)) rfl
/-! size -/
theorem visR_len : ∀ ss : List Sent, (((visR ss).length : Nat) : Int) = (ss.map fun s => (((vis s).length : Nat) : Int)).sum
  | [] => rfl
  | s :: ss => by
    rw [visR_cons, List.length_append, List.map_cons, List.sum_cons, ← visR_len ss]
    omega
def sg__law_sizeN (n : Nat) : Sg := fun ds R => ∃ s m, ds = [sd s] ∧ (AllOk m s ∧ dep s ≤ n) ∧ R = Eq (.int ((vis s).length : Nat))
def sg__law_size : Sg := sg__law_sizeN 4
abbrev N__law_size : List Str := ["_law_sentence_here", "_law_one"]
theorem sc__law_size : FnScope N__law_size ["_law_sentence_here"] (defScope (top 99)) := ⟨rfl, rfl, rfl, by decide +kernel, rfl, by decide +kernel, by decide +kernel⟩
abbrev H__law_size (P : Program) (w : World) (K : PySem.W.Frag) (mg : Str → Option Value) (base : Heap) : Prop := Has P w K mg base "_law_size" 6 ["_law_sentence_here"] (spX K sg__law_size)

theorem size_base (B : Blt K mg) (Df : Dfd K mg "_law_size" 99) : Has P w K mg base "_law_size" 3 ["_law_sentence_here"] (spX K (sg__law_sizeN 1)) := by
  refine has_mk Df (fun _ _ _ _ _ _ us hl => match us, hl with | [_], _ => rfl) fun f fd F => ?_
  refine fn_ok F sc__law_size (fun ds R ⟨_, _, e, _⟩ => e ▸ rfl) (fun cdv A outer s H E hr => ⟨_, (pss_cons (ps_if (pt_cmpR op_eq (pe_ix ix_tup (pv 0) pe_int (fun _ _ => rfl)) pe_str (nomark _)) (pss_one ps_never) pss_nil)
    (pss_cons (ps_if (pt_cmpR op_in_seq (pe_ix ix_tup (pv 0) pe_int (fun _ _ => rfl)) (pe_tup (pa_cons pe_str (pa_cons pe_str pa_nil))) (by rfl)) (pss_one ps_never) pss_nil)
    (pss_one (ps_ret pe_int)))), fun ds R h => ?_⟩)
  obtain ⟨s, m, rfl, ⟨h0, h1⟩, rfl⟩ := h
  cases s with
  | nt s =>
    have := dep_pos s
    have : dep s + 1 ≤ 1 := h1
    omega
  | an ss =>
    have : max 1 (deps ss) + 1 ≤ 1 := h1
    omega
  | orr ss =>
    have : max 1 (deps ss) + 1 ≤ 1 := h1
    omega
  | _ =>
    apply xs_seq; apply xs_ifF
    · apply xt_T; walk_at "stl"
    refine xs_next ?_
    apply xs_seq; apply xs_ifF
    · apply xt_T; walk_at "stl"
    refine xs_next ?_
    exact xs_retD xd_int rfl
theorem size_step (B : Blt K mg) (Df : Dfd K mg "_law_size" 99) (n k : Nat) (h_rec : Has P w K mg base "_law_size" k ["_law_sentence_here"] (spX K (sg__law_sizeN n))) : Has P w K mg base "_law_size" (k + 1) ["_law_sentence_here"] (spX K (sg__law_sizeN (n + 1))) := by
  refine has_mk Df (fun _ _ _ _ _ _ us hl => match us, hl with | [_], _ => rfl) fun f fd F => ?_
  refine fn_ok F sc__law_size (fun ds R ⟨_, _, e, _⟩ => e ▸ rfl) (fun cdv A outer s H E hr => ⟨_, (pss_cons (ps_if (pt_cmpR op_eq (pe_ix ix_tup (pv 0) pe_int (fun _ _ => rfl)) pe_str (nomark _)) (pss_one (ps_ret (pe_op op_add pe_int (pe_callH h_rec hr rfl (pa_cons (pe_ix ix_tup (pv 0) pe_int (fun _ _ => rfl)) pa_nil))))) pss_nil)
    (pss_cons (ps_if (pt_cmpR op_in_seq (pe_ix ix_tup (pv 0) pe_int (fun _ _ => rfl)) (pe_tup (pa_cons pe_str (pa_cons pe_str pa_nil))) (by rfl)) (pss_one (ps_ret (pe_op op_add pe_int (pe_callB (cr_sum rfl) rfl B.sum bt_sum (pa_cons (pe_lc (own := [("_law_one", 1)]) (g := (gName 1)) (by rfl) sc__law_size.nd (pi_tup (pe_ix ix_tup (pv 0) pe_int (fun _ _ => rfl))) (blkOk_by (own := [("_law_one", 1)]) (N := N__law_size) (sc := defScope (top 99)) (by decide +kernel)) (fun _ _ _ _ _ => (pg_name (i := 1) sc__law_size.nd rfl (Or.inl rfl))) (fun _ _ _ _ _ => pts_nil) (fun _ _ _ _ _ => (pe_callH h_rec hr rfl (pa_cons (pv 1) pa_nil)))) pa_nil))))) pss_nil)
    (pss_one (ps_ret pe_int)))), fun ds R h => ?_⟩)
  obtain ⟨s, m, rfl, ⟨h0, h1⟩, rfl⟩ := h
  have hs := h0.self
  cases s with
  | nt s =>
    have g1 : dep s ≤ n := Nat.le_of_succ_le_succ h1
    apply xs_seq; apply xs_ifT
    · apply xt_T; walk_at "stl"
    refine xs_retE (xd_add xd_int (xe_call (xa_cons (xd_ixT (xu_of (xd_var rfl)) xd_int rfl) xa_nil) ⟨s, m, rfl, ⟨h0.part (p := s) List.mem_cons_self, g1⟩, rfl⟩)) rfl ?_
    show D.int (1 + ((vis s).length : Nat)) = D.int (((vis s).length + 1 : Nat) : Int)
    congr 1
    omega
  | an ss =>
    have l4 : ss.length ≤ 4 := hs
    have g1 : ∀ t ∈ ss, dep t ≤ n := fun t ht => by
      have a1 : max 1 (deps ss) + 1 ≤ n + 1 := h1
      have a2 := deps_le ht
      omega
    apply xs_seq; apply xs_ifF
    · apply xt_T; walk_at "stl"
    refine xs_next ?_
    apply xs_seq; apply xs_ifT
    · apply xt_T; walk_at "stl"
    refine xs_retE (xd_add xd_int (xd_sum (ns := ss.map fun s => (((vis s).length : Nat) : Int)) (xl_of (XD.eq (xd_lcM ss sd (fun s => .int (((vis s).length : Nat) : Int)) ?_ (by decide) (by omega) fun t ht => ?_) ?_)))) rfl ?_
    · rw [← sds_map]
      exact ix_tupD (xd_ixT (xu_of (xd_var rfl)) xd_int rfl)
    · exact xe_call (xa_cons (xd_var rfl) xa_nil) ⟨t, m, rfl, ⟨h0.part (p := t) ht, g1 t ht⟩, rfl⟩
    · rw [List.map_map]
      rfl
    · rw [← visR_len]
      show D.int (1 + ((visR ss).length : Nat)) = D.int (((visR ss).length + 1 : Nat) : Int)
      congr 1
      omega
  | orr ss =>
    have l4 : ss.length ≤ 4 := hs
    have g1 : ∀ t ∈ ss, dep t ≤ n := fun t ht => by
      have a1 : max 1 (deps ss) + 1 ≤ n + 1 := h1
      have a2 := deps_le ht
      omega
    apply xs_seq; apply xs_ifF
    · apply xt_T; walk_at "stl"
    refine xs_next ?_
    apply xs_seq; apply xs_ifT
    · apply xt_T; walk_at "stl"
    refine xs_retE (xd_add xd_int (xd_sum (ns := ss.map fun s => (((vis s).length : Nat) : Int)) (xl_of (XD.eq (xd_lcM ss sd (fun s => .int (((vis s).length : Nat) : Int)) ?_ (by decide) (by omega) fun t ht => ?_) ?_)))) rfl ?_
    · rw [← sds_map]
      exact ix_tupD (xd_ixT (xu_of (xd_var rfl)) xd_int rfl)
    · exact xe_call (xa_cons (xd_var rfl) xa_nil) ⟨t, m, rfl, ⟨h0.part (p := t) ht, g1 t ht⟩, rfl⟩
    · rw [List.map_map]
      rfl
    · rw [← visR_len]
      show D.int (1 + ((visR ss).length : Nat)) = D.int (((visR ss).length + 1 : Nat) : Int)
      congr 1
      omega
  | _ =>
    apply xs_seq; apply xs_ifF
    · apply xt_T; walk_at "stl"
    refine xs_next ?_
    apply xs_seq; apply xs_ifF
    · apply xt_T; walk_at "stl"
    refine xs_next ?_
    exact xs_retD xd_int rfl
theorem ok__law_size (B : Blt K mg) (Df : Dfd K mg "_law_size" 99) : H__law_size P w K mg base :=
  size_step B Df 3 5 (size_step B Df 2 4 (size_step B Df 1 3 (size_base B Df)))
end
end Dx
end

section
set_option Elab.async false
set_option linter.all false
set_option maxRecDepth 100000
set_option maxHeartbeats 4000000
namespace Dx
open PySem PySem.Spec PyProof.Rows L2 Evl RZ
local macro_rules | `(tactic| walk_at "sd") => `(tactic| first | rfl | assumption | omega | exact Nat.le_of_ble_eq_true rfl | exact decide_eq_false (by omega) | exact decide_eq_true (by omega) | decide | (constructor <;> omega) | (simp only [List.length_map]; omega) | (simp only [List.length_map]; constructor <;> omega))
local macro_rules | `(tactic| walk_at "sd?") => `(tactic| first | walk_at "sd" | rotate_left)
local macro_rules | `(tactic| walk_at "xl") => `(tactic| first | exact xl_own rfl | (apply xl_of; walk_at "xd") | (apply xl_r; walk_at "xd"))
local macro_rules | `(tactic| walk_at "xm") => `(tactic| first | exact xm_own rfl | (apply xm_of; walk_at "xd"))
local macro_rules | `(tactic| walk_at "xu") => `(tactic| first | (apply xu_of; walk_at "xd") | (apply xu_r; walk_at "xd") | (apply xu_k; walk_at "xd"))
local macro_rules | `(tactic| walk_at "xa") => `(tactic| first | exact xa_nil | (apply xa_cons; walk_at "xd"; walk_at "xa"))
local macro_rules | `(tactic| walk_at "xo") => `(tactic| first | exact xo_none | (apply xo_some; walk_at "xd"))
local macro_rules | `(tactic| walk_at "xd") => `(tactic| first
  | exact xd_int | exact xd_str | exact xd_bl | exact xd_non | exact xd_var rfl
  | (apply xd_add; walk_at "xd"; walk_at "xd") | (apply xd_sub; walk_at "xd"; walk_at "xd") | (apply xd_neg; walk_at "xd")
  | (apply xd_mul; walk_at "xd"; walk_at "xd"; walk_at "sd?") | (apply xd_fdiv; walk_at "xd"; walk_at "xd"; walk_at "sd?") | (apply xd_mod; walk_at "xd"; walk_at "xd"; walk_at "sd?")
  | (apply xd_lt; walk_at "xd"; walk_at "xd") | (apply xd_le; walk_at "xd"; walk_at "xd") | (apply xd_gt; walk_at "xd"; walk_at "xd") | (apply xd_ge; walk_at "xd"; walk_at "xd")
  | (apply xd_chainLe; walk_at "xd"; walk_at "xd"; walk_at "xd")
  | (apply xd_eqI; walk_at "xd"; walk_at "xd") | (apply xd_neI; walk_at "xd"; walk_at "xd") | (apply xd_eqS; walk_at "xd"; walk_at "xd") | (apply xd_neS; walk_at "xd"; walk_at "xd")
  | (apply xd_isN; walk_at "xd"; walk_at "xd") | (apply xd_notN; walk_at "xd"; walk_at "xd")
  | (apply xd_not; walk_at "xd") | (apply xd_and; walk_at "xd"; (intro _; walk_at "xd")) | (apply xd_or; walk_at "xd"; (intro _; walk_at "xd"))
  | (apply xd_ixT; walk_at "xu"; walk_at "xd"; rfl) | (apply xd_ixIU; walk_at "xu"; walk_at "xd"; walk_at "sd?") | (apply xd_ixI; walk_at "xl"; walk_at "xd"; walk_at "sd?") | (apply xd_ixL; walk_at "xl"; walk_at "xd"; walk_at "sd?")
  | (apply xd_tup; walk_at "xa"; walk_at "sd?") | (apply xd_lst; walk_at "xa"; walk_at "sd?")
  | (apply xd_len; walk_at "xl") | (apply xd_lenU; walk_at "xu") | (apply xd_abs; walk_at "xd") | (apply xd_min2; walk_at "xd"; walk_at "xd")
  | (apply xd_isi; walk_at "xd"; (first | exact kb_int | exact kb_int_bool | exact kb_tuple | exact kb_list | exact kb_str | exact kb_bool_bool))
  | (apply xd_slL; walk_at "xl"; walk_at "xo"; walk_at "xo") | (apply xd_slT; walk_at "xd"; walk_at "xo"; walk_at "xo")
  | (apply xd_cat; walk_at "xm"; walk_at "xm"; walk_at "sd?") | (apply xd_catT; walk_at "xd"; walk_at "xd"; walk_at "sd?")
  | (apply xd_list; walk_at "xl") | (apply xd_listU; walk_at "xu") | (apply xd_tuple; walk_at "xl") | (apply xd_tupleT; walk_at "xd")
  | (apply xd_slk; walk_at "xd"; walk_at "xo"; walk_at "xo") | (apply xd_catK; walk_at "xd"; walk_at "xd"; walk_at "sd?") | exact xd_tupK0 | (apply xd_tupK1; walk_at "xd")
  | (apply xe_call; walk_at "xa"; walk_at "sg"))
local macro_rules | `(tactic| walk_at "sg") => `(tactic| first | exact ⟨_, rfl, rfl⟩ | exact ⟨_, _, rfl, rfl⟩ | exact ⟨_, _, _, rfl, rfl⟩ | exact ⟨_, _, _, _, rfl, rfl⟩ | exact ⟨_, _, _, _, _, rfl, rfl⟩ | exact ⟨_, _, _, _, _, _, rfl, rfl⟩ | exact ⟨_, _, _, _, _, _, _, rfl, rfl⟩ | (refine' ⟨_, rfl, ?_, rfl⟩; walk_at "sd?") | (refine' ⟨_, _, rfl, ?_, rfl⟩; walk_at "sd?") | (refine' ⟨_, _, _, rfl, ?_, rfl⟩; walk_at "sd?") | (refine' ⟨_, _, _, _, rfl, ?_, rfl⟩; walk_at "sd?") | (refine' ⟨_, _, _, _, _, rfl, ?_, rfl⟩; walk_at "sd?") | (refine' ⟨_, _, _, _, _, _, rfl, ?_, rfl⟩; walk_at "sd?") | (refine' ⟨_, _, _, _, _, _, _, rfl, ?_, rfl⟩; walk_at "sd?"))
local macro_rules | `(tactic| walk_at "asg") => `(tactic| (apply xs_seq; apply xs_asgD; walk_at "xd"))
local macro_rules | `(tactic| walk_at "guard") => `(tactic| (apply xs_seq; apply xs_guard; walk_at "xt"; walk_at "sd?"))
local macro_rules | `(tactic| walk_at "ret") => `(tactic| (apply xs_retE; walk_at "xd"; exact rfl; walk_at "sd?"))
local macro_rules | `(tactic| walk_at "xt") => `(tactic| first
  | (apply xt_B; walk_at "xd") | (apply xt_T; walk_at "xd") | (apply xt_not; walk_at "xt") | (apply xt_and; walk_at "xt"; (intro _; walk_at "xt")) | (apply xt_or; walk_at "xt"; (intro _; walk_at "xt")) | exact xt_yes)
local macro_rules | `(tactic| walk_at "grd") => `(tactic| (apply xs_seq; apply xs_guard; walk_at "xt"))
local macro_rules | `(tactic| walk_at "grl") => `(tactic| (apply xs_guard; walk_at "xt"))
local macro_rules | `(tactic| walk_at "unp2") => `(tactic| (apply xs_seq; apply xs_asgG; walk_at "xd"; exact xg_tup (xgs_cons (xgs_cons xgs_nil)) rfl))
local macro_rules | `(tactic| walk_at "if") => `(tactic| (apply xs_seq; apply xs_if; walk_at "xt"))
local macro_rules | `(tactic| walk_at "drop") => `(tactic| (apply xs_seq; apply xs_drop; walk_at "xd"))

open Ma
section
variable {K : PySem.W.Frag} {ρ : List Sl} {ta tb tc te ti : TE}
theorem sds_get {B : List Sent} {i : Nat} {s : Sent} (h : B[i]? = some s) : (sds B)[i]? = some (sd s) := by rw [sds_map, List.getElem?_map, h]; rfl
/-- built[-1 - d] -/
theorem xd_backS {B : List Sent} {i : Int} (ha : XL K ta ρ (sds B)) (hb : XD K tb ρ (.int i)) (h : -(B.length : Int) ≤ i ∧ i < 0) : XD K (tOp (rIxL K) ta tb) ρ (sd (B.getD (i + B.length).toNat default)) := by
  refine xd_ixL ha hb ?_
  have el : (sds B).length = B.length := by rw [sds_map, List.length_map]
  unfold atI ixN
  rw [if_neg (by omega), if_pos (by rw [el]; omega)]
  show (sds B)[(i + ((sds B).length : Int)).toNat]? = _
  rw [el]
  have hlt : (i + (B.length : Int)).toNat < B.length := by omega
  exact sds_get (by rw [List.getD_eq_getElem?_getD, List.getElem?_eq_getElem hlt]; rfl)
end
theorem getD_memS {B : List Sent} {i : Nat} (h : i < B.length) : B.getD i default ∈ B := by
  rw [List.getD_eq_getElem?_getD, List.getElem?_eq_getElem h]
  exact List.getElem_mem h
section
variable {P : Program} {w : World} {K : PySem.W.Frag} {mg : Str → Option Value} {base : Heap}
def sg__law_sentence : Sg := fun ds R => ∃ (ns : List Int) (at_ : Nat) (n m far : Int), ds = [.rlst (ID ns), .int at_, .int n, .int m, .int far] ∧ (1 ≤ n ∧ n ≤ 4 ∧ 1 ≤ m ∧ m ≤ 6 ∧ 1 ≤ far ∧ far ≤ 5) ∧ R = fun x => ∃ s, x = sd s ∧ SG m far 4 s ∧ (vis s).length ≤ 40
abbrev N__law_sentence : List Str := ["_law_script", "_law_at", "_law_size_here", "_law_many", "_law_far", "_law_built", "_law_k", "_law_cell", "_law_kind", "_law_some", "_law_more", "_law_j"]
theorem sc__law_sentence : FnScope N__law_sentence ["_law_script", "_law_at", "_law_size_here", "_law_many", "_law_far"] (defScope (top 100)) := ⟨rfl, rfl, rfl, by decide +kernel, rfl, by decide +kernel, by decide +kernel⟩
abbrev H__law_sentence (P : Program) (w : World) (K : PySem.W.Frag) (mg : Str → Option Value) (base : Heap) : Prop := Has P w K mg base "_law_sentence" 7 ["_law_script", "_law_at", "_law_size_here", "_law_many", "_law_far"] (spX K sg__law_sentence)

theorem ok__law_sentence (B : Blt K mg) (Df : Dfd K mg "_law_sentence" 100) (h__law_size : H__law_size P w K mg base) (h__law_plain_sentence : H__law_plain_sentence P w K mg base) (h__law_draw : H__law_draw P w K mg base) (h__law_cell_at : H__law_cell_at P w K mg base) : H__law_sentence P w K mg base := by
  refine has_mk Df (fun _ _ _ _ _ _ us hl => match us, hl with | [_, _, _, _, _], _ => rfl) fun f fd F => ?_
  refine fn_ok F sc__law_sentence (fun ds R ⟨_, _, _, _, _, e, _⟩ => e ▸ rfl) (fun cdv A outer s H E hr => ⟨_, (pss_cons (ps_set (i := 5) sc__law_sentence.nd rfl (by first | exact Or.inl rfl | exact Or.inr rfl) (pe_lst (pa_cons (pe_callH h__law_plain_sentence (hr.mono (by decide)) rfl (pa_cons (pe_callH h__law_cell_at (hr.mono (by decide)) rfl (pa_cons (pv 0) (pa_cons (pv 1) pa_nil))) (pa_cons (pv 3) (pa_cons (pv 4) pa_nil)))) pa_nil)))
    (pss_cons (ps_for PassesOwn.never rfl (pi_range2 rfl B.range (pa_cons pe_int (pa_cons (pv 2) pa_nil))) (pg_name (i := 6) sc__law_sentence.nd rfl (by first | exact Or.inl rfl | exact Or.inr rfl)) (pss_cons (ps_set (i := 7) sc__law_sentence.nd rfl (by first | exact Or.inl rfl | exact Or.inr rfl) (pe_callH h__law_cell_at (hr.mono (by decide)) rfl (pa_cons (pv 0) (pa_cons (pe_op op_add (pv 1) (pv 6)) pa_nil))))
    (pss_cons (ps_set (i := 8) sc__law_sentence.nd rfl (by first | exact Or.inl rfl | exact Or.inr rfl) (pe_callH h__law_draw (hr.mono (by decide)) rfl (pa_cons (pv 7) (pa_cons pe_int (pa_cons pe_int pa_nil)))))
    (pss_cons (ps_set (i := 9) sc__law_sentence.nd rfl (by first | exact Or.inl rfl | exact Or.inr rfl) (pe_callTy cr_tupS rfl B.tuple bt_tuple (pa_cons (pe_lc (own := [("_law_j", 11)]) (g := (gName 11)) (by rfl) sc__law_sentence.nd (pi_range1 rfl B.range (pa_cons (pe_callH h__law_draw (hr.mono (by decide)) rfl (pa_cons (pv 7) (pa_cons pe_int (pa_cons pe_int pa_nil)))) pa_nil)) (blkOk_by (own := [("_law_j", 11)]) (N := N__law_sentence) (sc := defScope (top 100)) (by decide +kernel)) (fun _ _ _ _ _ => (pg_name (i := 11) sc__law_sentence.nd rfl (Or.inl rfl))) (fun _ _ _ _ _ => pts_nil) (fun _ _ _ _ _ => (pe_ix (ix_listK (K := K) rfl) (pv 5) (pe_op op_sub (pe_un un_neg pe_int) (pe_op op_modN (pe_callH h__law_draw (hr.mono (by decide)) rfl (pa_cons (pv 7) (pa_cons (pe_op op_add pe_int (pv 11)) (pa_cons pe_int pa_nil)))) (pe_callB (cr_lenK (K := K) rfl) rfl B.len bt_len (pa_cons (pv 5) pa_nil)))) (fun _ _ => rfl)))) pa_nil)))
    (pss_cons (ps_set (i := 10) sc__law_sentence.nd rfl (by first | exact Or.inl rfl | exact Or.inr rfl) (pe_callH h__law_plain_sentence (hr.mono (by decide)) rfl (pa_cons (pv 7) (pa_cons (pv 3) (pa_cons (pv 4) pa_nil)))))
    (pss_cons (ps_if (pt_cmpR op_eq (pv 8) pe_int (nomark _)) (pss_one (ps_set (i := 10) sc__law_sentence.nd rfl (by first | exact Or.inl rfl | exact Or.inr rfl) (pe_tup (pa_cons pe_str (pa_cons (pe_ix ix_list (pv 5) (pe_un un_neg pe_int) (fun _ _ => rfl)) pa_nil))))) (pss_one (ps_if (pt_cmpR op_eq (pv 8) pe_int (nomark _)) (pss_one (ps_set (i := 10) sc__law_sentence.nd rfl (by first | exact Or.inl rfl | exact Or.inr rfl) (pe_tup (pa_cons (pe_ix ix_list (pe_lst (pa_cons pe_str (pa_cons pe_str pa_nil))) (pe_callH h__law_draw (hr.mono (by decide)) rfl (pa_cons (pv 7) (pa_cons pe_int (pa_cons pe_int pa_nil)))) (fun _ _ => rfl)) (pa_cons (pv 9) pa_nil))))) (pss_one (ps_if (pt_cmpR op_gt (pv 8) pe_int (nomark _)) (pss_one (ps_set (i := 10) sc__law_sentence.nd rfl (by first | exact Or.inl rfl | exact Or.inr rfl) (pe_tup (pa_cons (pe_ix ix_list (pe_lst (pa_cons pe_str (pa_cons pe_str pa_nil))) (pe_op op_modN (pv 8) pe_int) (fun _ _ => rfl)) (pa_cons (pe_op op_catA (pe_tup (pa_cons (pe_ix ix_list (pv 5) (pe_un un_neg pe_int) (fun _ _ => rfl)) pa_nil)) (pv 9)) pa_nil))))) pss_nil)))))
    (pss_cons (ps_if (pt_cmpR op_gt (pe_callH h__law_size (hr.mono (by decide)) rfl (pa_cons (pv 10) pa_nil)) pe_int (nomark _)) (pss_one (ps_set (i := 10) sc__law_sentence.nd rfl (by first | exact Or.inl rfl | exact Or.inr rfl) (pe_tup (pa_cons pe_str (pa_cons (pe_callH h__law_plain_sentence (hr.mono (by decide)) rfl (pa_cons (pv 7) (pa_cons (pv 3) (pa_cons (pv 4) pa_nil)))) pa_nil))))) pss_nil)
    (pss_one (ps_expr (pe_bm PySem.F.plainAttrs_list PySem.F.slot_list_append PySem.F.type_list_append mt_append (pv 5) (pa_cons (pv 10) pa_nil)))))))))))
    (pss_one (ps_ret (pe_ix ix_list (pv 5) (pe_un un_neg pe_int) (fun _ _ => rfl)))))), fun ds R h => ?_⟩)
  obtain ⟨ns, at_, n, m, far, rfl, ⟨hn0, hn, h1, h2, h3, h4⟩, rfl⟩ := h
  have pok : ∀ c, SG m far 1 (plainF c m far) := fun c => plain_ok h1 h3 h4
  have psz : ∀ c, (vis (plainF c m far)).length ≤ 40 := fun c => by
    rw [vis_plain (plain_parts c m far)]
    show 1 ≤ 40
    decide
  have pl : ∀ {r : List Sl} {te : TE} {c : Int} {E' : XK}, XD K te r (.int c) → r[3]? = some (.d (.int m)) → r[4]? = some (.d (.int far)) → XD K (tCall (spX K sg__law_plain_sentence) [] E' (tCons te (tCons (tVar 3) (tCons (tVar 4) tNil)))) r (sd (plainF c m far)) := fun {r te c E'} hc e3 e4 => xe_call (xa_cons hc (xa_cons (xd_var e3) (xa_cons (xd_var e4) xa_nil))) ⟨c, m, far, rfl, ⟨h1, h2, h3, h4⟩, rfl⟩
  apply xs_seq
  apply xs_asgM (ds := sds [plainF (cellF ns at_) m far]) (xa_cons (pl (xd_cell at_ (xd_var rfl) (xd_var rfl)) rfl rfl) xa_nil) (by show 1 ≤ 100000; decide)
  apply xs_seq
  refine xs_forN (ys := intsD 1 (n - 1).toNat) (fun i r => ∃ (B : List Sent) (s6 s7 s8 s9 s10 s11 : Sl), r = [.d (.rlst (ID ns)), .d (.int at_), .d (.int n), .d (.int m), .d (.int far), .l (sds B), s6, s7, s8, s9, s10, s11] ∧ B.length = i + 1 ∧ ∀ s ∈ B, SG m far (i + 1) s ∧ (vis s).length ≤ 40)
    (ix_rng2 (xa_cons xd_int (xa_cons (xd_var rfl) xa_nil)) (by omega) (by omega) (by decide) (by decide)) ⟨[plainF (cellF ns at_) m far], _, _, _, _, _, _, rfl, rfl, fun s hs => by rw [List.mem_singleton.mp hs]; exact ⟨pok _, psz _⟩⟩ (fun i y r hy hr => ?_) (fun r hr => ?_)
  · obtain ⟨B, s6, s7, s8, s9, s10, s11, rfl, hB, hS⟩ := hr
    have hi : i < 3 := by
      have := (List.getElem?_eq_some_iff.mp hy).1
      rw [ints_len] at this
      omega
    rw [ints_at (by have := (List.getElem?_eq_some_iff.mp hy).1; rw [ints_len] at this; exact this)] at hy
    cases hy
    have elB : (sds B).length = B.length := by rw [sds_map, List.length_map]
    apply xs_seq
    apply xs_asgD (x := .int (cellF ns (at_ + (i + 1))))
    · refine xd_cell (at_ + (i + 1)) (xd_var rfl) (XD.eq (xd_add (xd_var rfl) (xd_var rfl)) ?_)
      congr 1
      omega
    generalize cellF ns (at_ + (i + 1)) = c
    apply xs_seq
    apply xs_asgD (xd_draw 5 (xd_var rfl) xd_int xd_int ⟨by decide, by decide, by decide⟩)
    have kd := drawF_in c 5 (b := 8) (by decide)
    have nd := drawF_in c 6 (b := 4) (by decide)
    apply xs_seq
    have lastIn : B.getD (B.length - 1) default ∈ B := getD_memS (by omega)
    have back : ∀ {r : List Sl}, r[5]? = some (.l (sds B)) → XD K (tOp (rIxL K) (tVar 5) (tUn (rU fun i => .int (-i)) (tC (.int 1)))) r (sd (B.getD (B.length - 1) default)) := fun {r} e => XD.eq (xd_backS (xl_own e) (xd_neg xd_int) (by omega)) (by rw [show (-1 + (B.length : Int)).toNat = B.length - 1 by omega])
    -- some
    let S : List Sent := (List.range (drawF c 6 4).toNat).map fun j => B.getD ((-1 - (drawF c (7 + j) 60).fmod B.length) + B.length).toNat default
    have hSl : S.length ≤ 3 := by
      show ((List.range _).map _).length ≤ 3
      rw [List.length_map, List.length_range]
      omega
    have hSm : ∀ s ∈ S, s ∈ B := fun s hs => by
      obtain ⟨j, _, rfl⟩ := List.mem_map.mp hs
      have := fmod_in (drawF c (7 + j) 60) (b := B.length) (by omega)
      exact getD_memS (by omega)
    refine xs_asgD (x := .tup (sds S)) (xd_tuple (xl_of ?_)) ?_
    · have eS : (List.range (drawF c 6 4).toNat).map (sd ∘ fun (j : Nat) => B.getD ((-1 - (drawF c (7 + j) 60).fmod B.length) + B.length).toNat default) = sds S := by
        show _ = sds ((List.range _).map _)
        rw [sds_map, List.map_map]
      refine XD.eq (x := .lst _) (xd_lcM (List.range (drawF c 6 4).toNat) (fun (j : Nat) => .int ((0 : Int) + (j : Int))) (sd ∘ fun (j : Nat) => B.getD ((-1 - (drawF c (7 + j) 60).fmod B.length) + B.length).toNat default) (ix_rng1 (xa_cons (xd_draw 6 (xd_var rfl) xd_int xd_int ⟨by decide, by decide, by decide⟩) xa_nil) (by omega) (by omega)) (by decide) (by rw [List.length_range]; omega) fun j hj => ?_) (congrArg D.lst eS)
      have hj := List.mem_range.mp hj
      have q := fmod_in (drawF c (7 + j) 60) (b := B.length) (by omega)
      refine xd_backS (xl_own rfl) (xd_sub (xd_neg xd_int) (XD.eq (xd_mod (xd_draw (7 + j) (xd_var rfl) (XD.eq (xd_add xd_int (xd_var rfl)) ?_) xd_int ⟨by omega, by decide, by decide⟩) (xd_len (xl_own rfl)) (by rw [elB]; omega)) ?_)) (by omega)
      · congr 1
        omega
      · rw [elB]
    apply xs_seq
    apply xs_asgD (pl (xd_var rfl) rfl rfl)
    apply xs_seq
    refine XS.imp (P := { nx := fun r => ∃ s', r = [.d (.rlst (ID ns)), .d (.int at_), .d (.int n), .d (.int m), .d (.int far), .l (sds B), .d (.int (1 + (i : Nat))), .d (.int c), .d (.int (drawF c 5 8)), .d (.tup (sds S)), .d (sd s'), s11] ∧ SG m far (i + 1 + 1) s', rt := fun _ => False }) ?_ (fun r hr => ?_) (fun _ z => z.elim) (fun _ z => z.elim) (fun _ z => z.elim) (fun _ z => z.elim)
    · have word : ∀ {t : TE} {r : List Sl} {j : Int}, XD K t r (.int j) → (j = 0 ∨ j = 1) → XD K (tOp (rIxL K) (tLst (tCons (tC (.str "and")) (tCons (tC (.str "or")) tNil))) t) r (if j = 0 then .str "and" else .str "or") := fun {t r j} ht hj => xd_pick xd_str xd_str ht hj
      have two : ∀ (ss : List Sent) {t : TE} {r : List Sl} {tt : TE} {j : Int}, XD K t r (.int j) → (j = 0 ∨ j = 1) → XD K tt r (.tup (sds ss)) → (∀ s ∈ ss, SG m far (i + 1) s) → ss.length ≤ 4 → ∃ s', XD K (tTup (tCons (tOp (rIxL K) (tLst (tCons (tC (.str "and")) (tCons (tC (.str "or")) tNil))) t) (tCons tt tNil))) r (sd s') ∧ SG m far (i + 1 + 1) s' := fun ss {t r tt j} ht hj hs hg hl => by
        obtain ⟨g1, g2⟩ := sg_an (m := m) (far := far) (d := i + 1) (by omega) hl hg
        rcases hj with rfl | rfl
        · exact ⟨.an ss, xd_tup (xa_cons (word ht (.inl rfl)) (xa_cons hs xa_nil)) (by show 2 ≤ 100000; decide), g1⟩
        · exact ⟨.orr ss, xd_tup (xa_cons (word ht (.inr rfl)) (xa_cons hs xa_nil)) (by show 2 ≤ 100000; decide), g2⟩
      refine xs_if (b := decide (drawF c 5 8 = 2)) (xt_T (xd_eqI (xd_var rfl) xd_int)) (fun _ => ?_) fun _ => ?_
      · apply xs_asgD (x := sd (.nt (B.getD (B.length - 1) default))) (xd_tup (xa_cons xd_str (xa_cons (back rfl) xa_nil)) (by show 2 ≤ 100000; decide))
        exact ⟨_, rfl, sg_not (hS _ lastIn).1⟩
      · refine xs_if (b := decide (drawF c 5 8 = 3)) (xt_T (xd_eqI (xd_var rfl) xd_int)) (fun _ => ?_) fun _ => ?_
        · have q := drawF_in c 11 (b := 2) (by decide)
          obtain ⟨s', e1, e2⟩ := two S (xd_draw (c := c) (b := 2) 11 (xd_var (i := 7) rfl) xd_int xd_int ⟨by decide, by decide, by decide⟩) (by omega) (xd_var (ρ := [.d (.rlst (ID ns)), .d (.int at_), .d (.int n), .d (.int m), .d (.int far), .l (sds B), .d (.int (1 + (i : Nat))), .d (.int c), .d (.int (drawF c 5 8)), .d (.tup (sds S)), .d (sd (plainF c m far)), s11]) (i := 9) rfl) (fun s hs => (hS s (hSm s hs)).1) (by omega)
          exact xs_asgD e1 ⟨s', rfl, e2⟩
        · refine xs_if (b := decide (3 < drawF c 5 8)) (xt_T (xd_gt (xd_var rfl) xd_int)) (fun _ => ?_) fun _ => ?_
          · have q := fmod_in (drawF c 5 8) (b := 2) (by decide)
            obtain ⟨s', e1, e2⟩ := two (B.getD (B.length - 1) default :: S) (xd_mod (xd_var (ρ := [.d (.rlst (ID ns)), .d (.int at_), .d (.int n), .d (.int m), .d (.int far), .l (sds B), .d (.int (1 + (i : Nat))), .d (.int c), .d (.int (drawF c 5 8)), .d (.tup (sds S)), .d (sd (plainF c m far)), s11]) (i := 8) rfl) (xd_int (i := 2)) (by decide)) (by omega) (xd_catT (xd_tup (xa_cons (back rfl) xa_nil) (by show 1 ≤ 100000; decide)) (xd_var (i := 9) rfl) (by show 1 + (sds S).length ≤ 100000; rw [sds_map, List.length_map]; omega)) (fun s hs => by
              rcases List.mem_cons.mp hs with rfl | hs
              · exact (hS _ lastIn).1
              · exact (hS s (hSm s hs)).1) (by show S.length + 1 ≤ 4; omega)
            exact xs_asgD e1 ⟨s', rfl, e2⟩
          · exact xs_next ⟨plainF c m far, rfl, (pok c).up (by omega)⟩
    · obtain ⟨s', rfl, hs⟩ := hr
      apply xs_seq
      refine XS.imp (P := { nx := fun r => ∃ s', r = [.d (.rlst (ID ns)), .d (.int at_), .d (.int n), .d (.int m), .d (.int far), .l (sds B), .d (.int (1 + (i : Nat))), .d (.int c), .d (.int (drawF c 5 8)), .d (.tup (sds S)), .d (sd s'), s11] ∧ SG m far (i + 1 + 1) s' ∧ (vis s').length ≤ 40, rt := fun _ => False }) ?_ (fun r hr => ?_) (fun _ z => z.elim) (fun _ z => z.elim) (fun _ z => z.elim) (fun _ z => z.elim)
      · refine xs_if (b := decide (40 < ((vis s').length : Int))) (xt_T (xd_gt (xe_call (R := Eq (.int ((vis s').length : Int))) (xa_cons (xd_var rfl) xa_nil) ⟨s', m, rfl, ⟨hs.ok, Nat.le_trans hs.dp (by omega)⟩, rfl⟩) xd_int)) (fun _ => ?_) fun hf => ?_
        · refine xs_asgD (x := sd (.nt (plainF c m far))) (xd_tup (xa_cons xd_str (xa_cons (pl (xd_var rfl) rfl rfl) xa_nil)) (by show 2 ≤ 100000; decide)) ⟨_, rfl, (sg_not (pok c)).up (by omega), ?_⟩
          rw [vis_parts]
          show (visR [plainF c m far]).length + 1 ≤ 40
          rw [visR_cons, visR_nil, List.nil_append, vis_plain (plain_parts c m far)]
          exact (by decide : 1 + 1 ≤ 40)
        · have hf := of_decide_eq_false hf
          exact xs_next ⟨s', rfl, hs, by omega⟩
      · obtain ⟨s', rfl, hs, hz⟩ := hr
        refine xs_app (i := 5) rfl (xd_var rfl) (by rw [elB]; omega) ⟨B ++ [s'], .d (.int (1 + (i : Nat))), .d (.int c), .d (.int (drawF c 5 8)), .d (.tup (sds S)), .d (sd s'), s11, ?_, by rw [List.length_append, hB]; rfl, fun s hs' => ?_⟩
        · have e : sds B ++ [sd s'] = sds (B ++ [s']) := by rw [sds_map, sds_map, List.map_append]; rfl
          rw [← e]
          rfl
        · rcases List.mem_append.mp hs' with h | h
          · exact ⟨(hS s h).1.up (by omega), (hS s h).2⟩
          · rw [List.mem_singleton.mp h]
            exact ⟨hs, hz⟩
  · obtain ⟨B, s6, s7, s8, s9, s10, s11, rfl, hB, hS⟩ := hr
    rw [ints_len] at hB hS
    refine xs_ret (XD.eq (xd_backS (xl_own rfl) (xd_neg xd_int) (by omega)) (by rfl)) ?_
    have hm : B.getD (-1 + (B.length : Int)).toNat default ∈ B := getD_memS (by omega)
    exact fun x hx => ⟨_, hx.symm, (hS _ hm).1.up (by omega), (hS _ hm).2⟩
end
end Dx
end

section
set_option Elab.async false
set_option linter.all false
set_option maxRecDepth 100000
set_option maxHeartbeats 4000000
namespace Dx
open PySem PySem.Spec PyProof.Rows L2 Evl RZ
local macro_rules | `(tactic| walk_at "sd") => `(tactic| first | rfl | assumption | omega | exact Nat.le_of_ble_eq_true rfl | exact decide_eq_false (by omega) | exact decide_eq_true (by omega) | decide | (constructor <;> omega) | (simp only [List.length_map]; omega) | (simp only [List.length_map]; constructor <;> omega))
local macro_rules | `(tactic| walk_at "sd?") => `(tactic| first | walk_at "sd" | rotate_left)
local macro_rules | `(tactic| walk_at "xl") => `(tactic| first | exact xl_own rfl | (apply xl_of; walk_at "xd") | (apply xl_r; walk_at "xd"))
local macro_rules | `(tactic| walk_at "xm") => `(tactic| first | exact xm_own rfl | (apply xm_of; walk_at "xd"))
local macro_rules | `(tactic| walk_at "xu") => `(tactic| first | (apply xu_of; walk_at "xd") | (apply xu_r; walk_at "xd") | (apply xu_k; walk_at "xd"))
local macro_rules | `(tactic| walk_at "xa") => `(tactic| first | exact xa_nil | (apply xa_cons; walk_at "xd"; walk_at "xa"))
local macro_rules | `(tactic| walk_at "xo") => `(tactic| first | exact xo_none | (apply xo_some; walk_at "xd"))
local macro_rules | `(tactic| walk_at "xd") => `(tactic| first
  | exact xd_int | exact xd_str | exact xd_bl | exact xd_non | exact xd_var rfl
  | (apply xd_add; walk_at "xd"; walk_at "xd") | (apply xd_sub; walk_at "xd"; walk_at "xd") | (apply xd_neg; walk_at "xd")
  | (apply xd_mul; walk_at "xd"; walk_at "xd"; walk_at "sd?") | (apply xd_fdiv; walk_at "xd"; walk_at "xd"; walk_at "sd?") | (apply xd_mod; walk_at "xd"; walk_at "xd"; walk_at "sd?")
  | (apply xd_lt; walk_at "xd"; walk_at "xd") | (apply xd_le; walk_at "xd"; walk_at "xd") | (apply xd_gt; walk_at "xd"; walk_at "xd") | (apply xd_ge; walk_at "xd"; walk_at "xd")
  | (apply xd_chainLe; walk_at "xd"; walk_at "xd"; walk_at "xd")
  | (apply xd_eqI; walk_at "xd"; walk_at "xd") | (apply xd_neI; walk_at "xd"; walk_at "xd") | (apply xd_eqS; walk_at "xd"; walk_at "xd") | (apply xd_neS; walk_at "xd"; walk_at "xd")
  | (apply xd_isN; walk_at "xd"; walk_at "xd") | (apply xd_notN; walk_at "xd"; walk_at "xd")
  | (apply xd_not; walk_at "xd") | (apply xd_and; walk_at "xd"; (intro _; walk_at "xd")) | (apply xd_or; walk_at "xd"; (intro _; walk_at "xd"))
  | (apply xd_ixT; walk_at "xu"; walk_at "xd"; rfl) | (apply xd_ixIU; walk_at "xu"; walk_at "xd"; walk_at "sd?") | (apply xd_ixI; walk_at "xl"; walk_at "xd"; walk_at "sd?") | (apply xd_ixL; walk_at "xl"; walk_at "xd"; walk_at "sd?")
  | (apply xd_tup; walk_at "xa"; walk_at "sd?") | (apply xd_lst; walk_at "xa"; walk_at "sd?")
  | (apply xd_len; walk_at "xl") | (apply xd_lenU; walk_at "xu") | (apply xd_abs; walk_at "xd") | (apply xd_min2; walk_at "xd"; walk_at "xd")
  | (apply xd_isi; walk_at "xd"; (first | exact kb_int | exact kb_int_bool | exact kb_tuple | exact kb_list | exact kb_str | exact kb_bool_bool))
  | (apply xd_slL; walk_at "xl"; walk_at "xo"; walk_at "xo") | (apply xd_slT; walk_at "xd"; walk_at "xo"; walk_at "xo")
  | (apply xd_cat; walk_at "xm"; walk_at "xm"; walk_at "sd?") | (apply xd_catT; walk_at "xd"; walk_at "xd"; walk_at "sd?")
  | (apply xd_list; walk_at "xl") | (apply xd_listU; walk_at "xu") | (apply xd_tuple; walk_at "xl") | (apply xd_tupleT; walk_at "xd")
  | (apply xd_slk; walk_at "xd"; walk_at "xo"; walk_at "xo") | (apply xd_catK; walk_at "xd"; walk_at "xd"; walk_at "sd?") | exact xd_tupK0 | (apply xd_tupK1; walk_at "xd")
  | (apply xe_call; walk_at "xa"; walk_at "sg"))
local macro_rules | `(tactic| walk_at "sg") => `(tactic| first | exact ⟨_, rfl, rfl⟩ | exact ⟨_, _, rfl, rfl⟩ | exact ⟨_, _, _, rfl, rfl⟩ | exact ⟨_, _, _, _, rfl, rfl⟩ | exact ⟨_, _, _, _, _, rfl, rfl⟩ | exact ⟨_, _, _, _, _, _, rfl, rfl⟩ | exact ⟨_, _, _, _, _, _, _, rfl, rfl⟩ | (refine' ⟨_, rfl, ?_, rfl⟩; walk_at "sd?") | (refine' ⟨_, _, rfl, ?_, rfl⟩; walk_at "sd?") | (refine' ⟨_, _, _, rfl, ?_, rfl⟩; walk_at "sd?") | (refine' ⟨_, _, _, _, rfl, ?_, rfl⟩; walk_at "sd?") | (refine' ⟨_, _, _, _, _, rfl, ?_, rfl⟩; walk_at "sd?") | (refine' ⟨_, _, _, _, _, _, rfl, ?_, rfl⟩; walk_at "sd?") | (refine' ⟨_, _, _, _, _, _, _, rfl, ?_, rfl⟩; walk_at "sd?"))
local macro_rules | `(tactic| walk_at "asg") => `(tactic| (apply xs_seq; apply xs_asgD; walk_at "xd"))
local macro_rules | `(tactic| walk_at "guard") => `(tactic| (apply xs_seq; apply xs_guard; walk_at "xt"; walk_at "sd?"))
local macro_rules | `(tactic| walk_at "ret") => `(tactic| (apply xs_retE; walk_at "xd"; exact rfl; walk_at "sd?"))
local macro_rules | `(tactic| walk_at "xt") => `(tactic| first
  | (apply xt_B; walk_at "xd") | (apply xt_T; walk_at "xd") | (apply xt_not; walk_at "xt") | (apply xt_and; walk_at "xt"; (intro _; walk_at "xt")) | (apply xt_or; walk_at "xt"; (intro _; walk_at "xt")) | exact xt_yes)
local macro_rules | `(tactic| walk_at "grd") => `(tactic| (apply xs_seq; apply xs_guard; walk_at "xt"))
local macro_rules | `(tactic| walk_at "grl") => `(tactic| (apply xs_guard; walk_at "xt"))
local macro_rules | `(tactic| walk_at "unp2") => `(tactic| (apply xs_seq; apply xs_asgG; walk_at "xd"; exact xg_tup (xgs_cons (xgs_cons xgs_nil)) rfl))
local macro_rules | `(tactic| walk_at "if") => `(tactic| (apply xs_seq; apply xs_if; walk_at "xt"))
local macro_rules | `(tactic| walk_at "drop") => `(tactic| (apply xs_seq; apply xs_drop; walk_at "xd"))

open Ma
section
variable {P : Program} {w : World} {K : PySem.W.Frag} {mg : Str → Option Value} {base : Heap}
def sg__law_past : Sg := fun ds R => ∃ (ns : List Int) (at_ : Nat) (m : Int), ds = [.rlst (ID ns), .int at_, .int m] ∧ (1 ≤ m ∧ m ≤ 4) ∧ R = fun x => ∃ p, x = .lst (ID p) ∧ inC m p ∧ p.length ≤ 120
abbrev N__law_past : List Str := ["_law_script", "_law_at", "_law_many", "_law_cell", "_law_size_here", "_law_found", "_law_k"]
theorem sc__law_past : FnScope N__law_past ["_law_script", "_law_at", "_law_many"] (defScope (top 101)) := ⟨rfl, rfl, rfl, by decide +kernel, rfl, by decide +kernel, by decide +kernel⟩
abbrev H__law_past (P : Program) (w : World) (K : PySem.W.Frag) (mg : Str → Option Value) (base : Heap) : Prop := Has P w K mg base "_law_past" 2 ["_law_script", "_law_at", "_law_many"] (spX K sg__law_past)

theorem ok__law_past (B : Blt K mg) (Df : Dfd K mg "_law_past" 101) (h__law_draw : H__law_draw P w K mg base) (h__law_cell_at : H__law_cell_at P w K mg base) : H__law_past P w K mg base := by
  refine has_mk Df (fun _ _ _ _ _ _ us hl => match us, hl with | [_, _, _], _ => rfl) fun f fd F => ?_
  refine fn_ok F sc__law_past (fun ds R ⟨_, _, _, e, _⟩ => e ▸ rfl) (fun cdv A outer s H E hr => ⟨_, (pss_cons (ps_set (i := 3) sc__law_past.nd rfl (by first | exact Or.inl rfl | exact Or.inr rfl) (pe_callH h__law_cell_at (hr.mono (by decide)) rfl (pa_cons (pv 0) (pa_cons (pv 1) pa_nil))))
    (pss_cons (ps_set (i := 4) sc__law_past.nd rfl (by first | exact Or.inl rfl | exact Or.inr rfl) (pe_callH h__law_draw (hr.mono (by decide)) rfl (pa_cons (pv 3) (pa_cons pe_int (pa_cons pe_int pa_nil)))))
    (pss_cons (ps_if (pt_cmpR op_eq (pe_callH h__law_draw (hr.mono (by decide)) rfl (pa_cons (pv 3) (pa_cons pe_int (pa_cons pe_int pa_nil)))) pe_int (nomark _)) (pss_one (ps_set (i := 4) sc__law_past.nd rfl (by first | exact Or.inl rfl | exact Or.inr rfl) (pe_op op_add pe_int (pe_callH h__law_draw (hr.mono (by decide)) rfl (pa_cons (pv 3) (pa_cons pe_int (pa_cons pe_int pa_nil))))))) pss_nil)
    (pss_cons (ps_set (i := 5) sc__law_past.nd rfl (by first | exact Or.inl rfl | exact Or.inr rfl) (pe_lst pa_nil))
    (pss_cons (ps_for PassesOwn.never rfl (pi_range1 rfl B.range (pa_cons (pv 4) pa_nil)) (pg_name (i := 6) sc__law_past.nd rfl (by first | exact Or.inl rfl | exact Or.inr rfl)) (pss_one (ps_expr (pe_bm PySem.F.plainAttrs_list PySem.F.slot_list_append PySem.F.type_list_append mt_append (pv 5) (pa_cons (pe_callH h__law_draw (hr.mono (by decide)) rfl (pa_cons (pe_callH h__law_cell_at (hr.mono (by decide)) rfl (pa_cons (pv 0) (pa_cons (pe_op op_add (pv 1) (pe_op op_fdivN (pv 6) pe_int)) pa_nil))) (pa_cons (pe_op op_add pe_int (pe_op op_modN (pv 6) pe_int)) (pa_cons (pv 2) pa_nil)))) pa_nil)))))
    (pss_one (ps_ret (pv 5)))))))), fun ds R h => ?_⟩)
  obtain ⟨ns, at_, m, rfl, ⟨h1, h4⟩, rfl⟩ := h
  apply xs_seq
  apply xs_asgD (xd_cell at_ (xd_var rfl) (xd_var rfl))
  generalize cellF ns at_ = c
  have d0 := drawF_in c 0 (b := 9) (by decide)
  have d2 := drawF_in c 2 (b := 21) (by decide)
  apply xs_seq
  apply xs_asgD (xd_draw 0 (xd_var rfl) xd_int xd_int ⟨by decide, by decide, by decide⟩)
  apply xs_seq
  refine XS.imp (P := { nx := fun r => ∃ z : Int, r = [.d (.rlst (ID ns)), .d (.int at_), .d (.int m), .d (.int c), .d (.int z), .u, .u] ∧ 0 ≤ z ∧ z ≤ 120, rt := fun _ => False }) ?_ (fun r hr => ?_) (fun _ z => z.elim) (fun _ z => z.elim) (fun _ z => z.elim) (fun _ z => z.elim)
  · refine xs_if (b := decide (drawF c 1 8 = 1)) (xt_T (xd_eqI (xd_draw 1 (xd_var rfl) xd_int xd_int ⟨by decide, by decide, by decide⟩) xd_int)) (fun _ => ?_) fun _ => ?_
    · exact xs_asgD (xd_add xd_int (xd_draw 2 (xd_var rfl) xd_int xd_int ⟨by decide, by decide, by decide⟩)) ⟨_, rfl, by omega, by omega⟩
    · exact xs_next ⟨_, rfl, by omega, by omega⟩
  obtain ⟨z, rfl, z0, z1⟩ := hr
  apply xs_seq
  apply xs_asgM (ds := []) xa_nil (by decide)
  apply xs_seq
  refine xs_forN (ys := intsD 0 z.toNat) (fun i r => ∃ (p : List Int) (s6 : Sl), r = [.d (.rlst (ID ns)), .d (.int at_), .d (.int m), .d (.int c), .d (.int z), .l (ID p), s6] ∧ p.length = i ∧ inC m p)
    (ix_rng1 (xa_cons (xd_var rfl) xa_nil) (by omega) (by omega)) ⟨[], _, rfl, rfl, fun _ h => nomatch h⟩ (fun i y r hy hr => ?_) (fun r hr => ?_)
  · obtain ⟨p, s6, rfl, hp, hm⟩ := hr
    have hi := (List.getElem?_eq_some_iff.mp hy).1
    rw [ints_len] at hi
    rw [ints_at hi] at hy
    cases hy
    have q1 : ((0 : Int) + (i : Nat)).fdiv 40 = ((i / 40 : Nat) : Int) := by
      rw [Int.zero_add]
      exact (Int.ofNat_fdiv i 40).symm
    have q2 : ((0 : Int) + (i : Nat)).fmod 40 = ((i % 40 : Nat) : Int) := by
      rw [Int.zero_add]
      exact (Int.ofNat_fmod i 40).symm
    refine xs_app (i := 5) rfl (xd_draw (3 + i % 40) (xd_cell (at_ + i / 40) (xd_var rfl) (XD.eq (xd_add (xd_var rfl) (xd_fdiv (xd_var rfl) (xd_int (i := 40)) ?_)) ?_)) (XD.eq (xd_add (xd_int (i := 3)) (xd_mod (xd_var rfl) (xd_int (i := 40)) (by decide))) ?_) (xd_var rfl) ⟨by omega, by omega, by omega⟩) (by rw [List.length_map]; omega) ?_
    · exact ⟨by decide, by decide⟩
    · rw [q1]
      rfl
    · rw [q2]
      rfl
    · generalize hd : drawF _ _ m = d
      have dd : 0 ≤ d ∧ d < m := hd ▸ drawF_in _ _ (by omega)
      refine ⟨p ++ [d], .d (.int (0 + (i : Nat))), ?_, by rw [List.length_append, hp]; rfl, fun a ha => ?_⟩
      · have e : ID p ++ [.int d] = ID (p ++ [d]) := by rw [show ∀ a b, ID (a ++ b) = ID a ++ ID b from fun a b => List.map_append]; rfl
        rw [← e]
        rfl
      · rcases List.mem_append.mp ha with h | h
        · exact hm a h
        · rw [List.mem_singleton.mp h]
          exact dd
  · obtain ⟨p, s6, rfl, hp, hm⟩ := hr
    rw [ints_len] at hp
    refine xs_frz 5 rfl ?_
    exact xs_retD (xd_var rfl) ⟨p, rfl, hm, by omega⟩
def sg__law_turned : Sg := fun ds R => ∃ l : List Int, ds = [.lst (ID l)] ∧ (l ≠ [] ∧ l.length ≤ 4000) ∧ R = Eq (.lst (ID (turnL l)))
abbrev N__law_turned : List Str := ["_law_lap", "_law_k"]
theorem sc__law_turned : FnScope N__law_turned ["_law_lap"] (defScope (top 102)) := ⟨rfl, rfl, rfl, by decide +kernel, rfl, by decide +kernel, by decide +kernel⟩
abbrev H__law_turned (P : Program) (w : World) (K : PySem.W.Frag) (mg : Str → Option Value) (base : Heap) : Prop := Has P w K mg base "_law_turned" 1 ["_law_lap"] (spX K sg__law_turned)

theorem ok__law_turned (B : Blt K mg) (Df : Dfd K mg "_law_turned" 102)  : H__law_turned P w K mg base := by
  refine has_mk Df (fun _ _ _ _ _ _ us hl => match us, hl with | [_], _ => rfl) fun f fd F => ?_
  refine fn_ok F sc__law_turned (fun ds R ⟨_, e, _⟩ => e ▸ rfl) (fun cdv A outer s H E hr => ⟨_, (pss_one (ps_ret (pe_callB (cr_minA (α := List Int) rfl hr.units) rfl B.min bt_min (pa_cons (pe_lc (own := [("_law_k", 1)]) (g := (gName 1)) (by rfl) sc__law_turned.nd (pi_range1 rfl B.range (pa_cons (pe_callB cr_lenS rfl B.len bt_len (pa_cons (pv 0) pa_nil)) pa_nil)) (blkOk_by (own := [("_law_k", 1)]) (N := N__law_turned) (sc := defScope (top 102)) (by decide +kernel)) (fun _ _ _ _ _ => (pg_name (i := 1) sc__law_turned.nd rfl (Or.inl rfl))) (fun _ _ _ _ _ => pts_nil) (fun _ _ _ _ _ => (pe_op op_cat (pe_slice (sl_listK (K := K) rfl) (pv 0) (po_some (pv 1)) po_none) (pe_slice (sl_listK (K := K) rfl) (pv 0) po_none (po_some (pv 1)))))) pa_nil)))), fun ds R h => ?_⟩)
  obtain ⟨l, rfl, ⟨h0, h1⟩, rfl⟩ := h
  have el : ((ID l).length : Nat) = l.length := List.length_map _
  refine xs_retD (xd_turns (xl_of ?_) h0) rfl
  unfold rots
  rw [List.map_map]
  refine xd_lcM (List.range l.length) (fun (i : Nat) => .int ((0 : Int) + (i : Int))) _ ?_ (by decide) (by rw [List.length_range]; omega) fun i hi => ?_
  · refine ix_rng1 (n := ((l.length : Nat) : Int)) (xa_cons (XD.eq (xd_len (xl_of (xd_var rfl))) ?_) xa_nil) (by omega) (by omega)
    rw [el]
  · have hi := List.mem_range.mp hi
    refine XD.eq (xd_cat (xm_of (xd_slL (xl_of (xd_var rfl)) (xo_some (xd_var rfl)) xo_none)) (xm_of (xd_slL (xl_of (xd_var rfl)) xo_none (xo_some (xd_var rfl)))) ?_) ?_
    · rw [cutD_map, cutD_map, Int.zero_add, cutD_from _ _ (by omega), cutD_pre _ _ (by omega), List.length_map, List.length_map, List.length_drop, List.length_take]
      omega
    · rw [cutD_map, cutD_map, Int.zero_add, cutD_from _ _ (by omega), cutD_pre _ _ (by omega), ← List.map_append, Int.toNat_natCast]
      rfl
def sg__law_small_book : Sg := fun ds R => ∃ (ns : List Int) (at_ : Nat), ds = [.rlst (ID ns), .int at_] ∧ True ∧ R = fun x => ∃ m rs, x = bd m rs ∧ BkOk m rs
theorem sg_far {m far : Int} {d : Nat} {s : Sent} (h : SG m far d s) (hf : 0 ≤ far) : reachS s ≤ far := mx_le hf fun y hy => by
  obtain ⟨t, ht, hy⟩ := List.mem_flatMap.mp hy
  exact h.fr t ht y hy
abbrev N__law_small_book : List Str := ["_law_script", "_law_at", "_law_cell", "_law_many", "_law_far", "_law_size_here", "_law_rules", "_law_k", "_law_there", "_law_sentence_here"]
theorem sc__law_small_book : FnScope N__law_small_book ["_law_script", "_law_at"] (defScope (top 103)) := ⟨rfl, rfl, rfl, by decide +kernel, rfl, by decide +kernel, by decide +kernel⟩
abbrev H__law_small_book (P : Program) (w : World) (K : PySem.W.Frag) (mg : Str → Option Value) (base : Heap) : Prop := Has P w K mg base "_law_small_book" 8 ["_law_script", "_law_at"] (spX K sg__law_small_book)

theorem ok__law_small_book (B : Blt K mg) (Df : Dfd K mg "_law_small_book" 103) (h__law_draw : H__law_draw P w K mg base) (h__law_sentence : H__law_sentence P w K mg base) (h__law_cell_at : H__law_cell_at P w K mg base) : H__law_small_book P w K mg base := by
  refine has_mk Df (fun _ _ _ _ _ _ us hl => match us, hl with | [_, _], _ => rfl) fun f fd F => ?_
  refine fn_ok F sc__law_small_book (fun ds R ⟨_, _, e, _⟩ => e ▸ rfl) (fun cdv A outer s H E hr => ⟨_, (pss_cons (ps_set (i := 2) sc__law_small_book.nd rfl (by first | exact Or.inl rfl | exact Or.inr rfl) (pe_callH h__law_cell_at (hr.mono (by decide)) rfl (pa_cons (pv 0) (pa_cons (pv 1) pa_nil))))
    (pss_cons (ps_set (i := 3) sc__law_small_book.nd rfl (by first | exact Or.inl rfl | exact Or.inr rfl) (pe_ix ix_list (pe_lst (pa_cons (pe_op op_add pe_int (pe_callH h__law_draw (hr.mono (by decide)) rfl (pa_cons (pv 2) (pa_cons pe_int (pa_cons pe_int pa_nil))))) (pa_cons pe_int pa_nil))) (pe_callTy cr_int1 rfl B.int bt_int (pa_cons (pe_cmpR op_eq (pe_callH h__law_draw (hr.mono (by decide)) rfl (pa_cons (pv 2) (pa_cons pe_int (pa_cons pe_int pa_nil)))) pe_int (nomark _)) pa_nil)) (fun _ _ => rfl)))
    (pss_cons (ps_set (i := 4) sc__law_small_book.nd rfl (by first | exact Or.inl rfl | exact Or.inr rfl) (pe_ix ix_list (pe_lst (pa_cons (pe_op op_add pe_int (pe_callH h__law_draw (hr.mono (by decide)) rfl (pa_cons (pv 2) (pa_cons pe_int (pa_cons pe_int pa_nil))))) (pa_cons pe_int pa_nil))) (pe_callTy cr_int1 rfl B.int bt_int (pa_cons (pe_and (pe_cmpR op_eq (pe_callH h__law_draw (hr.mono (by decide)) rfl (pa_cons (pv 2) (pa_cons pe_int (pa_cons pe_int pa_nil)))) pe_int (nomark _)) (pe_one (pe_cmpR op_lt (pv 3) pe_int (nomark _)))) pa_nil)) (fun _ _ => rfl)))
    (pss_cons (ps_set (i := 5) sc__law_small_book.nd rfl (by first | exact Or.inl rfl | exact Or.inr rfl) (pe_ix ix_list (pe_lst (pa_cons (pe_callH h__law_draw (hr.mono (by decide)) rfl (pa_cons (pv 2) (pa_cons pe_int (pa_cons pe_int pa_nil)))) (pa_cons pe_int pa_nil))) (pe_callTy cr_int1 rfl B.int bt_int (pa_cons (pe_cmpR op_eq (pe_callH h__law_draw (hr.mono (by decide)) rfl (pa_cons (pv 2) (pa_cons pe_int (pa_cons pe_int pa_nil)))) pe_int (nomark _)) pa_nil)) (fun _ _ => rfl)))
    (pss_cons (ps_set (i := 6) sc__law_small_book.nd rfl (by first | exact Or.inl rfl | exact Or.inr rfl) (pe_lst pa_nil))
    (pss_cons (ps_for PassesOwn.never rfl (pi_range1 rfl B.range (pa_cons (pv 5) pa_nil)) (pg_name (i := 7) sc__law_small_book.nd rfl (by first | exact Or.inl rfl | exact Or.inr rfl)) (pss_cons (ps_set (i := 8) sc__law_small_book.nd rfl (by first | exact Or.inl rfl | exact Or.inr rfl) (pe_op op_add (pe_op op_add (pv 1) pe_int) (pe_op op_mul (pe_ix ix_list (pe_lst (pa_cons pe_int (pa_cons pe_int pa_nil))) (pe_op op_fdivN (pv 5) pe_int) (fun _ _ => rfl)) (pv 7))))
    (pss_cons (ps_set (i := 9) sc__law_small_book.nd rfl (by first | exact Or.inl rfl | exact Or.inr rfl) (pe_callH h__law_sentence (hr.mono (by decide)) rfl (pa_cons (pv 0) (pa_cons (pv 8) (pa_cons (pe_op op_add pe_int (pe_callH h__law_draw (hr.mono (by decide)) rfl (pa_cons (pv 2) (pa_cons (pe_op op_add pe_int (pv 7)) (pa_cons (pe_ix ix_list (pe_lst (pa_cons pe_int (pa_cons pe_int pa_nil))) (pe_op op_fdivN (pv 5) pe_int) (fun _ _ => rfl)) pa_nil))))) (pa_cons (pv 3) (pa_cons (pv 4) pa_nil)))))))
    (pss_one (ps_expr (pe_bm PySem.F.plainAttrs_list PySem.F.slot_list_append PySem.F.type_list_append mt_append (pv 6) (pa_cons (pe_tup (pa_cons (pv 9) (pa_cons (pe_callH h__law_draw (hr.mono (by decide)) rfl (pa_cons (pv 2) (pa_cons (pe_op op_add pe_int (pv 7)) (pa_cons (pv 3) pa_nil)))) pa_nil))) pa_nil)))))))
    (pss_one (ps_ret (pe_tup (pa_cons (pv 3) (pa_cons (pv 6) pa_nil))))))))))), fun ds R h => ?_⟩)
  obtain ⟨ns, at_, rfl, _, rfl⟩ := h
  apply xs_seq
  apply xs_asgD (xd_cell at_ (xd_var rfl) (xd_var rfl))
  generalize cellF ns at_ = c
  have d0 := drawF_in c 0 (b := 3) (by decide)
  have d2 := drawF_in c 2 (b := 3) (by decide)
  have d4 := drawF_in c 4 (b := 5) (by decide)
  have bi : ∀ b : Bool, (if b then (1 : Int) else 0) = 0 ∨ (if b then (1 : Int) else 0) = 1 := fun b => by cases b <;> simp
  apply xs_seq
  obtain ⟨m, hm, e1⟩ : ∃ m : Int, (1 ≤ m ∧ m ≤ 4) ∧ (if (if decide (drawF c 1 6 = 1) then (1 : Int) else 0) = 0 then D.int (1 + drawF c 0 3) else .int 4) = .int m := by
    cases decide (drawF c 1 6 = 1)
    · exact ⟨_, ⟨by omega, by omega⟩, rfl⟩
    · exact ⟨4, by decide, rfl⟩
  apply xs_asgD (x := .int m) (XD.eq (xd_pick (xd_add xd_int (xd_draw 0 (xd_var rfl) xd_int xd_int ⟨by decide, by decide, by decide⟩)) xd_int (xd_int1 (xd_eqI (xd_draw 1 (xd_var rfl) xd_int xd_int ⟨by decide, by decide, by decide⟩) xd_int)) (bi _)) e1)
  apply xs_seq
  obtain ⟨far, hf, e2⟩ : ∃ far : Int, (1 ≤ far ∧ far ≤ 5 ∧ (3 ≤ m → far ≤ 3)) ∧ (if (if decide (drawF c 3 6 = 1) && decide (m < 3) then (1 : Int) else 0) = 0 then D.int (1 + drawF c 2 3) else .int 5) = .int far := by
    cases decide (drawF c 3 6 = 1)
    · exact ⟨_, ⟨by omega, by omega, fun _ => by omega⟩, rfl⟩
    · by_cases h : m < 3
      · rw [decide_eq_true h]
        exact ⟨5, ⟨by decide, by decide, fun _ => by omega⟩, rfl⟩
      · rw [decide_eq_false h]
        exact ⟨_, ⟨by omega, by omega, fun _ => by omega⟩, rfl⟩
  apply xs_asgD (x := .int far) (XD.eq (xd_pick (xd_add xd_int (xd_draw 2 (xd_var rfl) xd_int xd_int ⟨by decide, by decide, by decide⟩)) xd_int (xd_int1 (xd_and (xd_eqI (xd_draw 3 (xd_var rfl) xd_int xd_int ⟨by decide, by decide, by decide⟩) xd_int) fun _ => xd_lt (xd_var rfl) xd_int)) (bi _)) e2)
  apply xs_seq
  obtain ⟨z, hz, e3⟩ : ∃ z : Int, ((0 ≤ z ∧ z ≤ 4) ∨ z = 8) ∧ (if (if decide (drawF c 5 8 = 1) then (1 : Int) else 0) = 0 then D.int (drawF c 4 5) else .int 8) = .int z := by
    cases decide (drawF c 5 8 = 1)
    · exact ⟨_, .inl ⟨by omega, by omega⟩, rfl⟩
    · exact ⟨8, .inr rfl, rfl⟩
  apply xs_asgD (x := .int z) (XD.eq (xd_pick (xd_draw 4 (xd_var rfl) xd_int xd_int ⟨by decide, by decide, by decide⟩) xd_int (xd_int1 (xd_eqI (xd_draw 5 (xd_var rfl) xd_int xd_int ⟨by decide, by decide, by decide⟩) xd_int)) (bi _)) e3)
  apply xs_seq
  apply xs_asgM (ds := []) xa_nil (by decide)
  apply xs_seq
  obtain ⟨q, hq, e4⟩ : ∃ q : Int, (q = 2 ∨ q = 4) ∧ (if z.fdiv 8 = 0 then D.int 4 else .int 2) = .int q := by
    by_cases h : z.fdiv 8 = 0
    · rw [if_pos h]
      exact ⟨4, .inr rfl, rfl⟩
    · rw [if_neg h]
      exact ⟨2, .inl rfl, rfl⟩
  have z8 : z.fdiv 8 = 0 ∨ z.fdiv 8 = 1 := by
    rw [Int.fdiv_eq_ediv_of_nonneg _ (by decide)]
    omega
  have pk : ∀ {r : List Sl}, r[5]? = some (.d (.int z)) → XD K (tOp (rIxL K) (tLst (tCons (tC (.int 4)) (tCons (tC (.int 2)) tNil))) (tOp (rI CDivN fun i j => .int (i.fdiv j)) (tVar 5) (tC (.int 8)))) r (.int q) := fun {r} e => XD.eq (xd_pick xd_int xd_int (xd_fdiv (xd_var e) xd_int ⟨by decide, by decide⟩) z8) e4
  refine xs_forN (ys := intsD 0 z.toNat) (fun i r => ∃ (rs : List Rl) (s7 s8 s9 : Sl), r = [.d (.rlst (ID ns)), .d (.int at_), .d (.int c), .d (.int m), .d (.int far), .d (.int z), .l (rs.map rld), s7, s8, s9] ∧ rs.length = i ∧ ∀ r ∈ rs, (SOk m r.1 ∧ 0 ≤ r.2 ∧ r.2 < m) ∧ reachS r.1 ≤ far)
    (ix_rng1 (xa_cons (xd_var rfl) xa_nil) (by omega) (by omega)) ⟨[], _, _, _, rfl, rfl, fun _ h => nomatch h⟩ (fun i y r hy hr => ?_) (fun r hr => ?_)
  · obtain ⟨rs, s7, s8, s9, rfl, hl, hr⟩ := hr
    have hi := (List.getElem?_eq_some_iff.mp hy).1
    rw [ints_len] at hi
    rw [ints_at hi] at hy
    cases hy
    apply xs_seq
    have e5 : ((at_ : Int) + 1 + q * (0 + (i : Nat))) = ((at_ + 1 + q.toNat * i : Nat) : Int) := by
      rcases hq with rfl | rfl
      · show _ = ((at_ + 1 + 2 * i : Nat) : Int)
        omega
      · show _ = ((at_ + 1 + 4 * i : Nat) : Int)
        omega
    apply xs_asgD (x := .int ((at_ + 1 + q.toNat * i : Nat) : Int)) (XD.eq (xd_add (xd_add (xd_var rfl) xd_int) (xd_mul (pk rfl) (xd_var rfl) (.inl (by omega)))) (congrArg D.int e5))
    apply xs_seq
    have dq := drawF_in c (6 + i) (b := q) (by omega)
    refine xs_asg (xe_call (xa_cons (xd_var rfl) (xa_cons (xd_var rfl) (xa_cons (xd_add xd_int (xd_draw (c := c) (b := q) (6 + i) (xd_var rfl) (XD.eq (xd_add (xd_int (i := 6)) (xd_var rfl)) ?_) (pk rfl) ⟨by omega, by omega, by omega⟩)) (xa_cons (xd_var rfl) (xa_cons (xd_var rfl) xa_nil))))) ⟨ns, (at_ + 1 + q.toNat * i), _, m, far, rfl, ⟨by omega, by omega, by omega, by omega, by omega, by omega⟩, rfl⟩) fun x hx => ?_
    · congr 1
      omega
    · obtain ⟨s, rfl, hs, hz'⟩ := hx
      have dw := drawF_in c (14 + i) (b := m) (by omega)
      refine xs_app (x := rld (s, drawF c (14 + i) m)) (i := 6) rfl (xd_tup (xa_cons (xd_var rfl) (xa_cons (xd_draw (14 + i) (xd_var rfl) (XD.eq (xd_add (xd_int (i := 14)) (xd_var rfl)) ?_) (xd_var rfl) ⟨by omega, by omega, by omega⟩) xa_nil)) (by show 2 ≤ 100000; decide)) (by rw [List.length_map]; omega) ?_
      · congr 1
        omega
      · refine ⟨rs ++ [(s, drawF c (14 + i) m)], .d (.int (0 + (i : Nat))), .d (.int (at_ + 1 + q.toNat * i : Nat)), .d (sd s), ?_, by rw [List.length_append, hl]; rfl, fun r hr' => ?_⟩
        · rw [List.map_append]
          rfl
        · rcases List.mem_append.mp hr' with h | h
          · exact hr r h
          · rw [List.mem_singleton.mp h]
            exact ⟨⟨⟨hs.ok, by omega, hs.dp, hz'⟩, dw⟩, sg_far hs (by omega)⟩
  · obtain ⟨rs, s7, s8, s9, rfl, hl, hr⟩ := hr
    rw [ints_len] at hl
    refine xs_frz 6 rfl ?_
    exact xs_retD (xd_tup (xa_cons (xd_var rfl) (xa_cons (xd_var rfl) xa_nil)) (by show 2 ≤ 100000; decide)) ⟨m, rs, rfl, hm.1, hm.2, by omega, fun r h => (hr r h).1, fun h3 r h => Int.le_trans (hr r h).2 (hf.2.2 h3)⟩
end
end Dx
end

section
set_option Elab.async false
set_option linter.all false
set_option maxRecDepth 100000
set_option maxHeartbeats 4000000
namespace Dx
open PySem PySem.Spec PyProof.Rows L2 Evl RZ
local macro_rules | `(tactic| walk_at "sd") => `(tactic| first | rfl | assumption | omega | exact Nat.le_of_ble_eq_true rfl | exact decide_eq_false (by omega) | exact decide_eq_true (by omega) | decide | (constructor <;> omega) | (simp only [List.length_map]; omega) | (simp only [List.length_map]; constructor <;> omega))
local macro_rules | `(tactic| walk_at "sd?") => `(tactic| first | walk_at "sd" | rotate_left)
local macro_rules | `(tactic| walk_at "xl") => `(tactic| first | exact xl_own rfl | (apply xl_of; walk_at "xd") | (apply xl_r; walk_at "xd"))
local macro_rules | `(tactic| walk_at "xm") => `(tactic| first | exact xm_own rfl | (apply xm_of; walk_at "xd"))
local macro_rules | `(tactic| walk_at "xu") => `(tactic| first | (apply xu_of; walk_at "xd") | (apply xu_r; walk_at "xd") | (apply xu_k; walk_at "xd"))
local macro_rules | `(tactic| walk_at "xa") => `(tactic| first | exact xa_nil | (apply xa_cons; walk_at "xd"; walk_at "xa"))
local macro_rules | `(tactic| walk_at "xo") => `(tactic| first | exact xo_none | (apply xo_some; walk_at "xd"))
local macro_rules | `(tactic| walk_at "xd") => `(tactic| first
  | exact xd_int | exact xd_str | exact xd_bl | exact xd_non | exact xd_var rfl
  | (apply xd_add; walk_at "xd"; walk_at "xd") | (apply xd_sub; walk_at "xd"; walk_at "xd") | (apply xd_neg; walk_at "xd")
  | (apply xd_mul; walk_at "xd"; walk_at "xd"; walk_at "sd?") | (apply xd_fdiv; walk_at "xd"; walk_at "xd"; walk_at "sd?") | (apply xd_mod; walk_at "xd"; walk_at "xd"; walk_at "sd?")
  | (apply xd_lt; walk_at "xd"; walk_at "xd") | (apply xd_le; walk_at "xd"; walk_at "xd") | (apply xd_gt; walk_at "xd"; walk_at "xd") | (apply xd_ge; walk_at "xd"; walk_at "xd")
  | (apply xd_chainLe; walk_at "xd"; walk_at "xd"; walk_at "xd")
  | (apply xd_eqI; walk_at "xd"; walk_at "xd") | (apply xd_neI; walk_at "xd"; walk_at "xd") | (apply xd_eqS; walk_at "xd"; walk_at "xd") | (apply xd_neS; walk_at "xd"; walk_at "xd")
  | (apply xd_isN; walk_at "xd"; walk_at "xd") | (apply xd_notN; walk_at "xd"; walk_at "xd")
  | (apply xd_not; walk_at "xd") | (apply xd_and; walk_at "xd"; (intro _; walk_at "xd")) | (apply xd_or; walk_at "xd"; (intro _; walk_at "xd"))
  | (apply xd_ixT; walk_at "xu"; walk_at "xd"; rfl) | (apply xd_ixIU; walk_at "xu"; walk_at "xd"; walk_at "sd?") | (apply xd_ixI; walk_at "xl"; walk_at "xd"; walk_at "sd?") | (apply xd_ixL; walk_at "xl"; walk_at "xd"; walk_at "sd?")
  | (apply xd_tup; walk_at "xa"; walk_at "sd?") | (apply xd_lst; walk_at "xa"; walk_at "sd?")
  | (apply xd_len; walk_at "xl") | (apply xd_lenU; walk_at "xu") | (apply xd_abs; walk_at "xd") | (apply xd_min2; walk_at "xd"; walk_at "xd")
  | (apply xd_isi; walk_at "xd"; (first | exact kb_int | exact kb_int_bool | exact kb_tuple | exact kb_list | exact kb_str | exact kb_bool_bool))
  | (apply xd_slL; walk_at "xl"; walk_at "xo"; walk_at "xo") | (apply xd_slT; walk_at "xd"; walk_at "xo"; walk_at "xo")
  | (apply xd_cat; walk_at "xm"; walk_at "xm"; walk_at "sd?") | (apply xd_catT; walk_at "xd"; walk_at "xd"; walk_at "sd?")
  | (apply xd_list; walk_at "xl") | (apply xd_listU; walk_at "xu") | (apply xd_tuple; walk_at "xl") | (apply xd_tupleT; walk_at "xd")
  | (apply xd_slk; walk_at "xd"; walk_at "xo"; walk_at "xo") | (apply xd_catK; walk_at "xd"; walk_at "xd"; walk_at "sd?") | exact xd_tupK0 | (apply xd_tupK1; walk_at "xd")
  | (apply xe_call; walk_at "xa"; walk_at "sg"))
local macro_rules | `(tactic| walk_at "sg") => `(tactic| first | exact ⟨_, rfl, rfl⟩ | exact ⟨_, _, rfl, rfl⟩ | exact ⟨_, _, _, rfl, rfl⟩ | exact ⟨_, _, _, _, rfl, rfl⟩ | exact ⟨_, _, _, _, _, rfl, rfl⟩ | exact ⟨_, _, _, _, _, _, rfl, rfl⟩ | exact ⟨_, _, _, _, _, _, _, rfl, rfl⟩ | (refine' ⟨_, rfl, ?_, rfl⟩; walk_at "sd?") | (refine' ⟨_, _, rfl, ?_, rfl⟩; walk_at "sd?") | (refine' ⟨_, _, _, rfl, ?_, rfl⟩; walk_at "sd?") | (refine' ⟨_, _, _, _, rfl, ?_, rfl⟩; walk_at "sd?") | (refine' ⟨_, _, _, _, _, rfl, ?_, rfl⟩; walk_at "sd?") | (refine' ⟨_, _, _, _, _, _, rfl, ?_, rfl⟩; walk_at "sd?") | (refine' ⟨_, _, _, _, _, _, _, rfl, ?_, rfl⟩; walk_at "sd?"))
local macro_rules | `(tactic| walk_at "asg") => `(tactic| (apply xs_seq; apply xs_asgD; walk_at "xd"))
local macro_rules | `(tactic| walk_at "guard") => `(tactic| (apply xs_seq; apply xs_guard; walk_at "xt"; walk_at "sd?"))
local macro_rules | `(tactic| walk_at "ret") => `(tactic| (apply xs_retE; walk_at "xd"; exact rfl; walk_at "sd?"))
local macro_rules | `(tactic| walk_at "xt") => `(tactic| first
  | (apply xt_B; walk_at "xd") | (apply xt_T; walk_at "xd") | (apply xt_not; walk_at "xt") | (apply xt_and; walk_at "xt"; (intro _; walk_at "xt")) | (apply xt_or; walk_at "xt"; (intro _; walk_at "xt")) | exact xt_yes)
local macro_rules | `(tactic| walk_at "grd") => `(tactic| (apply xs_seq; apply xs_guard; walk_at "xt"))
local macro_rules | `(tactic| walk_at "grl") => `(tactic| (apply xs_guard; walk_at "xt"))
local macro_rules | `(tactic| walk_at "unp2") => `(tactic| (apply xs_seq; apply xs_asgG; walk_at "xd"; exact xg_tup (xgs_cons (xgs_cons xgs_nil)) rfl))
local macro_rules | `(tactic| walk_at "if") => `(tactic| (apply xs_seq; apply xs_if; walk_at "xt"))
local macro_rules | `(tactic| walk_at "drop") => `(tactic| (apply xs_seq; apply xs_drop; walk_at "xd"))

open Ma
section
variable {K : PySem.W.Frag} {ρ : List Sl} {P : Po} {R : D → Prop} {tb tc te : TE} {ta : TA} {t : TS}
/-- for, over a list known only in part -/
theorem xs_forE {wi : TI} {g : TG} {js : List Nat} (Pr : List D → Prop) (Iv : List D → Nat → List Sl → Prop) (hw : IXE K wi ρ Pr) (h0 : ∀ ys, Pr ys → Iv ys 0 ρ) (hg : ∀ ys, Pr ys → ∀ i y r, ys[i]? = some y → Iv ys i r → ∃ r', XG K g js y r r' ∧ XS K t r' { P with nx := Iv ys (i + 1), ct := Iv ys (i + 1), bk := P.nx })
    (hd : ∀ ys, Pr ys → ∀ r, Iv ys ys.length r → P.nx r) : XS K (tFor wi g t) ρ P := fun G0 H0 σ H E ⟨G, A, s⟩ f =>
  hw H0 G H σ A.i s _ fun ys J G1 H1 hp A1 W => by
    have A01 := A.trans A1
    refine for_it W (fun i σ' H' => ∃ r G2, Iv ys i r ∧ Ex G1 G2 ∧ Adv G0 H0 G2 H' ∧ SR K H0 G2 H' σ' r) ⟨ρ, G1, h0 ys hp, Ex.refl _, A01, s.adv A1⟩ (fun i σ' H' _ p => ?_) (fun i x σ' H' H'' hi p hy => ?_) (fun σ' H' p => ?_)
    · obtain ⟨r, G2, _, a, b, _⟩ := p
      exact a.trans b.i
    · obtain ⟨r, G2, iv, a, b, s2⟩ := p
      obtain ⟨G3, y, h1, A3, dx⟩ := hy G2 a b.i
      obtain ⟨r', hx, hs⟩ := hg ys hp i y r h1 iv
      refine hx H0 G3 H'' σ' x A3.i (s2.adv A3) dx _ fun σ2 s3 _ => ?_
      have base : ∀ {ρ' : List Sl} {σ' : L2.St} {H' : Hp}, Rdy K G1 H0 ρ' σ' H' → ∃ G2, Ex G1 G2 ∧ Adv G0 H0 G2 H' ∧ SR K H0 G2 H' σ' ρ' := fun ⟨G4, A4, s4⟩ => ⟨G4, A4.g, A01.down A4, s4⟩
      refine hs G1 H0 σ2 H'' _ ⟨G3, (b.trans A3).base A01.g (a.trans A3.g), s3⟩ ⟨fun ρ' σ' H' q r' => ?_, fun x v G H q A5 dx => f.rt x v G H q (A01.down A5) dx, fun ρ' σ' H' q r' => ?_, fun ρ' σ' H' q r' => ?_, fun kvs p ob ws G H q A5 => f.rd kvs p ob ws G H q (A01.down A5)⟩
      · obtain ⟨G4, x1, x2, x3⟩ := base r'
        exact ⟨ρ', G4, q, x1, x2, x3⟩
      · obtain ⟨G4, x1, x2, x3⟩ := base r'
        exact f.nx ρ' σ' H' q ⟨G4, x2, x3⟩
      · obtain ⟨G4, x1, x2, x3⟩ := base r'
        exact ⟨ρ', G4, q, x1, x2, x3⟩
    · obtain ⟨r, G2, iv, a, b, s2⟩ := p
      exact f.nx r σ' H' (hd ys hp r iv) ⟨G2, b, s2⟩
/-- arguments known only in part -/
def XAE (K : PySem.W.Frag) (ta : TA) (ρ : List Sl) (S : List D → Prop) : Prop := ∀ (H0 G H : Hp) (σ : L2.St), Ex G H → SR K H0 G H σ ρ → ∀ Q : List V → Hp → Prop, (∀ vs ds G' H', S ds → Adv G H G' H' → DaAll K G' vs ds → Q vs H') → ta σ H Q
theorem xae_nil : XAE K tNil ρ (Eq []) := fun H0 G H σ e s Q q => q [] [] G H rfl (Adv.refl e) .nil
theorem xae_cons {tr : TA} {S S' : List D → Prop} (h : XE K te ρ R) (hr : XAE K tr ρ S) (hc : ∀ x xs, R x → S xs → S' (x :: xs)) : XAE K (tCons te tr) ρ S' := fun H0 G H σ e s Q q =>
  h H0 G H σ e s _ fun v y G1 H1 A1 ry dy => hr H0 G1 H1 σ A1.i (s.adv A1) _ fun vs ds G2 H2 hs A2 d =>
    q _ _ G2 H2 (hc y ds ry hs) (A1.trans A2) (.cons (dy.mono A2.g) d)
theorem xae_one {S' : List D → Prop} (h : XE K te ρ R) (hc : ∀ x, R x → S' [x]) : XAE K (tCons te tNil) ρ S' := xae_cons h xae_nil fun x xs hx e => e ▸ hc x hx
theorem xe_tup {S : List D → Prop} (h : XAE K ta ρ S) (hr : ∀ ds, S ds → ds.length ≤ 100000 ∧ R (.tup ds)) : XE K (tTup ta) ρ R := fun H0 G H σ e s Q q => h H0 G H σ e s _ fun vs ds G1 H1 hs A1 d =>
  ⟨by rw [d.length]; exact sz_of (hr ds hs).1, fun p hp => q _ _ _ _ (A1.trans (Adv.new A1.i hp)) (hr ds hs).2 (.tup upd_same (d.mono (Adv.new A1.i hp).g))⟩
theorem xe_lst {S : List D → Prop} (h : XAE K ta ρ S) (hr : ∀ ds, S ds → ds.length ≤ 100000 ∧ R (.lst ds)) : XE K (tLst ta) ρ R := fun H0 G H σ e s Q q => h H0 G H σ e s _ fun vs ds G1 H1 hs A1 d =>
  ⟨by rw [d.length]; exact sz_of (hr ds hs).1, fun p hp => q _ _ _ _ (A1.trans (Adv.new A1.i hp)) (hr ds hs).2 (.lst upd_same (d.mono (Adv.new A1.i hp).g))⟩
theorem xe_callE {S : Sg} {E : XK} {S' : List D → Prop} (h : XAE K ta ρ S') (hs : ∀ ds, S' ds → S ds R) : XE K (tCall (spX K S) [] E ta) ρ R := fun H0 G H σ e s Q q => h H0 G H σ e s _ fun vs ds G1 H1 hp A1 d =>
  ⟨G1, ds, R, A1.i, by rw [List.append_nil]; exact d, hs ds hp, fun v x G2 H2 A2 rx dx => q v x G2 H2 (A1.trans A2) rx dx⟩
end
/-! the ends as the law lists them -/
def ab (i : Int) : Int := if i < 0 then -i else i
theorem ab_nat (i : Int) : ab i = (i.natAbs : Int) := abs_nat i
theorem fv_ab {n a b v : Int} (hn : 0 < n) (f : Fv n a b v) : Fv n (ab a) b (ab v) := by
  refine ⟨f.pos, f.le, ?_, ?_⟩
  · have e : (ab a).natAbs = a.natAbs := by rw [ab_nat, Int.natAbs_natCast]
    have := f.g1
    unfold gcdI at this ⊢
    rw [e]
    exact this
  · have h := congrArg Int.natAbs f.val
    rw [Int.natAbs_mul, Int.natAbs_mul] at h
    have hb := f.pos
    have e1 : ((n.natAbs : Nat) : Int) = n := by omega
    have e2 : ((b.natAbs : Nat) : Int) = b := by omega
    have h2 : ((a.natAbs * n.natAbs : Nat) : Int) = ((v.natAbs * b.natAbs : Nat) : Int) := by rw [h]
    rw [Int.natCast_mul, Int.natCast_mul, e1, e2] at h2
    rw [ab_nat, ab_nat]
    exact h2
structure Tr where
  top : Int
  bot : Int
  tn : Nat
  v : Int
instance : Inhabited Tr := ⟨⟨0, 0, 0, 0⟩⟩
def trD (t : Tr) : D := .tup [.int t.top, .int t.bot, .int t.tn]
def lowT (e : En) : Tr := ⟨ab e.lo.tp, e.lo.bt, e.la, ab e.vl⟩
def highT (e : En) : Tr := ⟨ab e.hi.tp, e.hi.bt, e.ha, ab e.vh⟩
def trs (es : List En) : List Tr := es.flatMap fun e => [lowT e, highT e]
theorem trs_app (a b : List En) : trs (a ++ b) = trs a ++ trs b := List.flatMap_append
theorem trs_len : ∀ es : List En, (trs es).length = 2 * es.length
  | [] => rfl
  | e :: es => by
    show (trs es).length + 1 + 1 = 2 * (es.length + 1)
    rw [trs_len es]
    omega
/-- what the far end is known to be -/
structure FarI (n : Int) (T S : List Tr) (F G v : Int) : Prop where
  f0 : 0 ≤ F
  pos : 0 < G
  le : G ≤ n
  g1 : gcdI F G = 1
  val : F * n = v * G
  up : ∀ t ∈ S, t.v ≤ v
  at_ : v = 0 ∨ ∃ t ∈ T, t.v = v
def TrsOk (n : Int) (T : List Tr) : Prop := ∀ t ∈ T, Fv n t.top t.bot t.v ∧ 0 ≤ t.v
theorem trs_ok {ws h l : List Int} {es : List En} (hn : 0 < l.length) (el : es.length = ws.length) (he : ∀ who, who < ws.length → EnOk ws h l who (es.getD who default)) : TrsOk l.length (trs es) := fun t ht => by
  obtain ⟨e, h1, h2⟩ := List.mem_flatMap.mp ht
  obtain ⟨i, hi, rfl⟩ := List.mem_iff_getElem.mp h1
  have ok := he i (by omega)
  rw [show es.getD i default = es[i] by rw [List.getD_eq_getElem?_getD, List.getElem?_eq_getElem hi]; rfl] at ok
  have n0 : (0 : Int) < l.length := by omega
  rcases List.mem_cons.mp h2 with rfl | h2
  · exact ⟨fv_ab n0 ok.lo.isFr.2.2, by show 0 ≤ ab _; rw [ab_nat]; omega⟩
  · rw [List.mem_singleton.mp h2]
    exact ⟨fv_ab n0 ok.hi.isFr.2.2, by show 0 ≤ ab _; rw [ab_nat]; omega⟩
theorem same_iff {a b c d n v u : Int} (hn : 0 < n) (hb : 0 < b) (hd : 0 < d) (h1 : a * n = v * b) (h2 : c * n = u * d) : (a * d = c * b ↔ v = u) := by
  have x := cross hn hb hd h1 h2
  have y := cross hn hd hb h2 h1
  constructor
  · intro h
    have : ¬ v < u := fun z => by have := x.mpr z; omega
    have : ¬ u < v := fun z => by have := y.mpr z; omega
    omega
  · intro h
    have : ¬ a * d < c * b := fun z => by have := x.mp z; omega
    have : ¬ c * b < a * d := fun z => by have := y.mp z; omega
    omega
theorem far_step {n : Int} {T S : List Tr} {F G v : Int} {t : Tr} (hn : 0 < n) (h : FarI n T S F G v) (ht : t ∈ T) (ok : TrsOk n T) : (F * t.bot < t.top * G → FarI n T (S ++ [t]) t.top t.bot t.v) ∧ (¬ F * t.bot < t.top * G → FarI n T (S ++ [t]) F G v) := by
  obtain ⟨f, v0⟩ := ok t ht
  have x := cross hn h.pos f.pos h.val f.val
  constructor
  · intro c
    have lt := x.mp c
    refine ⟨?_, f.pos, f.le, f.g1, f.val, fun s hs => ?_, .inr ⟨t, ht, rfl⟩⟩
    · rcases Int.lt_or_le t.top 0 with z | z
      · have : t.top * n < 0 := Int.mul_neg_of_neg_of_pos z hn
        have : 0 ≤ t.v * t.bot := Int.mul_nonneg v0 (by have := f.pos; omega)
        have := f.val
        omega
      · exact z
    · rcases List.mem_append.mp hs with hs | hs
      · have := h.up s hs
        omega
      · rw [List.mem_singleton.mp hs]
        exact Int.le_refl _
  · intro c
    have lt : ¬ v < t.v := fun z => c (x.mpr z)
    refine ⟨h.f0, h.pos, h.le, h.g1, h.val, fun s hs => ?_, h.at_⟩
    rcases List.mem_append.mp hs with hs | hs
    · exact h.up s hs
    · rw [List.mem_singleton.mp hs]
      omega
theorem gcd_one (a : Int) : gcdI a 1 = 1 := by
  unfold gcdI
  rw [show (1 : Int).natAbs = 1 from rfl, Nat.gcd_one_right]
  rfl
/-- the first turn at the far end -/
theorem first_far {ws h l : List Int} {es : List En} {vf : Int} (k1 : 1 ≤ ws.length) (hn : 0 < l.length) (el : es.length = ws.length) (he : ∀ who, who < ws.length → EnOk ws h l who (es.getD who default)) (up : ∀ t ∈ trs es, t.v ≤ vf) (at_ : vf = 0 ∨ ∃ t ∈ trs es, t.v = vf) :
    (∀ who, who < ws.length → ∀ t, t < h.length + l.length → ((lagV ws h l who t).natAbs : Int) ≤ vf) ∧ (∃ t ∈ trs es, t.v = vf) ∧
    (∀ e ∈ trs es, e.v = vf → e.tn < h.length + l.length ∧ ∃ who, who < ws.length ∧ ((lagV ws h l who e.tn).natAbs : Int) = vf) ∧
    (∀ who t, who < ws.length → t < h.length + l.length → ((lagV ws h l who t).natAbs : Int) = vf → ∃ e ∈ trs es, e.v = vf ∧ e.tn ≤ t) := by
  have get : ∀ i, i < ws.length → lowT (es.getD i default) ∈ trs es ∧ highT (es.getD i default) ∈ trs es := fun i hi => by
    have e : es.getD i default = es[i]'(by omega) := by rw [List.getD_eq_getElem?_getD, List.getElem?_eq_getElem (by omega)]; rfl
    rw [e]
    have m : es[i]'(by omega) ∈ es := List.getElem_mem _
    exact ⟨List.mem_flatMap.mpr ⟨_, m, List.mem_cons_self⟩, List.mem_flatMap.mpr ⟨_, m, List.mem_cons_of_mem _ List.mem_cons_self⟩⟩
  have bd : ∀ who, who < ws.length → ∀ t, t < h.length + l.length → ((lagV ws h l who t).natAbs : Int) ≤ vf := fun who hw t ht => by
    have ok := he who hw
    obtain ⟨m1, m2⟩ := get who hw
    have u1 : ab _ ≤ vf := up _ m1
    have u2 : ab _ ≤ vf := up _ m2
    rw [ab_nat] at u1 u2
    have a1 := ok.lw.2.1 t ht
    have a2 := ok.hg.2.1 t ht
    have b1 := ok.lw.1
    have b2 := ok.hg.1
    omega
  refine ⟨bd, ?_, fun e he' ev => ?_, fun who t hw ht hv => ?_⟩
  · rcases at_ with z | z
    · obtain ⟨m1, _⟩ := get 0 (by omega)
      refine ⟨_, m1, ?_⟩
      have := up _ m1
      have : 0 ≤ (lowT (es.getD 0 default)).v := by show 0 ≤ ab _; rw [ab_nat]; omega
      omega
    · exact z
  · obtain ⟨e0, h1, h2⟩ := List.mem_flatMap.mp he'
    obtain ⟨i, hi, rfl⟩ := List.mem_iff_getElem.mp h1
    have ok := he i (by omega)
    have eg : es.getD i default = es[i] := by rw [List.getD_eq_getElem?_getD, List.getElem?_eq_getElem hi]; rfl
    rw [eg] at ok
    have zero : vf = 0 → ∀ who, who < ws.length → ((lagV ws h l who 0).natAbs : Int) = vf := fun z who hw => by
      have := bd who hw 0 (by omega)
      omega
    rcases List.mem_cons.mp h2 with rfl | h2
    · have ev : ab es[i].vl = vf := ev
      rw [ab_nat] at ev
      show es[i].la < _ ∧ ∃ who, who < ws.length ∧ ((lagV ws h l who es[i].la).natAbs : Int) = vf
      rcases ok.lw.2.2 with ⟨z1, z2⟩ | ⟨z1, z2, z3, z4⟩
      · rw [z2]
        exact ⟨by omega, i, by omega, zero (by omega) i (by omega)⟩
      · exact ⟨z1, i, by omega, by rw [z2]; exact ev⟩
    · rw [List.mem_singleton.mp h2] at ev ⊢
      have ev : ab es[i].vh = vf := ev
      rw [ab_nat] at ev
      show es[i].ha < _ ∧ ∃ who, who < ws.length ∧ ((lagV ws h l who es[i].ha).natAbs : Int) = vf
      rcases ok.hg.2.2 with ⟨z1, z2⟩ | ⟨z1, z2, z3, z4⟩
      · rw [z2]
        exact ⟨by omega, i, by omega, zero (by omega) i (by omega)⟩
      · exact ⟨z1, i, by omega, by rw [z2]; exact ev⟩
  · have ok := he who hw
    obtain ⟨m1, m2⟩ := get who hw
    have u1 := up _ m1
    have u2 := up _ m2
    have e1 : (lowT (es.getD who default)).v = ab (es.getD who default).vl := rfl
    have e2 : (highT (es.getD who default)).v = ab (es.getD who default).vh := rfl
    rw [ab_nat] at e1 e2
    have a1 := ok.lw.2.1 t ht
    have a2 := ok.hg.2.1 t ht
    have b1 := ok.lw.1
    have b2 := ok.hg.1
    rcases Int.lt_or_le (lagV ws h l who t) 0 with z | z
    · refine ⟨_, m1, by omega, ?_⟩
      show (es.getD who default).la ≤ t
      rcases ok.lw.2.2 with ⟨z1, z2⟩ | ⟨z1, z2, z3, z4⟩
      · omega
      · rcases Nat.lt_or_ge t (es.getD who default).la with q | q
        · have := z4 t q
          omega
        · exact q
    · refine ⟨_, m2, by omega, ?_⟩
      show (es.getD who default).ha ≤ t
      rcases ok.hg.2.2 with ⟨z1, z2⟩ | ⟨z1, z2, z3, z4⟩
      · omega
      · rcases Nat.lt_or_ge t (es.getD who default).ha with q | q
        · have := z4 t q
          omega
        · exact q
end Dx
end

section
set_option Elab.async false
set_option linter.all false
set_option maxRecDepth 100000
set_option maxHeartbeats 4000000
namespace Dx
open PySem PySem.Spec PyProof.Rows L2 Evl RZ
local macro_rules | `(tactic| walk_at "sd") => `(tactic| first | rfl | assumption | omega | exact Nat.le_of_ble_eq_true rfl | exact decide_eq_false (by omega) | exact decide_eq_true (by omega) | decide | (constructor <;> omega) | (simp only [List.length_map]; omega) | (simp only [List.length_map]; constructor <;> omega))
local macro_rules | `(tactic| walk_at "sd?") => `(tactic| first | walk_at "sd" | rotate_left)
local macro_rules | `(tactic| walk_at "xl") => `(tactic| first | exact xl_own rfl | (apply xl_of; walk_at "xd") | (apply xl_r; walk_at "xd"))
local macro_rules | `(tactic| walk_at "xm") => `(tactic| first | exact xm_own rfl | (apply xm_of; walk_at "xd"))
local macro_rules | `(tactic| walk_at "xu") => `(tactic| first | (apply xu_of; walk_at "xd") | (apply xu_r; walk_at "xd") | (apply xu_k; walk_at "xd"))
local macro_rules | `(tactic| walk_at "xa") => `(tactic| first | exact xa_nil | (apply xa_cons; walk_at "xd"; walk_at "xa"))
local macro_rules | `(tactic| walk_at "xo") => `(tactic| first | exact xo_none | (apply xo_some; walk_at "xd"))
local macro_rules | `(tactic| walk_at "xd") => `(tactic| first
  | exact xd_int | exact xd_str | exact xd_bl | exact xd_non | exact xd_var rfl
  | (apply xd_add; walk_at "xd"; walk_at "xd") | (apply xd_sub; walk_at "xd"; walk_at "xd") | (apply xd_neg; walk_at "xd")
  | (apply xd_mul; walk_at "xd"; walk_at "xd"; walk_at "sd?") | (apply xd_fdiv; walk_at "xd"; walk_at "xd"; walk_at "sd?") | (apply xd_mod; walk_at "xd"; walk_at "xd"; walk_at "sd?")
  | (apply xd_lt; walk_at "xd"; walk_at "xd") | (apply xd_le; walk_at "xd"; walk_at "xd") | (apply xd_gt; walk_at "xd"; walk_at "xd") | (apply xd_ge; walk_at "xd"; walk_at "xd")
  | (apply xd_chainLe; walk_at "xd"; walk_at "xd"; walk_at "xd")
  | (apply xd_eqI; walk_at "xd"; walk_at "xd") | (apply xd_neI; walk_at "xd"; walk_at "xd") | (apply xd_eqS; walk_at "xd"; walk_at "xd") | (apply xd_neS; walk_at "xd"; walk_at "xd")
  | (apply xd_isN; walk_at "xd"; walk_at "xd") | (apply xd_notN; walk_at "xd"; walk_at "xd")
  | (apply xd_not; walk_at "xd") | (apply xd_and; walk_at "xd"; (intro _; walk_at "xd")) | (apply xd_or; walk_at "xd"; (intro _; walk_at "xd"))
  | (apply xd_ixT; walk_at "xu"; walk_at "xd"; rfl) | (apply xd_ixIU; walk_at "xu"; walk_at "xd"; walk_at "sd?") | (apply xd_ixI; walk_at "xl"; walk_at "xd"; walk_at "sd?") | (apply xd_ixL; walk_at "xl"; walk_at "xd"; walk_at "sd?")
  | (apply xd_tup; walk_at "xa"; walk_at "sd?") | (apply xd_lst; walk_at "xa"; walk_at "sd?")
  | (apply xd_len; walk_at "xl") | (apply xd_lenU; walk_at "xu") | (apply xd_abs; walk_at "xd") | (apply xd_min2; walk_at "xd"; walk_at "xd")
  | (apply xd_isi; walk_at "xd"; (first | exact kb_int | exact kb_int_bool | exact kb_tuple | exact kb_list | exact kb_str | exact kb_bool_bool))
  | (apply xd_slL; walk_at "xl"; walk_at "xo"; walk_at "xo") | (apply xd_slT; walk_at "xd"; walk_at "xo"; walk_at "xo")
  | (apply xd_cat; walk_at "xm"; walk_at "xm"; walk_at "sd?") | (apply xd_catT; walk_at "xd"; walk_at "xd"; walk_at "sd?")
  | (apply xd_list; walk_at "xl") | (apply xd_listU; walk_at "xu") | (apply xd_tuple; walk_at "xl") | (apply xd_tupleT; walk_at "xd")
  | (apply xd_slk; walk_at "xd"; walk_at "xo"; walk_at "xo") | (apply xd_catK; walk_at "xd"; walk_at "xd"; walk_at "sd?") | exact xd_tupK0 | (apply xd_tupK1; walk_at "xd")
  | (apply xe_call; walk_at "xa"; walk_at "sg"))
local macro_rules | `(tactic| walk_at "sg") => `(tactic| first | exact ⟨_, rfl, rfl⟩ | exact ⟨_, _, rfl, rfl⟩ | exact ⟨_, _, _, rfl, rfl⟩ | exact ⟨_, _, _, _, rfl, rfl⟩ | exact ⟨_, _, _, _, _, rfl, rfl⟩ | exact ⟨_, _, _, _, _, _, rfl, rfl⟩ | exact ⟨_, _, _, _, _, _, _, rfl, rfl⟩ | (refine' ⟨_, rfl, ?_, rfl⟩; walk_at "sd?") | (refine' ⟨_, _, rfl, ?_, rfl⟩; walk_at "sd?") | (refine' ⟨_, _, _, rfl, ?_, rfl⟩; walk_at "sd?") | (refine' ⟨_, _, _, _, rfl, ?_, rfl⟩; walk_at "sd?") | (refine' ⟨_, _, _, _, _, rfl, ?_, rfl⟩; walk_at "sd?") | (refine' ⟨_, _, _, _, _, _, rfl, ?_, rfl⟩; walk_at "sd?") | (refine' ⟨_, _, _, _, _, _, _, rfl, ?_, rfl⟩; walk_at "sd?"))
local macro_rules | `(tactic| walk_at "asg") => `(tactic| (apply xs_seq; apply xs_asgD; walk_at "xd"))
local macro_rules | `(tactic| walk_at "guard") => `(tactic| (apply xs_seq; apply xs_guard; walk_at "xt"; walk_at "sd?"))
local macro_rules | `(tactic| walk_at "ret") => `(tactic| (apply xs_retE; walk_at "xd"; exact rfl; walk_at "sd?"))
local macro_rules | `(tactic| walk_at "xt") => `(tactic| first
  | (apply xt_B; walk_at "xd") | (apply xt_T; walk_at "xd") | (apply xt_not; walk_at "xt") | (apply xt_and; walk_at "xt"; (intro _; walk_at "xt")) | (apply xt_or; walk_at "xt"; (intro _; walk_at "xt")) | exact xt_yes)
local macro_rules | `(tactic| walk_at "grd") => `(tactic| (apply xs_seq; apply xs_guard; walk_at "xt"))
local macro_rules | `(tactic| walk_at "grl") => `(tactic| (apply xs_guard; walk_at "xt"))
local macro_rules | `(tactic| walk_at "unp2") => `(tactic| (apply xs_seq; apply xs_asgG; walk_at "xd"; exact xg_tup (xgs_cons (xgs_cons xgs_nil)) rfl))
local macro_rules | `(tactic| walk_at "if") => `(tactic| (apply xs_seq; apply xs_if; walk_at "xt"))
local macro_rules | `(tactic| walk_at "drop") => `(tactic| (apply xs_seq; apply xs_drop; walk_at "xd"))

open Ma
section
variable {P : Program} {w : World} {K : PySem.W.Frag} {mg : Str → Option Value} {base : Heap}
theorem mul_small {a b : Int} (h : Dx.lim b) : CMul a b := by
  unfold Dx.lim at h
  exact .inr ⟨by omega, by omega⟩
def sg__law_lags_right : Sg := fun ds R => ∃ (ws h l : List Int), ds = [.lst (ID ws), run h l] ∧ LagC ws h l ∧ R = Eq (.bl true)
abbrev N__law_lags_right : List Str := ["_law_weights", "_law_running", "_law_ends", "_law_told", "_law_most", "_law_far", "_law_first", "_law_found", "_law_top", "_law_bottom", "_law_turns"]
theorem sc__law_lags_right : FnScope N__law_lags_right ["_law_weights", "_law_running"] (defScope (top 104)) := ⟨rfl, rfl, rfl, by decide +kernel, rfl, by decide +kernel, by decide +kernel⟩
abbrev H__law_lags_right (P : Program) (w : World) (K : PySem.W.Frag) (mg : Str → Option Value) (base : Heap) : Prop := Has P w K mg base "_law_lags_right" 8 ["_law_weights", "_law_running"] (spX K sg__law_lags_right)

theorem ok__law_lags_right (B : Blt K mg) (Df : Dfd K mg "_law_lags_right" 104) (h_broken_at : H_broken_at P w K mg base) (h_lags_of : H_lags_of P w K mg base) : H__law_lags_right P w K mg base := by
  refine has_mk Df (fun _ _ _ _ _ _ us hl => match us, hl with | [_, _], _ => rfl) fun f fd F => ?_
  refine fn_ok F sc__law_lags_right (fun ds R ⟨_, _, _, e, _⟩ => e ▸ rfl) (fun cdv A outer s H E hr => ⟨_, (pss_cons (ps_set (i := 2) sc__law_lags_right.nd rfl (by first | exact Or.inl rfl | exact Or.inr rfl) (pe_lst pa_nil))
    (pss_cons (ps_for PassesOwn.never rfl (pi_list (pe_callH h_lags_of (hr.mono (by decide)) rfl (pa_cons (pv 0) (pa_cons (pv 1) pa_nil)))) (pg_name (i := 3) sc__law_lags_right.nd rfl (by first | exact Or.inl rfl | exact Or.inr rfl)) (pss_cons (ps_if (pt_cmpR op_ne (pe_ix ix_tup (pv 3) pe_int (fun _ _ => rfl)) pe_str (nomark _)) (pss_one (ps_ret pe_bl)) pss_nil)
    (pss_one (ps_expr (pe_bm PySem.F.plainAttrs_list PySem.F.slot_list_extend PySem.F.type_list_extend mt_extend (pv 2) (pa_cons (pe_lst (pa_cons (pe_tup (pa_cons (pe_callB cr_abs rfl B.abs bt_abs (pa_cons (pe_ix ix_tup (pe_ix ix_tup (pv 3) pe_int (fun _ _ => rfl)) pe_int (fun _ _ => rfl)) pa_nil)) (pa_cons (pe_ix ix_tup (pe_ix ix_tup (pv 3) pe_int (fun _ _ => rfl)) pe_int (fun _ _ => rfl)) (pa_cons (pe_ix ix_tup (pv 3) pe_int (fun _ _ => rfl)) pa_nil)))) (pa_cons (pe_tup (pa_cons (pe_callB cr_abs rfl B.abs bt_abs (pa_cons (pe_ix ix_tup (pe_ix ix_tup (pv 3) pe_int (fun _ _ => rfl)) pe_int (fun _ _ => rfl)) pa_nil)) (pa_cons (pe_ix ix_tup (pe_ix ix_tup (pv 3) pe_int (fun _ _ => rfl)) pe_int (fun _ _ => rfl)) (pa_cons (pe_ix ix_tup (pv 3) pe_int (fun _ _ => rfl)) pa_nil)))) pa_nil))) pa_nil))))))
    (pss_cons (ps_set (i := 4) sc__law_lags_right.nd rfl (by first | exact Or.inl rfl | exact Or.inr rfl) (pe_callB (cr_max rfl) rfl B.max bt_max (pa_cons (pe_op op_cat (pe_lc (own := [("_law_top", 8), ("_law_bottom", 9), ("_law_turns", 10)]) (g := (gTup _ 3 (gCons (gName 8) (gCons (gName 9) (gCons (gName 10) gNil))))) (by rfl) sc__law_lags_right.nd (pi_list (pv 2)) (blkOk_by (own := [("_law_top", 8), ("_law_bottom", 9), ("_law_turns", 10)]) (N := N__law_lags_right) (sc := defScope (top 104)) (by decide +kernel)) (fun _ _ _ _ _ => (pg_tup rfl (pgs_cons (pg_name (i := 8) sc__law_lags_right.nd rfl (Or.inl rfl)) (pgs_cons (pg_name (i := 9) sc__law_lags_right.nd rfl (Or.inl rfl)) (pgs_cons (pg_name (i := 10) sc__law_lags_right.nd rfl (Or.inl rfl)) pgs_nil))))) (fun _ _ _ _ _ => (pts_one (pt_cmpR op_eq (pv 9) pe_int (nomark _)))) (fun _ _ _ _ _ => (pv 8))) (pe_lst (pa_cons pe_int pa_nil))) pa_nil)))
    (pss_cons (ps_set (i := 5) sc__law_lags_right.nd rfl (by first | exact Or.inl rfl | exact Or.inr rfl) (pe_tup (pa_cons (pv 4) (pa_cons pe_int pa_nil))))
    (pss_cons (ps_for PassesOwn.never rfl (pi_list (pv 2)) (pg_tup rfl (pgs_cons (pg_name (i := 8) sc__law_lags_right.nd rfl (by first | exact Or.inl rfl | exact Or.inr rfl)) (pgs_cons (pg_name (i := 9) sc__law_lags_right.nd rfl (by first | exact Or.inl rfl | exact Or.inr rfl)) (pgs_cons (pg_name (i := 10) sc__law_lags_right.nd rfl (by first | exact Or.inl rfl | exact Or.inr rfl)) pgs_nil)))) (pss_one (ps_if (pt_cmpR op_gt (pe_op op_mul (pv 8) (pe_ix ix_tup (pv 5) pe_int (fun _ _ => rfl))) (pe_op op_mul (pe_ix ix_tup (pv 5) pe_int (fun _ _ => rfl)) (pv 9)) (nomark _)) (pss_one (ps_set (i := 5) sc__law_lags_right.nd rfl (by first | exact Or.inl rfl | exact Or.inr rfl) (pe_tup (pa_cons (pv 8) (pa_cons (pv 9) pa_nil))))) pss_nil)))
    (pss_cons (ps_if (pt_cmpR op_gt (pe_ix ix_tup (pv 5) pe_int (fun _ _ => rfl)) (pe_op op_mul pe_int (pe_ix ix_tup (pv 5) pe_int (fun _ _ => rfl))) (nomark _)) (pss_one (ps_ret pe_bl)) pss_nil)
    (pss_cons (ps_if (pt_cmpR op_notNo (pe_callH h_broken_at (hr.mono (by decide)) rfl (pa_cons (pv 0) (pa_cons (pv 1) (pa_cons (pe_tup (pa_cons (pv 5) (pa_cons pe_bl pa_nil))) pa_nil)))) pe_non (nomark _)) (pss_one (ps_ret pe_bl)) pss_nil)
    (pss_cons (ps_set (i := 6) sc__law_lags_right.nd rfl (by first | exact Or.inl rfl | exact Or.inr rfl) (pe_callB (cr_min rfl) rfl B.min bt_min (pa_cons (pe_lc (own := [("_law_top", 8), ("_law_bottom", 9), ("_law_turns", 10)]) (g := (gTup _ 3 (gCons (gName 8) (gCons (gName 9) (gCons (gName 10) gNil))))) (by rfl) sc__law_lags_right.nd (pi_list (pv 2)) (blkOk_by (own := [("_law_top", 8), ("_law_bottom", 9), ("_law_turns", 10)]) (N := N__law_lags_right) (sc := defScope (top 104)) (by decide +kernel)) (fun _ _ _ _ _ => (pg_tup rfl (pgs_cons (pg_name (i := 8) sc__law_lags_right.nd rfl (Or.inl rfl)) (pgs_cons (pg_name (i := 9) sc__law_lags_right.nd rfl (Or.inl rfl)) (pgs_cons (pg_name (i := 10) sc__law_lags_right.nd rfl (Or.inl rfl)) pgs_nil))))) (fun _ _ _ _ _ => (pts_one (pt_cmpR op_eq (pe_op op_mul (pv 8) (pe_ix (ix_tupK (K := K) rfl) (pv 5) pe_int (fun _ _ => rfl))) (pe_op op_mul (pe_ix (ix_tupK (K := K) rfl) (pv 5) pe_int (fun _ _ => rfl)) (pv 9)) (nomark _)))) (fun _ _ _ _ _ => (pv 10))) pa_nil)))
    (pss_cons (ps_set (i := 7) sc__law_lags_right.nd rfl (by first | exact Or.inl rfl | exact Or.inr rfl) (pe_callH h_broken_at (hr.mono (by decide)) rfl (pa_cons (pv 0) (pa_cons (pv 1) (pa_cons (pe_tup (pa_cons (pv 5) (pa_cons pe_bl pa_nil))) pa_nil)))))
    (pss_one (ps_ret (pe_or (pe_and (pe_cmpR (op_eqD hr.units) (pv 5) (pe_tup (pa_cons pe_int (pa_cons pe_int pa_nil))) (nomark _)) (pe_one (pe_cmpR (op_eqD hr.units) (pv 7) (pe_tup (pa_cons pe_int (pa_cons pe_int pa_nil))) (nomark _)))) (pe_one (pe_and (pe_cmpR op_notNo (pv 7) pe_non (nomark _)) (pe_one (pe_cmpR op_eq (pe_ix ix_tup (pv 7) pe_int (fun _ _ => rfl)) (pv 6) (nomark _))))))))))))))))), fun ds R h => ?_⟩)
  obtain ⟨ws, h, l, rfl, c, rfl⟩ := h
  have k6 := c.k6
  have k1 := c.k1
  have hp := c.ok.pos
  have hsz := c.sz
  have n0 : (0 : Int) < l.length := by omega
  apply xs_seq; apply xs_asgM xa_nil (by decide)
  apply xs_seq
  refine xs_forE (js := [3]) (fun ys => ∃ es : List En, ys = es.map enW ∧ es.length = ws.length ∧ ∀ who, who < ws.length → EnOk ws h l who (es.getD who default)) (fun ys i r => ∃ (es : List En) (s3 : Sl), ys = es.map enW ∧ es.length = ws.length ∧ (∀ who, who < ws.length → EnOk ws h l who (es.getD who default)) ∧ r = [.d (.lst (ID ws)), .d (run h l), .l ((trs (es.take i)).map trD), s3, .u, .u, .u, .u, .u, .u, .u])
    (ixe_list (xe_call (xa_cons (xd_var rfl) (xa_cons (xd_var rfl) xa_nil)) ⟨ws, h, l, rfl, c, rfl⟩) (fun x ⟨es, e1, e2, e3⟩ => ⟨_, e1, es, rfl, e2, e3⟩)) (fun ys ⟨es, e1, e2, e3⟩ => ⟨es, .u, e1, e2, e3, rfl⟩) (fun ys _ i y r hy hr => ?_) (fun ys _ r hr => ?_)
  · obtain ⟨es, s3, rfl, el, he, rfl⟩ := hr
    have hi : i < es.length := by
      have := (List.getElem?_eq_some_iff.mp hy).1
      rw [List.length_map] at this
      exact this
    rw [List.getElem?_map, List.getElem?_eq_getElem hi] at hy
    cases hy
    have ok := he i (by omega)
    rw [show es.getD i default = es[i] by rw [List.getD_eq_getElem?_getD, List.getElem?_eq_getElem hi]; rfl] at ok
    have tl := trs_len (es.take i)
    rw [List.length_take] at tl
    refine ⟨_, xg_name, ?_⟩
    apply xs_seq
    refine xs_if (b := false) (xt_T (XD.eq (xd_neS (i := .ofString "within") (xd_ixT (xu_of (xd_var rfl)) xd_int rfl) xd_str) (congrArg D.bl (by decide +kernel)))) (fun z => nomatch z) fun _ => ?_
    refine xs_next ?_
    have nn : ∀ {te : TE} {r : List Sl} {x : D} {v : Int}, XD K te r x → FrV l.length x v → XD K (tOp (rIxT K) te (tC (.int 0))) r (.int x.tp) ∧ XD K (tOp (rIxT K) te (tC (.int 1))) r (.int x.bt) := fun {te r x v} hx f => ⟨xd_ixT (xd_its hx f.isFr.2.1) xd_int rfl, xd_ixT (xd_its hx f.isFr.2.1) xd_int rfl⟩
    refine xs_ext (xs := (trs (es.take i)).map trD) (ys := [trD (lowT es[i]), trD (highT es[i])]) rfl (xd_lst (xa_cons (xd_tup (xa_cons (xd_abs (nn (xd_ixT (xu_of (xd_var rfl)) xd_int rfl) ok.lo).1) (xa_cons (nn (xd_ixT (xu_of (xd_var rfl)) xd_int rfl) ok.lo).2 (xa_cons (xd_ixT (xu_of (xd_var rfl)) xd_int rfl) xa_nil))) (by show 3 ≤ 100000; decide)) (xa_cons (xd_tup (xa_cons (xd_abs (nn (xd_ixT (xu_of (xd_var rfl)) xd_int rfl) ok.hi).1) (xa_cons (nn (xd_ixT (xu_of (xd_var rfl)) xd_int rfl) ok.hi).2 (xa_cons (xd_ixT (xu_of (xd_var rfl)) xd_int rfl) xa_nil))) (by show 3 ≤ 100000; decide)) xa_nil)) (by show 2 ≤ 100000; decide)) (by rw [List.length_map, tl]; show _ + 2 ≤ 100000; omega) ?_
    refine ⟨es, .d (enW es[i]), rfl, el, he, ?_⟩
    have e : (trs (es.take i)).map trD ++ [trD (lowT es[i]), trD (highT es[i])] = (trs (es.take (i + 1))).map trD := by
      rw [List.take_add_one, List.getElem?_eq_getElem hi, trs_app, List.map_append]
      rfl
    rw [← e]
    rfl
  obtain ⟨es, s3, rfl, el, he, rfl⟩ := hr
  rw [List.length_map, List.take_length]
  have tl := trs_len es
  have ok := trs_ok hp el he
  have ff := fun vf up at_ => @first_far ws h l es vf k1 hp el he up at_
  have hk6 : (trs es).length ≤ 12 := by omega
  generalize trs es = T at *
  refine xs_frz 2 rfl ?_
  show XS K _ [.d (.lst (ID ws)), .d (run h l), .d (.lst (T.map trD)), s3, .u, .u, .u, .u, .u, .u, .u] _
  apply xs_seq
  refine xs_asg (xe_max (ns := (T.filter fun t => decide (t.bot = 1)).map (fun t => t.top) ++ [0]) (xl_of (XD.eq (x := .lst (((T.filter fun t => decide (t.bot = 1)).map fun t => .int t.top) ++ [.int 0])) (xd_cat (xm_of (xd_lcG (js := [8, 9, 10]) T trD (fun t => .int t.top) (fun t => decide (t.bot = 1)) _ (ix_listD (xd_var rfl)) (by decide) (by omega) (fun t ht => xg_tup (xgs_cons (xgs_cons (xgs_cons xgs_nil))) rfl) (fun t ht => xt_T (xd_eqI (xd_var rfl) xd_int)) fun t ht _ => xd_var rfl)) (xm_of (xd_lst (xa_cons xd_int xa_nil) (by show 1 ≤ 100000; decide))) ?_) ?_)) ?_) fun x hx => ?_
  · have := List.length_filter_le (fun t : Tr => decide (t.bot = 1)) T
    rw [List.length_map]
    show _ + 1 ≤ 100000
    omega
  · rw [show ∀ a b, (a ++ b : List Int).map D.int = a.map D.int ++ b.map D.int from fun a b => List.map_append, List.map_map]
    rfl
  · rw [List.length_append]
    show 0 < _ + 1
    omega
  obtain ⟨most, rfl, m1, m2⟩ := hx
  have fi : FarI l.length T [] most 1 (most * l.length) := by
    have m0 : 0 ≤ most := m2 0 (List.mem_append_right _ List.mem_cons_self)
    refine ⟨m0, by decide, by omega, gcd_one _, by rw [Int.mul_one], (fun t ht => nomatch ht), ?_⟩
    rcases List.mem_append.mp m1 with m | m
    · obtain ⟨t, h1, h2⟩ := List.mem_map.mp m
      obtain ⟨h3, h4⟩ := List.mem_filter.mp h1
      have h4 := of_decide_eq_true h4
      refine .inr ⟨t, h3, ?_⟩
      have := (ok t h3).1.val
      rw [h4, h2, Int.mul_one] at this
      exact this.symm
    · rw [List.mem_singleton.mp m]
      exact .inl (Int.zero_mul _)
  apply xs_seq
  apply xs_asgD (x := fr most 1) (xd_tup (xa_cons (xd_var rfl) (xa_cons xd_int xa_nil)) (by show 2 ≤ 100000; decide))
  apply xs_seq
  refine xs_for (js := [8, 9, 10]) (ys := T.map trD) (fun i r => ∃ (F G v : Int) (s8 s9 s10 : Sl), r = [.d (.lst (ID ws)), .d (run h l), .d (.lst (T.map trD)), s3, .d (.int most), .d (fr F G), .u, .u, s8, s9, s10] ∧ FarI l.length T (T.take i) F G v)
    (ix_listD (xd_var rfl)) ⟨most, 1, _, _, _, _, rfl, fi⟩ (fun i y r hy hr => ?_) (fun r hr => ?_)
  · obtain ⟨F, G, v, s8, s9, s10, rfl, fi⟩ := hr
    have hi : i < T.length := by
      have := (List.getElem?_eq_some_iff.mp hy).1
      rw [List.length_map] at this
      exact this
    rw [List.getElem?_map, List.getElem?_eq_getElem hi] at hy
    cases hy
    have ht : T[i] ∈ T := List.getElem_mem _
    have st := far_step n0 fi ht ok
    have et : T.take (i + 1) = T.take i ++ [T[i]] := by
      rw [List.take_add_one, List.getElem?_eq_getElem hi]
      rfl
    rw [← et] at st
    have lG : Dx.lim G := by
      have := fi.pos
      have := fi.le
      unfold Dx.lim
      omega
    have lb : Dx.lim T[i].bot := (ok _ ht).1.lim (by omega)
    generalize T[i] = t at *
    refine ⟨_, xg_tup (xgs_cons (xgs_cons (xgs_cons xgs_nil))) rfl, ?_⟩
    refine xs_if (b := decide (F * t.bot < t.top * G)) (xt_T (xd_gt (xd_mul (xd_var rfl) (xd_ixT (xu_of (xd_var rfl)) xd_int rfl) (mul_small lG)) (xd_mul (xd_ixT (xu_of (xd_var rfl)) xd_int rfl) (xd_var rfl) (mul_small lb)))) (fun hb => ?_) fun hb => ?_
    · exact xs_asgD (x := fr t.top t.bot) (xd_tup (xa_cons (xd_var rfl) (xa_cons (xd_var rfl) xa_nil)) (by show 2 ≤ 100000; decide)) ⟨t.top, t.bot, t.v, _, _, _, rfl, st.1 (of_decide_eq_true hb)⟩
    · exact xs_next ⟨F, G, v, _, _, _, rfl, st.2 (of_decide_eq_false hb)⟩
  obtain ⟨F, G, vf, s8, s9, s10, rfl, fi⟩ := hr
  rw [List.length_map, List.take_length] at fi
  have lG : Dx.lim G := by
    have := fi.pos
    have := fi.le
    unfold Dx.lim
    omega
  obtain ⟨f1, f2, f3, f4⟩ := ff vf fi.up fi.at_
  apply xs_seq
  refine xs_if (b := decide (300 * G < F)) (xt_T (xd_gt (xd_ixT (xu_of (xd_var rfl)) xd_int rfl) (xd_mul xd_int (xd_ixT (xu_of (xd_var rfl)) xd_int rfl) (mul_small lG)))) (fun hb => xs_retD xd_bl rfl) fun hb => xs_next ?_
  have hb := of_decide_eq_false hb
  have B : BdOk l.length F G vf := ⟨fi.f0, fi.pos, fi.le, fi.g1, by omega, fi.val⟩
  apply xs_seq
  refine xs_if (b := false) (xt_T (XD.eq (xd_notN (x := .non) (XE.imp (xe_call (xa_cons (xd_var rfl) (xa_cons (xd_var rfl) (xa_cons (xd_tup (xa_cons (xd_var rfl) (xa_cons xd_bl xa_nil)) (by show 2 ≤ 100000; decide)) xa_nil))) ⟨ws, h, l, F, G, vf, false, rfl, ⟨c, B⟩, rfl⟩) fun x hx => ?_) xd_non) rfl)) (fun z => nomatch z) fun _ => xs_next ?_
  · rcases hx with ⟨rfl, _⟩ | ⟨t, who, _, h1, h2, h3, _⟩
    · rfl
    · have := f1 who h2 t h1
      have h3 : (!decide (vf < ((lagV ws h l who t).natAbs : Int))) = false := h3
      have h3 : decide (vf < ((lagV ws h l who t).natAbs : Int)) = true := by
        revert h3
        cases decide (vf < ((lagV ws h l who t).natAbs : Int)) <;> simp
      have := of_decide_eq_true h3
      omega
  apply xs_seq
  refine xs_asg (xe_min (ns := (T.filter fun t => decide (t.v = vf)).map (fun t => (t.tn : Int))) (xl_of (XD.eq (x := .lst ((T.filter fun t => decide (t.v = vf)).map fun t => .int t.tn)) (xd_lcG (js := [8, 9, 10]) T trD (fun t => .int t.tn) (fun t => decide (t.v = vf)) _ (ix_listD (xd_var rfl)) (by decide) (by omega) (fun t ht => xg_tup (xgs_cons (xgs_cons (xgs_cons xgs_nil))) rfl) (fun t ht => xt_T (XD.eq (xd_eqI (xd_mul (xd_var rfl) (xd_ixT (xu_of (xd_var rfl)) xd_int rfl) (mul_small lG)) (xd_mul (xd_ixT (xu_of (xd_var rfl)) xd_int rfl) (xd_var rfl) (mul_small ((ok t ht).1.lim (by omega))))) (congrArg D.bl (decide_eq_decide.mpr (same_iff n0 (ok t ht).1.pos fi.pos (ok t ht).1.val fi.val))))) fun t ht _ => xd_var rfl) ?_)) ?_) fun x hx => ?_
  · rw [List.map_map]
    rfl
  · obtain ⟨t, h1, h2⟩ := f2
    exact List.length_pos_iff.mpr (List.ne_nil_of_mem (List.mem_map.mpr ⟨t, List.mem_filter.mpr ⟨h1, decide_eq_true h2⟩, rfl⟩))
  obtain ⟨fst, rfl, m1, m2⟩ := hx
  apply xs_seq
  refine xs_asg (xe_call (xa_cons (xd_var rfl) (xa_cons (xd_var rfl) (xa_cons (xd_tup (xa_cons (xd_var rfl) (xa_cons xd_bl xa_nil)) (by show 2 ≤ 100000; decide)) xa_nil))) ⟨ws, h, l, F, G, vf, true, rfl, ⟨c, B⟩, rfl⟩) fun x hx => ?_
  have kt : ∀ v : Int, keepsV true vf v = decide ((v.natAbs : Int) < vf) := fun v => rfl
  obtain ⟨e0, he0, ev0⟩ := f2
  obtain ⟨e1, who0, e2, e3⟩ := f3 e0 he0 ev0
  rcases hx with ⟨rfl, h1⟩ | ⟨t, who, rfl, h1, h2, h3, h4⟩
  · have this : keepsV true vf (lagV ws h l who0 e0.tn) = true := h1 who0 e2 e0.tn e1
    rw [kt] at this
    have := of_decide_eq_true this
    omega
  · have h3 : keepsV true vf (lagV ws h l who t) = false := h3
    rw [kt] at h3
    have h3 := of_decide_eq_false h3
    have b := f1 who h2 t h1
    obtain ⟨e, g1, g2, g3⟩ := f4 who t h2 h1 (by omega)
    have le : fst ≤ (t : Int) := by
      have := m2 (e.tn : Int) (List.mem_map.mpr ⟨e, List.mem_filter.mpr ⟨g1, decide_eq_true g2⟩, rfl⟩)
      omega
    have ge : (t : Int) ≤ fst := by
      obtain ⟨e', q1, q2⟩ := List.mem_map.mp m1
      obtain ⟨q3, q4⟩ := List.mem_filter.mp q1
      obtain ⟨r1, who', r2, r3⟩ := f3 e' q3 (of_decide_eq_true q4)
      have q2 : (e'.tn : Int) = fst := q2
      rcases Nat.lt_or_ge e'.tn t with z | z
      · have this : keepsV true vf (lagV ws h l who' e'.tn) = true := h4 who' r2 e'.tn z
        rw [kt] at this
        have := of_decide_eq_true this
        omega
      · omega
    have ft : (t : Int) = fst := by omega
    refine xs_retD (XD.eq (xd_or (xd_and (xd_eqD (xd_var rfl) (xd_tup (xa_cons xd_int (xa_cons xd_int xa_nil)) (by show 2 ≤ 100000; decide)) (ceq_fr F G 0 1)) fun _ => xd_eqD (xd_var rfl) (xd_tup (xa_cons xd_int (xa_cons xd_int xa_nil)) (by show 2 ≤ 100000; decide)) (ceq_fr t who 0 0)) fun _ => xd_andT (xd_notN (x := prD ((t : Int), (who : Int))) (xd_var rfl) xd_non) (xd_eqI (xd_ixT (xu_of (xd_var rfl)) xd_int rfl) (xd_var rfl))) ?_) rfl
    rw [decide_eq_true ft, Bool.or_true]
end
end Dx
end

section
set_option Elab.async false
set_option linter.all false
set_option maxRecDepth 100000
set_option maxHeartbeats 4000000
namespace Dx
open PySem PySem.Spec PyProof.Rows L2 Evl RZ
local macro_rules | `(tactic| walk_at "sd") => `(tactic| first | rfl | assumption | omega | exact Nat.le_of_ble_eq_true rfl | exact decide_eq_false (by omega) | exact decide_eq_true (by omega) | decide | (constructor <;> omega) | (simp only [List.length_map]; omega) | (simp only [List.length_map]; constructor <;> omega))
local macro_rules | `(tactic| walk_at "sd?") => `(tactic| first | walk_at "sd" | rotate_left)
local macro_rules | `(tactic| walk_at "xl") => `(tactic| first | exact xl_own rfl | (apply xl_of; walk_at "xd") | (apply xl_r; walk_at "xd"))
local macro_rules | `(tactic| walk_at "xm") => `(tactic| first | exact xm_own rfl | (apply xm_of; walk_at "xd"))
local macro_rules | `(tactic| walk_at "xu") => `(tactic| first | (apply xu_of; walk_at "xd") | (apply xu_r; walk_at "xd") | (apply xu_k; walk_at "xd"))
local macro_rules | `(tactic| walk_at "xa") => `(tactic| first | exact xa_nil | (apply xa_cons; walk_at "xd"; walk_at "xa"))
local macro_rules | `(tactic| walk_at "xo") => `(tactic| first | exact xo_none | (apply xo_some; walk_at "xd"))
local macro_rules | `(tactic| walk_at "xd") => `(tactic| first
  | exact xd_int | exact xd_str | exact xd_bl | exact xd_non | exact xd_var rfl
  | (apply xd_add; walk_at "xd"; walk_at "xd") | (apply xd_sub; walk_at "xd"; walk_at "xd") | (apply xd_neg; walk_at "xd")
  | (apply xd_mul; walk_at "xd"; walk_at "xd"; walk_at "sd?") | (apply xd_fdiv; walk_at "xd"; walk_at "xd"; walk_at "sd?") | (apply xd_mod; walk_at "xd"; walk_at "xd"; walk_at "sd?")
  | (apply xd_lt; walk_at "xd"; walk_at "xd") | (apply xd_le; walk_at "xd"; walk_at "xd") | (apply xd_gt; walk_at "xd"; walk_at "xd") | (apply xd_ge; walk_at "xd"; walk_at "xd")
  | (apply xd_chainLe; walk_at "xd"; walk_at "xd"; walk_at "xd")
  | (apply xd_eqI; walk_at "xd"; walk_at "xd") | (apply xd_neI; walk_at "xd"; walk_at "xd") | (apply xd_eqS; walk_at "xd"; walk_at "xd") | (apply xd_neS; walk_at "xd"; walk_at "xd")
  | (apply xd_isN; walk_at "xd"; walk_at "xd") | (apply xd_notN; walk_at "xd"; walk_at "xd")
  | (apply xd_not; walk_at "xd") | (apply xd_and; walk_at "xd"; (intro _; walk_at "xd")) | (apply xd_or; walk_at "xd"; (intro _; walk_at "xd"))
  | (apply xd_ixT; walk_at "xu"; walk_at "xd"; rfl) | (apply xd_ixIU; walk_at "xu"; walk_at "xd"; walk_at "sd?") | (apply xd_ixI; walk_at "xl"; walk_at "xd"; walk_at "sd?") | (apply xd_ixL; walk_at "xl"; walk_at "xd"; walk_at "sd?")
  | (apply xd_tup; walk_at "xa"; walk_at "sd?") | (apply xd_lst; walk_at "xa"; walk_at "sd?")
  | (apply xd_len; walk_at "xl") | (apply xd_lenU; walk_at "xu") | (apply xd_abs; walk_at "xd") | (apply xd_min2; walk_at "xd"; walk_at "xd")
  | (apply xd_isi; walk_at "xd"; (first | exact kb_int | exact kb_int_bool | exact kb_tuple | exact kb_list | exact kb_str | exact kb_bool_bool))
  | (apply xd_slL; walk_at "xl"; walk_at "xo"; walk_at "xo") | (apply xd_slT; walk_at "xd"; walk_at "xo"; walk_at "xo")
  | (apply xd_cat; walk_at "xm"; walk_at "xm"; walk_at "sd?") | (apply xd_catT; walk_at "xd"; walk_at "xd"; walk_at "sd?")
  | (apply xd_list; walk_at "xl") | (apply xd_listU; walk_at "xu") | (apply xd_tuple; walk_at "xl") | (apply xd_tupleT; walk_at "xd")
  | (apply xd_slk; walk_at "xd"; walk_at "xo"; walk_at "xo") | (apply xd_catK; walk_at "xd"; walk_at "xd"; walk_at "sd?") | exact xd_tupK0 | (apply xd_tupK1; walk_at "xd")
  | (apply xe_call; walk_at "xa"; walk_at "sg"))
local macro_rules | `(tactic| walk_at "sg") => `(tactic| first | exact ⟨_, rfl, rfl⟩ | exact ⟨_, _, rfl, rfl⟩ | exact ⟨_, _, _, rfl, rfl⟩ | exact ⟨_, _, _, _, rfl, rfl⟩ | exact ⟨_, _, _, _, _, rfl, rfl⟩ | exact ⟨_, _, _, _, _, _, rfl, rfl⟩ | exact ⟨_, _, _, _, _, _, _, rfl, rfl⟩ | (refine' ⟨_, rfl, ?_, rfl⟩; walk_at "sd?") | (refine' ⟨_, _, rfl, ?_, rfl⟩; walk_at "sd?") | (refine' ⟨_, _, _, rfl, ?_, rfl⟩; walk_at "sd?") | (refine' ⟨_, _, _, _, rfl, ?_, rfl⟩; walk_at "sd?") | (refine' ⟨_, _, _, _, _, rfl, ?_, rfl⟩; walk_at "sd?") | (refine' ⟨_, _, _, _, _, _, rfl, ?_, rfl⟩; walk_at "sd?") | (refine' ⟨_, _, _, _, _, _, _, rfl, ?_, rfl⟩; walk_at "sd?"))
local macro_rules | `(tactic| walk_at "asg") => `(tactic| (apply xs_seq; apply xs_asgD; walk_at "xd"))
local macro_rules | `(tactic| walk_at "guard") => `(tactic| (apply xs_seq; apply xs_guard; walk_at "xt"; walk_at "sd?"))
local macro_rules | `(tactic| walk_at "ret") => `(tactic| (apply xs_retE; walk_at "xd"; exact rfl; walk_at "sd?"))
local macro_rules | `(tactic| walk_at "xt") => `(tactic| first
  | (apply xt_B; walk_at "xd") | (apply xt_T; walk_at "xd") | (apply xt_not; walk_at "xt") | (apply xt_and; walk_at "xt"; (intro _; walk_at "xt")) | (apply xt_or; walk_at "xt"; (intro _; walk_at "xt")) | exact xt_yes)
local macro_rules | `(tactic| walk_at "grd") => `(tactic| (apply xs_seq; apply xs_guard; walk_at "xt"))
local macro_rules | `(tactic| walk_at "grl") => `(tactic| (apply xs_guard; walk_at "xt"))
local macro_rules | `(tactic| walk_at "unp2") => `(tactic| (apply xs_seq; apply xs_asgG; walk_at "xd"; exact xg_tup (xgs_cons (xgs_cons xgs_nil)) rfl))
local macro_rules | `(tactic| walk_at "if") => `(tactic| (apply xs_seq; apply xs_if; walk_at "xt"))
local macro_rules | `(tactic| walk_at "drop") => `(tactic| (apply xs_seq; apply xs_drop; walk_at "xd"))

open Ma
/-! dealing on from a row -/
theorem ox_eqD {K : PySem.W.Frag} {a b : D} {c : Bool} (h : CEq a.py b.py c) : OX K (rEqD K) a b (Eq (.bl c)) := ox_of fun G H va vb e da db Q q => by
  refine ⟨a.py, b.py, (da.mono e).dp, (db.mono e).dp, h.1, h.2.1, ?_⟩
  rw [h.2.2]
  exact q _ G H (Adv.refl e) (.bl _)
theorem lastN_snoc {R : Int} (hR : 0 ≤ R) (xs : List Int) (c : Int) : lastN R (xs ++ [c]) = lastN R (lastN R xs ++ [c]) := by
  rw [lastN_eq _ hR, lastN_eq _ hR, lastN_eq xs hR]
  apply List.ext_getElem?
  intro i
  have e1 : (xs ++ [c]).length = xs.length + 1 := by rw [List.length_append]; rfl
  have e2 : (xs.drop (xs.length - R.toNat) ++ [c]).length = (xs.length - (xs.length - R.toNat)) + 1 := by rw [List.length_append, List.length_drop]; rfl
  rw [List.getElem?_drop, List.getElem?_drop, e1, e2]
  rcases Nat.lt_trichotomy (xs.length + 1 - R.toNat + i) xs.length with h | h | h
  · rw [List.getElem?_append_left h, List.getElem?_append_left (by rw [List.length_drop]; omega), List.getElem?_drop]
    congr 1
    omega
  · rw [List.getElem?_append_right (by omega), List.getElem?_append_right (by rw [List.length_drop]; omega), List.length_drop]
    congr 1
    omega
  · rw [List.getElem?_eq_none (by omega), List.getElem?_eq_none (by omega)]
theorem lastN_orb {m : Int} {rs : List Rl} (hR : 0 ≤ reachB m rs) (p : List Int) : ∀ n, lastN (reachB m rs) (p ++ row (cho m rs) (nxt m rs) (lastN (reachB m rs) p) n) = orb (nxt m rs) (lastN (reachB m rs) p) n
  | 0 => by
    show lastN _ (p ++ []) = lastN _ p
    rw [List.append_nil]
  | n + 1 => by
    rw [row_succ, ← List.append_assoc, lastN_snoc hR, lastN_orb hR p n]
    rfl
theorem lastN_cut {R : Int} (hR : 0 ≤ R) (h : R ≤ 120) (xs : List Int) : lastN R (lastN 120 xs) = lastN R xs := by
  rw [lastN_eq _ hR, lastN_eq xs (by decide), lastN_eq xs hR, List.length_drop, List.drop_drop]
  congr 1
  rw [show (120 : Int).toNat = 120 from rfl]
  omega
theorem cutD_120 (xs : List Int) : cutD xs (some (-120)) none = lastN 120 xs := by
  rw [lastN_eq _ (by decide)]
  unfold cutD
  have e : HT.sIx xs.length 0 (some (-120)) = xs.length - 120 := by
    show (if (-120 : Int) < 0 then ((-120 : Int) + (xs.length : Int)).toNat else min (-120 : Int).toNat xs.length) = _
    rw [if_pos (by decide)]
    omega
  rw [e, HT.sIx_none, List.take_of_length_le (by rw [List.length_drop]; omega)]
  rfl
theorem cho_in {m : Int} {rs : List Rl} (h : BkOk m rs) (p : List Int) : 0 ≤ cho m rs p ∧ cho m rs p < m := choiceB_in h
theorem dealt_in {m : Int} {rs : List Rl} (b : BkOk m rs) {s h l : List Int} (d : Dealt m rs s h l) : inC m h ∧ inC m l := by
  have key : ∀ i, 0 ≤ rowAt h l i ∧ rowAt h l i < m := fun i => by rw [d.at_]; exact cho_in b _
  constructor
  · intro a ha
    obtain ⟨i, hi, rfl⟩ := List.mem_iff_getElem.mp ha
    have := key i
    rw [rowAt_lt hi, getD_lt hi] at this
    exact this
  · intro a ha
    obtain ⟨i, hi, rfl⟩ := List.mem_iff_getElem.mp ha
    have := key (h.length + i)
    rw [rowAt_ge (by omega), show h.length + i - h.length = i by omega, per_lt hi, getD_lt hi] at this
    exact this
theorem inC_up {m n : Int} {xs : List Int} (h : inC m xs) (l : m ≤ n) : inC n xs := fun a ha => ⟨(h a ha).1, by have := (h a ha).2; omega⟩
theorem dealt_run {m : Int} {rs : List Rl} (b : BkOk m rs) {s h l : List Int} (d : Dealt m rs s h l) : RunOk h l := by
  obtain ⟨i1, i2⟩ := dealt_in b d
  have m4 := b.m4
  have len := d.len
  exact ⟨inC_up i1 (by omega), inC_up i2 (by omega), d.nf.ne, by omega, by omega⟩
theorem ceq_run (h l : List Int) : CEq (run h l).py (run h l).py true := by
  have e : SeqAt.shaped (run h l).py = true := by
    show ((PyData.canLayAll0 (D.pys (h.map D.int)) && (PyData.canLayAll0 (D.pys (l.map D.int)) && true)) && decide (max (PyData.depthAll (D.pys (h.map D.int)) + 1) (max (PyData.depthAll (D.pys (l.map D.int)) + 1) 0) + 1 ≤ 64)) = true
    rw [can_ints, can_ints, depth_ints, depth_ints]
    rfl
  refine ⟨e, e, ?_⟩
  show (PyData.eqvAll (D.pys (h.map D.int)) (D.pys (h.map D.int)) && (PyData.eqvAll (D.pys (l.map D.int)) (D.pys (l.map D.int)) && true)) = true
  rw [eqv_ints, eqv_ints, decide_eq_true rfl, decide_eq_true rfl]
  rfl
theorem deals_same {m : Int} {rs : List Rl} {s h l h' l' h2 l2 : List Int} (d : Dealt m rs s h l) (d' : Dealt m rs (orb (nxt m rs) s (h.length + 2 * l.length)) h' l') (g : Least [] l h2 l2) : h' = h2 ∧ l' = l2 := by
  refine d'.nf.unique g.nf fun n => ?_
  rw [d'.at_, ← orb_add, ← d.at_, g.row, rowAt_ge (by omega), rowAt_ge (Nat.zero_le _), show h.length + 2 * l.length + n - h.length = n + 2 * l.length by omega]
  exact per_mul (per l) l.length (per_add l) 2 n
section
variable {P : Program} {w : World} {K : PySem.W.Frag} {mg : Str → Option Value} {base : Heap}
def sg__law_deals_on : Sg := fun ds R => ∃ m rs p h l, ds = [bd m rs, .lst (ID p), run h l] ∧ (BkOk m rs ∧ inC m p ∧ p.length ≤ 120 ∧ Dealt m rs (lastN (reachB m rs) p) h l) ∧ R = Eq (.bl true)
abbrev N__law_deals_on : List Str := ["_law_some", "_law_past_here", "_law_running", "_law_row", "_law_later", "_law_turn"]
theorem sc__law_deals_on : FnScope N__law_deals_on ["_law_some", "_law_past_here", "_law_running"] (defScope (top 105)) := ⟨rfl, rfl, rfl, by decide +kernel, rfl, by decide +kernel, by decide +kernel⟩
abbrev H__law_deals_on (P : Program) (w : World) (K : PySem.W.Frag) (mg : Str → Option Value) (base : Heap) : Prop := Has P w K mg base "_law_deals_on" 11 ["_law_some", "_law_past_here", "_law_running"] (spX K sg__law_deals_on)

theorem ok__law_deals_on (B : Blt K mg) (Df : Dfd K mg "_law_deals_on" 105) (h_dealt : H_dealt P w K mg base) (h_least_of : H_least_of P w K mg base) (h_choice_at : H_choice_at P w K mg base) : H__law_deals_on P w K mg base := by
  refine has_mk Df (fun _ _ _ _ _ _ us hl => match us, hl with | [_, _, _], _ => rfl) fun f fd F => ?_
  refine fn_ok F sc__law_deals_on (fun ds R ⟨_, _, _, _, _, e, _⟩ => e ▸ rfl) (fun cdv A outer s H E hr => ⟨_, (pss_cons (ps_setLc (i := 3) (own := [("_law_turn", 5)]) (g := (gName 5)) (by rfl) sc__law_deals_on.nd rfl rfl (sw_true rfl rfl rfl (by decide +kernel)) (pi_range2 rfl B.range (pa_cons pe_int (pa_cons (pe_op op_add (pe_op op_add (pe_callB cr_lenS rfl B.len bt_len (pa_cons (pe_ix ix_tup (pv 2) pe_int (fun _ _ => rfl)) pa_nil)) (pe_op op_mul pe_int (pe_callB cr_lenS rfl B.len bt_len (pa_cons (pe_ix ix_tup (pv 2) pe_int (fun _ _ => rfl)) pa_nil)))) pe_int) pa_nil))) (blkOk_by (own := [("_law_turn", 5)]) (N := N__law_deals_on) (sc := defScope (top 105)) (by decide +kernel)) (fun _ _ _ _ _ => (pg_name (i := 5) sc__law_deals_on.nd rfl (Or.inl rfl))) (fun _ _ _ _ _ => pts_nil) (fun _ _ _ _ _ => (pe_callH h_choice_at (hr.mono (by decide)) rfl (pa_cons (pv 2) (pa_cons (pv 5) pa_nil)))))
    (pss_cons (ps_set (i := 4) sc__law_deals_on.nd rfl (by first | exact Or.inl rfl | exact Or.inr rfl) (pe_slice sl_list (pe_op op_cat (pv 1) (pv 3)) (po_some (pe_un un_neg pe_int)) po_none))
    (pss_one (ps_ret (pe_cmpR (op_eqD hr.units) (pe_callH h_dealt (hr.mono (by decide)) rfl (pa_cons (pv 0) (pa_cons (pv 4) pa_nil))) (pe_callH h_least_of (hr.mono (by decide)) rfl (pa_cons (pe_tup (pa_cons (pe_lst pa_nil) (pa_cons (pe_ix ix_tup (pv 2) pe_int (fun _ _ => rfl)) pa_nil))) pa_nil)) (nomark _)))))), fun ds R h => ?_⟩)
  obtain ⟨m, rs, p, h, l, rfl, ⟨b, hp, p1, d⟩, rfl⟩ := h
  have ro := dealt_run b d
  have len := d.len
  have lp := ro.pos
  have hr := reachB_le b
  have eh : ((ID h).length : Nat) = h.length := List.length_map _
  have el : ((ID l).length : Nat) = l.length := List.length_map _
  have er : ID (row (cho m rs) (nxt m rs) (lastN (reachB m rs) p) (h.length + 2 * l.length)) = (List.range (h.length + 2 * l.length)).map fun i => D.int (rowAt h l i) := by
    unfold row
    show ((List.range _).map _).map D.int = _
    rw [List.map_map]
    exact List.map_congr_left fun i _ => congrArg D.int (d.at_ i).symm
  have rl := row_len (cho m rs) (nxt m rs) (lastN (reachB m rs) p) (h.length + 2 * l.length)
  have rin : inC m (row (cho m rs) (nxt m rs) (lastN (reachB m rs) p) (h.length + 2 * l.length)) := fun a ha => by
    obtain ⟨i, _, rfl⟩ := List.mem_map.mp ha
    exact cho_in b _
  have ls := lastN_orb (m := m) (rs := rs) hr.1 p (h.length + 2 * l.length)
  generalize hrow : row (cho m rs) (nxt m rs) (lastN (reachB m rs) p) (h.length + 2 * l.length) = rw' at *
  apply xs_seq
  apply xs_asgD (x := .lst (ID rw'))
  · refine XD.eq (x := .lst _) (xd_lcM (List.range (h.length + 2 * l.length)) (fun (i : Nat) => .int ((1 : Int) + (i : Int))) (fun i => D.int (rowAt h l i)) ?_ (by decide) (by rw [List.length_range]; omega) fun i hi => ?_) (congrArg D.lst er.symm)
    · have e : intsD 1 (((h.length : Int) + 2 * (l.length : Int) + 1) - 1).toNat = (List.range (h.length + 2 * l.length)).map (fun (i : Nat) => D.int ((1 : Int) + (i : Int))) := by
        rw [show (((h.length : Int) + 2 * (l.length : Int) + 1) - 1).toNat = h.length + 2 * l.length by omega]
        rfl
      rw [← e]
      refine ix_rng2 (xa_cons xd_int (xa_cons (XD.eq (xd_add (xd_add (xd_len (xl_of (xd_ixT (xu_of (xd_var rfl)) xd_int rfl))) (xd_mul xd_int (xd_len (xl_of (xd_ixT (xu_of (xd_var rfl)) xd_int rfl))) (.inl (by omega)))) xd_int) ?_) xa_nil)) (by omega) (by omega) (by decide) (by decide)
      rw [eh, el]
    · have hi := List.mem_range.mp hi
      refine XD.eq (xe_call (R := Eq _) (xa_cons (xd_var rfl) (xa_cons (xd_var rfl) xa_nil)) ⟨h, l, 1 + (i : Int), rfl, ⟨ro, by omega, by omega⟩, rfl⟩) ?_
      rw [show ((1 : Int) + (i : Int)).toNat - 1 = i by omega]
  apply xs_seq
  apply xs_asgD (x := .lst (ID (lastN 120 (p ++ rw'))))
  · refine XD.eq (xd_slL (xs := ID (p ++ rw')) (xl_of (XD.eq (xd_cat (xm_of (xd_var rfl)) (xm_of (xd_var rfl)) (by rw [List.length_map, List.length_map]; omega)) ?_)) (xo_some (xd_neg xd_int)) xo_none) ?_
    · rw [show ∀ a b, ID (a ++ b) = ID a ++ ID b from fun a b => List.map_append]
    · rw [cutD_map, cutD_120]
  have n1 := lastN_len (R := 120) (p := p ++ rw') (by decide)
  refine xs_ret (R := Eq (.bl true)) (xe_op (xe_call (xa_cons (xd_var rfl) (xa_cons (xd_var rfl) xa_nil)) ⟨m, rs, lastN 120 (p ++ rw'), rfl, ⟨b, lastN_in (by decide) fun a ha => ?_, by omega⟩, rfl⟩) (xe_call (xa_cons (xd_tup (xa_cons (xd_lst xa_nil (by decide)) (xa_cons (xd_ixT (xu_of (xd_var rfl)) xd_int rfl) xa_nil)) (by show 2 ≤ 100000; decide)) xa_nil) ⟨[], l, rfl, ⟨fun _ h => (nomatch h), ro.cl, ro.ne, by decide, ro.ll⟩, rfl⟩) fun x y hx hy => ?_) fun x hx => hx
  · rcases List.mem_append.mp ha with ha | ha
    · exact hp a ha
    · exact rin a ha
  · obtain ⟨h', l', rfl, d'⟩ := hx
    obtain ⟨h2, l2, rfl, g⟩ := hy
    rw [lastN_cut hr.1 (by omega), ls] at d'
    obtain ⟨rfl, rfl⟩ := deals_same d d' g
    exact ox_eqD (ceq_run h' l')
end
end Dx
end

section
set_option Elab.async false
set_option linter.all false
set_option maxRecDepth 100000
set_option maxHeartbeats 4000000
namespace Dx
open PySem PySem.Spec PyProof.Rows L2 Evl RZ
local macro_rules | `(tactic| walk_at "sd") => `(tactic| first | rfl | assumption | omega | exact Nat.le_of_ble_eq_true rfl | exact decide_eq_false (by omega) | exact decide_eq_true (by omega) | decide | (constructor <;> omega) | (simp only [List.length_map]; omega) | (simp only [List.length_map]; constructor <;> omega))
local macro_rules | `(tactic| walk_at "sd?") => `(tactic| first | walk_at "sd" | rotate_left)
local macro_rules | `(tactic| walk_at "xl") => `(tactic| first | exact xl_own rfl | (apply xl_of; walk_at "xd") | (apply xl_r; walk_at "xd"))
local macro_rules | `(tactic| walk_at "xm") => `(tactic| first | exact xm_own rfl | (apply xm_of; walk_at "xd"))
local macro_rules | `(tactic| walk_at "xu") => `(tactic| first | (apply xu_of; walk_at "xd") | (apply xu_r; walk_at "xd") | (apply xu_k; walk_at "xd"))
local macro_rules | `(tactic| walk_at "xa") => `(tactic| first | exact xa_nil | (apply xa_cons; walk_at "xd"; walk_at "xa"))
local macro_rules | `(tactic| walk_at "xo") => `(tactic| first | exact xo_none | (apply xo_some; walk_at "xd"))
local macro_rules | `(tactic| walk_at "xd") => `(tactic| first
  | exact xd_int | exact xd_str | exact xd_bl | exact xd_non | exact xd_var rfl
  | (apply xd_add; walk_at "xd"; walk_at "xd") | (apply xd_sub; walk_at "xd"; walk_at "xd") | (apply xd_neg; walk_at "xd")
  | (apply xd_mul; walk_at "xd"; walk_at "xd"; walk_at "sd?") | (apply xd_fdiv; walk_at "xd"; walk_at "xd"; walk_at "sd?") | (apply xd_mod; walk_at "xd"; walk_at "xd"; walk_at "sd?")
  | (apply xd_lt; walk_at "xd"; walk_at "xd") | (apply xd_le; walk_at "xd"; walk_at "xd") | (apply xd_gt; walk_at "xd"; walk_at "xd") | (apply xd_ge; walk_at "xd"; walk_at "xd")
  | (apply xd_chainLe; walk_at "xd"; walk_at "xd"; walk_at "xd")
  | (apply xd_eqI; walk_at "xd"; walk_at "xd") | (apply xd_neI; walk_at "xd"; walk_at "xd") | (apply xd_eqS; walk_at "xd"; walk_at "xd") | (apply xd_neS; walk_at "xd"; walk_at "xd")
  | (apply xd_isN; walk_at "xd"; walk_at "xd") | (apply xd_notN; walk_at "xd"; walk_at "xd")
  | (apply xd_not; walk_at "xd") | (apply xd_and; walk_at "xd"; (intro _; walk_at "xd")) | (apply xd_or; walk_at "xd"; (intro _; walk_at "xd"))
  | (apply xd_ixT; walk_at "xu"; walk_at "xd"; rfl) | (apply xd_ixIU; walk_at "xu"; walk_at "xd"; walk_at "sd?") | (apply xd_ixI; walk_at "xl"; walk_at "xd"; walk_at "sd?") | (apply xd_ixL; walk_at "xl"; walk_at "xd"; walk_at "sd?")
  | (apply xd_tup; walk_at "xa"; walk_at "sd?") | (apply xd_lst; walk_at "xa"; walk_at "sd?")
  | (apply xd_len; walk_at "xl") | (apply xd_lenU; walk_at "xu") | (apply xd_abs; walk_at "xd") | (apply xd_min2; walk_at "xd"; walk_at "xd")
  | (apply xd_isi; walk_at "xd"; (first | exact kb_int | exact kb_int_bool | exact kb_tuple | exact kb_list | exact kb_str | exact kb_bool_bool))
  | (apply xd_slL; walk_at "xl"; walk_at "xo"; walk_at "xo") | (apply xd_slT; walk_at "xd"; walk_at "xo"; walk_at "xo")
  | (apply xd_cat; walk_at "xm"; walk_at "xm"; walk_at "sd?") | (apply xd_catT; walk_at "xd"; walk_at "xd"; walk_at "sd?")
  | (apply xd_list; walk_at "xl") | (apply xd_listU; walk_at "xu") | (apply xd_tuple; walk_at "xl") | (apply xd_tupleT; walk_at "xd")
  | (apply xd_slk; walk_at "xd"; walk_at "xo"; walk_at "xo") | (apply xd_catK; walk_at "xd"; walk_at "xd"; walk_at "sd?") | exact xd_tupK0 | (apply xd_tupK1; walk_at "xd")
  | (apply xe_call; walk_at "xa"; walk_at "sg"))
local macro_rules | `(tactic| walk_at "sg") => `(tactic| first | exact ⟨_, rfl, rfl⟩ | exact ⟨_, _, rfl, rfl⟩ | exact ⟨_, _, _, rfl, rfl⟩ | exact ⟨_, _, _, _, rfl, rfl⟩ | exact ⟨_, _, _, _, _, rfl, rfl⟩ | exact ⟨_, _, _, _, _, _, rfl, rfl⟩ | exact ⟨_, _, _, _, _, _, _, rfl, rfl⟩ | (refine' ⟨_, rfl, ?_, rfl⟩; walk_at "sd?") | (refine' ⟨_, _, rfl, ?_, rfl⟩; walk_at "sd?") | (refine' ⟨_, _, _, rfl, ?_, rfl⟩; walk_at "sd?") | (refine' ⟨_, _, _, _, rfl, ?_, rfl⟩; walk_at "sd?") | (refine' ⟨_, _, _, _, _, rfl, ?_, rfl⟩; walk_at "sd?") | (refine' ⟨_, _, _, _, _, _, rfl, ?_, rfl⟩; walk_at "sd?") | (refine' ⟨_, _, _, _, _, _, _, rfl, ?_, rfl⟩; walk_at "sd?"))
local macro_rules | `(tactic| walk_at "asg") => `(tactic| (apply xs_seq; apply xs_asgD; walk_at "xd"))
local macro_rules | `(tactic| walk_at "guard") => `(tactic| (apply xs_seq; apply xs_guard; walk_at "xt"; walk_at "sd?"))
local macro_rules | `(tactic| walk_at "ret") => `(tactic| (apply xs_retE; walk_at "xd"; exact rfl; walk_at "sd?"))
local macro_rules | `(tactic| walk_at "xt") => `(tactic| first
  | (apply xt_B; walk_at "xd") | (apply xt_T; walk_at "xd") | (apply xt_not; walk_at "xt") | (apply xt_and; walk_at "xt"; (intro _; walk_at "xt")) | (apply xt_or; walk_at "xt"; (intro _; walk_at "xt")) | exact xt_yes)
local macro_rules | `(tactic| walk_at "grd") => `(tactic| (apply xs_seq; apply xs_guard; walk_at "xt"))
local macro_rules | `(tactic| walk_at "grl") => `(tactic| (apply xs_guard; walk_at "xt"))
local macro_rules | `(tactic| walk_at "unp2") => `(tactic| (apply xs_seq; apply xs_asgG; walk_at "xd"; exact xg_tup (xgs_cons (xgs_cons xgs_nil)) rfl))
local macro_rules | `(tactic| walk_at "if") => `(tactic| (apply xs_seq; apply xs_if; walk_at "xt"))
local macro_rules | `(tactic| walk_at "drop") => `(tactic| (apply xs_seq; apply xs_drop; walk_at "xd"))

open Ma
/-! a book is right -/
theorem first_of (p : Nat → Bool) : ∀ n, (∀ x r, (List.range n).filter p = x :: r → x < n ∧ p x = true ∧ ∀ j, j < x → p j = false) ∧ ((List.range n).filter p = [] → ∀ j, j < n → p j = false)
  | 0 => ⟨fun x r h => (nomatch h), fun _ j hj => absurd hj (Nat.not_lt_zero j)⟩
  | n + 1 => by
    obtain ⟨h1, h2⟩ := first_of p n
    rw [List.range_succ, List.filter_append]
    have last : [n].filter p = if p n then [n] else [] := by
      cases h : p n <;> simp [h]
    cases e : (List.range n).filter p with
    | nil =>
      have h2 := h2 e
      rw [List.nil_append, last]
      refine ⟨fun x r h => ?_, fun h j hj => ?_⟩
      · cases hn : p n with
        | false =>
          rw [hn, if_neg (by decide)] at h
          cases h
        | true =>
          rw [hn, if_pos rfl] at h
          injection h with h _
          subst h
          exact ⟨by omega, hn, fun j hj => h2 j hj⟩
      · cases hn : p n with
        | true =>
          rw [hn, if_pos rfl] at h
          cases h
        | false =>
          rcases Nat.lt_or_ge j n with z | z
          · exact h2 j z
          · rw [show j = n by omega]
            exact hn
    | cons y ys =>
      obtain ⟨g1, g2, g3⟩ := h1 y ys e
      refine ⟨fun x r h => ?_, fun h => by cases h⟩
      rw [List.cons_append] at h
      injection h with h _
      subst h
      exact ⟨by omega, g2, g3⟩
theorem plc_first {r : List Int} {a x : Int} {t : List Int} (h : plc r a = x :: t) : ∃ i : Nat, x = (i : Int) + 1 ∧ i < r.length ∧ r.getD i 0 = a ∧ ∀ j, j < i → r.getD j 0 ≠ a := by
  unfold plc at h
  obtain ⟨g1, g2⟩ := first_of (fun i => decide (r.getD i 0 = a)) r.length
  cases e : (List.range r.length).filter (fun i => decide (r.getD i 0 = a)) with
  | nil =>
    rw [e] at h
    cases h
  | cons i is =>
    rw [e] at h
    obtain ⟨h1, h2, h3⟩ := g1 i is e
    injection h with h _
    exact ⟨i, h.symm, h1, of_decide_eq_true h2, fun j hj => of_decide_eq_false (h3 j hj)⟩
theorem plc_none {r : List Int} {a : Int} (h : plc r a = []) : ∀ j, j < r.length → r.getD j 0 ≠ a := fun j hj => by
  unfold plc at h
  exact of_decide_eq_false ((first_of (fun i => decide (r.getD i 0 = a)) r.length).2 (List.map_eq_nil_iff.mp h) j hj)
theorem wait_turn {m : Int} {rs : List Rl} {s h l : List Int} (d : Dealt m rs s h l) (a : Int) : WaitOk m rs a s (turnF h l a) := by
  have at_ := d.at_
  unfold turnF
  cases e1 : plc h a with
  | cons x t =>
    obtain ⟨i, hx, h1, h2, h3⟩ := plc_first e1
    refine ⟨i + 1, by show x = _; omega, by omega, ?_, fun j hj => ?_⟩
    · rw [show i + 1 - 1 = i by omega, ← at_, rowAt_lt h1]
      exact h2
    · rw [← at_, rowAt_lt (by omega)]
      exact h3 j (by omega)
  | nil =>
    have n1 := plc_none e1
    cases e2 : plc l a with
    | cons x t =>
      obtain ⟨i, hx, h1, h2, h3⟩ := plc_first e2
      refine ⟨h.length + i + 1, by show _ + x = _; omega, by omega, ?_, fun j hj => ?_⟩
      · rw [show h.length + i + 1 - 1 = h.length + i by omega, ← at_, rowAt_ge (by omega), show h.length + i - h.length = i by omega, per_lt h1]
        exact h2
      · rw [← at_]
        rcases Nat.lt_or_ge j h.length with z | z
        · rw [rowAt_lt z]
          exact n1 j z
        · rw [rowAt_ge z, per_lt (by omega)]
          exact h3 _ (by omega)
    | nil =>
      have n2 := plc_none e2
      intro j
      rw [← at_]
      rcases Nat.lt_or_ge j h.length with z | z
      · rw [rowAt_lt z]
        exact n1 j z
      · rw [rowAt_ge z]
        have := List.length_pos_iff.mpr d.nf.ne
        exact n2 _ (Nat.mod_lt _ this)
theorem sum_one (n : Nat) : ∀ (f : Nat → Int) (k : Nat), k < n → ((List.range n).map fun i => f i + (if i = k then 1 else 0)).sum = ((List.range n).map f).sum + 1 := by
  induction n with
  | zero => intro f k hk; omega
  | succ n ih =>
    intro f k hk
    rw [List.range_succ, List.map_append, List.map_append, List.sum_append, List.sum_append]
    show _ + (f n + (if n = k then 1 else 0) + 0) = _ + (f n + 0) + 1
    by_cases e : n = k
    · subst e
      have z : ((List.range n).map fun i => f i + (if i = n then 1 else 0)) = (List.range n).map f := List.map_congr_left fun i hi => by
        have := List.mem_range.mp hi
        rw [if_neg (by omega), Int.add_zero]
      rw [z, if_pos rfl]
      omega
    · rw [ih f k (by omega), if_neg e]
      omega
theorem sum_counts {m : Nat} : ∀ l : List Int, inC m l → ((List.range m).map fun (i : Nat) => ((l.count (i : Int) : Nat) : Int)).sum = l.length
  | [], _ => by
    have : ((List.range m).map fun (i : Nat) => ((([] : List Int).count (i : Int) : Nat) : Int)) = (List.range m).map fun _ => 0 := rfl
    rw [this]
    have z : ∀ n : Nat, ((List.range n).map fun _ => (0 : Int)).sum = 0 := fun n => by
      induction n with
      | zero => rfl
      | succ n ih =>
        rw [List.range_succ, List.map_append, List.sum_append, ih]
        rfl
    exact z m
  | a :: l, h => by
    have ih := sum_counts l fun b hb => h b (List.mem_cons_of_mem _ hb)
    have ha := h a List.mem_cons_self
    have e : ((List.range m).map fun (i : Nat) => (((a :: l).count (i : Int) : Nat) : Int)) = (List.range m).map fun (i : Nat) => ((l.count (i : Int) : Nat) : Int) + (if i = a.toNat then 1 else 0) := List.map_congr_left fun i _ => by
      rw [List.count_cons]
      by_cases c : a = (i : Int)
      · rw [if_pos (by rw [c]; exact beq_self_eq_true _), if_pos (by omega)]
        rfl
      · rw [if_neg (by rw [beq_iff_eq]; exact c), if_neg (by omega)]
        rfl
    rw [e, sum_one m _ a.toNat (by omega), ih]
    show _ = ((l.length + 1 : Nat) : Int)
    omega
theorem can_lists : ∀ ls : List (List Int), PyData.canLayAll0 (D.pys (ls.map fun l => D.lst (ID l))) = true ∧ PyData.depthAll (D.pys (ls.map fun l => D.lst (ID l))) ≤ 1
  | [] => ⟨rfl, Nat.zero_le _⟩
  | l :: ls => by
    obtain ⟨h1, h2⟩ := can_lists ls
    refine ⟨?_, ?_⟩
    · show (PyData.canLayAll0 (D.pys (l.map D.int)) && PyData.canLayAll0 (D.pys (ls.map fun l => D.lst (ID l)))) = true
      rw [h1, can_ints]
      rfl
    · show max (PyData.depthAll (D.pys (l.map D.int)) + 1) (PyData.depthAll (D.pys (ls.map fun l => D.lst (ID l)))) ≤ 1
      rw [depth_ints]
      omega
theorem any_lists (t : List Int) : ∀ ls : List (List Int), (D.pys (ls.map fun l => D.lst (ID l))).any (fun z => PyData.eqv z (D.lst (ID t)).py) = decide (t ∈ ls)
  | [] => rfl
  | l :: ls => by
    show (PyData.eqvAll (D.pys (l.map D.int)) (D.pys (t.map D.int)) || (D.pys (ls.map fun l => D.lst (ID l))).any (fun z => PyData.eqv z (D.lst (ID t)).py)) = _
    rw [any_lists t ls, eqv_ints]
    by_cases c : l = t
    · simp [c]
    · simp [c, Ne.symm c]
theorem xd_notInD {K : PySem.W.Frag} {ρ : List Sl} {ta tb : TE} {t : List Int} {ls : List (List Int)} (ha : XD K ta ρ (.lst (ID t))) (hb : XD K tb ρ (.lst (ls.map fun l => .lst (ID l)))) : XD K (tOp (rNotInD K) ta tb) ρ (.bl (!decide (t ∈ ls))) := xd_op ha hb (ox_of fun G H va vb e da db Q q => by
  obtain ⟨c1, c2⟩ := can_lists ls
  refine ⟨(D.lst (ID t)).py, D.pys (ls.map fun l => .lst (ID l)), (da.mono e).dp, (db.mono e).dp, (ceq_ll t t).1, ?_, ?_⟩
  · show (PyData.canLayAll0 (D.pys (ls.map fun l => D.lst (ID l))) && decide (PyData.depthAll (D.pys (ls.map fun l => D.lst (ID l))) + 1 ≤ 64)) = true
    rw [c1, decide_eq_true (by omega)]
    rfl
  · rw [any_lists]
    exact q _ G H (Adv.refl e) (.bl _))
theorem turn_small {h l : List Int} {a : Int} (hl : h.length + l.length ≤ 2048) : optD (turnF h l a) = .non ∨ ∃ i : Int, optD (turnF h l a) = .int i ∧ i.natAbs.log2 < 1920 := by
  have key : ∀ i : Int, 1 ≤ i → i ≤ 2048 → i.natAbs.log2 < 1920 := fun i h1 h2 => by
    have : i.natAbs.log2 < 12 := (Nat.log2_lt (by omega)).mpr (by show i.natAbs < 4096; omega)
    omega
  unfold turnF
  cases e1 : plc h a with
  | cons x t =>
    obtain ⟨i, hx, h1, _⟩ := plc_first e1
    exact .inr ⟨x, rfl, key x (by omega) (by omega)⟩
  | nil =>
    cases e2 : plc l a with
    | cons x t =>
      obtain ⟨i, hx, h1, _⟩ := plc_first e2
      exact .inr ⟨_, rfl, key _ (by omega) (by omega)⟩
    | nil => exact .inl rfl
theorem mx_ge : ∀ {l : List Int} {a : Int}, a ∈ l → a ≤ mx l
  | b :: l, a, h => by
    show a ≤ max b (mx l)
    rcases List.mem_cons.mp h with rfl | h
    · exact Int.le_max_left _ _
    · exact Int.le_trans (mx_ge h) (Int.le_max_right _ _)
section
variable {P : Program} {w : World} {K : PySem.W.Frag} {mg : Str → Option Value} {base : Heap}
def sg__law_book_right : Sg := fun ds R => ∃ (m : Int) (rs : List Rl) (ps : List (List Int)) (who : Int), ds = [bd m rs, .lst (ps.map fun p => .lst (ID p)), .int who] ∧ (BkOk m rs ∧ (∀ p ∈ ps, inC m p ∧ p.length ≤ 120) ∧ 0 ≤ who ∧ who < m) ∧ R = Eq (.bl true)
abbrev N__law_book_right : List Str := ["_law_some", "_law_pasts", "_law_who", "_law_laps", "_law_past_here", "_law_running", "_law_one", "_law_weights"]
theorem sc__law_book_right : FnScope N__law_book_right ["_law_some", "_law_pasts", "_law_who"] (defScope (top 106)) := ⟨rfl, rfl, rfl, by decide +kernel, rfl, by decide +kernel, by decide +kernel⟩
abbrev H__law_book_right (P : Program) (w : World) (K : PySem.W.Frag) (mg : Str → Option Value) (base : Heap) : Prop := Has P w K mg base "_law_book_right" 12 ["_law_some", "_law_pasts", "_law_who"] (spX K sg__law_book_right)

theorem ok__law_book_right (B : Blt K mg) (Df : Dfd K mg "_law_book_right" 106) (h_waits_hold : H_waits_hold P w K mg base) (h_waits_of : H_waits_of P w K mg base) (h__law_lags_right : H__law_lags_right P w K mg base) (h__law_deals_on : H__law_deals_on P w K mg base) (h__law_turned : H__law_turned P w K mg base) (h_wait_behind : H_wait_behind P w K mg base) (h_turn_of : H_turn_of P w K mg base) (h_dealt : H_dealt P w K mg base) (h_laps_of : H_laps_of P w K mg base) : H__law_book_right P w K mg base := by
  refine has_mk Df (fun _ _ _ _ _ _ us hl => match us, hl with | [_, _, _], _ => rfl) fun f fd F => ?_
  refine fn_ok F sc__law_book_right (fun ds R ⟨_, _, _, _, e, _⟩ => e ▸ rfl) (fun cdv A outer s H E hr => ⟨_, (pss_cons (ps_set (i := 3) sc__law_book_right.nd rfl (by first | exact Or.inl rfl | exact Or.inr rfl) (pe_callH h_laps_of (hr.mono (by decide)) rfl (pa_cons (pv 0) pa_nil)))
    (pss_cons (ps_for PassesOwn.never rfl (pi_list (pv 1)) (pg_name (i := 4) sc__law_book_right.nd rfl (by first | exact Or.inl rfl | exact Or.inr rfl)) (pss_cons (ps_set (i := 5) sc__law_book_right.nd rfl (by first | exact Or.inl rfl | exact Or.inr rfl) (pe_callH h_dealt (hr.mono (by decide)) rfl (pa_cons (pv 0) (pa_cons (pv 4) pa_nil))))
    (pss_cons (ps_for PassesOwn.never rfl (pi_range1 rfl B.range (pa_cons (pe_ix ix_tup (pv 0) pe_int (fun _ _ => rfl)) pa_nil)) (pg_name (i := 6) sc__law_book_right.nd rfl (by first | exact Or.inl rfl | exact Or.inr rfl)) (pss_one (ps_if (pt_cmpR op_ne (pe_callB cr_reprO rfl B.repr bt_repr (pa_cons (pe_callH h_wait_behind (hr.mono (by decide)) rfl (pa_cons (pv 0) (pa_cons (pv 6) (pa_cons (pv 4) pa_nil)))) pa_nil)) (pe_callB cr_reprO rfl B.repr bt_repr (pa_cons (pe_callH h_turn_of (hr.mono (by decide)) rfl (pa_cons (pv 5) (pa_cons (pv 6) (pa_cons pe_int pa_nil)))) pa_nil)) (nomark _)) (pss_one (ps_ret pe_bl)) pss_nil)))
    (pss_cons (ps_if (PW.pt (pw_or (pt_cmpR (op_notInD (hu65_of hr)) (pe_callH h__law_turned (hr.mono (by decide)) rfl (pa_cons (pe_ix ix_tup (pv 5) pe_int (fun _ _ => rfl)) pa_nil)) (pv 3) (by rfl)) (pw_or1 (pt_not (pt_val (pe_callH h__law_deals_on (hr.mono (by decide)) rfl (pa_cons (pv 0) (pa_cons (pv 4) (pa_cons (pv 5) pa_nil))))))))) (pss_one (ps_ret pe_bl)) pss_nil)
    (pss_cons (ps_setLc (i := 7) (own := [("_law_one", 6)]) (g := (gName 6)) (by rfl) sc__law_book_right.nd rfl rfl (sw_true rfl rfl rfl (by decide +kernel)) (pi_range1 rfl B.range (pa_cons (pe_ix ix_tup (pv 0) pe_int (fun _ _ => rfl)) pa_nil)) (blkOk_by (own := [("_law_one", 6)]) (N := N__law_book_right) (sc := defScope (top 106)) (by decide +kernel)) (fun _ _ _ _ _ => (pg_name (i := 6) sc__law_book_right.nd rfl (Or.inl rfl))) (fun _ _ _ _ _ => pts_nil) (fun _ _ _ _ _ => (pe_bmK (K := K) (r := rCntI) rfl PySem.F.plainAttrs_list PySem.F.slot_list_count PySem.F.type_list_count mt_lcount (pe_ix (ix_tupK (K := K) rfl) (pv 5) pe_int (fun _ _ => rfl)) (pa_cons (pv 6) pa_nil))))
    (pss_one (ps_if (PW.pt (pw_and (pt_cmpR op_le (pe_callB (cr_max rfl) rfl B.max bt_max (pa_cons (pv 7) pa_nil)) pe_int (nomark _)) (pw_and1 (pt_not (pt_val (pe_callH h__law_lags_right (hr.mono (by decide)) rfl (pa_cons (pv 7) (pa_cons (pv 5) pa_nil)))))))) (pss_one (ps_ret pe_bl)) pss_nil)))))))
    (pss_one (ps_ret (pe_cmpR op_isBl (pe_callH h_waits_hold (hr.mono (by decide)) rfl (pa_cons (pv 0) (pa_cons (pv 2) (pa_cons (pe_callH h_waits_of (hr.mono (by decide)) rfl (pa_cons (pv 0) (pa_cons (pv 2) pa_nil))) pa_nil)))) pe_bl (nomark _)))))), fun ds R h => ?_⟩)
  obtain ⟨m, rs, ps, who, rfl, ⟨b, hps, w0, w1⟩, rfl⟩ := h
  have m1 := b.m1
  have m4 := b.m4
  have hr := reachB_le b
  have m_at : ∀ {r : List Sl}, r[0]? = some (.d (bd m rs)) → XD K (tOp (rIxT K) (tVar 0) (tC (.int 0))) r (.int m) := fun e => xd_ixT (xu_of (xd_var e)) xd_int rfl
  apply xs_seq
  refine xs_asg (xe_call (xa_cons (xd_var rfl) xa_nil) ⟨m, rs, rfl, b, rfl⟩) fun x hx => ?_
  obtain ⟨ls, rfl, good⟩ := hx
  apply xs_seq
  refine xs_forN (ys := ps.map fun p => .lst (ID p)) (fun i r => ∃ (s4 s5 s6 s7 : Sl), r = [.d (bd m rs), .d (.lst (ps.map fun p => .lst (ID p))), .d (.int who), .d (.lst (ls.map fun l => .lst (ID l))), s4, s5, s6, s7])
    (ix_listD (xd_var rfl)) ⟨_, _, _, _, rfl⟩ (fun i y r hy hr' => ?_) (fun r hr' => ?_)
  · obtain ⟨s4, s5, s6, s7, rfl⟩ := hr'
    have hi : i < ps.length := by
      have := (List.getElem?_eq_some_iff.mp hy).1
      rw [List.length_map] at this
      exact this
    rw [List.getElem?_map, List.getElem?_eq_getElem hi] at hy
    cases hy
    obtain ⟨p0, p1⟩ := hps _ (List.getElem_mem hi)
    generalize ps[i] = p at *
    apply xs_seq
    refine xs_asg (xe_call (xa_cons (xd_var rfl) (xa_cons (xd_var rfl) xa_nil)) ⟨m, rs, p, rfl, ⟨b, p0, p1⟩, rfl⟩) fun x hx => ?_
    obtain ⟨h, l, rfl, d⟩ := hx
    have ro := dealt_run b d
    have lp := ro.pos
    have len := d.len
    have st : lastN (reachB m rs) p ∈ stands m rs := (stands_mem b).mpr ⟨(lastN_len hr.1).1, lastN_in hr.1 p0⟩
    apply xs_seq
    refine xs_forN (ys := intsD 0 m.toNat) (fun i r => ∃ s6, r = [.d (bd m rs), .d (.lst (ps.map fun p => .lst (ID p))), .d (.int who), .d (.lst (ls.map fun l => .lst (ID l))), .d (.lst (ID p)), .d (run h l), s6, s7]) (ix_rng1 (xa_cons (m_at rfl) xa_nil) (by omega) (by omega)) ⟨_, rfl⟩ (fun j y r hy hr' => ?_) (fun r hr' => ?_)
    · obtain ⟨s6', rfl⟩ := hr'
      have hj : j < m.toNat := by
        have := (List.getElem?_eq_some_iff.mp hy).1
        rw [ints_len] at this
        exact this
      rw [ints_at hj] at hy
      cases hy
      rw [Int.zero_add]
      have sm := turn_small (h := h) (l := l) (a := (j : Int)) len
      refine xs_if (b := false) (xt_T (XD.eq (xd_neS (i := reprD (optD (turnF h l (j : Int)))) (j := reprD (optD (turnF h l (j : Int)))) (XE.imp (xe_repr (Ro := Eq (optD (turnF h l (j : Int)))) (XE.imp (xe_call (xa_cons (xd_var rfl) (xa_cons (xd_var rfl) (xa_cons (xd_var rfl) xa_nil))) ⟨m, rs, (j : Int), p, rfl, ⟨b, by omega, by omega, p0, p1⟩, rfl⟩) fun x ⟨o, e, wk⟩ => ?_) fun x e => ?_) fun y ⟨x, e1, e2⟩ => ?_) (XE.imp (xe_repr (Ro := Eq (optD (turnF h l (j : Int)))) (xe_call (xa_cons (xd_var rfl) (xa_cons (xd_var rfl) (xa_cons xd_int xa_nil))) ⟨h, l, (j : Int), rfl, ⟨ro, by omega, by omega⟩, rfl⟩) fun x e => ?_) fun y ⟨x, e1, e2⟩ => ?_)) ?_)) (fun z => nomatch z) fun _ => xs_next ⟨_, rfl⟩
      · rw [e, wk.uniq (wait_turn d _)]
      · rw [← e]
        exact sm
      · rw [e2, e1]
      · rw [← e]
        exact sm
      · rw [e2, e1]
      · rw [decide_eq_true rfl]
        rfl
    obtain ⟨s6', rfl⟩ := hr'
    apply xs_seq
    have mem : turnL l ∈ ls := good _ st l (dealt_ev d)
    refine xs_if (b := false) (xt_or (a := false) (b := false) (xt_T (XD.eq (xd_notInD (t := turnL l) (ls := ls) (xe_call (xa_cons (xd_ixT (xu_of (xd_var rfl)) xd_int rfl) xa_nil) ⟨l, rfl, ⟨ro.ne, by omega⟩, rfl⟩) (xd_var rfl)) (by rw [decide_eq_true mem]; rfl))) fun _ => xt_not (b := true) (xt_B (xe_call (xa_cons (xd_var rfl) (xa_cons (xd_var rfl) (xa_cons (xd_var rfl) xa_nil))) ⟨m, rs, p, h, l, rfl, ⟨b, p0, p1, d⟩, rfl⟩))) (fun z => nomatch z) fun _ => xs_next ?_
    apply xs_seq
    let ws : List Int := (List.range m.toNat).map fun (i : Nat) => ((l.count (i : Int) : Nat) : Int)
    have wl : ws.length = m.toNat := by
      show ((List.range _).map _).length = _
      rw [List.length_map, List.length_range]
    apply xs_asgD (x := .lst (ID ws))
    · have ew : (List.range m.toNat).map (fun (i : Nat) => D.int ((l.count (i : Int) : Nat) : Int)) = ID ws := by
        show _ = ((List.range _).map _).map D.int
        rw [List.map_map]
        rfl
      refine XD.eq (x := .lst _) (xd_lcM (List.range m.toNat) (fun (i : Nat) => .int ((0 : Int) + (i : Int))) _ (ix_rng1 (xa_cons (m_at rfl) xa_nil) (by omega) (by omega)) (by decide) (by rw [List.length_range]; omega) fun i hi => ?_) (congrArg D.lst ew)
      refine XD.eq (xd_count (xl_of (xd_ixT (xu_of (xd_var rfl)) xd_int rfl)) (xd_var rfl)) ?_
      rw [Int.zero_add]
    have w0' : ∀ a ∈ ws, 0 ≤ a := fun a ha => by
      obtain ⟨i, _, rfl⟩ := List.mem_map.mp ha
      exact Int.natCast_nonneg _
    have dl := dealt_in b d
    refine xs_if (b := false) (XT.eq (xt_and (a := decide (mx ws ≤ 1000)) (b := false) (xt_T (xd_le (xd_max (xl_of (xd_var rfl)) (by omega) w0') xd_int)) fun hm => xt_not (b := true) (xt_B (xe_call (xa_cons (xd_var rfl) (xa_cons (xd_var rfl) xa_nil)) ⟨ws, h, l, rfl, ⟨ro, len, by omega, by omega, fun a ha => ⟨w0' a ha, ?_⟩, sum_counts l (inC_up dl.2 (by omega)), inC_up dl.1 (by omega), inC_up dl.2 (by omega), fun k hk => ?_⟩, rfl⟩))) (Bool.and_false _)) (fun z => nomatch z) fun _ => xs_next ⟨_, _, _, _, rfl⟩
    · have := of_decide_eq_true hm
      have := mx_ge ha
      omega
    · show ((List.range m.toNat).map _).getD k 0 = _
      rw [List.getD_eq_getElem?_getD, List.getElem?_map, List.getElem?_range (by omega)]
      rfl
  · obtain ⟨s4, s5, s6, s7, rfl⟩ := hr'
    refine xs_retD (XD.eq (xd_isB (a := true) (xe_callE (S' := fun ds => ∃ o : List Int → Option Int, ds = [bd m rs, .int who, .lst (pairsD (paper (stands m rs) o))] ∧ ∀ p ∈ stands m rs, WaitOk m rs who p (o p)) (xae_cons (R := Eq (bd m rs)) (xd_var rfl) (xae_cons (R := Eq (.int who)) (xd_var rfl) (xae_one (S' := fun ds => ∃ o : List Int → Option Int, ds = [.lst (pairsD (paper (stands m rs) o))] ∧ ∀ p ∈ stands m rs, WaitOk m rs who p (o p)) (xe_call (xa_cons (xd_var rfl) (xa_cons (xd_var rfl) xa_nil)) ⟨m, rs, who, rfl, ⟨b, w0, w1⟩, rfl⟩) fun x ⟨o, e, k⟩ => ⟨o, by rw [e], k⟩) (S' := fun ds => ∃ o : List Int → Option Int, ds = [.int who, .lst (pairsD (paper (stands m rs) o))] ∧ ∀ p ∈ stands m rs, WaitOk m rs who p (o p)) fun x xs e ⟨o, e2, k⟩ => ⟨o, by rw [← e, e2], k⟩) fun x xs e ⟨o, e2, k⟩ => ⟨o, by rw [← e, e2], k⟩) fun ds ⟨o, e, k⟩ => ⟨m, rs, who, o, e, ⟨b, w0, w1, k⟩, rfl⟩) xd_bl) rfl) rfl
end
end Dx
end

section
set_option Elab.async false
set_option linter.all false
set_option maxRecDepth 100000
set_option maxHeartbeats 4000000
namespace Dx
open PySem PySem.Spec PyProof.Rows L2 Evl RZ
local macro_rules | `(tactic| walk_at "sd") => `(tactic| first | rfl | assumption | omega | exact Nat.le_of_ble_eq_true rfl | exact decide_eq_false (by omega) | exact decide_eq_true (by omega) | decide | (constructor <;> omega) | (simp only [List.length_map]; omega) | (simp only [List.length_map]; constructor <;> omega))
local macro_rules | `(tactic| walk_at "sd?") => `(tactic| first | walk_at "sd" | rotate_left)
local macro_rules | `(tactic| walk_at "xl") => `(tactic| first | exact xl_own rfl | (apply xl_of; walk_at "xd") | (apply xl_r; walk_at "xd"))
local macro_rules | `(tactic| walk_at "xm") => `(tactic| first | exact xm_own rfl | (apply xm_of; walk_at "xd"))
local macro_rules | `(tactic| walk_at "xu") => `(tactic| first | (apply xu_of; walk_at "xd") | (apply xu_r; walk_at "xd") | (apply xu_k; walk_at "xd"))
local macro_rules | `(tactic| walk_at "xa") => `(tactic| first | exact xa_nil | (apply xa_cons; walk_at "xd"; walk_at "xa"))
local macro_rules | `(tactic| walk_at "xo") => `(tactic| first | exact xo_none | (apply xo_some; walk_at "xd"))
local macro_rules | `(tactic| walk_at "xd") => `(tactic| first
  | exact xd_int | exact xd_str | exact xd_bl | exact xd_non | exact xd_var rfl
  | (apply xd_add; walk_at "xd"; walk_at "xd") | (apply xd_sub; walk_at "xd"; walk_at "xd") | (apply xd_neg; walk_at "xd")
  | (apply xd_mul; walk_at "xd"; walk_at "xd"; walk_at "sd?") | (apply xd_fdiv; walk_at "xd"; walk_at "xd"; walk_at "sd?") | (apply xd_mod; walk_at "xd"; walk_at "xd"; walk_at "sd?")
  | (apply xd_lt; walk_at "xd"; walk_at "xd") | (apply xd_le; walk_at "xd"; walk_at "xd") | (apply xd_gt; walk_at "xd"; walk_at "xd") | (apply xd_ge; walk_at "xd"; walk_at "xd")
  | (apply xd_chainLe; walk_at "xd"; walk_at "xd"; walk_at "xd")
  | (apply xd_eqI; walk_at "xd"; walk_at "xd") | (apply xd_neI; walk_at "xd"; walk_at "xd") | (apply xd_eqS; walk_at "xd"; walk_at "xd") | (apply xd_neS; walk_at "xd"; walk_at "xd")
  | (apply xd_isN; walk_at "xd"; walk_at "xd") | (apply xd_notN; walk_at "xd"; walk_at "xd")
  | (apply xd_not; walk_at "xd") | (apply xd_and; walk_at "xd"; (intro _; walk_at "xd")) | (apply xd_or; walk_at "xd"; (intro _; walk_at "xd"))
  | (apply xd_ixT; walk_at "xu"; walk_at "xd"; rfl) | (apply xd_ixIU; walk_at "xu"; walk_at "xd"; walk_at "sd?") | (apply xd_ixI; walk_at "xl"; walk_at "xd"; walk_at "sd?") | (apply xd_ixL; walk_at "xl"; walk_at "xd"; walk_at "sd?")
  | (apply xd_tup; walk_at "xa"; walk_at "sd?") | (apply xd_lst; walk_at "xa"; walk_at "sd?")
  | (apply xd_len; walk_at "xl") | (apply xd_lenU; walk_at "xu") | (apply xd_abs; walk_at "xd") | (apply xd_min2; walk_at "xd"; walk_at "xd")
  | (apply xd_isi; walk_at "xd"; (first | exact kb_int | exact kb_int_bool | exact kb_tuple | exact kb_list | exact kb_str | exact kb_bool_bool))
  | (apply xd_slL; walk_at "xl"; walk_at "xo"; walk_at "xo") | (apply xd_slT; walk_at "xd"; walk_at "xo"; walk_at "xo")
  | (apply xd_cat; walk_at "xm"; walk_at "xm"; walk_at "sd?") | (apply xd_catT; walk_at "xd"; walk_at "xd"; walk_at "sd?")
  | (apply xd_list; walk_at "xl") | (apply xd_listU; walk_at "xu") | (apply xd_tuple; walk_at "xl") | (apply xd_tupleT; walk_at "xd")
  | (apply xd_slk; walk_at "xd"; walk_at "xo"; walk_at "xo") | (apply xd_catK; walk_at "xd"; walk_at "xd"; walk_at "sd?") | exact xd_tupK0 | (apply xd_tupK1; walk_at "xd")
  | (apply xe_call; walk_at "xa"; walk_at "sg"))
local macro_rules | `(tactic| walk_at "sg") => `(tactic| first | exact ⟨_, rfl, rfl⟩ | exact ⟨_, _, rfl, rfl⟩ | exact ⟨_, _, _, rfl, rfl⟩ | exact ⟨_, _, _, _, rfl, rfl⟩ | exact ⟨_, _, _, _, _, rfl, rfl⟩ | exact ⟨_, _, _, _, _, _, rfl, rfl⟩ | exact ⟨_, _, _, _, _, _, _, rfl, rfl⟩ | (refine' ⟨_, rfl, ?_, rfl⟩; walk_at "sd?") | (refine' ⟨_, _, rfl, ?_, rfl⟩; walk_at "sd?") | (refine' ⟨_, _, _, rfl, ?_, rfl⟩; walk_at "sd?") | (refine' ⟨_, _, _, _, rfl, ?_, rfl⟩; walk_at "sd?") | (refine' ⟨_, _, _, _, _, rfl, ?_, rfl⟩; walk_at "sd?") | (refine' ⟨_, _, _, _, _, _, rfl, ?_, rfl⟩; walk_at "sd?") | (refine' ⟨_, _, _, _, _, _, _, rfl, ?_, rfl⟩; walk_at "sd?"))
local macro_rules | `(tactic| walk_at "asg") => `(tactic| (apply xs_seq; apply xs_asgD; walk_at "xd"))
local macro_rules | `(tactic| walk_at "guard") => `(tactic| (apply xs_seq; apply xs_guard; walk_at "xt"; walk_at "sd?"))
local macro_rules | `(tactic| walk_at "ret") => `(tactic| (apply xs_retE; walk_at "xd"; exact rfl; walk_at "sd?"))
local macro_rules | `(tactic| walk_at "xt") => `(tactic| first
  | (apply xt_B; walk_at "xd") | (apply xt_T; walk_at "xd") | (apply xt_not; walk_at "xt") | (apply xt_and; walk_at "xt"; (intro _; walk_at "xt")) | (apply xt_or; walk_at "xt"; (intro _; walk_at "xt")) | exact xt_yes)
local macro_rules | `(tactic| walk_at "grd") => `(tactic| (apply xs_seq; apply xs_guard; walk_at "xt"))
local macro_rules | `(tactic| walk_at "grl") => `(tactic| (apply xs_guard; walk_at "xt"))
local macro_rules | `(tactic| walk_at "unp2") => `(tactic| (apply xs_seq; apply xs_asgG; walk_at "xd"; exact xg_tup (xgs_cons (xgs_cons xgs_nil)) rfl))
local macro_rules | `(tactic| walk_at "if") => `(tactic| (apply xs_seq; apply xs_if; walk_at "xt"))
local macro_rules | `(tactic| walk_at "drop") => `(tactic| (apply xs_seq; apply xs_drop; walk_at "xd"))

open Ma
section
variable {P : Program} {w : World} {K : PySem.W.Frag} {mg : Str → Option Value} {base : Heap}
def sg_law : Sg := fun ds R => ∃ (ns : List Int), ds = [.rlst (ID ns)] ∧ True ∧ R = Eq (.bl true)
abbrev N_law : List Str := ["_law_script", "_law_first", "_law_kept", "_law_some", "_law_at", "_law_who"]
theorem sc_law : FnScope N_law ["_law_script"] (defScope (top 107)) := ⟨rfl, rfl, rfl, by decide +kernel, rfl, by decide +kernel, by decide +kernel⟩
abbrev H_law (P : Program) (w : World) (K : PySem.W.Frag) (mg : Str → Option Value) (base : Heap) : Prop := Has P w K mg base "law" 13 ["_law_script"] (spX K sg_law)

theorem fn_law {f : Addr} {fd : FuncData} (B : Blt K mg) (F : Fun K "law" "law" (top 107) f fd) (h_dealt : H_dealt P w K mg base) (h__law_small_book : H__law_small_book P w K mg base) (h__law_book_right : H__law_book_right P w K mg base) (h__law_past : H__law_past P w K mg base) (h__law_draw : H__law_draw P w K mg base) (h__law_cell_at : H__law_cell_at P w K mg base) : FnOk P w K mg base CX0 13 f fd ["_law_script"] (spX K sg_law) := by
  refine fn_ok F sc_law (fun ds R ⟨_, e, _⟩ => e ▸ rfl) (fun cdv A outer s H E hr => ⟨_, (pss_cons (ps_set (i := 1) sc_law.nd rfl (by first | exact Or.inl rfl | exact Or.inr rfl) (pe_callH h__law_small_book (hr.mono (by decide)) rfl (pa_cons (pv 0) (pa_cons pe_int pa_nil))))
    (pss_cons (ps_set (i := 2) sc_law.nd rfl (by first | exact Or.inl rfl | exact Or.inr rfl) (pe_callH h_dealt (hr.mono (by decide)) rfl (pa_cons (pv 1) (pa_cons (pe_lst pa_nil) pa_nil))))
    (pss_cons (ps_for PassesOwn.never rfl (pi_list (pe_lst (pa_cons (pe_tup (pa_cons (pv 1) (pa_cons pe_int pa_nil))) (pa_cons (pe_tup (pa_cons (pe_callH h__law_small_book (hr.mono (by decide)) rfl (pa_cons (pv 0) (pa_cons pe_int pa_nil))) (pa_cons pe_int pa_nil))) pa_nil)))) (pg_tup rfl (pgs_cons (pg_name (i := 3) sc_law.nd rfl (by first | exact Or.inl rfl | exact Or.inr rfl)) (pgs_cons (pg_name (i := 4) sc_law.nd rfl (by first | exact Or.inl rfl | exact Or.inr rfl)) pgs_nil))) (pss_cons (ps_set (i := 5) sc_law.nd rfl (by first | exact Or.inl rfl | exact Or.inr rfl) (pe_callH h__law_draw (hr.mono (by decide)) rfl (pa_cons (pe_callH h__law_cell_at (hr.mono (by decide)) rfl (pa_cons (pv 0) (pa_cons pe_int pa_nil))) (pa_cons (pv 4) (pa_cons (pe_ix ix_tup (pv 3) pe_int (fun _ _ => rfl)) pa_nil)))))
    (pss_one (ps_if (pt_not (pt_val (pe_callH h__law_book_right (hr.mono (by decide)) rfl (pa_cons (pv 3) (pa_cons (pe_lst (pa_cons (pe_lst pa_nil) (pa_cons (pe_callH h__law_past (hr.mono (by decide)) rfl (pa_cons (pv 0) (pa_cons (pv 4) (pa_cons (pe_ix ix_tup (pv 3) pe_int (fun _ _ => rfl)) pa_nil)))) pa_nil))) (pa_cons (pv 5) pa_nil)))))) (pss_one (ps_ret pe_bl)) pss_nil))))
    (pss_one (ps_ret (pe_cmpR (op_eqD hr.units) (pe_callH h_dealt (hr.mono (by decide)) rfl (pa_cons (pv 1) (pa_cons (pe_lst pa_nil) pa_nil))) (pv 2) (nomark _))))))), fun ds R h => ?_⟩)
  obtain ⟨ns, rfl, _, rfl⟩ := h
  apply xs_seq
  refine xs_asg (xe_call (xa_cons (xd_var rfl) (xa_cons (xd_int (i := ((1 : Nat) : Int))) xa_nil)) ⟨ns, 1, rfl, trivial, rfl⟩) fun x hx => ?_
  obtain ⟨m, rs, rfl, b⟩ := hx
  have hd : ∀ {r : List Sl} {E' : XK}, r[1]? = some (.d (bd m rs)) → XE K (tCall (spX K sg_dealt) [] E' (tCons (tVar 1) (tCons (tLst tNil) tNil))) r (fun x => ∃ h l, x = run h l ∧ Dealt m rs (lastN (reachB m rs) []) h l) := fun {r E'} e => xe_call (xa_cons (xd_var e) (xa_cons (x := .lst (ID [])) (xd_lst xa_nil (by decide)) xa_nil)) ⟨m, rs, [], rfl, ⟨b, (fun _ h => nomatch h), by decide⟩, rfl⟩
  apply xs_seq
  refine xs_asg (hd rfl) fun x hx => ?_
  obtain ⟨h, l, rfl, d⟩ := hx
  apply xs_seq
  refine xs_forE (js := [3, 4]) (fun ys => ∃ m' rs', BkOk m' rs' ∧ ys = [.tup [bd m rs, .int ((41 : Nat) : Int)], .tup [bd m' rs', .int ((45 : Nat) : Int)]]) (fun ys i r => ∃ s3 s4 s5, r = [.d (.rlst (ID ns)), .d (bd m rs), .d (run h l), s3, s4, s5])
    (ixe_list (R := fun x => ∃ m' rs', BkOk m' rs' ∧ x = .lst [.tup [bd m rs, .int ((41 : Nat) : Int)], .tup [bd m' rs', .int ((45 : Nat) : Int)]]) (xe_lst (S := fun ds => ∃ m' rs', BkOk m' rs' ∧ ds = [.tup [bd m rs, .int ((41 : Nat) : Int)], .tup [bd m' rs', .int ((45 : Nat) : Int)]]) (xae_cons (R := Eq (.tup [bd m rs, .int ((41 : Nat) : Int)])) (xd_tup (xa_cons (xd_var rfl) (xa_cons (xd_int (i := ((41 : Nat) : Int))) xa_nil)) (by show 2 ≤ 100000; decide)) (xae_one (S' := fun ds => ∃ m' rs', BkOk m' rs' ∧ ds = [.tup [bd m' rs', .int ((45 : Nat) : Int)]]) (R := fun x => ∃ m' rs', BkOk m' rs' ∧ x = .tup [bd m' rs', .int ((45 : Nat) : Int)]) (xe_tup (S := fun ds => ∃ m' rs', BkOk m' rs' ∧ ds = [bd m' rs', .int ((45 : Nat) : Int)]) (xae_cons (R := fun x => ∃ m' rs', x = bd m' rs' ∧ BkOk m' rs') (xe_call (xa_cons (xd_var rfl) (xa_cons (xd_int (i := ((21 : Nat) : Int))) xa_nil)) ⟨ns, 21, rfl, trivial, rfl⟩) (xae_one (S' := Eq [.int ((45 : Nat) : Int)]) (R := Eq (.int ((45 : Nat) : Int))) xd_int fun x e => by rw [e]) fun x xs ⟨m', rs', e, b'⟩ e2 => ⟨m', rs', b', by rw [e, ← e2]⟩) fun ds ⟨m', rs', b', e⟩ => ⟨by rw [e]; show 2 ≤ 100000; decide, m', rs', b', by rw [e]⟩) fun x ⟨m', rs', b', e⟩ => ⟨m', rs', b', by rw [e]⟩) fun x xs e ⟨m', rs', b', e2⟩ => ⟨m', rs', b', by rw [← e, e2]⟩) fun ds ⟨m', rs', b', e⟩ => ⟨by rw [e]; show 2 ≤ 100000; decide, m', rs', b', by rw [e]⟩) fun x ⟨m', rs', b', e⟩ => ⟨_, e, m', rs', b', rfl⟩)
    (fun ys _ => ⟨_, _, _, rfl⟩) (fun ys hp i y r hy hr' => ?_) (fun ys _ r hr' => ?_)
  · obtain ⟨s3, s4, s5, rfl⟩ := hr'
    obtain ⟨m', rs', b', rfl⟩ := hp
    obtain ⟨M, RS, k, rfl, b1, k1⟩ : ∃ (M : Int) (RS : List Rl) (k : Nat), y = .tup [bd M RS, .int (k : Int)] ∧ BkOk M RS ∧ k ≤ 1000 := by
      match i, hy with
      | 0, hy =>
        cases hy
        exact ⟨m, rs, 41, rfl, b, by decide⟩
      | 1, hy =>
        cases hy
        exact ⟨m', rs', 45, rfl, b', by decide⟩
    have q1 := b1.m1
    have q4 := b1.m4
    refine ⟨_, xg_tup (xgs_cons (xgs_cons xgs_nil)) rfl, ?_⟩
    have m_at : ∀ {r : List Sl}, r[3]? = some (.d (bd M RS)) → XD K (tOp (rIxT K) (tVar 3) (tC (.int 0))) r (.int M) := fun e => xd_ixT (xu_of (xd_var e)) xd_int rfl
    apply xs_seq
    apply xs_asgD (xd_draw k (xd_cell 0 (xd_var rfl) (xd_int (i := ((0 : Nat) : Int)))) (xd_var rfl) (m_at rfl) ⟨k1, by omega, by omega⟩)
    have dw := drawF_in (cellF ns 0) k (b := M) (by omega)
    refine xs_if (b := false) (xt_not (b := true) (xt_B (xe_callE (S' := fun ds => ∃ p, ds = [bd M RS, .lst [.lst (ID []), .lst (ID p)], .int (drawF (cellF ns 0) k M)] ∧ inC M p ∧ p.length ≤ 120) (xae_cons (R := Eq (bd M RS)) (xd_var rfl) (xae_cons (S' := fun ds => ∃ p, ds = [.lst [.lst (ID []), .lst (ID p)], .int (drawF (cellF ns 0) k M)] ∧ inC M p ∧ p.length ≤ 120) (R := fun x => ∃ p, x = .lst [.lst (ID []), .lst (ID p)] ∧ inC M p ∧ p.length ≤ 120) (xe_lst (S := fun ds => ∃ p, ds = [.lst (ID []), .lst (ID p)] ∧ inC M p ∧ p.length ≤ 120) (xae_cons (R := Eq (.lst (ID []))) (xd_lst xa_nil (by decide)) (xae_one (S' := fun ds => ∃ p, ds = [.lst (ID p)] ∧ inC M p ∧ p.length ≤ 120) (R := fun x => ∃ p, x = .lst (ID p) ∧ inC M p ∧ p.length ≤ 120) (xe_call (xa_cons (xd_var rfl) (xa_cons (xd_var rfl) (xa_cons (m_at rfl) xa_nil))) ⟨ns, k, M, rfl, ⟨q1, q4⟩, rfl⟩) fun x ⟨p, e, z⟩ => ⟨p, by rw [e], z⟩) fun x xs e ⟨p, e2, z⟩ => ⟨p, by rw [← e, e2], z⟩) fun ds ⟨p, e, z⟩ => ⟨by rw [e]; show 2 ≤ 100000; decide, p, by rw [e], z⟩) (xae_one (S' := Eq [.int (drawF (cellF ns 0) k M)]) (R := Eq (.int (drawF (cellF ns 0) k M))) (xd_var rfl) fun x e => by rw [e]) fun x xs ⟨p, e, z⟩ e2 => ⟨p, by rw [e, ← e2], z⟩) fun x xs e ⟨p, e2, z⟩ => ⟨p, by rw [← e, e2], z⟩) fun ds ⟨p, e, z⟩ => ⟨M, RS, [[], p], drawF (cellF ns 0) k M, e, ⟨b1, fun q hq => ?_, dw⟩, rfl⟩))) (fun z => nomatch z) fun _ => xs_next ⟨_, _, _, rfl⟩
    rcases List.mem_cons.mp hq with rfl | hq
    · exact ⟨(fun _ h => nomatch h), by decide⟩
    · rw [List.mem_singleton.mp hq]
      exact z
  · obtain ⟨s3, s4, s5, rfl⟩ := hr'
    refine xs_ret (R := Eq (.bl true)) (xe_op (hd rfl) (Rb := Eq (run h l)) (xd_var rfl) fun x y hx hy => ?_) fun x hx => hx
    obtain ⟨h', l', rfl, d'⟩ := hx
    subst hy
    obtain ⟨rfl, rfl⟩ := d'.nf.unique d.nf fun n => by rw [d'.at_, d.at_]
    exact ox_eqD (ceq_run _ _)
end
end Dx
end

section
set_option Elab.async false
set_option linter.all false
set_option maxRecDepth 100000
set_option maxHeartbeats 0
namespace Hd
open PySem PySem.Spec PyProof.Rows L2 Dx
def df (x : Str) (i : Nat) : He.FnD := ⟨(x, none), x, x, defArgs (top i), defBody (top i), defScope (top i)⟩
def fn0 : List He.FnD := [df "is_whole" 12, df "common" 13, df "is_fraction" 14, df "made" 15, df "minus" 16, df "over" 17, df "less" 18, df "unsigned" 19, df "floor_of" 20, df "ceiling_of" 21, df "are_weights" 25, df "is_within" 28, df "are_claimants" 29, df "is_running" 30, df "check_running" 31, df "check_claimant" 32, df "check_number" 33, df "choice_in_row" 34, df "choice_at" 35, df "count_in" 36, df "places_of" 37, df "turn_of" 38, df "root_of" 39, df "least_of" 40, df "plain_parts" 46, df "parts_of" 47, df "all_within" 48, df "is_sentence" 49, df "past_fault" 50, df "check_past" 51]
def fn1 : List He.FnD := [df "reach_in" 52, df "greatest_claimant" 53, df "is_true" 54, df "is_rule" 58, df "check_book" 59, df "book_reach" 60, df "rule_in" 61, df "longest_ago" 62, df "choice_within" 63, df "check_both" 64, df "pasts_to" 66, df "all_stands" 67, df "cut_to" 68, df "stand_of" 69, df "steps_of" 70, df "dealt" 71, df "waits_in" 73, df "waits_of" 74, df "wait_behind" 75, df "has_form" 76, df "same_stand" 77, df "waits_hold" 78, df "least_turned" 79, df "laps_of" 80, df "check_bound" 83, df "lag_keeps" 84, df "check_weights" 86, df "check_among" 87, df "lag_of" 88, df "drift_of" 89]
def fn2 : List He.FnD := [df "ends_of" 90, df "lags_of" 91, df "laps_till" 92, df "first_out" 93, df "broken_at" 94, df "_law_cell_at" 96, df "_law_draw" 97, df "_law_plain_sentence" 98, df "_law_size" 99, df "_law_sentence" 100, df "_law_past" 101, df "_law_turned" 102, df "_law_small_book" 103, df "_law_lags_right" 104, df "_law_deals_on" 105, df "_law_book_right" 106, df "law" 107]
def fn : List He.FnD := fn0 ++ fn1 ++ fn2
def fa0 : List He.Fa := [.glo "is_whole", .glo "common", .glo "is_fraction", .glo "made", .glo "minus", .glo "over", .glo "less", .glo "unsigned", .glo "floor_of", .glo "ceiling_of", .glo "are_weights", .glo "is_within", .glo "are_claimants", .glo "is_running", .glo "check_running", .glo "check_claimant", .glo "check_number", .glo "choice_in_row", .glo "choice_at", .glo "count_in", .glo "places_of", .glo "turn_of", .glo "root_of", .glo "least_of", .glo "plain_parts", .glo "parts_of", .glo "all_within", .glo "is_sentence", .glo "past_fault", .glo "check_past"]
def fa1 : List He.Fa := [.glo "reach_in", .glo "greatest_claimant", .glo "is_true", .glo "is_rule", .glo "check_book", .glo "book_reach", .glo "rule_in", .glo "longest_ago", .glo "choice_within", .glo "check_both", .glo "pasts_to", .glo "all_stands", .glo "cut_to", .glo "stand_of", .glo "steps_of", .glo "dealt", .glo "waits_in", .glo "waits_of", .glo "wait_behind", .glo "has_form", .glo "same_stand", .glo "waits_hold", .glo "least_turned", .glo "laps_of", .glo "check_bound", .glo "lag_keeps", .glo "check_weights", .glo "check_among", .glo "lag_of", .glo "drift_of"]
def fa2 : List He.Fa := [.glo "ends_of", .glo "lags_of", .glo "laps_till", .glo "first_out", .glo "broken_at", .glo "_law_cell_at", .glo "_law_draw", .glo "_law_plain_sentence", .glo "_law_size", .glo "_law_sentence", .glo "_law_past", .glo "_law_turned", .glo "_law_small_book", .glo "_law_lags_right", .glo "_law_deals_on", .glo "_law_book_right", .glo "law", .keep "is_whole", .keep "common", .keep "is_fraction", .keep "made", .keep "minus", .keep "over", .keep "less", .keep "unsigned", .keep "floor_of", .keep "ceiling_of", .keep "are_weights", .keep "is_within", .keep "are_claimants"]
def fa3 : List He.Fa := [.keep "is_running", .keep "check_running", .keep "check_claimant", .keep "check_number", .keep "choice_in_row", .keep "choice_at", .keep "count_in", .keep "places_of", .keep "turn_of", .keep "root_of", .keep "least_of", .keep "plain_parts", .keep "parts_of", .keep "all_within", .keep "is_sentence", .keep "past_fault", .keep "check_past", .keep "reach_in", .keep "greatest_claimant", .keep "is_true", .keep "is_rule", .keep "check_book", .keep "book_reach", .keep "rule_in", .keep "longest_ago", .keep "choice_within", .keep "check_both", .keep "pasts_to", .keep "all_stands", .keep "cut_to"]
def fa4 : List He.Fa := [.keep "stand_of", .keep "steps_of", .keep "dealt", .keep "waits_in", .keep "waits_of", .keep "wait_behind", .keep "has_form", .keep "same_stand", .keep "waits_hold", .keep "least_turned", .keep "laps_of", .keep "check_bound", .keep "lag_keeps", .keep "check_weights", .keep "check_among", .keep "lag_of", .keep "drift_of", .keep "ends_of", .keep "lags_of", .keep "laps_till", .keep "first_out", .keep "broken_at", .keep "_law_cell_at", .keep "_law_draw", .keep "_law_plain_sentence", .keep "_law_size", .keep "_law_sentence", .keep "_law_past", .keep "_law_turned", .keep "_law_small_book"]
def fa5 : List He.Fa := [.keep "_law_lags_right", .keep "_law_deals_on", .keep "_law_book_right", .keep "law", .free "abs", .free "all", .free "any", .free "bool", .free "dict", .free "enumerate", .free "int", .free "isinstance", .free "len", .free "list", .free "max", .free "min", .free "range", .free "repr", .free "sorted", .free "str", .free "sum", .free "tuple", .free "zip", .int "MOST_CLAIMANTS" 6, .int "MOST_WEIGHT" 1000, .int "FARTHEST" 5, .int "MOST_WITHIN" 40, .int "MOST_SIDE" 4, .int "MOST_PAST" 120, .int "MOST_RULES" 8]
def fa6 : List He.Fa := [.int "MOST_MANY" 4, .int "MOST_BOUND" 300, .int "FAR" 10000000000000000000000000000000000000000, .glo "NOUGHT"]
def fa : List He.Fa := fa0 ++ fa1 ++ fa2 ++ fa3 ++ fa4 ++ fa5 ++ fa6
def nm0 : List PySem.Str := ["DueError", "NoFraction", "NoPlan", "NoClaimant", "NoRow", "NoBound", "NoNumber", "NoRunning", "NoBook", "NOUGHT", "is_whole", "common", "is_fraction", "made", "minus", "over", "less", "unsigned", "floor_of", "ceiling_of", "MOST_CLAIMANTS", "MOST_WEIGHT", "are_weights", "FAR", "is_within", "are_claimants", "is_running", "check_running", "check_claimant", "check_number"]
def nm1 : List PySem.Str := ["choice_in_row", "choice_at", "count_in", "places_of", "turn_of", "root_of", "least_of", "FARTHEST", "MOST_WITHIN", "MOST_SIDE", "MOST_PAST", "plain_parts", "parts_of", "all_within", "is_sentence", "past_fault", "check_past", "reach_in", "greatest_claimant", "is_true", "MOST_RULES", "MOST_MANY", "is_rule", "check_book", "book_reach", "rule_in", "longest_ago", "choice_within", "check_both", "pasts_to"]
def nm2 : List PySem.Str := ["all_stands", "cut_to", "stand_of", "steps_of", "dealt", "waits_in", "waits_of", "wait_behind", "has_form", "same_stand", "waits_hold", "least_turned", "laps_of", "MOST_BOUND", "check_bound", "lag_keeps", "check_weights", "check_among", "lag_of", "drift_of", "ends_of", "lags_of", "laps_till", "first_out", "broken_at", "_law_cell_at", "_law_draw", "_law_plain_sentence", "_law_size", "_law_sentence"]
def nm3 : List PySem.Str := ["_law_past", "_law_turned", "_law_small_book", "_law_lags_right", "_law_deals_on", "_law_book_right"]
def names : List PySem.Str := nm0 ++ nm1 ++ nm2 ++ nm3
abbrev R : PySem.W.OpenRow := PySem.W.OpenLaw.row PySem.Challenge.rw_dueturns_k65_whole_waits_and_rows
/-- NOUGHT as the head finds it -/
def nb (K : PySem.W.Frag) : Bool := He.tupB K "NOUGHT" [.int 0, .int 1]
def hk : PySem.W.Hook where
  α := He.Al × Bool
  obs := fun s => (He.obsG 2 fa fn s.heap.get?, nb (He.frG s.heap.get? (He.asG s.heap.get? 2)))
  val := fun _ => (He.valE fn, true)
  says := fun _ h => ∃ K : PySem.W.Frag, K.In h ∧ He.SaysE fa fn K ∧ nb K = true
  of := fun _ _ e => ⟨_, He.frG_in, congrArg Prod.fst e, congrArg Prod.snd e⟩
  keeps := fun _ _ _ ⟨K, hK, c⟩ k => ⟨K, PySem.W.Frag.In.keeps hK k, c⟩
def ob (s : PySem.W.SharedT) : He.Al × Bool := (He.obsG 2 fa fn (HandSHeadRun.getT s), nb (He.frG (HandSHeadRun.getT s) (He.asG (HandSHeadRun.getT s) 2)))
theorem ob_eq (s : PySem.W.SharedT) : ob s = hk.obs s.abs := by
  have e : HandSHeadRun.getT s = s.abs.heap.get? := funext (HandSHeadRun.getT_eq s)
  show (_, _) = (_, _)
  rw [e]
theorem run (w : World) : HandSHeadRun.RunEq R (PySem.W.view R.prog [107]) hk ob 30000 names w := by
  intro os
  kernel_rfl
end Hd
end

section
set_option Elab.async false
set_option linter.all false
set_option maxRecDepth 100000
set_option maxHeartbeats 4000000
namespace Dx
open PySem PySem.Spec PyProof.Rows L2 Evl RZ
theorem dfd_mk {K : PySem.W.Frag} {mg : Str → Option Value} {h : Heap} {x : Str} {i : Nat} (X : K.In h) (G : h.Ns mainGlobals mg) (c : He.SaysE Hd.fa Hd.fn K) (j g k : Nat) (hj : Hd.fn[j]? = some (Hd.df x i)) (hg : Hd.fa[g]? = some (.glo x)) (hk : Hd.fa[k]? = some (.keep x)) : Dfd K mg x i := by
  obtain ⟨oc, od, osl, kV, doc, pm, an, cdv, ct, e1, e2⟩ := c.def_ j hj
  exact ⟨_, _, fun_mk e1 e2 (He.keep_ok (c.fact k hk)), He.glo_ok X G (c.fact g hg)⟩
theorem blt_mk {K : PySem.W.Frag} {mg : Str → Option Value} {h : Heap} (X : K.In h) (G : h.Ns mainGlobals mg) (c : He.SaysE Hd.fa Hd.fn K) (hn : Hd.nb K = true) : Blt K mg where
  abs := He.free_ok X G (c.fact 154 (f := .free "abs") rfl)
  all := He.free_ok X G (c.fact 155 (f := .free "all") rfl)
  any := He.free_ok X G (c.fact 156 (f := .free "any") rfl)
  bool := He.free_ok X G (c.fact 157 (f := .free "bool") rfl)
  dict := He.free_ok X G (c.fact 158 (f := .free "dict") rfl)
  enumerate := He.free_ok X G (c.fact 159 (f := .free "enumerate") rfl)
  int := He.free_ok X G (c.fact 160 (f := .free "int") rfl)
  isinstance := He.free_ok X G (c.fact 161 (f := .free "isinstance") rfl)
  len := He.free_ok X G (c.fact 162 (f := .free "len") rfl)
  list := He.free_ok X G (c.fact 163 (f := .free "list") rfl)
  max := He.free_ok X G (c.fact 164 (f := .free "max") rfl)
  min := He.free_ok X G (c.fact 165 (f := .free "min") rfl)
  range := He.free_ok X G (c.fact 166 (f := .free "range") rfl)
  repr := He.free_ok X G (c.fact 167 (f := .free "repr") rfl)
  sorted := He.free_ok X G (c.fact 168 (f := .free "sorted") rfl)
  str := He.free_ok X G (c.fact 169 (f := .free "str") rfl)
  sum := He.free_ok X G (c.fact 170 (f := .free "sum") rfl)
  tuple := He.free_ok X G (c.fact 171 (f := .free "tuple") rfl)
  zip := He.free_ok X G (c.fact 172 (f := .free "zip") rfl)
  MOST_CLAIMANTS := He.int_ok X G (c.fact 173 (f := .int "MOST_CLAIMANTS" 6) rfl)
  MOST_WEIGHT := He.int_ok X G (c.fact 174 (f := .int "MOST_WEIGHT" 1000) rfl)
  FARTHEST := He.int_ok X G (c.fact 175 (f := .int "FARTHEST" 5) rfl)
  MOST_WITHIN := He.int_ok X G (c.fact 176 (f := .int "MOST_WITHIN" 40) rfl)
  MOST_SIDE := He.int_ok X G (c.fact 177 (f := .int "MOST_SIDE" 4) rfl)
  MOST_PAST := He.int_ok X G (c.fact 178 (f := .int "MOST_PAST" 120) rfl)
  MOST_RULES := He.int_ok X G (c.fact 179 (f := .int "MOST_RULES" 8) rfl)
  MOST_MANY := He.int_ok X G (c.fact 180 (f := .int "MOST_MANY" 4) rfl)
  MOST_BOUND := He.int_ok X G (c.fact 181 (f := .int "MOST_BOUND" 300) rfl)
  FAR := He.int_ok X G (c.fact 182 (f := .int "FAR" 10000000000000000000000000000000000000000) rfl)
  NOUGHT := by
    refine ⟨_, He.glo_ok X G (c.fact 183 (f := .glo "NOUGHT") rfl), ?_⟩
    rcases He.tupB_ok hn (fun _ => none) with z | z
    · rcases z with z | ⟨_, z⟩ <;> cases z
    · exact z
section
variable {P : Program} {w : World} {K : PySem.W.Frag} {mg : Str → Option Value} {base : Heap}
theorem all_ok {f : Addr} {fd : FuncData} (B : Blt K mg) (F : Fun K "law" "law" (top 107) f fd) (d_is_whole : Dfd K mg "is_whole" 12) (d_common : Dfd K mg "common" 13) (d_is_fraction : Dfd K mg "is_fraction" 14) (d_made : Dfd K mg "made" 15) (d_minus : Dfd K mg "minus" 16) (d_less : Dfd K mg "less" 18) (d_unsigned : Dfd K mg "unsigned" 19) (d_is_within : Dfd K mg "is_within" 28) (d_are_weights : Dfd K mg "are_weights" 25) (d_are_claimants : Dfd K mg "are_claimants" 29) (d_is_running : Dfd K mg "is_running" 30) (d_check_running : Dfd K mg "check_running" 31) (d_check_claimant : Dfd K mg "check_claimant" 32) (d_check_number : Dfd K mg "check_number" 33) (d_choice_in_row : Dfd K mg "choice_in_row" 34) (d_choice_at : Dfd K mg "choice_at" 35) (d_count_in : Dfd K mg "count_in" 36) (d_places_of : Dfd K mg "places_of" 37) (d_turn_of : Dfd K mg "turn_of" 38) (d_root_of : Dfd K mg "root_of" 39) (d_least_of : Dfd K mg "least_of" 40) (d_plain_parts : Dfd K mg "plain_parts" 46) (d_parts_of : Dfd K mg "parts_of" 47) (d_all_within : Dfd K mg "all_within" 48) (d_is_sentence : Dfd K mg "is_sentence" 49) (d_past_fault : Dfd K mg "past_fault" 50) (d_check_past : Dfd K mg "check_past" 51) (d_reach_in : Dfd K mg "reach_in" 52) (d_greatest_claimant : Dfd K mg "greatest_claimant" 53) (d_is_true : Dfd K mg "is_true" 54) (d_is_rule : Dfd K mg "is_rule" 58) (d_check_book : Dfd K mg "check_book" 59) (d_book_reach : Dfd K mg "book_reach" 60) (d_rule_in : Dfd K mg "rule_in" 61) (d_longest_ago : Dfd K mg "longest_ago" 62) (d_choice_within : Dfd K mg "choice_within" 63) (d_check_both : Dfd K mg "check_both" 64) (d_pasts_to : Dfd K mg "pasts_to" 66) (d_all_stands : Dfd K mg "all_stands" 67) (d_cut_to : Dfd K mg "cut_to" 68) (d_stand_of : Dfd K mg "stand_of" 69) (d_steps_of : Dfd K mg "steps_of" 70) (d_dealt : Dfd K mg "dealt" 71) (d_waits_in : Dfd K mg "waits_in" 73) (d_waits_of : Dfd K mg "waits_of" 74) (d_wait_behind : Dfd K mg "wait_behind" 75) (d_same_stand : Dfd K mg "same_stand" 77) (d_has_form : Dfd K mg "has_form" 76) (d_waits_hold : Dfd K mg "waits_hold" 78) (d_least_turned : Dfd K mg "least_turned" 79) (d_laps_of : Dfd K mg "laps_of" 80) (d_check_bound : Dfd K mg "check_bound" 83) (d_lag_keeps : Dfd K mg "lag_keeps" 84) (d_check_weights : Dfd K mg "check_weights" 86) (d_check_among : Dfd K mg "check_among" 87) (d_lag_of : Dfd K mg "lag_of" 88) (d_drift_of : Dfd K mg "drift_of" 89) (d_ends_of : Dfd K mg "ends_of" 90) (d_lags_of : Dfd K mg "lags_of" 91) (d_laps_till : Dfd K mg "laps_till" 92) (d_first_out : Dfd K mg "first_out" 93) (d_broken_at : Dfd K mg "broken_at" 94) (d__law_cell_at : Dfd K mg "_law_cell_at" 96) (d__law_draw : Dfd K mg "_law_draw" 97) (d__law_plain_sentence : Dfd K mg "_law_plain_sentence" 98) (d__law_size : Dfd K mg "_law_size" 99) (d__law_sentence : Dfd K mg "_law_sentence" 100) (d__law_past : Dfd K mg "_law_past" 101) (d__law_turned : Dfd K mg "_law_turned" 102) (d__law_small_book : Dfd K mg "_law_small_book" 103) (d__law_lags_right : Dfd K mg "_law_lags_right" 104) (d__law_deals_on : Dfd K mg "_law_deals_on" 105) (d__law_book_right : Dfd K mg "_law_book_right" 106) : FnOk P w K mg base CX0 13 f fd ["_law_script"] (spX K sg_law) := by
  have h_is_whole : H_is_whole P w K mg base := ok_is_whole B d_is_whole 
  have h_common : H_common P w K mg base := ok_common B d_common 
  have h_is_fraction : H_is_fraction P w K mg base := ok_is_fraction B d_is_fraction h_common h_is_whole
  have h_made : H_made P w K mg base := ok_made B d_made h_common
  have h_minus : H_minus P w K mg base := ok_minus B d_minus h_made
  have h_less : H_less P w K mg base := ok_less B d_less 
  have h_unsigned : H_unsigned P w K mg base := ok_unsigned B d_unsigned 
  have h_is_within : H_is_within P w K mg base := ok_is_within B d_is_within h_is_whole
  have h_are_weights : H_are_weights P w K mg base := ok_are_weights B d_are_weights h_is_whole
  have h_are_claimants : H_are_claimants P w K mg base := ok_are_claimants B d_are_claimants h_is_within
  have h_is_running : H_is_running P w K mg base := ok_is_running B d_is_running h_are_claimants
  have h_check_running : H_check_running P w K mg base := ok_check_running B d_check_running h_is_running
  have h_check_claimant : H_check_claimant P w K mg base := ok_check_claimant B d_check_claimant h_is_within
  have h_check_number : H_check_number P w K mg base := ok_check_number B d_check_number h_is_within
  have h_choice_in_row : H_choice_in_row P w K mg base := ok_choice_in_row B d_choice_in_row 
  have h_choice_at : H_choice_at P w K mg base := ok_choice_at B d_choice_at h_choice_in_row h_check_number h_check_running
  have h_count_in : H_count_in P w K mg base := ok_count_in B d_count_in 
  have h_places_of : H_places_of P w K mg base := ok_places_of B d_places_of 
  have h_turn_of : H_turn_of P w K mg base := ok_turn_of B d_turn_of h_places_of h_check_number h_check_claimant h_check_running
  have h_root_of : H_root_of P w K mg base := ok_root_of B d_root_of 
  have h_least_of : H_least_of P w K mg base := ok_least_of B d_least_of h_root_of h_check_running
  have h_plain_parts : H_plain_parts P w K mg base := ok_plain_parts B d_plain_parts h_is_within
  have h_parts_of : H_parts_of P w K mg base := ok_parts_of B d_parts_of h_plain_parts
  have h_all_within : H_all_within P w K mg base := ok_all_within B d_all_within h_parts_of
  have h_is_sentence : H_is_sentence P w K mg base := ok_is_sentence B d_is_sentence h_all_within
  have h_past_fault : H_past_fault P w K mg base := ok_past_fault B d_past_fault h_is_within
  have h_check_past : H_check_past P w K mg base := ok_check_past B d_check_past h_past_fault
  have h_reach_in : H_reach_in P w K mg base := ok_reach_in B d_reach_in h_all_within
  have h_greatest_claimant : H_greatest_claimant P w K mg base := ok_greatest_claimant B d_greatest_claimant h_all_within
  have h_is_true : H_is_true P w K mg base := ok_is_true B d_is_true 
  have h_is_rule : H_is_rule P w K mg base := ok_is_rule B d_is_rule h_greatest_claimant h_is_sentence h_is_within
  have h_check_book : H_check_book P w K mg base := ok_check_book B d_check_book h_is_rule h_is_within
  have h_book_reach : H_book_reach P w K mg base := ok_book_reach B d_book_reach h_reach_in
  have h_rule_in : H_rule_in P w K mg base := ok_rule_in B d_rule_in h_is_true
  have h_longest_ago : H_longest_ago P w K mg base := ok_longest_ago B d_longest_ago 
  have h_choice_within : H_choice_within P w K mg base := ok_choice_within B d_choice_within h_longest_ago h_rule_in
  have h_check_both : H_check_both P w K mg base := ok_check_both B d_check_both h_check_past h_check_book
  have h_pasts_to : H_pasts_to P w K mg base := ok_pasts_to B d_pasts_to 
  have h_all_stands : H_all_stands P w K mg base := ok_all_stands B d_all_stands h_pasts_to h_book_reach
  have h_cut_to : H_cut_to P w K mg base := ok_cut_to B d_cut_to 
  have h_stand_of : H_stand_of P w K mg base := ok_stand_of B d_stand_of h_cut_to h_book_reach h_check_both
  have h_steps_of : H_steps_of P w K mg base := ok_steps_of B d_steps_of h_all_stands h_cut_to h_choice_within h_book_reach
  have h_dealt : H_dealt P w K mg base := ok_dealt B d_dealt h_least_of h_cut_to h_choice_within h_book_reach h_check_both
  have h_waits_in : H_waits_in P w K mg base := ok_waits_in B d_waits_in h_steps_of
  have h_waits_of : H_waits_of P w K mg base := ok_waits_of B d_waits_of h_all_stands h_waits_in h_check_claimant h_check_book
  have h_wait_behind : H_wait_behind P w K mg base := ok_wait_behind B d_wait_behind h_waits_in h_stand_of h_check_claimant h_check_book
  have h_same_stand : H_same_stand P w K mg base := ok_same_stand B d_same_stand h_is_within
  have h_has_form : H_has_form P w K mg base := ok_has_form B d_has_form h_same_stand
  have h_waits_hold : H_waits_hold P w K mg base := ok_waits_hold B d_waits_hold h_steps_of h_has_form h_all_stands h_check_claimant h_check_book
  have h_least_turned : H_least_turned P w K mg base := ok_least_turned B d_least_turned 
  have h_laps_of : H_laps_of P w K mg base := ok_laps_of B d_laps_of h_all_stands h_least_turned h_root_of h_steps_of h_check_book
  have h_check_bound : H_check_bound P w K mg base := ok_check_bound B d_check_bound h_less h_is_fraction
  have h_lag_keeps : H_lag_keeps P w K mg base := ok_lag_keeps B d_lag_keeps h_less h_unsigned
  have h_check_weights : H_check_weights P w K mg base := ok_check_weights B d_check_weights h_are_weights
  have h_check_among : H_check_among P w K mg base := ok_check_among B d_check_among h_check_running h_check_weights
  have h_lag_of : H_lag_of P w K mg base := ok_lag_of B d_lag_of h_minus h_count_in h_made
  have h_drift_of : H_drift_of P w K mg base := ok_drift_of B d_drift_of h_minus h_made
  have h_ends_of : H_ends_of P w K mg base := ok_ends_of B d_ends_of h_less h_lag_of
  have h_lags_of : H_lags_of P w K mg base := ok_lags_of B d_lags_of h_ends_of h_drift_of h_check_among
  have h_laps_till : H_laps_till P w K mg base := ok_laps_till B d_laps_till h_lag_keeps
  have h_first_out : H_first_out P w K mg base := ok_first_out B d_first_out h_lag_keeps h_laps_till h_lag_of h_drift_of
  have h_broken_at : H_broken_at P w K mg base := ok_broken_at B d_broken_at h_first_out h_check_bound h_check_among
  have h__law_cell_at : H__law_cell_at P w K mg base := ok__law_cell_at B d__law_cell_at 
  have h__law_draw : H__law_draw P w K mg base := ok__law_draw B d__law_draw 
  have h__law_plain_sentence : H__law_plain_sentence P w K mg base := ok__law_plain_sentence B d__law_plain_sentence h__law_draw
  have h__law_size : H__law_size P w K mg base := ok__law_size B d__law_size 
  have h__law_sentence : H__law_sentence P w K mg base := ok__law_sentence B d__law_sentence h__law_size h__law_plain_sentence h__law_draw h__law_cell_at
  have h__law_past : H__law_past P w K mg base := ok__law_past B d__law_past h__law_draw h__law_cell_at
  have h__law_turned : H__law_turned P w K mg base := ok__law_turned B d__law_turned 
  have h__law_small_book : H__law_small_book P w K mg base := ok__law_small_book B d__law_small_book h__law_draw h__law_sentence h__law_cell_at
  have h__law_lags_right : H__law_lags_right P w K mg base := ok__law_lags_right B d__law_lags_right h_broken_at h_lags_of
  have h__law_deals_on : H__law_deals_on P w K mg base := ok__law_deals_on B d__law_deals_on h_dealt h_least_of h_choice_at
  have h__law_book_right : H__law_book_right P w K mg base := ok__law_book_right B d__law_book_right h_waits_hold h_waits_of h__law_lags_right h__law_deals_on h__law_turned h_wait_behind h_turn_of h_dealt h_laps_of
  exact fn_law B F h_dealt h__law_small_book h__law_book_right h__law_past h__law_draw h__law_cell_at
theorem all_ok2 {f : Addr} {fd : FuncData} (F : Fun K "law" "law" (top 107) f fd) {h : Heap} (X : K.In h) (G : h.Ns mainGlobals mg) (c : He.SaysE Hd.fa Hd.fn K) (hn : Hd.nb K = true) : FnOk P w K mg base CX0 13 f fd ["_law_script"] (spX K sg_law) :=
  all_ok (blt_mk X G c hn) F (dfd_mk X G c 0 0 77 rfl rfl rfl) (dfd_mk X G c 1 1 78 rfl rfl rfl) (dfd_mk X G c 2 2 79 rfl rfl rfl) (dfd_mk X G c 3 3 80 rfl rfl rfl) (dfd_mk X G c 4 4 81 rfl rfl rfl) (dfd_mk X G c 6 6 83 rfl rfl rfl) (dfd_mk X G c 7 7 84 rfl rfl rfl) (dfd_mk X G c 11 11 88 rfl rfl rfl) (dfd_mk X G c 10 10 87 rfl rfl rfl) (dfd_mk X G c 12 12 89 rfl rfl rfl) (dfd_mk X G c 13 13 90 rfl rfl rfl) (dfd_mk X G c 14 14 91 rfl rfl rfl) (dfd_mk X G c 15 15 92 rfl rfl rfl) (dfd_mk X G c 16 16 93 rfl rfl rfl) (dfd_mk X G c 17 17 94 rfl rfl rfl) (dfd_mk X G c 18 18 95 rfl rfl rfl) (dfd_mk X G c 19 19 96 rfl rfl rfl) (dfd_mk X G c 20 20 97 rfl rfl rfl) (dfd_mk X G c 21 21 98 rfl rfl rfl) (dfd_mk X G c 22 22 99 rfl rfl rfl) (dfd_mk X G c 23 23 100 rfl rfl rfl) (dfd_mk X G c 24 24 101 rfl rfl rfl) (dfd_mk X G c 25 25 102 rfl rfl rfl) (dfd_mk X G c 26 26 103 rfl rfl rfl) (dfd_mk X G c 27 27 104 rfl rfl rfl) (dfd_mk X G c 28 28 105 rfl rfl rfl) (dfd_mk X G c 29 29 106 rfl rfl rfl) (dfd_mk X G c 30 30 107 rfl rfl rfl) (dfd_mk X G c 31 31 108 rfl rfl rfl) (dfd_mk X G c 32 32 109 rfl rfl rfl) (dfd_mk X G c 33 33 110 rfl rfl rfl) (dfd_mk X G c 34 34 111 rfl rfl rfl) (dfd_mk X G c 35 35 112 rfl rfl rfl) (dfd_mk X G c 36 36 113 rfl rfl rfl) (dfd_mk X G c 37 37 114 rfl rfl rfl) (dfd_mk X G c 38 38 115 rfl rfl rfl) (dfd_mk X G c 39 39 116 rfl rfl rfl) (dfd_mk X G c 40 40 117 rfl rfl rfl) (dfd_mk X G c 41 41 118 rfl rfl rfl) (dfd_mk X G c 42 42 119 rfl rfl rfl) (dfd_mk X G c 43 43 120 rfl rfl rfl) (dfd_mk X G c 44 44 121 rfl rfl rfl) (dfd_mk X G c 45 45 122 rfl rfl rfl) (dfd_mk X G c 46 46 123 rfl rfl rfl) (dfd_mk X G c 47 47 124 rfl rfl rfl) (dfd_mk X G c 48 48 125 rfl rfl rfl) (dfd_mk X G c 50 50 127 rfl rfl rfl) (dfd_mk X G c 49 49 126 rfl rfl rfl) (dfd_mk X G c 51 51 128 rfl rfl rfl) (dfd_mk X G c 52 52 129 rfl rfl rfl) (dfd_mk X G c 53 53 130 rfl rfl rfl) (dfd_mk X G c 54 54 131 rfl rfl rfl) (dfd_mk X G c 55 55 132 rfl rfl rfl) (dfd_mk X G c 56 56 133 rfl rfl rfl) (dfd_mk X G c 57 57 134 rfl rfl rfl) (dfd_mk X G c 58 58 135 rfl rfl rfl) (dfd_mk X G c 59 59 136 rfl rfl rfl) (dfd_mk X G c 60 60 137 rfl rfl rfl) (dfd_mk X G c 61 61 138 rfl rfl rfl) (dfd_mk X G c 62 62 139 rfl rfl rfl) (dfd_mk X G c 63 63 140 rfl rfl rfl) (dfd_mk X G c 64 64 141 rfl rfl rfl) (dfd_mk X G c 65 65 142 rfl rfl rfl) (dfd_mk X G c 66 66 143 rfl rfl rfl) (dfd_mk X G c 67 67 144 rfl rfl rfl) (dfd_mk X G c 68 68 145 rfl rfl rfl) (dfd_mk X G c 69 69 146 rfl rfl rfl) (dfd_mk X G c 70 70 147 rfl rfl rfl) (dfd_mk X G c 71 71 148 rfl rfl rfl) (dfd_mk X G c 72 72 149 rfl rfl rfl) (dfd_mk X G c 73 73 150 rfl rfl rfl) (dfd_mk X G c 74 74 151 rfl rfl rfl) (dfd_mk X G c 75 75 152 rfl rfl rfl)
end
theorem law_sp {K : PySem.W.Frag} (H : Hp) (a : Addr) (ns : List Int) (hS : SqL K H a (ns.map V.int)) : spX K sg_law [.ref a] H (fun v _ => v = .bl true) fun _ _ _ => False := by
  refine ⟨H, [.rlst (ID ns)], _, Ex.refl H, .cons (.rlst hS ?_) .nil, ⟨ns, rfl, trivial, rfl⟩, fun v x G' H' A e d => ?_⟩
  · clear hS
    induction ns with
    | nil => exact .nil
    | cons n ns ih => exact .cons (.int n) ih
  · subst e
    cases d
    rfl
theorem law_fn {P : Program} {w : World} {K : PySem.W.Frag} {h : Heap} {mg : Str → Option Value} {f : Addr} (X : K.In h) (G : h.Ns mainGlobals mg) (hfa : mg ("law" : Str) = some (.ref f)) (c : He.SaysE Hd.fa Hd.fn K) (hn : Hd.nb K = true) :
    ∃ fd : FuncData, (∀ (s : Shared) (v : Value), BindsTo s fd ⟨[v], []⟩ [("_law_script", v)]) ∧ ∀ base : Heap, FnOk P w K mg base CX0 13 f fd ["_law_script"] (spX K sg_law) := by
  obtain ⟨f', fd, F, m⟩ : Dfd K mg "law" 107 := dfd_mk X G c 76 76 153 rfl rfl rfl
  have e := hfa.symm.trans m
  cases e
  refine ⟨fd, fun s v => ?_, fun base => ?_⟩
  · obtain ⟨oc, od, kV, doc, pm, an, cdv, ct, osl, rfl, lk, hcd⟩ := F.ex
    exact .of_eq rfl
  · exact all_ok2 F X G c hn
end Dx
open PySem PySem.W PySem.Calls PyProof.Rows
theorem PySem.Challenge.cw_dueturns_k65_whole_waits_and_rows_holds : PySem.Challenge.rw_dueturns_k65_whole_waits_and_rows.Holds := by
  w_on; o_law
  refine HandSHeadRun.head_any (r := OpenLaw.row PySem.Challenge.rw_dueturns_k65_whole_waits_and_rows) (q := view (OpenLaw.row PySem.Challenge.rw_dueturns_k65_whole_waits_and_rows).prog [107]) (H := Hd.hk) (ob := Hd.ob) (M := 30000) (loose := Hd.names) (d := HandSHeadRun.topDef (OpenLaw.row PySem.Challenge.rw_dueturns_k65_whole_waits_and_rows).prog 107) (kwd := []) Hd.ob_eq
    (by kernel_rfl) (fun s => by kernel_rfl) Hd.run (by kernel_rfl) (by kernel_rfl) (by kernel_rfl) (by rfl) (by first | assumption | decide +kernel) (by decide +kernel) ⟨rfl, rfl, rfl, rfl, rfl, by decide +kernel⟩ ?hw ?hc
  case hw => w_witness2
  case hc =>
    refine L2.walk_ofE (l := PySem.Challenge.rw_dueturns_k65_whole_waits_and_rows) (n := 63) (k := 13) (x := "_law_script") (CX := L2.CX0) rfl (by decide) (by kernel_rfl) ⟨rfl, by decide, by decide⟩ ?F (fun _ _ _ _ z => z)
    intro w mg fa h Y G hmg0
    obtain ⟨K, KX, c, hn⟩ := Y
    have hmg : mg ("law" : PySem.Str) = some (.ref fa) := by
      have e : (HandSHeadRun.topDef (OpenLaw.row PySem.Challenge.rw_dueturns_k65_whole_waits_and_rows).prog 107).name = ("law" : PySem.Str) := by kernel_rfl
      rw [← e]
      exact hmg0
    obtain ⟨fd, hb, hF⟩ := Dx.law_fn (P := (PySem.Challenge.rw_dueturns_k65_whole_waits_and_rows).prog) (w := w) KX G hmg c hn
    exact ⟨K, fd, Dx.spX K Dx.sg_law, KX, hb, fun H a ns hl _ hS => Dx.law_sp H a ns hS, fun base _ _ => hF base⟩
end
