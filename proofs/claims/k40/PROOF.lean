import PyProof.Rows.All
import Wide.All
import OpenK.AllK
import Wide.FinOn
import HandS.ForMost
import HandS.Defaults
import PySem.Challenge.RW_rillturn_k40_whole_no_kin_is_shorter
import KE.GoesMore
import KE.KDictDisplayH
import KE.KDictZip
import HandS.Style
import HandS.Walk
import HandS.Zip
import HandS.Sort
import HandS.TupAny
import HandS.OwnIter
import HandS.Deep
import HandS.SortInts
import HandS.SortRule
import HandS.Wide
import HandS.Conv
import HandS.Flow
import KE.KStateDown
import Lean
import HandS.Base
import HandS.Call
import HandS.Ends
import HandS.More
import HandS.Words
import HandS.WordsExc
import HandS.Head0
import HandS.Head1
import HandS.Head2
import HandS.HeadEnd
import HandS.HeadHook1
import HandS.HeadHook2
set_option Elab.async false
set_option linter.all false
set_option maxRecDepth 100000
set_option maxHeartbeats 4000000
namespace K40
open PySem PySem.Spec PyProof.Rows L2
/-! ### the text: the defs by their places -/
def topS (i : Nat) : Stmt := PySem.Challenge.pw_rillturn_k40_whole_no_kin_is_shorter.main.body.getD i (.Pass ⟨0, 0, 0, 0⟩)
/-- a def as it stands behind the top -/
def At (K : PySem.W.Frag) (mg : Str → Option Value) (x : Str) (st : Stmt) (ps : List Str) : Prop :=
  ∃ f fd, FunD K x x (defArgs st) (defBody st) (defScope st) [] [] f fd ∧ mg x = some (.ref f) ∧ Binds K fd ps []
/-- all that the top leaves -/
structure Tx (K : PySem.W.Frag) (mg : Str → Option Value) : Prop where
  dnear : At K mg "near" (topS 1) ["web", "place"]
  dpieceof : At K mg "piece_of" (topS 2) ["web", "place"]
  dpieces : At K mg "pieces" (topS 3) ["web"]
  dhued : At K mg "hued" (topS 5) ["web", "hues"]
  darrows : At K mg "arrows" (topS 7) ["web", "pointing"]
  dsprings : At K mg "springs" (topS 9) ["web", "fall"]
  dturnedabout : At K mg "turned_about" (topS 10) ["web", "fall", "place"]
  dalong : At K mg "along" (topS 12) ["web", "pointing", "ring"]
  dlaidway : At K mg "laid_way" (topS 13) ["laid", "start", "goal"]
  dclosedrings : At K mg "closed_rings" (topS 14) ["web"]
  doftenturned : At K mg "often_turned" (topS 15) ["web", "one", "other"]
  dcountsofpiece : At K mg "counts_of_piece" (topS 16) ["web", "one", "other", "place"]
  drowbycounts : At K mg "row_by_counts" (topS 17) ["web", "fall", "counts"]
  dpartingring : At K mg "parting_ring" (topS 18) ["web", "one", "other"]
  dkin : At K mg "kin" (topS 19) ["web", "one", "other"]
  dcommonpart : At K mg "common_part" (topS 21) ["one", "other"]
  dlowest : At K mg "lowest" (topS 22) ["top", "bottom"]
  dhasring : At K mg "has_ring" (topS 23) ["web"]
  dringworth : At K mg "ring_worth" (topS 24) ["web", "fall", "ring"]
  dleaststeps : At K mg "least_steps" (topS 25) ["web", "fall", "top", "bottom"]
  dringmet : At K mg "ring_met" (topS 26) ["came", "place", "many"]
  draised : At K mg "raised" (topS 27) ["web", "fall", "top", "bottom"]
  dworth : At K mg "worth" (topS 28) ["web", "fall"]
  dsomering : At K mg "some_ring" (topS 29) ["web"]
  djoined : At K mg "joined" (topS 30) ["ways", "a", "b"]
  dshortest : At K mg "shortest" (topS 31) ["web", "fall"]
  dlawleft : At K mg "_law_left" (topS 33) ["cell"]
  dlawnext : At K mg "_law_next" (topS 34) ["pool", "base"]
  dlawturnedabout : At K mg "_law_turned_about" (topS 35) ["pool", "many"]
  dlawweb : At K mg "_law_web" (topS 36) ["pool", "most", "ties"]
  dlawfall : At K mg "_law_fall" (topS 37) ["pool", "web"]
  dlawarrows : At K mg "_law_arrows" (topS 38) ["web", "fall"]
  dlawheights : At K mg "_law_heights" (topS 39) ["web", "fall"]
  dlawspringturned : At K mg "_law_spring_turned" (topS 40) ["web", "fall", "place"]
  dlawsprings : At K mg "_law_springs" (topS 41) ["web", "fall"]
  dlawkins : At K mg "_law_kins" (topS 42) ["web", "fall"]
  dlaw : At K mg "law" (topS 43) ["script"]
  ztuple : mg "tuple" = none
  zsorted : mg "sorted" = none
  zlen : mg "len" = none
  zrange : mg "range" = none
  zlist : mg "list" = none
  zzip : mg "zip" = none
  zenumerate : mg "enumerate" = none
  zmin : mg "min" = none
  zmax : mg "max" = none
  zint : mg "int" = none
  zall : mg "all" = none
/-- a def keeps a promise, wherever it stands -/
def Keeps (P : Program) (w : World) (K : PySem.W.Frag) (mg : Str → Option Value) (base : Heap) (k : Nat) (x : Str) (ps : List Str) (sp : Sp) : Prop :=
  ∃ f fd, FnOk P w K mg base CX0 k f fd ps sp ∧ mg x = some (.ref f) ∧ PySem.W.keepIn K (.ref f) = true ∧ Binds K fd ps []
section
variable {P : Program} {w : World} {K : PySem.W.Frag} {mg : Str → Option Value} {base : Heap}
theorem At.keeps {x : Str} {st : Stmt} {ps N : List Str} {k : Nat} {sp : Sp} (T : At K mg x st ps) (S : FnScope N ps (defScope st)) (len : ∀ vs H Q E, sp vs H Q E → vs.length = ps.length)
    (hbody : ∀ (f : Addr) (cdv : Value) (A : Around) (outer : List Env) (s : Shared) (H : Hp) (vs : List V) (Q : VK) (E : XK), Room k (A.deeper (envOfC x (defScope st) s.heap.objs.size f cdv)) → sp vs H Q E →
      ∃ t, PSs (cxOf CX0 P w K mg base N x (defScope st) f cdv A outer s H E).nox (defBody st) t ∧ t { nx := fun _ H' => Q .non H', rt := Q } (start N vs) H) : Keeps P w K mg base (k + 1) x ps sp := by
  obtain ⟨f, fd, F, g, b⟩ := T
  refine ⟨f, fd, F.ok S len fun cdv A outer s H vs Q E hr h => ?_, g, F.kp, b⟩
  obtain ⟨t, h1, h2⟩ := hbody f cdv A outer s H vs Q E hr h
  exact ⟨t, h1.nox, h2⟩
end
/-- a call of such a def -/
theorem pe_k {X : Cx} {k : Nat} {ps : List Str} {sp : Sp} {x : Str} {p pos : Pos} {e : Expr} {es : List Expr} {t : TA} (G : Keeps X.prog X.w X.K X.mg X.base k x ps sp) (hr : Room k X.A) (ha : PA X (e :: es) t) (hg : Gl X x := by rfl)
    (hdb : (x == ("__debug__" : Str)) = false := by decide) (he : starEach (e :: es) X.env = (false, eval e X.env) :: starEach es X.env := by rfl) (hpl : (backTo pos (starEach es X.env)).any (·.1) = false := by rfl) :
    PE X (.Call (.Name x p) (e :: es) [] pos) (tCall sp [] E0 t) := by
  obtain ⟨f, fd, F, g, kp, b⟩ := G
  exact pe_call F hr hg g kp b .nil pass0 ha hdb he hpl
end K40

set_option Elab.async false
set_option linter.all false
set_option maxRecDepth 100000
set_option maxHeartbeats 4000000
/-! Rules that the hand layer lacks: min of a tuple, t[::-1], {tuple: value}, enumerate(tuple). -/
namespace K40
open PySem PySem.Spec PyProof.Rows L2
/-! ### min(t), t a tuple of ints -/
def rMinT (K : PySem.W.Frag) : List V → Hp → VK → Prop := fun vs H Q =>
  ∃ (a : Addr) (ns : List Int), vs = [V.ref a] ∧ SqT K H a (ns.map V.int) ∧ ns ≠ [] ∧
    ∀ m, m ∈ ns → (∀ y, y ∈ ns → m ≤ y) → Q (.int m) H
theorem int_of_vals {ns : List Int} {its : List Value} (r : Vals (ns.map V.int) its) (i : Nat) (v : Value)
    (h : its.toArray[i]? = some v) : ∃ t, v = .int (ns.getD i 0) t := by
  rw [List.getElem?_toArray] at h
  have hl := r.length
  rw [List.length_map] at hl
  obtain ⟨hi, _⟩ := List.getElem?_eq_some_iff.mp h
  have hi2 : i < ns.length := by omega
  have e : (ns.map V.int)[i]? = some (.int ns[i]) := by simp [hi2]
  obtain ⟨u, hu, ru⟩ := r.get e
  rw [h] at hu
  cases hu
  obtain ⟨t, rfl⟩ := ru
  exact ⟨t, by simp [List.getD, hi2]⟩
theorem cr_minT {X : Cx} (hc : X.calm = true) : CallR X (.builtin "min") (rMinT X.K) := by
  intro pins s σ H vs us Q I r h
  obtain ⟨a, ns, rfl, hs, hne, q⟩ := h
  obtain ⟨u, rfl, ru⟩ := vals1 r
  cases ru
  obtain ⟨its, rv, ht, hz⟩ := I.tuple hs
  have hl := rv.length
  rw [List.length_map] at hl
  have hpos : 0 < ns.length := List.length_pos_iff.mpr hne
  obtain ⟨o, ho, hcls, n, hdat⟩ := id ht
  have hlt : a < s.heap.objs.size := Heap.lt_size ho
  refine call_min_walk (wpAny_pyIter_tuple (show s.heap.IsTuple a its.toArray from ht) ?_)
  refine ⟨s.heap.objs.size, [s.heap.objs.size, a], [s.heap.objs.size], its.toArray.size, _, _, _, rfl,
    Walks.tuple (A := X.A.in1) (I.ok.hd hc) s.heap.objs.size a (Nat.ne_of_lt hlt) its.toArray,
    ⟨⟨_, Heap.get?_push_size _ rfl, rfl, rfl⟩, Heap.IsTuple.push (show s.heap.IsTuple a its.toArray from ht) _⟩,
    fun b hb => ?_, by rw [List.size_toArray]; omega,
    CmpOf.ints_lt (fun i => ns.getD i 0) (fun i v => int_of_vals rv i v), fun v h' tk hP hk => ?_⟩
  · show b < (s.heap.push _).objs.size
    rw [Heap.size_push]
    rcases List.mem_cons.mp hb with e | hb
    · rw [e]
      exact Nat.lt_succ_self _
    · rw [List.mem_singleton.mp hb]
      exact Nat.lt_succ_of_lt hlt
  · obtain ⟨t, rfl⟩ := int_of_vals rv _ v hP
    obtain ⟨b1, b2⟩ := argBest_lt (fun i => ns.getD i 0) (its.toArray.size - 1)
    rw [List.size_toArray] at b1 b2 ⊢
    have b3 : argBest (fun i j => decide (ns.getD i 0 < ns.getD j 0)) (its.length - 1) < ns.length := by omega
    refine ⟨.int _, H, I.kept (t' := tk) fun b u e => ?_, ⟨t, rfl⟩, q _ ?_ fun y hy => ?_⟩
    · refine hk b u (fun hm => ?_) (Heap.get?_push_of_some _ e)
      rw [List.mem_singleton.mp hm] at e
      exact absurd (Heap.lt_size e) (Nat.lt_irrefl _)
    · rw [List.getD_eq_getElem?_getD, List.getElem?_eq_getElem b3]
      exact List.getElem_mem b3
    · obtain ⟨i, hi, e⟩ := List.mem_iff_getElem.mp hy
      have e2 : ns.getD i 0 = y := by simp [List.getD, hi, e]
      rw [← e2]
      exact b2 i (by omega)
/-! ### t[::-1], t a tuple of two items at least -/
section
variable {prog : Program} {w : World} {A : Around} {E : Value → Shared → Prop} {s : Shared}
theorem places_back (n : Nat) (h : 0 < n) : Builtin.Slice.slicePlaces ((n : Int) - 1) (-1) (-1) = n := by
  unfold Builtin.Slice.slicePlaces
  have h1 : ¬ ((-1 : Int) > 0) := by decide
  have h2 : ((n : Int) - 1 > -1) := by omega
  have e3 : (-(-1 : Int)) = 1 := by decide
  have e4 : ((n : Int) - 1 - -1 - 1) = (n : Int) - 1 := by omega
  simp only [h1, if_false, h2, if_true, e3, e4, Int.ediv_one]
  omega
theorem applied_back {sl : Addr} {vl vu vs : Value} {n : Nat} {Q : Int × Int × Nat → Shared → Prop} (hn : 0 < n)
    (hs : s.heap.IsSliceOf sl vl vu vs) (pl : IsPart vl none) (pu : IsPart vu none) (ps : IsPart vs (some (-1)))
    (h : Q ((n : Int) - 1, -1, n) s) : wpAny (model prog w) A (Builtin.Slice.sliceApplied (.ref sl) (pure (n : Int))) Q E s := by
  obtain ⟨os, hos, _, hds⟩ := id hs
  unfold Builtin.Slice.sliceApplied Builtin.Slice.sliceFields
  refine wpAny_bind (wpAny_bind (wpAny_field hos hds (x := vl) rfl ?_))
  refine wpAny_bind (wpAny_field hos hds (x := vu) rfl ?_)
  refine wpAny_bind (wpAny_field hos hds (x := vs) rfl (wpAny_pure ?_))
  refine wpAny_bind (HT.slicePart_ ps ?_)
  show wpAny _ _ (if ((-1 : Int) == 0) = true then _ else _) _ _ s
  rw [if_neg (by decide)]
  refine wpAny_bind (HT.slicePart_ pl (wpAny_bind (HT.slicePart_ pu (wpAny_bind (wpAny_pure ?_)))))
  have e : Builtin.Slice.sliceAdjust none none (-1) (n : Int) = ((n : Int) - 1, -1) := by
    unfold Builtin.Slice.sliceAdjust
    simp
  show wpAny _ _ (match Builtin.Slice.sliceAdjust none none (-1) (n : Int) with
    | (lo, hi) => pure (lo, (-1 : Int), Builtin.Slice.slicePlaces lo hi (-1))) _ _ s
  rw [e]
  show wpAny _ _ (pure ((n : Int) - 1, (-1 : Int), Builtin.Slice.slicePlaces ((n : Int) - 1) (-1) (-1))) _ _ s
  rw [places_back n hn]
  exact wpAny_pure h
theorem pick_back (xs : Array Value) : ((List.range xs.size).filterMap fun (k : Nat) =>
    xs[(((xs.size : Nat) : Int) - 1 + (k : Int) * -1).toNat]?) = xs.toList.reverse := by
  have e : (List.range xs.size).filterMap (fun (k : Nat) => xs[(((xs.size : Nat) : Int) - 1 + (k : Int) * -1).toNat]?)
      = (List.range xs.size).filterMap (fun k => (fun i => xs[i]?) ((fun j => xs.size - 1 - j) k)) := by
    have hf : (fun (k : Nat) => xs[(((xs.size : Nat) : Int) - 1 + (k : Int) * -1).toNat]?) = fun k => xs[xs.size - 1 - k]? := by
      funext k
      have : ((((xs.size : Nat) : Int) - 1 + (k : Int) * -1).toNat) = xs.size - 1 - k := by omega
      rw [this]
    rw [hf]
  rw [e, ← Function.comp_def (fun i => xs[i]?) (fun j => xs.size - 1 - j), ← List.filterMap_map]
  rw [PySem.W.krv_range, List.filterMap_reverse, PySem.W.krv_all]
theorem getItem_back {t sl : Addr} {items : Array Value} {vl vu vs : Value} {Q : Value → Shared → Prop} (ht : IsTup s.heap t items)
    (hs : s.heap.IsSliceOf sl vl vu vs) (pl : IsPart vl none) (pu : IsPart vu none) (ps : IsPart vs (some (-1))) (hn : 0 < items.size)
    (h : Q (.ref s.heap.objs.size) { s with heap := s.heap.push { cls := .type "tuple", data := .seq items.toList.reverse.toArray } })
    (hz : items.size ≤ sizeLine) : wpAny (model prog w) A (getItem (.ref t) (.ref sl)) Q E s := by
  have hsz : sizeOk (.seq items.toList.reverse.toArray) := by
    show items.toList.reverse.toArray.size ≤ sizeLine
    rw [List.size_toArray, List.length_reverse, Array.length_toList]
    exact hz
  obtain ⟨os, hos, hcs, _⟩ := id hs
  have hTs : s.TypeIs (.ref sl) "slice" := ⟨os, hos, hcs⟩
  unfold getItem
  try with_reducible refine wpAny_holding ?_
  first | refine wpAny_bind (wpAny_pure ?_) | skip
  refine wpAny_bind (wpAny_sequenceKey ht.typeIs (by decide) ?_)
  refine wpAny_bind (wpAny_callSpecial?_slot (name := Str.ofString "__getitem__") ht.typeIs slot_tuple_getitem ?_)
  refine wpAny_call_entry slot_tuple_getitem ht.typeIs PyProof.Rows.entry_tuple_getitem ?_ (PyProof.Rows.args_tuple_getitem _ _)
  show wpAny _ _ (Builtin.Tuple.tupleItemsOf (.ref t) >>= _) _ _ s
  refine wpAny_bind (PyProof.Rows.tupleItemsOf_ ht ?_)
  refine wpAny_bind (wpAny_typeOf hTs ?_)
  rw [if_pos (by decide)]
  refine wpAny_bind (applied_back hn hs pl pu ps ?_)
  have hno : ¬ ((((items.size : Nat) : Int) - 1 == 0 && (-1 : Int) == 1 && items.size == items.size) = true) := by
    intro q
    rw [Bool.and_eq_true, Bool.and_eq_true] at q
    exact absurd (eq_of_beq q.1.2) (by decide)
  show wpAny _ _ (if (((items.size : Nat) : Int) - 1 == 0 && (-1 : Int) == 1 && items.size == items.size) = true then _ else _) _ _ s
  rw [if_neg hno, pick_back]
  first
    | exact wpAny_bind (m := Builtin.Tuple.tupleExact _) (wpAny_newObj_type (wpAny_pure ⟨_, rfl, wpAny_pure h⟩) hsz)
    | exact wpAny_bind (m := Builtin.Tuple.tupleExact _) (wpAny_newObj_type (wpAny_bind (wpAny_pure (wpAny_pure ⟨_, rfl, wpAny_pure h⟩))) hsz)
    | exact wpAny_bind (wpAny_bind (m := Builtin.Tuple.tupleExact _) (wpAny_newObj_type (wpAny_pure (wpAny_pure ⟨_, rfl, wpAny_pure h⟩)) hsz))
    | exact wpAny_bind (wpAny_bind (m := Builtin.Tuple.tupleExact _) (wpAny_newObj_type (wpAny_pure ⟨_, rfl, wpAny_pure h⟩) hsz))
end
def tRevT (K : PySem.W.Frag) (te : TE) : TE := fun σ H Q => te σ H fun x H1 =>
  ∃ a xs, x = .ref a ∧ SqT K H1 a xs ∧ xs ≠ [] ∧ ∀ p, H1 p = none → Q (.ref p) (upd H1 p (.tup xs.reverse))
theorem pe_revT {X : Cx} {e : Expr} {te : TE} {k : Nat} {p1 p2 p3 pos : Pos} (he : PE X e te) :
    PE X (.Subscript e (.Slice none none (some (.UnaryOp .USub (.Constant (.int 1) k p1) p2)) p3) pos) (tRevT X.K te) := by
  refine ⟨fun pins s σ H Q I h => ?_⟩
  refine Subscript_ (thn (he.run pins s σ H _ I h) fun v s1 ⟨x, H1, I1, r1, a, xs, ex, hx, hne, q⟩ => ?_)
  subst ex
  cases r1
  have hst : PO X (some (.UnaryOp .USub (.Constant (.int 1) k p1) p2)) (tPart (tUn (rU fun i => .int (-i)) (tC (.int 1)))) :=
    po_some (pe_un un_neg pe_int)
  refine wpAny_Slice (thn (po_none.run pins s1 σ H1 (fun o H2 => o = none ∧ H2 = H1) I1 ⟨rfl, rfl⟩) fun vl s2 ⟨l, H2, I2, pl, el, e2⟩ => ?_)
  subst el e2
  refine thn (po_none.run pins s2 σ H2 (fun o H3 => o = none ∧ H3 = H2) I2 ⟨rfl, rfl⟩) fun vu s3 ⟨u, H3, I3, pu, eu, e3⟩ => ?_
  subst eu e3
  refine thn (hst.run pins s3 σ H3 (fun o H4 => o = some (-1) ∧ H4 = H3) I3 ⟨1, rfl, -1, rfl, rfl, rfl⟩) fun vs s4 ⟨o, H4, I4, ps, eo, e4⟩ => ?_
  subst eo e4
  have I5 : Inv X pins σ H4 { s4 with heap := s4.heap.push { cls := .type "slice", data := .fields #[vl, vu, vs] } } :=
    I4.kept (t' := s4.toks) fun b ob z => Heap.get?_push_of_some _ z
  obtain ⟨its, r, ht, hz⟩ := I5.tuple hx
  have hlen := r.length
  have hpos : 0 < xs.length := List.length_pos_iff.mpr hne
  show wpAny (model X.prog X.w) X.A
    (subscriptTail e (.Slice none none (some (.UnaryOp .USub (.Constant (.int 1) k p1) p2)) p3) (.ref a) (.ref s4.heap.objs.size))
    (EP X pins σ Q) X.xe { s4 with heap := s4.heap.push { cls := .type "slice", data := .fields #[vl, vu, vs] } }
  refine tail_any (ops := [.ref a, .ref s4.heap.objs.size]) ht.typeIs (slot_tuple_getitem.lookup) ?_ (by with_unfolding_all rfl)
  refine getItem_back ht (Heap.IsSliceOf.new _ vl vu vs) pl pu ps (by rw [List.size_toArray]; omega) ?_ (by rw [List.size_toArray]; omega)
  refine ⟨.ref _, _, I5.laid (t' := s4.toks) (o := .tup xs.reverse) (fun b ob z => Heap.get?_push_of_some _ z) (Nat.le_refl _) ?_, rfl,
    q _ (I5.hok.fresh (Nat.le_refl _))⟩
  exact ⟨by rw [List.length_reverse]; exact hz, its.reverse, r.reverse, IsTup.new _ _⟩
/-! ### {t: v}, t a tuple of ints and texts -/
def tDispT (tk tv : TE) : TE := fun σ H Q => ∀ p, H p = none → tPairs [(tk, tv)] σ (upd H p (.dT [])) fun ps H2 =>
  ∃ x y, ps = [(x, y)] ∧ H2 p = some (.dT []) ∧ ∃ (ks : List L2.Key) (b : Addr), x = .ref b ∧ H2 b = some (.tup (ks.map kV)) ∧ Q (.ref p) (upd H2 p (.dT [(ks, y)]))
theorem pe_dispT {X : Cx} {k v : Expr} {tk tv : TE} {pos : Pos} (hu : X.A.units + 1 < cLine) (hk : PE X k tk) (hv : PE X v tv) :
    PE X (.Dict [some k] [v] pos) (tDispT tk tv) := by
  refine ⟨fun pins s σ H Q I q => ?_⟩
  have hn := I.hok.fresh (Nat.le_refl s.heap.objs.size)
  have I1 := I.laid (a := s.heap.objs.size) (o := .dT []) (h' := s.heap.push { cls := .type "dict", data := .dict #[] }) (t' := s.toks)
    (fun _ _ z => Heap.get?_push_of_some _ z) (Nat.le_refl _) (dt_empty s.heap I.big)
  have hlen := pairTrees_length [some k] [v] X.env pos rfl rfl
  have hp1 := zip_pairTrees [some k] [v] X.env pos rfl rfl
  have hl1 : (pairTrees [some k] [v] X.env pos).length = 1 := hlen
  have hp0 : pairTrees [some k] [v] X.env pos ≠ [] := fun z => by
    rw [z] at hl1
    exact absurd hl1 (by decide)
  rw [arm_eval_Dict, hp1, dictDisplay_pairs (pairTrees [some k] [v] X.env pos) hp0 (by omega)]
  refine wpAny_bind (wpAny_standAt (wpAny_bind (wpAny_subDictH (knd := tupleKind (mixKind X.prog X.w)) (Nat.lt_of_succ_lt hu) (by omega) ?_)))
  refine thn ((pps_cons hk hv (pps_nil (X := X) (pos := pos))).run pins _ σ _
    (fun ps H2 => ∃ x y, ps = [(x, y)] ∧ H2 s.heap.objs.size = some (.dT []) ∧ ∃ (ks : List L2.Key) (b : Addr), x = .ref b ∧
      H2 b = some (.tup (ks.map kV)) ∧ Q (.ref s.heap.objs.size) (upd H2 s.heap.objs.size (.dT [(ks, y)]))) I1 ?_) fun ws s2 hw => ?_
  · exact q _ hn
  · obtain ⟨ps, H2, I2, rel, x, y, rfl, hd, ks, b, rfl, hb, q2⟩ := hw
    cases rel with
    | cons r rr =>
      cases rr
      obtain ⟨r1, r2⟩ := r
      rename_i p1
      obtain ⟨u1, u2⟩ := p1
      cases (show u1 = Value.ref b from r1)
      obtain ⟨z, hs, xs, rk, dd⟩ := dt_of I2.hok hd
      cases rk
      refine ⟨[(ks, b, u2)], ⟨rfl, rfl, key_of I2.hok hb, trivial⟩, dd, fun h' tk dd' hsb => wpAny_pure ?_⟩
      have rk2 : KT H2 (putK [] ks y) (storedH [] ks b u2) := KT.put .nil ks hb r2
      obtain ⟨o, es, ep, hq, h2, h3, h4, _, h5⟩ := dd'
      refine ⟨.ref s.heap.objs.size, _, d_write I2 (by rw [hd]; exact True.intro) hsb ⟨o, hq⟩
        (show ObjOk X.prog X.w (upd H2 s.heap.objs.size (.dT [(ks, y)])) h' s.heap.objs.size (.dT [(ks, y)]) from
          ⟨by show 1 ≤ sizeLine; decide, hs, _, rk2.keeps fun c ys ec => ?_, o, es, ep, hq, h2, h3, h4, h5⟩), rfl, q2⟩
      rw [upd_ne (ne_of ec hd (fun z => nomatch z))]
      exact ec
/-! ### enumerate(t), t a tuple -/
abbrev enumHeap (h : Heap) (l : Addr) : Heap := (h.push { cls := .type "tuple_iterator", data := .fields #[.ref l, .int 0 0] }).push { cls := .type "enumerate", data := .fields #[.none, .bool false, .ref h.objs.size, rawInt 0, .none, .none] }
theorem new_enumT (l : Addr) (items : Array Value) :
    Meets (Builtin.«enumerate.__new__» ⟨[.type "enumerate", .ref l], []⟩) (fun _ R s => s.heap.IsTuple l items ∧
      R (.ok (.ret (.ref (s.heap.push { cls := .type "tuple_iterator", data := .fields #[.ref l, .int 0 0] }).objs.size)))
        { s with heap := enumHeap s.heap l }) :=
  .of_wp fun prog w A R s h => by
    obtain ⟨hp, g, d, tk, os⟩ := s
    obtain ⟨hl, h⟩ := h
    have hsub := sub_enumerate
    have hL : Heap.IsTuple (Shared.heap ⟨hp, g, d, tk, os⟩) l items := hl
    wp_walk using wpAny_pyIter_tuple hL
    refine wpAny_stack_any fun st => wpAny_pure ?_
    split
    · rename_i c _ _ _ _ _
      cases (c == Value.type "enumerate")
      · wp_walk using wpAny_pyIter_tuple hL
        exact ⟨_, rfl, h⟩
      · wp_walk using wpAny_pyIter_tuple hL
        exact ⟨_, rfl, h⟩
    · wp_walk using wpAny_pyIter_tuple hL
      exact ⟨_, rfl, h⟩
section
variable {prog : Program} {w : World} {A : Around} {E : Value → Shared → Prop} {s : Shared}
theorem call_enumT {l : Addr} {items : Array Value} {Q : Value → Shared → Prop} (hL : s.heap.IsTuple l items)
    (h : ∀ h', IsEnum h' (s.heap.objs.size + 1) s.heap.objs.size 0 .none → h'.IsTupleIter s.heap.objs.size l 0 →
      (∀ b o, s.heap.get? b = some o → h'.get? b = some o) → Q (.ref (s.heap.objs.size + 1)) { s with heap := h' }) :
    wpAny (model prog w) A (call (.type "enumerate") [.ref l]) Q E s := by
  refine callType_new F.called_enumerate (by decide) (F.typeCall_enumerate_1 _) (F.newCall_enumerate_1 _)
    (fun obj => F.args_object_init_2 obj _) F.entry_enumerate_new (new_enumT l items) ⟨hL, ?_⟩
  have hz : (s.heap.push { cls := .type "tuple_iterator", data := .fields #[.ref l, .int 0 0] }).objs.size = s.heap.objs.size + 1 := Heap.size_push ..
  show _ ∧ _
  rw [hz]
  have he : IsEnum (enumHeap s.heap l) (s.heap.objs.size + 1) s.heap.objs.size 0 .none := by
    have e := Heap.get?_push_size (s.heap.push { cls := .type "tuple_iterator", data := .fields #[.ref l, .int 0 0] })
      (o := { cls := .type "enumerate", data := .fields #[.none, .bool false, .ref s.heap.objs.size, rawInt 0, .none, .none] }) rfl
    rw [hz] at e
    exact e
  exact ⟨⟨_, he, rfl⟩, h _ he ⟨_, Heap.get?_push_of_some _ (Heap.get?_push_size _ rfl), rfl, rfl⟩
    fun b o x => Heap.get?_push_of_some _ (Heap.get?_push_of_some _ x)⟩
end
/-- the tuple at a, its items in new pairs with their numbers -/
def IteT (K : PySem.W.Frag) (a : Addr) : It :=
  ⟨fun i H => ∃ (xs : List V) (x : V), SqT K H a xs ∧ xs[i]? = some x,
    fun i H v H' => ∃ T x, v = .ref T ∧ H T = none ∧ H' = upd H T (.tup [.int (i : Nat), x]) ∧ ∀ xs, SqT K H a xs → xs[i]? = some x,
    fun i H => ∃ xs : List V, SqT K H a xs ∧ xs.length = i⟩
theorem turn_enumT {P : Program} {w : World} {K : PySem.W.Frag} {elts : List Expr} {kk : Nat} {tpos : Pos} (a e it : Addr) (hai : a ≠ it) :
    Turn P w K (.Tuple elts kk tpos) (IteT K a) [e, it] e
      (fun i h => (∃ old, IsEnum h e it ((i : Nat) : Int) old) ∧ h.IsTupleIter it a i ∧ e ≠ it ∧ a ≠ e) where
  mem := by simp
  obj := fun i h st b hb => by
    obtain ⟨⟨old, he⟩, ⟨o, ho, hc, hd⟩, _⟩ := st
    have z : b = e ∨ b = it := by simpa using hb
    rcases z with z | z
    · rw [z]
      exact ⟨_, he, fun v q => nomatch q⟩
    · rw [z]
      exact ⟨o, ho, fun v q => by rw [hd] at q; cases q⟩
  keep := fun i h h' st k => by
    obtain ⟨⟨old, he⟩, hi, hne, hae⟩ := st
    exact ⟨⟨old, k e (by simp) _ he⟩, hi.at fun o q => k it (by simp) o q, hne, hae⟩
  item := by
    intro X hP hw hK hc i pins s σ H E I hf st hg
    subst hP hw hK
    obtain ⟨⟨old, he⟩, hit, hne, hae⟩ := st
    obtain ⟨xs, x, hq, hx⟩ := hg
    obtain ⟨its, rv, p, hz⟩ := I.tuple hq
    obtain ⟨u, hu, ru⟩ := rv.get hx
    have hel : e < s.heap.objs.size := Heap.lt_size he
    have hil : it < s.heap.objs.size := by
      obtain ⟨_, q, _⟩ := hit
      exact Heap.lt_size q
    have hlt : i < its.toArray.size := by
      rw [List.size_toArray]
      exact (List.getElem?_eq_some_iff.mp hu).1
    refine wpAny_pyNext_enum_itemD (Draws.tuple (A := X.A.in1) (I.ok.hd hc) it a hai its.toArray) he ⟨hit, (show s.heap.IsTuple a its.toArray from p)⟩ hlt hne
      (by simp [hne, hae.symm]) fun y h' tk hy ho st' hT hsz hk => ?_
    have ey : y = u := by
      have hy' : its.toArray[i]? = some y := hy
      rw [List.getElem?_toArray, hu] at hy'
      exact (Option.some.inj hy').symm
    subst ey
    refine ⟨_, rfl, wpAny_letOwnedTupleGo_enum (s := { s with heap := h', toks := tk + 1 }) ho fun h'' he' sb => ?_⟩
    have hT2 : h''.get? s.heap.objs.size = some { cls := .type "tuple", data := .seq #[.int i tk, y] } := (sb.2 _ (Nat.ne_of_gt hel)).trans hT
    have new : ObjOk X.prog X.w (upd H s.heap.objs.size (.tup [.int (i : Nat), x])) h'' s.heap.objs.size (.tup [.int (i : Nat), x]) :=
      ⟨by show 2 ≤ sizeLine; decide, [.int i tk, y], .cons ⟨_, rfl⟩ (.cons ru .nil), ⟨_, hT2, rfl, _, rfl⟩⟩
    have I1 : Inv X pins σ (upd H s.heap.objs.size (.tup [.int (i : Nat), x])) { s with heap := h'', toks := tk + 1 } :=
      I.turnedNew (ch := [e, it]) (fun b ob hb q => (sb.2 b (fun z => hb (by simp [z]))).trans
        (hk b ob (fun z => hb (by simp [z])) (fun z => hb (by simp [z])) q)) hf (Nat.le_refl _) new
    refine ⟨.ref s.heap.objs.size, _, I1, rfl, ⟨_, x, rfl, I.hok.fresh (Nat.le_refl _), rfl, fun ys hy2 => by rw [I.tuple_inj hy2 hq]; exact hx⟩,
      ⟨⟨y, ?_⟩, st'.1.at fun o q => (sb.2 it (Ne.symm hne)).trans q, hne, hae⟩, fun b hb => ?_⟩
    · have e1 : ((i + 1 : Nat) : Int) = (i : Int) + 1 := by omega
      rw [e1]
      exact he'
    · have hb' : b < s.heap.objs.size := by
        have z : b = e ∨ b = it := by simpa using hb
        rcases z with z | z
        · rw [z]
          exact hel
        · rw [z]
          exact hil
      rw [upd_ne (Nat.ne_of_lt hb')]
      exact (hf b hb).1
  done := by
    intro X hP hw hK hc i pins s σ H E I hf st hg
    subst hP hw hK
    obtain ⟨⟨old, he⟩, hit, hne, hae⟩ := st
    obtain ⟨xs, hq, hx⟩ := hg
    obtain ⟨its, rv, p, hz⟩ := I.tuple hq
    obtain ⟨f0, f1, f2, f3, f4, f5⟩ := hf it (by simp)
    have hl := rv.length
    have en : its.toArray.size = i := by
      rw [List.size_toArray]
      omega
    refine wpAny_pyNext_enum_endD (Draws.tuple (A := X.A.in1) (I.ok.hd hc) it a hai its.toArray) he
      ⟨by rw [en]; exact hit, (show s.heap.IsTuple a its.toArray from p)⟩ fun h' eb => ?_
    exact ⟨rfl, I.turned (t' := s.toks) (fun b o hb q => eb b o hb q) f0 f1 f3 f4 f5⟩
  self := fun A i s Q E st h => by
    obtain ⟨⟨_, he⟩, _⟩ := st
    exact wpAny_pyIter_enum he h
def iEnumT (K : PySem.W.Frag) (ta : TA) : TI := fun σ H R => ta σ H fun vs H1 => ∃ a xs, vs = [.ref a] ∧ SqT K H1 a xs ∧ R (IteT K a) H1
theorem pi_enumT {X : Cx} {e : Expr} {ta : TA} {p pos tpos : Pos} {elts : List Expr} {kk : Nat} (hg : Gl X "enumerate") (hm : X.mg "enumerate" = none)
    (ha : PA X [e] ta) (hs : starEach [e] X.env = [(false, eval e X.env)] := by rfl) :
    PI X (.Tuple elts kk tpos) (.Call (.Name "enumerate" p) [e] [] pos) (iEnumT X.K ta) := by
  refine ⟨fun pins s σ H R I h => ?_⟩
  refine Call_ (ld_blt I hg hm boot_enumerate (callWith_type1 (thn (ha.run pos pins s σ H _ I h) fun us s1 ⟨vs, H1, I1, r1, a, xs, ex, hq, q⟩ => ?_) hs rfl))
  subst ex
  obtain ⟨u, rfl, ru⟩ := vals1 r1
  cases ru
  obtain ⟨its, rv, p', hz⟩ := I1.tuple hq
  obtain ⟨o, ho, _⟩ := id p'
  have hlt : a < s1.heap.objs.size := Heap.lt_size ho
  refine call_enumT (show s1.heap.IsTuple a its.toArray from p') fun h' he hit hk => wpAny_pyIter_enum he ?_
  have I2 : Inv X pins σ H1 { s1 with heap := h' } := I1.kept (t' := s1.toks) hk
  refine ⟨s1.heap.objs.size + 1, [s1.heap.objs.size + 1, s1.heap.objs.size], _, _, H1, rfl, I2,
    turn_enumT a (s1.heap.objs.size + 1) s1.heap.objs.size (Nat.ne_of_lt hlt), ⟨⟨.none, he⟩, hit, Nat.succ_ne_self _, Nat.ne_of_lt (Nat.lt_succ_of_lt hlt)⟩, fun b hb => ?_, q⟩
  have z : b = s1.heap.objs.size + 1 ∨ b = s1.heap.objs.size := by simpa using hb
  have hle : s1.heap.objs.size ≤ b := by
    rcases z with z | z
    · rw [z]
      exact Nat.le_add_right _ _
    · rw [z]
      exact Nat.le_refl _
  exact I1.fpOk hle (I1.hok.fresh hle)
theorem walk_enumT {K : PySem.W.Frag} {a : Addr} {xs : List V} :
    Walk (IteT K a) xs.length (fun H => SqT K H a xs) (YPair (fun i => some (.int (i : Nat))) (fun i => xs[i]?)) := by
  refine ⟨fun i H hi q => ⟨xs, xs[i], q, by simp [hi]⟩, fun H q => ⟨xs, q, rfl⟩, fun i H v H' hi q y => ?_⟩
  obtain ⟨T, x, h1, h2, h3, h4⟩ := y
  exact ⟨T, .int (i : Nat), x, h1, h2, h3, rfl, h4 xs q⟩
theorem walk_zipT {K : PySem.W.Frag} {a b : Addr} {xs ys : List V} {n : Nat} (hn : n = min xs.length ys.length) :
    Walk (RZ.ItzT K a b) n (fun H => SqT K H a xs ∧ SqT K H b ys) (YPair (fun i => xs[i]?) (fun i => ys[i]?)) := by
  subst hn
  refine ⟨fun i H hi q => ?_, fun H q => ⟨xs, ys, q.1, q.2, by omega⟩, fun i H v H' hi q y => ?_⟩
  · have h1 : i < xs.length := by omega
    have h2 : i < ys.length := by omega
    exact ⟨xs, ys, xs[i], ys[i], q.1, q.2, by simp [h1], by simp [h2]⟩
  · obtain ⟨T, x, z, h1, h2, h3, h4, h5⟩ := y
    exact ⟨T, x, z, h1, h2, h3, h4 xs q.1, h5 ys q.2⟩
end K40

set_option Elab.async false
set_option linter.all false
set_option maxRecDepth 100000
set_option maxHeartbeats 4000000
/-! A rule that the hand layer lacks: list(zip(t, u)) of two tuples. -/
namespace K40
open PySem PySem.Spec PyProof.Rows L2
section
variable {prog : Program} {w : World} {A : Around} {E : Value → Shared → Prop} {s : Shared}
/-- the next pair while the one given out before is still there -/
theorem zipT_held {z TI TO T i1 i2 l1 l2 : Addr} {f : Bool} {oT : Obj} {k : Nat} {xs ys : Array Value} {x y : Value} {Q : Option Value → Shared → Prop}
    (D : ZipApart z TI TO i1 i2 l1 l2) (hz : IsZipHeld s.heap z TI TO T f) (hT : s.heap.get? T = some oT) (hTI : IsPair s.heap TI (.ref i1) (.ref i2))
    (h1 : s.heap.IsTupleIter i1 l1 k) (h2 : s.heap.IsTupleIter i2 l2 k) (hl1 : s.heap.IsTuple l1 xs) (hl2 : s.heap.IsTuple l2 ys)
    (hx : xs[k]? = some x) (hy : ys[k]? = some y)
    (hQ : ∀ h', IsZipHeld h' z TI TO T true → h'.IsTupleIter i1 l1 (k + 1) → h'.IsTupleIter i2 l2 (k + 1) → IsPair h' s.heap.objs.size x y →
      (∀ c o, c ≠ z → c ≠ i1 → c ≠ i2 → s.heap.get? c = some o → h'.get? c = some o) → Q (some (.ref s.heap.objs.size)) { s with heap := h' }) :
    wpAny (model prog w) A (pyNext (.ref z)) Q E s := by
  have hTy : s.TypeIs (.ref z) "zip" := ⟨_, hz, rfl⟩
  unfold pyNext
  refine wpAny_bind (wpAny_attempt (wpAny_callSpecial?_slot (name := Str.ofString "__next__") hTy F.slot_zip_next
    (wpAny_call_entry F.slot_zip_next hTy F.entry_zip_next ?_ (F.args_zip_next_1 _))))
  show wpAny _ _ (field (.ref z) 2 >>= _) _ _ _
  refine wpAny_bind (wpAny_field hz rfl (x := .bool false) rfl ?_)
  show wpAny _ _ (field (.ref z) 3 >>= _) _ _ _
  refine wpAny_bind (wpAny_field hz rfl (x := .ref TI) rfl (wpAny_bind (wpAny_seqItems hTI rfl ?_)))
  show wpAny _ _ (Builtin.SmallTypes.ownedTupleIsFree (.ref z) >>= _) _ _ _
  refine wpAny_bind (wpAny_tupleHeld_zip hz hT fun g1 z1 c1 => ?_)
  simp only [Bool.false_eq_true, if_false]
  refine wpAny_bind ?_
  rw [← Array.forIn_toList]
  simp only [List.forIn_cons, List.forIn_nil]
  refine wpAny_bind (wpAny_bind (wpAny_holding ?_))
  show wpAny _ _ (Builtin.SmallTypes.nextOf (.ref i1) >>= _) _ _ _
  refine wpAny_bind (RZ.nextOf_tuple_item (s := { s with heap := g1 }) (h1.extBut c1.extBut D.i1z) (hl1.extBut c1.extBut D.l1z) hx
    fun g2 p2 c2 => wpAny_pure (wpAny_pure ?_))
  refine wpAny_bind (wpAny_bind (wpAny_holding ?_))
  show wpAny _ _ (Builtin.SmallTypes.nextOf (.ref i2) >>= _) _ _ _
  refine wpAny_bind (RZ.nextOf_tuple_item (s := { s with heap := g2 }) ((h2.extBut c1.extBut D.i2z).extBut c2.extBut D.i12.symm)
    ((hl2.extBut c1.extBut D.l2z).extBut c2.extBut D.l2i1) hy fun g3 p3 c3 => wpAny_pure (wpAny_pure (wpAny_pure ?_)))
  show wpAny _ _ (newTuple [x, y] >>= _) _ _ _
  refine wpAny_bind (wpAny_newTuple ?_)
  have hsz : g3.objs.size = s.heap.objs.size := by rw [c3.1, c2.1, c1.1]
  have z3 : IsZipHeld g3 z TI TO T true := c3.extBut _ _ D.i2z.symm (c2.extBut _ _ D.i1z.symm z1)
  have kk : ∀ c o, c ≠ z → c ≠ i1 → c ≠ i2 → s.heap.get? c = some o → g3.get? c = some o :=
    fun c o n1 n2 n3 e => c3.extBut _ _ n3 (c2.extBut _ _ n2 (c1.extBut _ _ n1 e))
  have p23 : g3.IsTupleIter i1 l1 (k + 1) := p2.extBut c3.extBut D.i12
  refine wpAny_pure ⟨_, rfl, ?_⟩
  have hp : IsPair (g3.push { cls := .type "tuple", data := .seq #[x, y] }) g3.objs.size x y := Heap.get?_push_size _ rfl
  refine wpAny_pure ?_
  show Q (some (.ref g3.objs.size)) _
  rw [hsz] at hp ⊢
  exact hQ _ (Heap.get?_push_of_some _ z3) (p23.at fun o e => Heap.get?_push_of_some _ e) (p3.at fun o e => Heap.get?_push_of_some _ e) hp
    fun c o n1 n2 n3 e => Heap.get?_push_of_some _ (kk c o n1 n2 n3 e)
/-- its end -/
theorem zipT_held_end {z TI TO T i1 i2 l1 l2 : Addr} {f : Bool} {oT : Obj} {k : Nat} {xs ys : Array Value} {Q : Option Value → Shared → Prop} (hh : A.handled = none)
    (D : ZipApart z TI TO i1 i2 l1 l2) (hz : IsZipHeld s.heap z TI TO T f) (hT : s.heap.get? T = some oT) (hTI : IsPair s.heap TI (.ref i1) (.ref i2))
    (h1 : s.heap.IsTupleIter i1 l1 k) (h2 : s.heap.IsTupleIter i2 l2 k) (hl1 : s.heap.IsTuple l1 xs) (hl2 : s.heap.IsTuple l2 ys) (hx : xs[k]? = none)
    (hQ : ∀ h', (∀ c o, c ≠ z → c ≠ i1 → c ≠ i2 → s.heap.get? c = some o → h'.get? c = some o) → Q none { s with heap := h' }) :
    wpAny (model prog w) A (pyNext (.ref z)) Q E s := by
  have hTy : s.TypeIs (.ref z) "zip" := ⟨_, hz, rfl⟩
  unfold pyNext
  refine wpAny_bind (wpAny_attempt (wpAny_callSpecial?_slot (name := Str.ofString "__next__") hTy F.slot_zip_next
    (wpAny_call_entry F.slot_zip_next hTy F.entry_zip_next ?_ (F.args_zip_next_1 _))))
  show wpAny _ _ (field (.ref z) 2 >>= _) _ _ _
  refine wpAny_bind (wpAny_field hz rfl (x := .bool false) rfl ?_)
  show wpAny _ _ (field (.ref z) 3 >>= _) _ _ _
  refine wpAny_bind (wpAny_field hz rfl (x := .ref TI) rfl (wpAny_bind (wpAny_seqItems hTI rfl ?_)))
  show wpAny _ _ (Builtin.SmallTypes.ownedTupleIsFree (.ref z) >>= _) _ _ _
  refine wpAny_bind (wpAny_tupleHeld_zip hz hT fun g1 z1 c1 => ?_)
  simp only [Bool.false_eq_true, if_false]
  refine wpAny_bind ?_
  rw [← Array.forIn_toList]
  simp only [List.forIn_cons, List.forIn_nil]
  refine wpAny_bind (wpAny_bind (wpAny_holding ?_))
  show wpAny _ _ (Builtin.SmallTypes.nextOf (.ref i1) >>= _) _ _ _
  refine wpAny_bind (RZ.nextOf_tuple_end (s := { s with heap := g1 }) hh (h1.extBut c1.extBut D.i1z) (hl1.extBut c1.extBut D.l1z) hx fun g2 e c2 he => ?_)
  obtain ⟨o, ho, hc⟩ := he
  refine wpAny_bind (wpAny_isInstance (T := "StopIteration") (b := true) ⟨o, ho, hc⟩ isSubtype_stop ?_)
  exact wpAny_pure (hQ _ fun c o' n1 n2 _ x => c2 _ _ n2 (c1.extBut _ _ n1 x))
theorem zip_no_len : typeLookup (.type "zip") "__len__" = pure none := am_miss_of_fast (by decide +kernel)
theorem zip_no_hint : typeLookup (.type "zip") "__length_hint__" = pure none := am_miss_of_fast (by decide +kernel)
theorem zip_hint {z : Addr} {Q : Bool → Shared → Prop} (hT : s.TypeIs (.ref z) "zip") (h : Q true s) :
    wpAny (model prog w) A (Builtin.List.listLengthHint (.ref z)) Q E s := by
  unfold Builtin.List.listLengthHint
  refine wpAny_bind (wpAny_specialOf hT zip_no_len ?_)
  show wpAny _ A (specialOf (Value.ref z) (Str.ofString "__length_hint__") >>= _) _ _ _
  exact wpAny_bind (wpAny_specialOf hT zip_no_hint (wpAny_pure h))
end
/-! ### the walk that fills the list -/
section
variable {X : Cx} {pins : List (Addr × Obj)} {σ : L2.St} {z TI TO i1 i2 a b S : Addr} {xs ys : List V} {H0 : Hp}
/-- the pairs so far -/
def PairsUp (H : Hp) (xs ys : List V) (ads : List Addr) : Prop := ∀ (j : Nat) (p : Addr), ads[j]? = some p → ∃ x y, xs[j]? = some x ∧ ys[j]? = some y ∧ H p = some (.tup [x, y])
theorem PairsUp.mono {H H' : Hp} {ads : List Addr} (h : PairsUp H xs ys ads) (k : ∀ p zs, H p = some (.tup zs) → H' p = some (.tup zs)) : PairsUp H' xs ys ads := fun j p e => by
  obtain ⟨x, y, h1, h2, h3⟩ := h j p e
  exact ⟨x, y, h1, h2, k _ _ h3⟩
theorem PairsUp.snoc {H : Hp} {ads : List Addr} {p : Addr} {x y : V} (h : PairsUp H xs ys ads) (hx : xs[ads.length]? = some x) (hy : ys[ads.length]? = some y)
    (hp : H p = some (.tup [x, y])) : PairsUp H xs ys (ads ++ [p]) := fun j q e => by
  by_cases hj : j < ads.length
  · rw [List.getElem?_append_left hj] at e
    exact h j q e
  · rw [List.getElem?_append_right (by omega)] at e
    have e0 : j - ads.length = 0 := by
      cases hk : j - ads.length with
      | zero => rfl
      | succ n =>
        rw [hk] at e
        simp at e
    have ej : j = ads.length := by omega
    subst ej
    rw [e0] at e
    cases (Option.some.inj (show some p = some q from e))
    exact ⟨x, y, hx, hy, hp⟩
theorem zip_fill {Rs : Result → Shared → Prop} {A1 : Around} (hh : A1.handled = none) (D : ZipApart z TI TO i1 i2 a b) (hl : xs.length = ys.length) (hz : xs.length < sizeLine)
    (hd : ∀ H s ads, Inv X pins σ H s → Same H0 H → H S = some (.lst (ads.map V.ref)) → ads.length = xs.length → PairsUp H xs ys ads → Rs (.ok (.ret .none)) s) :
    ∀ (m : Nat) (ads : List Addr) (H : Hp) (s : Shared), ads.length + m = xs.length → Inv X pins σ H s → Same H0 H → H0 S = none → H S = some (.lst (ads.map V.ref)) → PairsUp H xs ys ads →
      SqT X.K H a xs → SqT X.K H b ys → (∀ c ∈ [z, TI, TO, i1, i2], FpOk X pins H c) →
      (IsZip s.heap z TI TO .none ∨ ∃ T f zs, IsZipHeld s.heap z TI TO T f ∧ H T = some (.tup zs)) → IsPair s.heap TI (.ref i1) (.ref i2) → (∃ x y, IsPair s.heap TO x y) →
      s.heap.IsTupleIter i1 a ads.length → s.heap.IsTupleIter i2 b ads.length →
      codeAny (model X.prog X.w) A1 (.builtin "list.extend.loop" ⟨[.ref S, .ref z, .none], []⟩) Rs s := by
  intro m
  induction m with
  | zero =>
    intro ads H s em I sm fS hS hP ha hb hf st hTI hTO h1 h2
    obtain ⟨its, r1, p1, _⟩ := I.tuple ha
    obtain ⟨its2, r2, p2, _⟩ := I.tuple hb
    have hx : its.toArray[ads.length]? = none := by
      have := r1.length
      rw [List.getElem?_toArray]
      exact List.getElem?_eq_none (by omega)
    refine codeAny_builtin PySem.F.entry_extend_loop ?_
    rw [Around.under_plainId PySem.F.plain_extend_loop _]
    show wpAny _ A1.in1 (pyNext (.ref z) >>= _) _ _ s
    have fin : ∀ h', (∀ c o, c ∉ [z, TI, TO, i1, i2] → s.heap.get? c = some o → h'.get? c = some o) → Rs (.ok (.ret .none)) { s with heap := h' } := fun h' hk =>
      hd H _ ads (I.turnedL (t' := s.toks) hk hf) sm hS (by omega) hP
    obtain ⟨x0, y0, hTO⟩ := hTO
    rcases st with st | ⟨T, f, zs, st, hT⟩
    · refine wpAny_bind (RZ.pyNext_zipT_end hh D st hTI hTO h1 h2 p1 p2 (.inl hx) fun h' hk => wpAny_pure (fin h' fun c o hc e => ?_))
      exact hk c o (fun q => hc (by simp [q])) (fun q => hc (by simp [q])) (fun q => hc (by simp [q])) (fun q => hc (by simp [q])) e
    · obtain ⟨_, _, _, oT, hoT, _⟩ := I.hok T _ hT
      refine wpAny_bind (zipT_held_end hh D st hoT hTI h1 h2 p1 p2 hx fun h' hk => wpAny_pure (fin h' fun c o hc e => ?_))
      exact hk c o (fun q => hc (by simp [q])) (fun q => hc (by simp [q])) (fun q => hc (by simp [q])) e
  | succ m ih =>
    intro ads H s em I sm fS hS hP ha hb hf st hTI hTO h1 h2
    obtain ⟨its, r1, p1, _⟩ := I.tuple ha
    obtain ⟨its2, r2, p2, _⟩ := I.tuple hb
    have hlt : ads.length < xs.length := by omega
    have hx : xs[ads.length]? = some xs[ads.length] := List.getElem?_eq_getElem hlt
    have hlt2 : ads.length < ys.length := by omega
    have hy : ys[ads.length]? = some ys[ads.length] := List.getElem?_eq_getElem hlt2
    obtain ⟨u, hu, ru⟩ := r1.get hx
    obtain ⟨v, hv, rv⟩ := r2.get hy
    refine codeAny_builtin PySem.F.entry_extend_loop ?_
    rw [Around.under_plainId PySem.F.plain_extend_loop _]
    show wpAny _ A1.in1 (pyNext (.ref z) >>= _) _ _ s
    -- what is the same in both cases: the new pair at the heap's end
    have go : ∀ (h' : Heap) (T : Addr) (f : Bool), IsZipHeld h' z TI TO T f → (T = s.heap.objs.size ∨ ∃ zs, H T = some (.tup zs)) →
        h'.IsTupleIter i1 a (ads.length + 1) → h'.IsTupleIter i2 b (ads.length + 1) → IsPair h' s.heap.objs.size u v → (∃ x y, IsPair h' TO x y) →
        (∀ c o, c ∉ [z, TI, TO, i1, i2] → s.heap.get? c = some o → h'.get? c = some o) → IsPair h' TI (.ref i1) (.ref i2) →
        wpAny (model X.prog X.w) A1.in1 (updateSeq S (·.push (Value.ref s.heap.objs.size)) >>= fun _ => again (.builtin "list.extend.loop" ⟨[.ref S, .ref z, .none], []⟩))
          (fun fin s' => match fin with | .done f => Rs (.ok f) s' | .again c' => c'.quiet = true ∧ codeAny (model X.prog X.w) A1 c' Rs s') (fun e s' => Rs (.error e) s') { s with heap := h' } := by
      intro h' T f hz' hT' g1 g2 hp hTO' hk hTI'
      have hsz : s.heap.objs.size ≤ s.heap.objs.size := Nat.le_refl _
      have fr : H s.heap.objs.size = none := I.hok.fresh hsz
      have new : ObjOk X.prog X.w (upd H s.heap.objs.size (.tup [xs[ads.length], ys[ads.length]])) h' s.heap.objs.size (.tup [xs[ads.length], ys[ads.length]]) :=
        ⟨by show 2 ≤ sizeLine; decide, [u, v], .cons ru (.cons rv .nil), ⟨_, hp, rfl, _, rfl⟩⟩
      have I1 := I.turnedNew (t' := s.toks) (ch := [z, TI, TO, i1, i2]) hk hf hsz new
      have nS : S ≠ s.heap.objs.size := ne_of_none hS fr
      have hS1 : upd H s.heap.objs.size (.tup [xs[ads.length], ys[ads.length]]) S = some (.lst (ads.map V.ref)) := by
        rw [upd_ne nS]
        exact hS
      obtain ⟨zl, its3, kk, r3, l3, e3⟩ := I1.lstM hS1
      rw [List.length_map] at l3
      refine wpAny_bind (wpAny_updateSeq e3 rfl (wpAny_pure ⟨plainId_quiet PySem.F.plain_extend_loop _, ?_⟩)
        (by rw [List.size_toArray]; omega) (by show (its3.toArray.push _).size ≤ sizeLine + 1; rw [Array.size_push, List.size_toArray]; omega))
      have I2 := I1.lset (f := (·.push (Value.ref s.heap.objs.size))) (its' := its3 ++ [Value.ref s.heap.objs.size]) (ys := (ads ++ [s.heap.objs.size]).map V.ref) (t' := s.toks) hS1 e3 (by simp)
        (by rw [List.map_append]; exact r3.append (.cons rfl .nil)) (by rw [List.length_map, List.length_append, List.length_singleton]; omega)
      have oth : ∀ c, c ≠ S → ∀ o, h'.get? c = some o → (h'.update S (Obj.mapSeq (·.push (Value.ref s.heap.objs.size)))).get? c = some o :=
        fun c hc o e => (Heap.get?_update_other _ _ (Ne.symm hc)).trans e
      have ne5 : ∀ c ∈ [z, TI, TO, i1, i2], c ≠ S := fun c hc e => by
        have q := (hf c hc).1
        rw [e, hS] at q
        cases q
      have tup2 : ∀ p zs, H p = some (.tup zs) → upd (upd H s.heap.objs.size (.tup [xs[ads.length], ys[ads.length]])) S (.lst ((ads ++ [s.heap.objs.size]).map V.ref)) p = some (.tup zs) := fun p zs e => by
        rw [upd_ne (ne_of e hS (by intro w; cases w)), upd_ne (ne_of_none e fr)]
        exact e
      have newT : upd (upd H s.heap.objs.size (.tup [xs[ads.length], ys[ads.length]])) S (.lst ((ads ++ [s.heap.objs.size]).map V.ref)) s.heap.objs.size = some (.tup [xs[ads.length], ys[ads.length]]) := by
        rw [upd_ne nS.symm, upd_same]
      have sq2 : ∀ c zs, SqT X.K H c zs → SqT X.K (upd (upd H s.heap.objs.size (.tup [xs[ads.length], ys[ads.length]])) S (.lst ((ads ++ [s.heap.objs.size]).map V.ref))) c zs := fun c zs e => by
        rcases e with (e | ⟨o, e⟩) | e
        · exact .inl (.inl (tup2 _ _ e))
        · refine .inl (.inr ⟨o, ?_⟩)
          rw [upd_ne (ne_of e hS (by intro w; cases w)), upd_ne (ne_of_none e fr)]
          exact e
        · exact .inr e
      refine ih (ads ++ [s.heap.objs.size]) _ _ (by rw [List.length_append, List.length_singleton]; omega) I2 (fun c o e => ?_) fS upd_same
        ((hP.mono tup2).snoc hx hy newT) (sq2 _ _ ha) (sq2 _ _ hb) (fun c hc => ?_) (.inr ?_) (oth _ (ne5 _ (by simp)) _ hTI') ?_ ?_ ?_
      · rw [upd_ne (ne_of_none e fS), upd_ne (ne_of_none (sm c o e) fr)]
        exact sm c o e
      · obtain ⟨q0, q1, q2, q3, q4, q5⟩ := hf c hc
        have hlt : c < s.heap.objs.size := by
          have e' : c = z ∨ c = TI ∨ c = TO ∨ c = i1 ∨ c = i2 := by simpa using hc
          obtain ⟨x0, y0, hTO⟩ := hTO
          rcases e' with q | q | q | q | q
          · rw [q]
            rcases st with st | ⟨_, _, _, st, _⟩
            · exact Heap.lt_size st
            · exact Heap.lt_size st
          · rw [q]; exact Heap.lt_size hTI
          · rw [q]; exact Heap.lt_size hTO
          · rw [q]; obtain ⟨_, e1, _⟩ := h1; exact Heap.lt_size e1
          · rw [q]; obtain ⟨_, e1, _⟩ := h2; exact Heap.lt_size e1
        refine ⟨?_, q1, q2, q3, q4, q5⟩
        rw [upd_ne (ne5 c hc), upd_ne (Nat.ne_of_lt hlt)]
        exact q0
      · refine ⟨T, f, ?_⟩
        rcases hT' with e | ⟨zs, e⟩
        · exact ⟨_, oth _ (ne5 _ (by simp)) _ hz', by rw [e]; exact newT⟩
        · exact ⟨zs, oth _ (ne5 _ (by simp)) _ hz', tup2 _ _ e⟩
      · obtain ⟨x1, y1, q⟩ := hTO'
        exact ⟨x1, y1, oth _ (ne5 _ (by simp)) _ q⟩
      · rw [List.length_append, List.length_singleton]
        exact g1.at fun o q => oth _ (ne5 _ (by simp)) _ q
      · rw [List.length_append, List.length_singleton]
        exact g2.at fun o q => oth _ (ne5 _ (by simp)) _ q
    obtain ⟨x0, y0, hTO⟩ := hTO
    rcases st with st | ⟨T, f, zs, st, hT⟩
    · refine wpAny_bind (RZ.pyNext_zipT_item D st hTI hTO h1 h2 p1 p2 (by simpa using hu) (by simpa using hv) fun h' z' TO' g1 g2 hp hs' hk => ?_)
      have hk' : ∀ c o, c ∉ [z, TI, TO, i1, i2] → s.heap.get? c = some o → h'.get? c = some o := fun c o hc e =>
        hk c o (fun q => hc (by simp [q])) (fun q => hc (by simp [q])) (fun q => hc (by simp [q])) (fun q => hc (by simp [q])) e
      exact go h' s.heap.objs.size false z' (.inl rfl) g1 g2 hp ⟨_, _, TO'⟩ hk' (hk TI _ D.TIz D.TITO D.TIi1 D.TIi2 hTI)
    · obtain ⟨_, _, _, oT, hoT, _⟩ := I.hok T _ hT
      refine wpAny_bind (zipT_held D st hoT hTI h1 h2 p1 p2 (by simpa using hu) (by simpa using hv) fun h' z' g1 g2 hp hk => ?_)
      have hk' : ∀ c o, c ∉ [z, TI, TO, i1, i2] → s.heap.get? c = some o → h'.get? c = some o := fun c o hc e =>
        hk c o (fun q => hc (by simp [q])) (fun q => hc (by simp [q])) (fun q => hc (by simp [q])) e
      exact go h' T true z' (.inr ⟨zs, hT⟩) g1 g2 hp ⟨_, _, hk TO _ D.TOz D.TOi1 D.TOi2 hTO⟩ hk' (hk TI _ D.TIz D.TIi1 D.TIi2 hTI)
/-! ### the rule -/
def tListZip (K : PySem.W.Frag) (ta : TA) : TE := fun σ H Q => ta σ H fun vs H1 => ∃ a b xs ys, vs = [.ref a, .ref b] ∧ SqT K H1 a xs ∧ SqT K H1 b ys ∧ xs.length = ys.length ∧ xs.length < sizeLine ∧
  ∀ (S : Addr) (H2 : Hp) (ads : List Addr), H1 S = none → Same H1 H2 → H2 S = some (.lst (ads.map V.ref)) → ads.length = xs.length → PairsUp H2 xs ys ads → Q (.ref S) H2
theorem pe_listZip {e e2 : Expr} {ta : TA} {p p2 q pos : Pos} (hg : Gl X "list") (hm : X.mg "list" = none) (hg2 : Gl X "zip") (hm2 : X.mg "zip" = none) (ha : PA X [e, e2] ta) (hc : X.calm = true := by rfl)
    (hs : starEach [e, e2] X.env = (false, eval e X.env) :: starEach [e2] X.env := by rfl) (hpl : (backTo q (starEach [e2] X.env)).any (·.1) = false := by rfl)
    (na : starEach [Expr.Call (.Name "zip" p2) [e, e2] [] q] X.env = (false, eval (Expr.Call (.Name "zip" p2) [e, e2] [] q) X.env) :: starEach [] X.env := by rfl) :
    PE X (.Call (.Name "list" p) [.Call (.Name "zip" p2) [e, e2] [] q] [] pos) (tListZip X.K ta) := by
  refine ⟨fun pins s σ H Q I h => ?_⟩
  refine Call_ (ld_blt I hg hm boot_list ?_)
  refine PyProof.Rows.callWith_type1 (PyProof.Rows.args_cons ?_ na) na rfl
  refine Call_ (ld_blt I hg2 hm2 PyProof.Rows.boot_zip (PyProof.Rows.callWith_type1 (thn (ha.run q pins s σ H _ I h) fun us s1 ⟨vs, H1, I1, r1, a, b, xs, ys, ex, hx, hy, hlen, hz, q1⟩ => ?_) hs hpl))
  subst ex
  obtain ⟨u, v, rfl, ru, rv⟩ := vals2 r1
  cases ru
  cases rv
  obtain ⟨its, r, pa, _⟩ := I1.tuple hx
  obtain ⟨its2, r2, pb, _⟩ := I1.tuple hy
  obtain ⟨o1, ho1, _⟩ := id pa
  obtain ⟨o2, ho2, _⟩ := id pb
  refine RZ.call_zipT (show s1.heap.IsTuple a its.toArray from pa) (show s1.heap.IsTuple b its2.toArray from pb) fun h' zz zTI zTO z1 z2 zsz zk => ?_
  refine PyProof.Rows.args_nil ?_
  have I2 : Inv X pins σ H1 { s1 with heap := h' } := I1.kept (t' := s1.toks) zk
  have D := PySem.W.ktu_apart s1.heap.objs.size a b (Heap.lt_size ho1) (Heap.lt_size ho2)
  have hf5 : ∀ c ∈ [s1.heap.objs.size + 4, s1.heap.objs.size + 2, s1.heap.objs.size + 3, s1.heap.objs.size, s1.heap.objs.size + 1], s1.heap.objs.size ≤ c ∧ c < s1.heap.objs.size + 5 := fun c hcm => by
    have e' : c = s1.heap.objs.size + 4 ∨ c = s1.heap.objs.size + 2 ∨ c = s1.heap.objs.size + 3 ∨ c = s1.heap.objs.size ∨ c = s1.heap.objs.size + 1 := by simpa using hcm
    have key : ∀ n : Nat, c = n + 4 ∨ c = n + 2 ∨ c = n + 3 ∨ c = n ∨ c = n + 1 → n ≤ c ∧ c < n + 5 := fun n hn => by
      have hn : (c : Nat) = n + 4 ∨ (c : Nat) = n + 2 ∨ (c : Nat) = n + 3 ∨ (c : Nat) = n ∨ (c : Nat) = n + 1 := hn
      constructor
      · show (n : Nat) ≤ (c : Nat)
        omega
      · show (c : Nat) < n + 5
        omega
    exact key _ e'
  -- the new list
  refine callType_codes (Q₁ := fun obj s₁ => obj = .ref h'.objs.size ∧ s₁ = { s1 with heap := h'.push { cls := .type "list", data := .seq #[] } }) PySem.F.called_list (PySem.F.typeCall_list_1 _) PySem.F.entry_list_init
    (code_list_new _ ⟨rfl, rfl⟩) fun obj s₁ h₁ => ?_
  obtain ⟨rfl, rfl⟩ := h₁
  have hS : (h'.push { cls := .type "list", data := .seq #[] }).get? h'.objs.size = some { cls := .type "list", data := .seq #[] } := Heap.get?_push_size _ rfl
  refine ⟨⟨_, hS, rfl⟩, PySem.F.args_list_init_2 _ _, ?_⟩
  have fr : H1 h'.objs.size = none := I2.hok.fresh (Nat.le_refl _)
  have I3 : Inv X pins σ (upd H1 h'.objs.size (.lst [])) { s1 with heap := h'.push { cls := .type "list", data := .seq #[] } } := I2.lnew (its := []) (t' := s1.toks) .nil (Nat.zero_le _)
  show wpAny _ _ (do let old ← Builtin.List.listItems (.ref h'.objs.size); Builtin.List.listUpdate (.ref h'.objs.size) (fun _ => #[]); letGo old.toList.reverse; Builtin.List.listExtendWith (.ref h'.objs.size) (.ref (s1.heap.objs.size + 4)) .none) _ _ _
  refine wpAny_bind ?_
  unfold Builtin.List.listItems
  refine wpAny_bind (wpAny_seqItems hS rfl (wpAny_pure ?_))
  show wpAny _ _ (updateSeq h'.objs.size (fun _ => #[]) >>= fun _ => letGo (#[] : Array Value).toList.reverse >>= fun _ => Builtin.List.listExtendWith (.ref h'.objs.size) (.ref (s1.heap.objs.size + 4)) .none) _ _ _
  refine wpAny_bind (wpAny_updateSeq hS rfl ?_)
  have I4 := I3.lset (f := fun _ => #[]) (its := []) (its' := []) (ys := []) (t' := s1.toks) upd_same hS rfl .nil (Nat.zero_le _)
  rw [upd_upd] at I4
  have oth4 : ∀ c o, h'.get? c = some o → ((h'.push { cls := .type "list", data := .seq #[] }).update h'.objs.size (Obj.mapSeq fun _ => #[])).get? c = some o := fun c o e =>
    (Heap.get?_update_other _ _ (Nat.ne_of_gt (Heap.lt_size e))).trans (Heap.get?_push_of_some _ e)
  refine wpAny_bind (wpAny_letGo ?_)
  have zz4 := oth4 _ _ zz
  unfold Builtin.List.listExtendWith
  refine wpAny_bind (wpAny_typeOf (T := "zip") ⟨_, zz4, rfl⟩ ?_)
  have hSz : h'.objs.size ≠ s1.heap.objs.size + 4 := Nat.ne_of_gt (Heap.lt_size zz)
  have g1 : Builtin.List.listSameRef (.ref h'.objs.size) (.ref (s1.heap.objs.size + 4)) = false := by simp [Builtin.List.listSameRef, hSz]
  have g2 : (Value.type "zip" == Value.type "list") = false := by decide
  have g3 : (Value.type "zip" == Value.type "tuple") = false := by decide
  simp only [g1, g2, g3, Bool.or_false, Bool.false_eq_true, if_false]
  refine wpAny_bind (wpAny_pyIter_zip zz4 ?_)
  refine wpAny_bind (wpAny_holding (zip_hint ⟨_, zz4, rfl⟩ ?_))
  have loop : ∀ (g : Heap) (tk : Nat), Inv X pins σ (upd H1 h'.objs.size (.lst [])) { s1 with heap := g, toks := tk } → (∀ c o, c ≠ h'.objs.size → h'.get? c = some o → g.get? c = some o) →
      codeAny (model X.prog X.w) X.A.in1 (.builtin "list.extend.loop" ⟨[.ref h'.objs.size, .ref (s1.heap.objs.size + 4), .none], []⟩)
        (wants (fun r s₂ => r = .none ∧ EP X pins σ Q (.ref h'.objs.size) s₂) X.xe) { s1 with heap := g, toks := tk } := by
    intro g tk Ig kg
    have ne : ∀ c o, h'.get? c = some o → c ≠ h'.objs.size := fun c o e => Nat.ne_of_lt (Heap.lt_size e)
    have kk : ∀ c o, h'.get? c = some o → g.get? c = some o := fun c o e => kg c o (ne c o e) e
    refine zip_fill (A1 := X.A.in1) (Rs := wants (fun r s₂ => r = .none ∧ EP X pins σ Q (.ref h'.objs.size) s₂) X.xe) (H0 := H1) (xs := xs) (ys := ys) (I.ok.hd hc) D hlen hz (fun H2 s2 ads I2 sm e1 e2 e3 => ⟨rfl, .ref h'.objs.size, H2, I2, rfl, q1 _ H2 ads fr sm e1 e2 e3⟩)
      xs.length [] _ _ (Nat.zero_add _) Ig (fun c o e => ?_) fr upd_same (fun j p e => by simp at e) ?_ ?_ (fun c hcm => ?_) (.inl (kk _ _ zz)) (kk _ _ zTI) ⟨_, _, kk _ _ zTO⟩ (z1.at fun o e => kk _ o e) (z2.at fun o e => kk _ o e)
    · rw [upd_ne (ne_of_none e fr)]
      exact e
    · have sm : Same H1 (upd H1 h'.objs.size (.lst [])) := fun c o e => by
        rw [upd_ne (ne_of_none e fr)]
        exact e
      rcases hx with (e | ⟨o, e⟩) | e
      · exact .inl (.inl (sm _ _ e))
      · exact .inl (.inr ⟨o, sm _ _ e⟩)
      · exact .inr e
    · have sm : Same H1 (upd H1 h'.objs.size (.lst [])) := fun c o e => by
        rw [upd_ne (ne_of_none e fr)]
        exact e
      rcases hy with (e | ⟨o, e⟩) | e
      · exact .inl (.inl (sm _ _ e))
      · exact .inl (.inr ⟨o, sm _ _ e⟩)
      · exact .inr e
    · obtain ⟨b1, b2⟩ := hf5 c hcm
      refine I1.fpOk b1 ?_
      rw [upd_ne (Nat.ne_of_lt (Nat.lt_of_lt_of_le b2 (Nat.le_of_eq zsz.symm)))]
      exact I1.hok.fresh b1
  obtain ⟨z4, its4, n4, r4, l4, hS4⟩ := I4.lstM upd_same
  cases r4
  refine wpAny_ite_split (fun _ => ?_) (fun _ => wpAny_pure ⟨plainId_quiet PySem.F.plain_extend_loop _, loop _ _ I4 (fun c o hc e => oth4 c o e)⟩)
  refine wpAny_bind (wpAny_rule ?_)
  refine wpAny_bind ?_
  show wpAny _ _ (updateSeq h'.objs.size (·.push .none) >>= fun _ => updateSeq h'.objs.size (·.pop)) _ _ _
  refine wpAny_bind (wpAny_updateSeq hS4 rfl ?_)
  have I5 := I4.lset (f := (·.push Value.none)) (its' := [Value.none]) (ys := [.non]) (t' := s1.toks) upd_same hS4 (by simp) (.cons rfl .nil) (by rw [List.length_singleton, sizeLine_eq]; decide)
  obtain ⟨z6, its6, k6, r6, l6, e6⟩ := I5.lstM upd_same
  obtain ⟨u6, rfl, ru6⟩ := r6.one
  refine wpAny_updateSeq e6 rfl ?_ (by show 1 ≤ sizeLine; rw [sizeLine_eq]; decide) (by show 0 ≤ sizeLine + 1; exact Nat.zero_le _)
  have I6 := I5.lset (f := (·.pop)) (its := [u6]) (its' := []) (ys := []) (t' := s1.toks) upd_same e6 (by rfl) .nil (Nat.zero_le _)
  rw [upd_upd, upd_upd] at I6
  refine wpAny_pure ⟨plainId_quiet PySem.F.plain_extend_loop _, loop _ _ I6 (fun c o hc e => ?_)⟩
  exact (Heap.get?_update_other _ _ (Ne.symm hc)).trans ((Heap.get?_update_other _ _ (Ne.symm hc)).trans (oth4 c o e))
end
end K40

/-! The plain data and functions that the walks speak of; core Lean alone. -/
set_option Elab.async false
namespace K40
/-- ties under a pointing: true leads from the lesser place -/
def arr (T : List (Nat × Nat)) (f : List Bool) : List (Nat × Nat) := List.zipWith (fun p d => if d = true then p else (p.2, p.1)) T f
/-- lists of numbers as whole numbers -/
def nz (ks : List Nat) : List Int := ks.map fun (k : Nat) => (k : Int)
def bz (b : Bool) : Int := if b = true then 1 else 0
def bzs (f : List Bool) : List Int := f.map bz
def pz (p : Nat × Nat) : List Int := [(p.1 : Int), (p.2 : Int)]
/-- a web: places, ties -/
structure WebOk (n : Nat) (T : List (Nat × Nat)) : Prop where
  pos : 1 ≤ n
  most : n ≤ 5
  ties : T.length ≤ 8
  low : ∀ p ∈ T, p.1 < p.2 ∧ p.2 < n
  sorted : T.Pairwise fun p q => p.1 < q.1 ∨ (p.1 = q.1 ∧ p.2 < q.2)
/-- a pointing of it without a round: some ranks rise along each arrow -/
def Acyc (A : List (Nat × Nat)) : Prop := ∃ r : Nat → Int, ∀ e ∈ A, r e.1 < r e.2
/-- numbers keep to a ratio -/
def Keep (A : List (Nat × Nat)) (x : Nat → Int) (t b : Int) : Prop := ∀ e ∈ A, b ≤ x e.2 - x e.1 ∧ x e.2 - x e.1 ≤ t - b
/-- the springs -/
def isSpring (A : List (Nat × Nat)) (p : Nat) : Bool := !(A.any fun e => e.2 == p)
/-- all ties of a place turned -/
def turnAt (T : List (Nat × Nat)) (f : List Bool) (p : Nat) : List Bool := List.zipWith (fun e d => (d != (p == e.1 || p == e.2))) T f
/-- the fall that numbers make -/
def huedM (T : List (Nat × Nat)) (x : List Int) : List Bool := T.map fun e => decide (x.getD e.1 0 < x.getD e.2 0)
/-- a ring's steps -/
def rot (R : List Nat) : List Nat := R.drop 1 ++ R.take 1
def cyc (R : List Nat) : List (Nat × Nat) := R.zip (rot R)
def alongM (T : List (Nat × Nat)) (f : List Bool) (R : List Nat) : Nat := ((arr T f).filter fun e => decide (e ∈ cyc R)).length
/-- the rows of least steps: from, to, by how much -/
def rowsM (A : List (Nat × Nat)) (t b : Int) : List (Nat × Nat × Int) := A.flatMap fun e => [(e.1, e.2, b), (e.2, e.1, b - t)]
def rz (r : Nat × Nat × Int) : List Int := [(r.1 : Int), (r.2.1 : Int), r.2.2]
/-- a place led back -/
def iterC (C : List Nat) : Nat → Nat → Nat
  | 0, p => p
  | j + 1, p => C.getD (iterC C j p) 0
/-- one row -/
def relax (st : List Int × List Nat × Option Nat) (r : Nat × Nat × Int) : List Int × List Nat × Option Nat :=
  if st.1.getD r.2.1 0 < st.1.getD r.1 0 + r.2.2 then (st.1.set r.2.1 (st.1.getD r.1 0 + r.2.2), st.2.1.set r.2.1 r.1, some r.2.1) else st
def bfPass (rows : List (Nat × Nat × Int)) (s : List Int × List Nat) : List Int × List Nat × Option Nat := rows.foldl relax (s.1, s.2, none)
/-- ahead of the i-th pass -/
def bfAt (rows : List (Nat × Nat × Int)) (n : Nat) : Nat → List Int × List Nat
  | 0 => (List.replicate n 0, List.range n)
  | i + 1 => ((bfPass rows (bfAt rows n i)).1, (bfPass rows (bfAt rows n i)).2.1)
def bfLate (rows : List (Nat × Nat × Int)) (n i : Nat) : Option Nat := (bfPass rows (bfAt rows n i)).2.2
end K40

set_option Elab.async false
set_option linter.all false
set_option maxRecDepth 100000
set_option maxHeartbeats 4000000
namespace K40
open PySem PySem.Spec PyProof.Rows L2
theorem hu65_of {A : Around} {k : Nat} (hr : Room k A) : A.units + 65 < cLine := by
  have h := hr.un
  omega
/-! ### heaps that grow -/
theorem same_new {H : Hp} {p : Addr} {o : HO} (h : H p = none) : Same H (upd H p o) := fun b x e => by
  rw [upd_ne (ne_of_none e h)]
  exact e
theorem same_mut {H H' : Hp} {p : Addr} {o : HO} (e : Same H H') (h : H p = none) : Same H (upd H' p o) := fun b x q => by
  rw [upd_ne (ne_of_none q h)]
  exact e b x q
/-- a step on: H' has all of H, and one object more -/
theorem same_step {H H' : Hp} {p : Addr} {o : HO} (e : Same H H') (h : H' p = none) : Same H (upd H' p o) := e.trans (same_new h)
theorem at_new {H : Hp} {p q : Addr} {o x : HO} (h : H q = some x) (n : H p = none) : upd H p o q = some x := same_new n q x h
theorem at_mut {H : Hp} {p q : Addr} {o x y : HO} (h : H q = some x) (e : H p = some y) (d : x ≠ y) : upd H p o q = some x := by
  rw [upd_ne (ne_of h e d)]
  exact h
/-- all tuples stay -/
def TupSame (H H' : Hp) : Prop := ∀ a vs, H a = some (.tup vs) → H' a = some (.tup vs)
theorem TupSame.refl (H : Hp) : TupSame H H := fun _ _ h => h
theorem TupSame.trans {H H1 H2 : Hp} (a : TupSame H H1) (b : TupSame H1 H2) : TupSame H H2 := fun c o h => b c o (a c o h)
theorem TupSame.of {H H' : Hp} (e : Same H H') : TupSame H H' := fun a vs h => e a _ h
theorem TupSame.new {H : Hp} {p : Addr} {o : HO} (h : H p = none) : TupSame H (upd H p o) := .of (same_new h)
theorem TupSame.lst {H : Hp} {p : Addr} {o : HO} {xs : List V} (h : H p = some (.lst xs)) : TupSame H (upd H p o) := fun a vs e =>
  at_mut e h (fun z => nomatch z)
theorem TupSame.dk {H : Hp} {p : Addr} {o : HO} {xs : List (L2.Key × V)} (h : H p = some (.dK xs)) : TupSame H (upd H p o) := fun a vs e =>
  at_mut e h (fun z => nomatch z)
theorem TupSame.dt {H : Hp} {p : Addr} {o : HO} {xs : List (List L2.Key × V)} (h : H p = some (.dT xs)) : TupSame H (upd H p o) := fun a vs e =>
  at_mut e h (fun z => nomatch z)
/-! ### data in the heap -/
/-- a tuple of ints -/
def Tup (H : Hp) (v : V) (xs : List Int) : Prop := ∃ a, v = .ref a ∧ H a = some (.tup (xs.map V.int))
theorem Tup.mono {H H' : Hp} {v : V} {xs : List Int} (h : Tup H v xs) (e : TupSame H H') : Tup H' v xs := by
  obtain ⟨a, h1, h2⟩ := h
  exact ⟨a, h1, e _ _ h2⟩
/-- references to tuples of ints -/
abbrev Items (H : Hp) : List V → List (List Int) → Prop := Paired (Tup H)
theorem Items.mono {H H' : Hp} {vs : List V} {xss : List (List Int)} (h : Items H vs xss) (e : TupSame H H') : Items H' vs xss :=
  Paired.mapP h fun _ _ q => q.mono e
theorem paired_snoc {α β : Type} {R : α → β → Prop} {x : α} {y : β} (h : R x y) : ∀ {l : List α} {m : List β}, Paired R l m → Paired R (l ++ [x]) (m ++ [y])
  | _, _, .nil => .cons h .nil
  | _, _, .cons r t => .cons r (paired_snoc h t)
theorem paired_len {α β : Type} {R : α → β → Prop} : ∀ {l : List α} {m : List β}, Paired R l m → l.length = m.length
  | _, _, .nil => rfl
  | _, _, .cons _ t => congrArg Nat.succ (paired_len t)
theorem paired_at {α β : Type} {R : α → β → Prop} : ∀ {l : List α} {m : List β} {i : Nat} {x : α}, Paired R l m → l[i]? = some x → ∃ y, m[i]? = some y ∧ R x y
  | _, _, i, x, .nil, e => by simp at e
  | _, _, 0, x, .cons r _, e => by
    simp at e
    subst e
    exact ⟨_, rfl, r⟩
  | _, _, i + 1, x, .cons _ t, e => by
    obtain ⟨y, h1, h2⟩ := paired_at (i := i) t (by simpa using e)
    exact ⟨y, by simpa using h1, h2⟩
theorem paired_at' {α β : Type} {R : α → β → Prop} {l : List α} {m : List β} {i : Nat} {y : β} (h : Paired R l m) (e : m[i]? = some y) : ∃ x, l[i]? = some x ∧ R x y := by
  have hl := paired_len h
  have hi : i < l.length := by
    have := (List.getElem?_eq_some_iff.mp e).1
    omega
  obtain ⟨z, h1, h2⟩ := paired_at h (List.getElem?_eq_getElem hi)
  rw [e] at h1
  cases h1
  exact ⟨_, List.getElem?_eq_getElem hi, h2⟩
/-- a web -/
def IsWeb (H : Hp) (v : V) (n : Nat) (T : List (Nat × Nat)) : Prop := ∃ a t vs, v = .ref a ∧ H a = some (.tup [.int n, .ref t]) ∧ H t = some (.tup vs) ∧ Items H vs (T.map pz)
theorem IsWeb.mono {H H' : Hp} {v : V} {n : Nat} {T : List (Nat × Nat)} (h : IsWeb H v n T) (e : TupSame H H') : IsWeb H' v n T := by
  obtain ⟨a, t, vs, h1, h2, h3, h4⟩ := h
  exact ⟨a, t, vs, h1, e _ _ h2, e _ _ h3, h4.mono e⟩
/-- a list of tuples of ints -/
def LstT (H : Hp) (l : Addr) (xss : List (List Int)) : Prop := ∃ vs, H l = some (.lst vs) ∧ Items H vs xss
/-! ### places -/
theorem at_int {xs : List Int} {j : Nat} {x : Int} (h : xs[j]? = some x) : atI (xs.map V.int) (j : Int) = some (.int x) := atI_nat (by rw [List.getElem?_map, h]; rfl)
theorem at_intz {xs : List Int} {z : Int} {j : Nat} {x : Int} (e : z = (j : Int)) (h : xs[j]? = some x) : atI (xs.map V.int) z = some (.int x) := by
  rw [e]
  exact at_int h
theorem sz (n : Nat) (h : n ≤ 100000) : n ≤ sizeLine := Nat.le_trans h (by decide)
theorem szlt (n : Nat) (h : n < 100000) : n < sizeLine := Nat.lt_of_lt_of_le h (by decide)
theorem le1 : 1 ≤ sizeLine := by decide
theorem le2 : 2 ≤ sizeLine := by decide
theorem le3 : 3 ≤ sizeLine := by decide
theorem big62 (n : Nat) (h : n ≤ 100000) : -(2 ^ 62) ≤ (n : Int) ∧ (n : Int) < 2 ^ 62 := by omega
theorem take_snoc {α : Type} {l : List α} {i : Nat} {x : α} (h : l[i]? = some x) : l.take (i + 1) = l.take i ++ [x] := by
  rw [List.take_add_one, h]
  rfl
theorem flat_ints (xs : List Int) : (xs.map V.int).all flatV = true := by
  induction xs with
  | nil => rfl
  | cons x r ih =>
    rw [List.map_cons, List.all_cons, ih]
    rfl
theorem in_ints (z : Int) (xs : List Int) : inV (.int z) (xs.map V.int) = decide (z ∈ xs) := by
  induction xs with
  | nil => rfl
  | cons x r ih =>
    have e : inV (.int z) ((x :: r).map V.int) = (eqV (.int x) (.int z) || inV (.int z) (r.map V.int)) := rfl
    rw [e, ih]
    by_cases h : x = z
    · subst h
      simp [eqV]
    · have h' : ¬ z = x := fun q => h q.symm
      simp [eqV, h, h']
theorem tup_at {H : Hp} {v : V} {xs : List Int} (h : Tup H v xs) : ∃ a, v = .ref a ∧ H a = some (.tup (xs.map V.int)) := h
theorem nz_at {ks : List Nat} {i k : Nat} (h : ks[i]? = some k) : (nz ks)[i]? = some (k : Int) := by
  simp [nz, h]
theorem bzs_at {f : List Bool} {i : Nat} {d : Bool} (h : f[i]? = some d) : (bzs f)[i]? = some (bz d) := by
  simp [bzs, h]
/-- the i-th tie of a web -/
theorem tie_at {H : Hp} {vs : List V} {T : List (Nat × Nat)} {i : Nat} {x : V} (h : Items H vs (T.map pz)) (e : vs[i]? = some x) :
    ∃ a b p, T[i]? = some (a, b) ∧ x = .ref p ∧ H p = some (.tup [.int (a : Nat), .int (b : Nat)]) := by
  obtain ⟨xs, hxs, p, rfl, hp⟩ := paired_at h e
  rw [List.getElem?_map] at hxs
  obtain ⟨⟨a, b⟩, h1, rfl⟩ := Option.map_eq_some_iff.mp hxs
  exact ⟨a, b, p, h1, rfl, hp⟩
theorem tie_of {H : Hp} {vs : List V} {T : List (Nat × Nat)} {i a b : Nat} (h : Items H vs (T.map pz)) (e : T[i]? = some (a, b)) :
    ∃ p, vs[i]? = some (.ref p) ∧ H p = some (.tup [.int (a : Nat), .int (b : Nat)]) := by
  have e' : (T.map pz)[i]? = some (pz (a, b)) := by
    rw [List.getElem?_map, e]
    rfl
  obtain ⟨x, h1, p, rfl, hp⟩ := paired_at' h e'
  exact ⟨p, h1, hp⟩
theorem bl_int {k : Bool} : (if k = true then (1 : Int) else 0) = bz k := rfl
theorem zadd (i : Nat) : (0 : Int) + (i : Int) = (i : Int) := Int.zero_add _
/-- range(n) -/
theorem walk_r {n : Nat} : Walk (Itr 0 (n : Int).toNat) n (fun _ => True) (fun i H x H' => H' = H ∧ x = .int (i : Nat)) := by
  rw [Int.toNat_natCast]
  refine ⟨fun _ _ hi _ => hi, fun _ _ => Nat.le_refl _, fun i H x H' _ _ y => ⟨y.1, ?_⟩⟩
  rw [y.2, zadd]
/-! ### tuples of ints as data -/
def dT (xs : List Int) : PyData := .tuple (xs.map .int)
theorem dp_ints {K : PySem.W.Frag} {H : Hp} : ∀ xs : List Int, DpAll K H (xs.map V.int) (xs.map PyData.int)
  | [] => .nil
  | x :: xs => .cons (.int x) (dp_ints xs)
theorem dp_tup {K : PySem.W.Frag} {H : Hp} {v : V} {xs : List Int} (h : Tup H v xs) : Dp K H v (dT xs) := by
  obtain ⟨a, rfl, ha⟩ := h
  exact .tup (SqT.of ha) (dp_ints xs)
theorem dp_items {K : PySem.W.Frag} {H : Hp} : ∀ {vs : List V} {xss : List (List Int)}, Items H vs xss → DpAll K H vs (xss.map dT)
  | _, _, .nil => .nil
  | _, _, .cons r t => .cons (dp_tup r) (dp_items t)
theorem dp_lst {K : PySem.W.Frag} {H : Hp} {l : Addr} {xss : List (List Int)} (h : LstT H l xss) : Dp K H (.ref l) (.list (xss.map dT)) := by
  obtain ⟨vs, h1, h2⟩ := h
  exact .lst (SqL.of h1) (dp_items h2)
theorem lay_ints : ∀ xs : List Int, PyData.canLayAll0 (xs.map PyData.int) = true
  | [] => rfl
  | x :: xs => by
    simp [PyData.canLayAll0, PyData.canLay0, lay_ints xs]
theorem dep_ints : ∀ xs : List Int, PyData.depthAll (xs.map PyData.int) ≤ 1
  | [] => by simp [PyData.depthAll]
  | x :: xs => by
    have h := dep_ints xs
    simp only [List.map_cons, PyData.depthAll, PyData.depth]
    omega
theorem lay_dT (xs : List Int) : (dT xs).canLay0 = true := by
  simp [dT, PyData.canLay0, lay_ints xs]
theorem dep_dT (xs : List Int) : (dT xs).depth ≤ 2 := by
  have h := dep_ints xs
  simp only [dT, PyData.depth]
  omega
theorem shaped_dT (xs : List Int) : SeqAt.shaped (dT xs) = true := by
  have h := dep_dT xs
  show ((dT xs).canLay0 && decide ((dT xs).depth ≤ 64)) = true
  rw [lay_dT, Bool.true_and]
  exact decide_eq_true (by omega)
theorem lay_dTs : ∀ xss : List (List Int), PyData.canLayAll0 (xss.map dT) = true
  | [] => rfl
  | x :: xs => by
    simp [PyData.canLayAll0, lay_dT x, lay_dTs xs]
theorem dep_dTs : ∀ xss : List (List Int), PyData.depthAll (xss.map dT) ≤ 2
  | [] => by simp [PyData.depthAll]
  | x :: xs => by
    have h := dep_dTs xs
    have h2 := dep_dT x
    simp only [List.map_cons, PyData.depthAll]
    omega
theorem shaped_dTs (xss : List (List Int)) : SeqAt.shaped (.list (xss.map dT)) = true := by
  have h := dep_dTs xss
  show ((PyData.list (xss.map dT)).canLay0 && decide ((PyData.list (xss.map dT)).depth ≤ 64)) = true
  have e : (PyData.list (xss.map dT)).canLay0 = true := by simp [PyData.canLay0, lay_dTs xss]
  rw [e, Bool.true_and]
  refine decide_eq_true ?_
  simp only [PyData.depth]
  omega
theorem eqv_ints : ∀ xs ys : List Int, PyData.eqvAll (xs.map PyData.int) (ys.map PyData.int) = decide (xs = ys)
  | [], [] => by simp [PyData.eqvAll]
  | [], y :: ys => by simp [PyData.eqvAll]
  | x :: xs, [] => by simp [PyData.eqvAll]
  | x :: xs, y :: ys => by
    simp only [List.map_cons, PyData.eqvAll, PyData.eqv, eqv_ints xs ys]
    by_cases h : x = y <;> simp [h]
theorem eqv_dT (xs ys : List Int) : PyData.eqv (dT xs) (dT ys) = decide (xs = ys) := by
  simp only [dT, PyData.eqv, eqv_ints]
theorem any_dT (xs : List Int) : ∀ xss : List (List Int), ((xss.map dT).any fun z => PyData.eqv z (dT xs)) = decide (xs ∈ xss)
  | [] => by simp
  | y :: r => by
    rw [List.map_cons, List.any_cons, any_dT xs r, eqv_dT]
    by_cases h : y = xs
    · subst h
      simp
    · have h' : ¬ xs = y := fun z => h z.symm
      simp [h, h']
theorem cut_drop1 (xs : List V) : cutV xs (some 1) none = xs.drop 1 := by
  unfold cutV
  rw [show HT.sIx xs.length 0 (some 1) = min 1 xs.length from HT.sIx_nat xs.length 0 1, HT.sIx_none]
  cases xs with
  | nil => rfl
  | cons x r => simp
theorem cut_take1 (xs : List V) : cutV xs none (some 1) = xs.take 1 := by
  unfold cutV
  rw [HT.sIx_none, show HT.sIx xs.length xs.length (some 1) = min 1 xs.length from HT.sIx_nat xs.length xs.length 1]
  cases xs with
  | nil => rfl
  | cons x r => simp
end K40

set_option Elab.async false
set_option linter.all false
set_option maxRecDepth 100000
set_option maxHeartbeats 4000000
namespace K40
open PySem PySem.Spec PyProof.Rows L2
section
variable {P : Program} {w : World} {K : PySem.W.Frag} {mg : Str → Option Value} {base : Heap}
/-! ### arrows -/
abbrev Narrows : List Str := ["web", "pointing", "tie", "number"]
theorem scarrows : FnScope Narrows ["web", "pointing"] (defScope (topS 7)) := ⟨rfl, rfl, rfl, by decide +kernel, rfl, by decide +kernel, by decide +kernel⟩
-- 0 web 1 pointing 2 tie 3 number
def spArrows : Sp := fun vs H Q _ => ∃ (wv fv : V) (n : Nat) (T : List (Nat × Nat)) (f : List Bool), vs = [wv, fv] ∧ IsWeb H wv n T ∧ Tup H fv (bzs f) ∧ T.length = f.length ∧ T.length ≤ 1000 ∧
  ∀ H' l, Same H H' → H l = none → LstT H' l ((arr T f).map pz) → Q (.ref l) H'
theorem arr_len {T : List (Nat × Nat)} {f : List Bool} (h : T.length = f.length) : (arr T f).length = T.length := by
  simp [arr, h]
theorem arr_at {T : List (Nat × Nat)} {f : List Bool} {i : Nat} {a b : Nat} {d : Bool} (h1 : T[i]? = some (a, b)) (h2 : f[i]? = some d) : (arr T f)[i]? = some (if d = true then (a, b) else (b, a)) := by
  simp [arr, List.getElem?_zipWith, h1, h2]
theorem k_arrows (T : Tx K mg) : Keeps P w K mg base 1 "arrows" ["web", "pointing"] spArrows := by
  refine T.darrows.keeps scarrows (fun vs H Q E h => ?_) (fun fa cdv A outer s H vs Q E hr h => ?_)
  · obtain ⟨wv, fv, n, T, f, rfl, _⟩ := h
    rfl
  obtain ⟨wv, fv, n, W, f, rfl, hw, hf, hl, hm, q⟩ := h
  obtain ⟨a, t, tv, rfl, ha, ht, hi⟩ := id hw
  obtain ⟨af, rfl, haf⟩ := id hf
  have hlen := paired_len hi
  rw [List.length_map] at hlen
  refine ⟨_, (pss_one (ps_ret (pe_lc (own := [("tie", 2), ("number", 3)]) (g := (gTup K 2 (gCons (gName 2) (gCons (gName 3) gNil)))) (tt := tYes) rfl scarrows.nd (RZ.pi_zipA (by rfl) T.zzip (pa_cons (pe_ix ix_tup (pv 0) pe_int (fun _ _ => rfl)) (pa_cons (pv 1) pa_nil))) (blkOk_by (N := Narrows) (sc := defScope (topS 7)) (by decide +kernel)) (fun _ _ _ _ _ => (pg_tup rfl (pgs_cons (pg_name (i := 2) scarrows.nd rfl (.inl rfl)) (pgs_cons (pg_name (i := 3) scarrows.nd rfl (.inl rfl)) pgs_nil)))) (fun _ _ _ _ _ => pts_nil) (fun _ _ _ _ _ => (pe_tup (pa_cons (pe_ix (r := rIxT K) ix_tup (pv 2) (pe_op op_sub pe_int (pv 3)) (fun _ _ => rfl)) (pa_cons (pe_ix (r := rIxT K) ix_tup (pv 2) (pv 3) (fun _ _ => rfl)) pa_nil))))))), ?_⟩
  have hn : W.length = min tv.length ((bzs f).map V.int).length := by
    rw [List.length_map, hlen]
    simp [bzs, hl]
  refine ⟨.ref a, rfl, a, _, 1, .ref t, rfl, rfl, SqT.of ha, rfl, .ref af, rfl, t, af, tv, (bzs f).map V.int, rfl, .inr ⟨SqT.of ht, SqT.of haf, fun D hD => ?_⟩⟩
  refine lc_it (walk_zipT hn) (fun i H' => Same H H' ∧ ∃ us, H' D = some (.lst us) ∧ Items H' us (((arr W f).map pz).take i)) ⟨same_new hD, [], upd_same, .nil⟩
    (fun i H' hi' p => ⟨SqT.of (p.1 _ _ ht), SqT.of (p.1 _ _ haf)⟩) (fun i x H0 H1 hi' p y => ?_) (fun H' p => ?_)
  · obtain ⟨sm, us, hD', hus⟩ := p
    obtain ⟨Tt, x, z, rfl, nT, rfl, ex, ez⟩ := y
    obtain ⟨xs, hxs, p, rfl, hp⟩ := paired_at hi ex
    rw [List.getElem?_map] at hxs
    obtain ⟨⟨e1, e2⟩, h1, rfl⟩ := Option.map_eq_some_iff.mp hxs
    have ez' : (bzs f)[i]?.map V.int = some z := by
      rw [← List.getElem?_map]
      exact ez
    obtain ⟨zi, hzi, rfl⟩ := Option.map_eq_some_iff.mp ez'
    have hzi' : f[i]?.map bz = some zi := by
      rw [← List.getElem?_map]
      exact hzi
    obtain ⟨d, hd, rfl⟩ := Option.map_eq_some_iff.mp hzi'
    have hp1 : upd H0 Tt (.tup [.ref p, .int (bz d)]) p = some (.tup ((pz (e1, e2)).map V.int)) := at_new (sm _ _ hp) nT
    refine ⟨Tt, [.ref p, .int (bz d)], rfl, SqT.of upd_same, rfl, .ref p, [.int (bz d)], rfl, .int (bz d), [], rfl, rfl, rfl, ?_⟩
    have key : ∀ (u v : Int), atI ((pz (e1, e2)).map V.int) (1 - bz d) = some (.int u) → atI ((pz (e1, e2)).map V.int) (bz d) = some (.int v) → [u, v] = pz (if d = true then (e1, e2) else (e2, e1)) → 
        tTup (tCons (tOp (rIxT K) (tVar 2) (tOp (rI0 fun i j => .int (i - j)) (tC (.int 1)) (tVar 3))) (tCons (tOp (rIxT K) (tVar 2) (tVar 3)) tNil))
          [some (.ref a), some (.ref af), some (.ref p), some (.int (bz d))] (upd H0 Tt (.tup [.ref p, .int (bz d)])) (fun y H4 => ∃ acc, H4 D = some (.lst acc) ∧ acc.length < sizeLine ∧
            (fun i H' => Same H H' ∧ ∃ us, H' D = some (.lst us) ∧ Items H' us (((arr W f).map pz).take i)) (i + 1) (upd H4 D (.lst (acc ++ [y])))) := by
      intro u v hu hv huv
      refine ⟨.ref p, rfl, .int (bz d), rfl, 1, bz d, rfl, rfl, p, _, 1 - bz d, _, rfl, rfl, SqT.of hp1, hu, .ref p, rfl, .int (bz d), rfl, p, _, bz d, _, rfl, rfl, SqT.of hp1, hv, le2, fun c hc => ?_⟩
      have hDc : upd (upd H0 Tt (.tup [.ref p, .int (bz d)])) c (.tup [.int u, .int v]) D = some (.lst us) := at_new (at_new hD' nT) hc
      refine ⟨us, hDc, ?_, ?_, us ++ [.ref c], upd_same, ?_⟩
      · have := paired_len hus
        rw [List.length_take, List.length_map] at this
        exact szlt _ (by omega)
      · exact same_mut (same_step (same_step sm nT) hc) hD
      · have e : ((arr W f).map pz)[i]? = some (pz (if d = true then (e1, e2) else (e2, e1))) := by
          rw [List.getElem?_map, arr_at h1 hd]
          rfl
        rw [take_snoc e]
        refine paired_snoc ⟨c, rfl, ?_⟩ (hus.mono (((TupSame.new nT).trans (TupSame.new hc)).trans (TupSame.lst hDc)))
        rw [← huv]
        exact at_mut upd_same hDc (fun z => nomatch z)
    cases d with
    | true => exact key e1 e2 rfl rfl rfl
    | false => exact key e2 e1 rfl rfl rfl
  · obtain ⟨sm, us, hD', hus⟩ := p
    rw [List.take_of_length_le (by rw [List.length_map, arr_len hl]; exact Nat.le_refl _)] at hus
    exact q H' D sm hD ⟨us, hD', hus⟩
end
end K40

set_option Elab.async false
set_option linter.all false
set_option maxRecDepth 100000
set_option maxHeartbeats 4000000
namespace K40
open PySem PySem.Spec PyProof.Rows L2
section
variable {P : Program} {w : World} {K : PySem.W.Frag} {mg : Str → Option Value} {base : Heap}
/-! ### hued -/
abbrev Nhued : List Str := ["web", "hues", "a", "b"]
theorem schued : FnScope Nhued ["web", "hues"] (defScope (topS 5)) := ⟨rfl, rfl, rfl, by decide +kernel, rfl, by decide +kernel, by decide +kernel⟩
-- 0 web 1 hues 2 a 3 b
def spHued : Sp := fun vs H Q _ => ∃ (wv hv : V) (n : Nat) (T : List (Nat × Nat)) (x : List Int), vs = [wv, hv] ∧ IsWeb H wv n T ∧ Tup H hv x ∧ (∀ e ∈ T, e.1 < x.length ∧ e.2 < x.length) ∧ T.length ≤ 1000 ∧
  ∀ H' v, Same H H' → Tup H' v (bzs (huedM T x)) → Q v H'
theorem hued_at {T : List (Nat × Nat)} {x : List Int} {i a b : Nat} (h : T[i]? = some (a, b)) : (bzs (huedM T x))[i]? = some (bz (decide (x.getD a 0 < x.getD b 0))) := by
  simp [bzs, huedM, h]
theorem k_hued (T : Tx K mg) : Keeps P w K mg base 1 "hued" ["web", "hues"] spHued := by
  refine T.dhued.keeps schued (fun vs H Q E h => ?_) (fun fa cdv A outer s H vs Q E hr h => ?_)
  · obtain ⟨wv, hv, n, T, x, rfl, _⟩ := h
    rfl
  obtain ⟨wv, hv, n, W, x, rfl, hw, hx, hin, hm, q⟩ := h
  obtain ⟨a, t, tv, rfl, ha, ht, hi⟩ := id hw
  obtain ⟨ax, rfl, hax⟩ := id hx
  have hlen := paired_len hi
  rw [List.length_map] at hlen
  refine ⟨_, (pss_one (ps_ret (pe_callTy call_tuple_of (by rfl) T.ztuple (by decide +kernel) (pa_cons (pe_lc (own := [("a", 2), ("b", 3)]) (g := (gTup K 2 (gCons (gName 2) (gCons (gName 3) gNil)))) (tt := tYes) rfl schued.nd (pi_tup (pe_ix ix_tup (pv 0) pe_int (fun _ _ => rfl))) (blkOk_by (N := Nhued) (sc := defScope (topS 5)) (by decide +kernel)) (fun _ _ _ _ _ => (pg_tup rfl (pgs_cons (pg_name (i := 2) schued.nd rfl (.inl rfl)) (pgs_cons (pg_name (i := 3) schued.nd rfl (.inl rfl)) pgs_nil)))) (fun _ _ _ _ _ => pts_nil) (fun _ _ _ _ _ => (pe_callTy call_int1 (by rfl) T.zint (by decide +kernel) (pa_cons (pe_cmpR op_lt (pe_ix (r := rIxT K) ix_tup (pv 1) (pv 2) (fun _ _ => rfl)) (pe_ix (r := rIxT K) ix_tup (pv 1) (pv 3) (fun _ _ => rfl)) (nomark _)) pa_nil)))) pa_nil)))), ?_⟩
  refine ⟨.ref a, rfl, a, _, 1, .ref t, rfl, rfl, SqT.of ha, rfl, t, rfl, ⟨tv, SqT.of ht⟩, fun D hD => ?_⟩
  refine lc_it walk_tup (fun i H' => Same H H' ∧ H' D = some (.lst (((bzs (huedM W x)).take i).map V.int))) ⟨same_new hD, upd_same⟩
    (fun i H' hi' p => SqT.of (p.1 _ _ ht)) (fun i y H0 H1 hi' p yy => ?_) (fun H' p => ?_)
  · obtain ⟨sm, hD'⟩ := p
    obtain ⟨rfl, ey⟩ := yy
    obtain ⟨e1, e2, p, h1, rfl, hp⟩ := tie_at hi ey
    obtain ⟨l1, l2⟩ := hin _ (List.mem_of_getElem? h1)
    refine ⟨p, [.int (e1 : Nat), .int (e2 : Nat)], rfl, SqT.of (sm _ _ hp), rfl, .int (e1 : Nat), [.int (e2 : Nat)], rfl, .int (e2 : Nat), [], rfl, rfl, rfl, ?_⟩
    have g1 : x[e1]? = some (x.getD e1 0) := by simp [l1]
    have g2 : x[e2]? = some (x.getD e2 0) := by simp [l2]
    refine ⟨.ref ax, rfl, .int (e1 : Nat), rfl, ax, _, (e1 : Nat), _, rfl, rfl, SqT.of (sm _ _ hax), at_int g1, .ref ax, rfl, .int (e2 : Nat), rfl, ax, _, (e2 : Nat), _, rfl, rfl, SqT.of (sm _ _ hax), at_int g2, _, _, rfl, rfl, .inr ⟨_, rfl, _, hD', ?_, ?_, ?_⟩⟩
    · exact szlt _ (by rw [List.length_map, List.length_take]; simp [bzs, huedM]; omega)
    · exact same_mut sm hD
    · rw [take_snoc (hued_at h1), List.map_append]
      exact upd_same
  · obtain ⟨sm, hD'⟩ := p
    rw [List.take_of_length_le (by simp [bzs, huedM, hlen])] at hD'
    refine ⟨D, _, rfl, .inl ⟨SqL.of hD', fun l hl => ?_⟩⟩
    exact q _ _ (same_step sm hl) ⟨l, rfl, upd_same⟩
/-! ### springs -/
abbrev Nsprings : List Str := ["web", "fall", "taken", "begin", "end", "place"]
theorem scsprings : FnScope Nsprings ["web", "fall"] (defScope (topS 9)) := ⟨rfl, rfl, rfl, by decide +kernel, rfl, by decide +kernel, by decide +kernel⟩
-- 0 web 1 fall 2 taken 3 begin 4 end 5 place
def spSprings : Sp := fun vs H Q _ => ∃ (wv fv : V) (n : Nat) (T : List (Nat × Nat)) (f : List Bool), vs = [wv, fv] ∧ IsWeb H wv n T ∧ Tup H fv (bzs f) ∧ T.length = f.length ∧ T.length ≤ 1000 ∧ n ≤ 1000 ∧
  ∀ H' v, Same H H' → Tup H' v (nz ((List.range n).filter (isSpring (arr T f)))) → Q v H'
theorem spring_iff (A : List (Nat × Nat)) (p : Nat) : isSpring A p = !decide ((p : Int) ∈ A.map fun e => (e.2 : Int)) := by
  unfold isSpring
  congr 1
  rw [Bool.eq_iff_iff]
  simp only [List.any_eq_true, beq_iff_eq, decide_eq_true_eq, List.mem_map]
  constructor
  · rintro ⟨e, he, rfl⟩
    exact ⟨e, he, rfl⟩
  · rintro ⟨e, he, h⟩
    exact ⟨e, he, by omega⟩
theorem filter_succ {n : Nat} {g : Nat → Bool} : (List.range (n + 1)).filter g = if g n = true then (List.range n).filter g ++ [n] else (List.range n).filter g := by
  rw [List.range_succ, List.filter_append]
  cases h : g n <;> simp [h]
theorem k_springs (T : Tx K mg) : Keeps P w K mg base 2 "springs" ["web", "fall"] spSprings := by
  have karrows := k_arrows (P := P) (w := w) (base := base) T
  refine T.dsprings.keeps scsprings (fun vs H Q E h => ?_) (fun fa cdv A outer s H vs Q E hr h => ?_)
  · obtain ⟨wv, fv, n, T, x, rfl, _⟩ := h
    rfl
  obtain ⟨wv, fv, n, W, f, rfl, hw, hf, hl, hm, hnm, q⟩ := h
  obtain ⟨a, t, tv, rfl, ha, ht, hi⟩ := id hw
  refine ⟨_, (pss_cons (ps_set (i := 2) scsprings.nd rfl (.inr rfl) (pe_lc (own := [("begin", 3), ("end", 4)]) (g := (gTup K 2 (gCons (gName 3) (gCons (gName 4) gNil)))) (tt := tYes) rfl scsprings.nd (pi_list (pe_k karrows (hr.mono (by decide)) (pa_cons (pv 0) (pa_cons (pv 1) pa_nil)))) (blkOk_by (N := Nsprings) (sc := defScope (topS 9)) (by decide +kernel)) (fun _ _ _ _ _ => (pg_tup rfl (pgs_cons (pg_name (i := 3) scsprings.nd rfl (.inl rfl)) (pgs_cons (pg_name (i := 4) scsprings.nd rfl (.inl rfl)) pgs_nil)))) (fun _ _ _ _ _ => pts_nil) (fun _ _ _ _ _ => (pv 4))))
    (pss_one (ps_ret (pe_callTy call_tuple_of (by rfl) T.ztuple (by decide +kernel) (pa_cons (pe_lc (own := [("place", 5)]) (g := (gName 5)) rfl scsprings.nd (pi_range1 (by rfl) T.zrange (pa_cons (pe_ix ix_tup (pv 0) pe_int (fun _ _ => rfl)) pa_nil)) (blkOk_by (N := Nsprings) (sc := defScope (topS 9)) (by decide +kernel)) (fun _ _ _ _ _ => (pg_name (i := 5) scsprings.nd rfl (.inl rfl))) (fun _ _ _ _ _ => pts_one (pt_cmpR (r := rIn K true) op_notIn_seq (pv 5) (pv 2) (by rfl))) (fun _ _ _ _ _ => (pv 5))) pa_nil))))), ?_⟩
  refine ⟨.ref a, rfl, fv, rfl, _, fv, n, W, f, rfl, hw, hf, hl, hm, fun H1 l s1 nl ⟨us, hus, hit⟩ => ⟨l, rfl, ⟨us, SqL.of hus⟩, fun D hD => ?_⟩⟩
  have hul := paired_len hit
  rw [List.length_map, arr_len hl] at hul
  refine lc_it walk_list (fun i H' => Same H1 H' ∧ H' D = some (.lst ((((arr W f).map fun e => (e.2 : Int)).take i).map V.int))) ⟨same_new hD, upd_same⟩
    (fun i H' hi' p => SqL.of (p.1 _ _ hus)) (fun i y H0 H2 hi' p yy => ?_) (fun H2 p => ?_)
  · obtain ⟨sm, hD'⟩ := p
    obtain ⟨rfl, ey⟩ := yy
    obtain ⟨e1, e2, p, h1, rfl, hp⟩ := tie_at hit ey
    refine ⟨p, [.int (e1 : Nat), .int (e2 : Nat)], rfl, SqT.of (sm _ _ hp), rfl, .int (e1 : Nat), [.int (e2 : Nat)], rfl, .int (e2 : Nat), [], rfl, rfl, rfl, ?_⟩
    refine ⟨.int (e2 : Nat), rfl, _, hD', ?_, same_mut sm hD, ?_⟩
    · exact szlt _ (by rw [List.length_map, List.length_take]; simp [arr_len hl]; omega)
    · have e : ((arr W f).map fun e => (e.2 : Int))[i]? = some (e2 : Int) := by
        rw [List.getElem?_map, h1]
        rfl
      rw [take_snoc e, List.map_append]
      exact upd_same
  · obtain ⟨sm, hD'⟩ := p
    rw [List.take_of_length_le (by simp [arr_len hl, hul])] at hD'
    refine ⟨.ref a, rfl, a, _, 0, .int n, rfl, rfl, SqT.of (sm _ _ (s1 _ _ ha)), rfl, n, rfl, (big62 n (by omega)).1, (big62 n (by omega)).2, fun D2 hD2 => ?_⟩
    refine lc_it walk_r (fun i H' => Same H2 H' ∧ H' D2 = some (.lst ((nz ((List.range i).filter (isSpring (arr W f)))).map V.int))) ⟨same_new hD2, upd_same⟩
      (fun _ _ _ _ => trivial) (fun i y H3 H4 hi' p yy => ?_) (fun H3 p => ?_)
    · obtain ⟨sm2, hE⟩ := p
      obtain ⟨rfl, rfl⟩ := yy
      refine ⟨rfl, ?_⟩
      refine ⟨.int (i : Nat), rfl, .ref D, rfl, D, _, rfl, .inl (SqL.of (sm2 _ _ hD')), rfl, flat_ints _, _, rfl, ?_⟩
      rw [in_ints, if_pos rfl, ← spring_iff]
      refine ite2 (fun e => ?_) (fun e => ?_)
      · refine ⟨.int (i : Nat), rfl, _, hE, ?_, same_mut sm2 hD2, ?_⟩
        · refine szlt _ ?_
          have := List.length_filter_le (isSpring (arr W f)) (List.range i)
          simp [nz] at this ⊢
          omega
        · rw [filter_succ, if_pos e]
          simp only [nz, List.map_append]
          exact upd_same
      · refine ⟨sm2, ?_⟩
        rw [filter_succ, if_neg e]
        exact hE
    · obtain ⟨sm2, hE⟩ := p
      refine ⟨D2, _, rfl, .inl ⟨SqL.of hE, fun c hc => ?_⟩⟩
      exact q _ _ (same_step ((s1.trans sm).trans sm2) hc) ⟨c, rfl, upd_same⟩
end
end K40

set_option Elab.async false
set_option linter.all false
set_option maxRecDepth 100000
set_option maxHeartbeats 4000000
namespace K40
open PySem PySem.Spec PyProof.Rows L2
section
variable {P : Program} {w : World} {K : PySem.W.Frag} {mg : Str → Option Value} {base : Heap}
/-! ### turned_about -/
abbrev Nturnedabout : List Str := ["web", "fall", "place", "k"]
theorem scturnedabout : FnScope Nturnedabout ["web", "fall", "place"] (defScope (topS 10)) := ⟨rfl, rfl, rfl, by decide +kernel, rfl, by decide +kernel, by decide +kernel⟩
-- 0 web 1 fall 2 place 3 k
def spTurned : Sp := fun vs H Q _ => ∃ (wv fv : V) (p n : Nat) (T : List (Nat × Nat)) (f : List Bool), vs = [wv, fv, .int (p : Nat)] ∧ IsWeb H wv n T ∧ Tup H fv (bzs f) ∧ T.length = f.length ∧ T.length ≤ 1000 ∧
  ∀ H' v, Same H H' → Tup H' v (bzs (turnAt T f p)) → Q v H'
theorem xor_bz (a b : Bool) : Builtin.bitXor (bz a) (if b = true then 1 else 0) = bz (a != b) := by
  cases a <;> cases b <;> rfl
theorem turn_at {T : List (Nat × Nat)} {f : List Bool} {i a b p : Nat} {d : Bool} (h1 : T[i]? = some (a, b)) (h2 : f[i]? = some d) : (bzs (turnAt T f p))[i]? = some (bz (d != (p == a || p == b))) := by
  simp [bzs, turnAt, List.getElem?_zipWith, h1, h2]
theorem in_pair (p a b : Nat) : inV (.int (p : Nat)) [.int (a : Nat), .int (b : Nat)] = (p == a || p == b) := by
  have e := in_ints (p : Int) [(a : Int), (b : Int)]
  have e2 : inV (.int (p : Nat)) [.int (a : Nat), .int (b : Nat)] = decide ((p : Int) ∈ [(a : Int), (b : Int)]) := e
  rw [e2, Bool.eq_iff_iff]
  simp
  omega
theorem k_turnedabout (T : Tx K mg) : Keeps P w K mg base 1 "turned_about" ["web", "fall", "place"] spTurned := by
  refine T.dturnedabout.keeps scturnedabout (fun vs H Q E h => ?_) (fun fa cdv A outer s H vs Q E hr h => ?_)
  · obtain ⟨wv, fv, p, n, T, f, rfl, _⟩ := h
    rfl
  obtain ⟨wv, fv, p, n, W, f, rfl, hw, hf, hl, hm, q⟩ := h
  obtain ⟨a, t, tv, rfl, ha, ht, hi⟩ := id hw
  obtain ⟨af, rfl, haf⟩ := id hf
  have hlen := paired_len hi
  rw [List.length_map] at hlen
  refine ⟨_, (pss_one (ps_ret (pe_callTy call_tuple_of (by rfl) T.ztuple (by decide +kernel) (pa_cons (pe_lc (own := [("k", 3)]) (g := (gName 3)) (tt := tYes) rfl scturnedabout.nd (pi_range1 (by rfl) T.zrange (pa_cons (pe_callB call_len_seq (by rfl) T.zlen (by decide +kernel) (pa_cons (pv 1) pa_nil)) pa_nil)) (blkOk_by (N := Nturnedabout) (sc := defScope (topS 10)) (by decide +kernel)) (fun _ _ _ _ _ => (pg_name (i := 3) scturnedabout.nd rfl (.inl rfl))) (fun _ _ _ _ _ => pts_nil) (fun _ _ _ _ _ => (pe_op op_xor (pe_ix (r := rIxT K) ix_tup (pv 1) (pv 3) (fun _ _ => rfl)) (pe_callTy call_int1 (by rfl) T.zint (by decide +kernel) (pa_cons (pe_cmpR (r := rIn K false) op_in_seq (pv 2) (pe_ix (r := rIxT K) ix_tup (pe_ix (r := rIxT K) ix_tup (pv 0) pe_int (fun _ _ => rfl)) (pv 3) (fun _ _ => rfl)) (by rfl)) pa_nil))))) pa_nil)))), ?_⟩
  have ef : (((bzs f).map V.int).length : Int) = (f.length : Nat) := by simp [bzs]
  refine ⟨.ref af, rfl, af, _, rfl, .inr (SqT.of haf), (f.length : Nat), by rw [ef], (big62 f.length (by omega)).1, (big62 f.length (by omega)).2, fun D hD => ?_⟩
  refine lc_it walk_r (fun i H' => Same H H' ∧ H' D = some (.lst (((bzs (turnAt W f p)).take i).map V.int))) ⟨same_new hD, upd_same⟩
    (fun _ _ _ _ => trivial) (fun i y H0 H1 hi' pp yy => ?_) (fun H' pp => ?_)
  · obtain ⟨sm, hD'⟩ := pp
    obtain ⟨rfl, rfl⟩ := yy
    have hf1 : f[i]? = some f[i] := List.getElem?_eq_getElem hi'
    have hW : W[i]? = some W[i] := List.getElem?_eq_getElem (by omega)
    obtain ⟨tp, h1, htp⟩ := tie_of (a := W[i].1) (b := W[i].2) hi hW
    refine ⟨rfl, .ref af, rfl, .int (i : Nat), rfl, af, _, (i : Nat), _, rfl, rfl, SqT.of (sm _ _ haf), at_int (bzs_at hf1), .int (p : Nat), rfl,
      .ref a, rfl, a, _, 1, .ref t, rfl, rfl, SqT.of (sm _ _ ha), rfl, .int (i : Nat), rfl, t, _, (i : Nat), .ref tp, rfl, rfl, SqT.of (sm _ _ ht), atI_nat h1,
      tp, _, rfl, .inr (SqT.of (sm _ _ htp)), rfl, rfl, .inr ⟨_, rfl, _, _, rfl, rfl, _, hD', ?_, same_mut sm hD, ?_⟩⟩
    · exact szlt _ (by rw [List.length_map, List.length_take]; simp [bzs, turnAt]; omega)
    · dsimp only
      rw [if_neg Bool.false_ne_true, in_pair, xor_bz, take_snoc (turn_at hW hf1), List.map_append]
      exact upd_same
  · obtain ⟨sm, hD'⟩ := pp
    rw [List.take_of_length_le (by simp [bzs, turnAt]; omega)] at hD'
    exact ⟨D, _, rfl, .inl ⟨SqL.of hD', fun c hc => q _ _ (same_step sm hc) ⟨c, rfl, upd_same⟩⟩⟩
/-! ### common_part, lowest -/
abbrev Ncommonpart : List Str := ["one", "other"]
theorem sccommonpart : FnScope Ncommonpart ["one", "other"] (defScope (topS 21)) := ⟨rfl, rfl, rfl, by decide +kernel, rfl, by decide +kernel, by decide +kernel⟩
-- 0 one 1 other
def spPart : Sp := fun vs H Q _ => ∃ (a b : Nat), vs = [.int (a : Nat), .int (b : Nat)] ∧ Q (.int (Nat.gcd a b : Nat)) H
theorem k_commonpart (T : Tx K mg) : Keeps P w K mg base 1 "common_part" ["one", "other"] spPart := by
  refine T.dcommonpart.keeps sccommonpart (fun vs H Q E h => ?_) (fun fa cdv A outer s H vs Q E hr h => ?_)
  · obtain ⟨a, b, rfl, _⟩ := h
    rfl
  obtain ⟨a, b, rfl, q⟩ := h
  refine ⟨_, (pss_cons (ps_while PassesOwn.never (pt_cmpR op_gt (pv 1) pe_int (nomark _)) (pss_one (ps_par (i := 0) (j := 1) (by rfl) sccommonpart.nd rfl rfl (by decide) rfl rfl (pa_cons (pv 1) (pa_cons (pe_op op_modN (pv 0) (pv 1)) pa_nil)) (by rfl))))
    (pss_one (ps_ret (pv 0)))), ?_⟩
  refine ⟨fun m σ H' => ∃ c d : Nat, σ = [some (.int (c : Nat)), some (.int (d : Nat))] ∧ m = d ∧ H' = H ∧ Nat.gcd c d = Nat.gcd a b, ⟨b, a, b, rfl, rfl, rfl, rfl⟩, fun d σ H' hW => ?_⟩
  obtain ⟨c, _, rfl, rfl, rfl, hg⟩ := hW
  refine ⟨_, rfl, _, _, rfl, rfl, _, rfl, ?_⟩
  refine ite2 (fun e => ?_) (fun e => ?_)
  · have hd : 0 < d := by
      have := of_decide_eq_true e
      omega
    refine ⟨fun σ' H2 => ∃ d' : Nat, d' < d ∧ ∃ c' d2 : Nat, σ' = [some (.int (c' : Nat)), some (.int (d2 : Nat))] ∧ d' = d2 ∧ H2 = H' ∧ Nat.gcd c' d2 = Nat.gcd a b, fun σ' H2 hN => ?_, ?_⟩
    · obtain ⟨d', hlt, c', d2, e1, e2, e3, e4⟩ := hN
      exact ⟨d', hlt, c', d2, e1, e2, e3, e4⟩
    · refine ⟨_, rfl, _, rfl, _, rfl, _, _, rfl, rfl, (by show (d : Int) ≠ 0; omega), _, _, rfl, c % d, Nat.mod_lt _ hd, d, c % d, ?_, rfl, rfl, ?_⟩
      · have e1 : (c : Int).fmod (d : Int) = ((c % d : Nat) : Int) := by
          rw [Int.fmod_eq_emod_of_nonneg _ (by omega)]
          rfl
        dsimp only
        rw [e1]
        rfl
      · rw [← hg, Nat.gcd_comm c d, Nat.gcd_rec d c, Nat.gcd_comm]
  · have hd : d = 0 := by
      have : ¬ ((0 : Int) < (d : Int)) := fun z => e (decide_eq_true z)
      omega
    subst hd
    rw [Nat.gcd_zero_right] at hg
    rw [← hg] at q
    exact ⟨_, rfl, q⟩
abbrev Nlowest : List Str := ["top", "bottom", "part"]
theorem sclowest : FnScope Nlowest ["top", "bottom"] (defScope (topS 22)) := ⟨rfl, rfl, rfl, by decide +kernel, rfl, by decide +kernel, by decide +kernel⟩
-- 0 top 1 bottom 2 part
def spLowest : Sp := fun vs H Q _ => ∃ (a b : Nat), vs = [.int (a : Nat), .int (b : Nat)] ∧ 0 < a ∧ a < 1000 ∧
  ∀ H' v, Same H H' → Tup H' v [((a / Nat.gcd a b : Nat) : Int), ((b / Nat.gcd a b : Nat) : Int)] → Q v H'
theorem fdiv_nat (a g : Nat) : (a : Int).fdiv (g : Int) = ((a / g : Nat) : Int) := by
  rw [Int.fdiv_eq_ediv_of_nonneg _ (by omega)]
  rfl
theorem k_lowest (T : Tx K mg) : Keeps P w K mg base 2 "lowest" ["top", "bottom"] spLowest := by
  have kcommonpart := k_commonpart (P := P) (w := w) (base := base) T
  refine T.dlowest.keeps sclowest (fun vs H Q E h => ?_) (fun fa cdv A outer s H vs Q E hr h => ?_)
  · obtain ⟨a, b, rfl, _⟩ := h
    rfl
  obtain ⟨a, b, rfl, ha, hb, q⟩ := h
  refine ⟨_, (pss_cons (ps_set (i := 2) sclowest.nd rfl (.inl rfl) (pe_k kcommonpart (hr.mono (by decide)) (pa_cons (pv 0) (pa_cons (pv 1) pa_nil))))
    (pss_one (ps_ret (pe_tup (pa_cons (pe_op op_fdivN (pv 0) (pv 2)) (pa_cons (pe_op op_fdivN (pv 1) (pv 2)) pa_nil)))))), ?_⟩
  have g0 : 0 < Nat.gcd a b := Nat.gcd_pos_of_pos_left _ ha
  have g1 : Nat.gcd a b ≤ a := Nat.gcd_le_left _ ha
  have hz : ((Nat.gcd a b : Nat) : Int) ≠ 0 ∧ ((Nat.gcd a b : Nat) : Int).natAbs < 1073741824 := by omega
  refine ⟨_, rfl, _, rfl, a, b, rfl, _, rfl, _, rfl, _, _, rfl, rfl, hz, _, rfl, _, rfl, _, _, rfl, rfl, hz, le2, fun c hc => ?_⟩
  refine q _ _ (same_new hc) ⟨c, rfl, ?_⟩
  dsimp only
  rw [fdiv_nat, fdiv_nat]
  exact upd_same
end
end K40

set_option Elab.async false
set_option linter.all false
set_option maxRecDepth 100000
set_option maxHeartbeats 4000000
namespace K40
open PySem PySem.Spec PyProof.Rows L2
section
variable {P : Program} {w : World} {K : PySem.W.Frag} {mg : Str → Option Value} {base : Heap}
/-! ### along -/
abbrev Nalong : List Str := ["web", "pointing", "ring", "steps", "arrow"]
theorem scalong : FnScope Nalong ["web", "pointing", "ring"] (defScope (topS 12)) := ⟨rfl, rfl, rfl, by decide +kernel, rfl, by decide +kernel, by decide +kernel⟩
-- 0 web 1 pointing 2 ring 3 steps 4 arrow
def spAlong : Sp := fun vs H Q _ => ∃ (wv fv rv : V) (n : Nat) (T : List (Nat × Nat)) (f : List Bool) (R : List Nat), vs = [wv, fv, rv] ∧ IsWeb H wv n T ∧ Tup H fv (bzs f) ∧ T.length = f.length ∧ T.length ≤ 1000 ∧
  Tup H rv (nz R) ∧ 2 ≤ R.length ∧ R.length ≤ 1000 ∧ ∀ H', Same H H' → Q (.int (alongM T f R : Nat)) H'
theorem rot_len (R : List Nat) : (rot R).length = R.length := by
  simp [rot]
  omega
theorem cyc_len (R : List Nat) : (cyc R).length = R.length := by
  simp [cyc, rot_len]
theorem cyc_at {R : List Nat} {i a b : Nat} (h1 : R[i]? = some a) (h2 : (rot R)[i]? = some b) : (cyc R)[i]? = some (a, b) := by
  simp [cyc, List.getElem?_zip_eq_some, h1, h2]
theorem steps_items {H : Hp} {R : List Nat} {ads : List Addr} (h : PairsUp H ((nz R).map V.int) ((nz (rot R)).map V.int) ads) (hl : ads.length = R.length) : Items H (ads.map V.ref) ((cyc R).map pz) := by
  have key : ∀ (k : Nat), k ≤ R.length → Items H ((ads.take k).map V.ref) (((cyc R).take k).map pz) := by
    intro k
    induction k with
    | zero =>
      intro _
      exact .nil
    | succ k ih =>
      intro hk
      have hlt : k < ads.length := by omega
      have ha : ads[k]? = some ads[k] := List.getElem?_eq_getElem hlt
      obtain ⟨x, y, hx, hy, hp⟩ := h k _ ha
      have h1 : R[k]? = some R[k] := List.getElem?_eq_getElem (by omega)
      have h2 : (rot R)[k]? = some ((rot R)[k]'(by rw [rot_len]; omega)) := List.getElem?_eq_getElem (by rw [rot_len]; omega)
      rw [List.getElem?_map, nz_at h1] at hx
      rw [List.getElem?_map, nz_at h2] at hy
      cases hx
      cases hy
      rw [take_snoc ha, take_snoc (cyc_at h1 h2), List.map_append, List.map_append]
      exact paired_snoc ⟨_, rfl, hp⟩ (ih (by omega))
  have e := key R.length (Nat.le_refl _)
  rw [List.take_of_length_le (by omega), List.take_of_length_le (by rw [cyc_len]; exact Nat.le_refl _)] at e
  exact e
theorem pz_mem (e : Nat × Nat) (l : List (Nat × Nat)) : decide (pz e ∈ l.map pz) = decide (e ∈ l) := by
  have h : pz e ∈ l.map pz ↔ e ∈ l := by
    rw [List.mem_map]
    constructor
    · rintro ⟨d, hd, he⟩
      have : d = e := by
        obtain ⟨a, b⟩ := d
        obtain ⟨c, g⟩ := e
        simp [pz] at he
        obtain ⟨h1, h2⟩ := he
        have h1' : a = c := by omega
        have h2' : b = g := by omega
        rw [h1', h2']
      rw [← this]
      exact hd
    · intro he
      exact ⟨e, he, rfl⟩
  by_cases g : e ∈ l
  · rw [decide_eq_true g, decide_eq_true (h.mpr g)]
  · rw [decide_eq_false g, decide_eq_false (fun z => g (h.mp z))]
theorem k_along (T : Tx K mg) : Keeps P w K mg base 2 "along" ["web", "pointing", "ring"] spAlong := by
  have karrows := k_arrows (P := P) (w := w) (base := base) T
  refine T.dalong.keeps scalong (fun vs H Q E h => ?_) (fun fa cdv A outer s H vs Q E hr h => ?_)
  · obtain ⟨wv, fv, rv, n, T, f, R, rfl, _⟩ := h
    rfl
  obtain ⟨wv, fv, rv, n, W, f, R, rfl, hw, hf, hl, hm, hR, h2, h1000, q⟩ := h
  obtain ⟨ar, rfl, har⟩ := id hR
  have hu65 := hu65_of hr
  refine ⟨_, (pss_cons (ps_set (i := 3) scalong.nd rfl (.inr rfl) (pe_listZip (by rfl) T.zlist (by rfl) T.zzip (pa_cons (pv 2) (pa_cons (pe_op op_catT (pe_slice sl_tup (pv 2) (po_some pe_int) po_none) (pe_slice sl_tup (pv 2) po_none (po_some pe_int))) pa_nil))))
    (pss_one (ps_ret (pe_callB call_len_seq (by rfl) T.zlen (by decide +kernel) (pa_cons (pe_lc (own := [("arrow", 4)]) (g := (gName 4)) rfl scalong.nd (pi_list (pe_k karrows (hr.mono (by decide)) (pa_cons (pv 0) (pa_cons (pv 1) pa_nil)))) (blkOk_by (N := Nalong) (sc := defScope (topS 12)) (by decide +kernel)) (fun _ _ _ _ _ => (pg_name (i := 4) scalong.nd rfl (.inl rfl))) (fun _ _ _ _ _ => pts_one (pt_cmpR (r := rInD K) (op_inD hu65) (pv 4) (pv 3) (by rfl))) (fun _ _ _ _ _ => (pv 4))) pa_nil))))), ?_⟩
  have lR : ((nz R).map V.int).length = R.length := by simp [nz]
  -- steps
  refine ⟨.ref ar, rfl, .ref ar, rfl, 1, rfl, ar, _, rfl, SqT.of har, ?_, fun c1 n1 => ?_⟩
  · rw [show HT.sIx ((nz R).map V.int).length 0 (some 1) = min 1 ((nz R).map V.int).length from HT.sIx_nat _ 0 1]
    omega
  rw [cut_drop1]
  have a1 : upd H c1 (.tup (((nz R).map V.int).drop 1)) ar = some (.tup ((nz R).map V.int)) := at_new har n1
  refine ⟨.ref ar, rfl, 1, rfl, ar, _, rfl, SqT.of a1, ?_, fun c2 n2 => ?_⟩
  · rw [show HT.sIx ((nz R).map V.int).length ((nz R).map V.int).length (some 1) = min 1 ((nz R).map V.int).length from HT.sIx_nat _ _ 1]
    omega
  rw [cut_take1]
  have a2 := at_new (o := .tup (((nz R).map V.int).take 1)) a1 n2
  have b2 : upd (upd H c1 (.tup (((nz R).map V.int).drop 1))) c2 (.tup (((nz R).map V.int).take 1)) c1 = some (.tup (((nz R).map V.int).drop 1)) := at_new upd_same n2
  refine ⟨c1, c2, _, _, rfl, rfl, SqT.of b2, SqT.of upd_same, ?_, ?_, fun z => ?_, fun _ c3 n3 => ?_⟩
  · intro z
    have := congrArg List.length z
    rw [List.length_drop, lR, List.length_nil] at this
    omega
  · rw [List.length_drop, List.length_take, lR]
    exact sz _ (by omega)
  · have := congrArg List.length z
    rw [List.length_take, lR, List.length_nil] at this
    omega
  have er : ((nz R).map V.int).drop 1 ++ ((nz R).map V.int).take 1 = (nz (rot R)).map V.int := by
    simp [nz, rot, List.map_drop, List.map_take]
  rw [er]
  have s3 : Same H (upd (upd (upd H c1 (.tup (((nz R).map V.int).drop 1))) c2 (.tup (((nz R).map V.int).take 1))) c3 (.tup ((nz (rot R)).map V.int))) := same_step (same_step (same_new n1) n2) n3
  refine ⟨ar, c3, _, _, rfl, SqT.of (s3 _ _ har), SqT.of upd_same, ?_, ?_, fun S H4 ads nS s4 hS hal hP => ?_⟩
  · simp [nz, rot_len]
  · rw [lR]
    exact szlt _ (by omega)
  rw [lR] at hal
  have st : LstT H4 S ((cyc R).map pz) := ⟨_, hS, steps_items hP hal⟩
  have w4 := s3.trans s4
  -- the count
  refine ⟨wv, rfl, fv, rfl, wv, fv, n, W, f, rfl, hw.mono (.of w4), hf.mono (.of w4), hl, hm, fun H5 l s5 nl ⟨us, hus, hit⟩ => ⟨l, rfl, ⟨us, SqL.of hus⟩, fun D hD => ?_⟩⟩
  have hul := paired_len hit
  rw [List.length_map] at hul
  refine lc_it walk_list (fun i H' => Same H5 H' ∧ ∃ zs, H' D = some (.lst zs) ∧ zs.length = (((arr W f).take i).filter fun e => decide (e ∈ cyc R)).length) ⟨same_new hD, [], upd_same, rfl⟩
    (fun i H' hi' p => SqL.of (p.1 _ _ hus)) (fun i y H0 H2 hi' p yy => ?_) (fun H2 p => ?_)
  · obtain ⟨sm, zs, hD', hz⟩ := p
    obtain ⟨rfl, ey⟩ := yy
    obtain ⟨xs, hxs, hty⟩ := paired_at hit ey
    rw [List.getElem?_map] at hxs
    obtain ⟨e0, he0, rfl⟩ := Option.map_eq_some_iff.mp hxs
    have st2 : LstT H2 S ((cyc R).map pz) := by
      obtain ⟨us2, q1, q2⟩ := st
      exact ⟨us2, (s5.trans sm) _ _ q1, q2.mono (.of (s5.trans sm))⟩
    refine ⟨rfl, y, rfl, .ref S, rfl, _, _, dp_tup (hty.mono (.of sm)), dp_lst st2, shaped_dT _, shaped_dTs _, _, rfl, ?_⟩
    rw [any_dT, pz_mem]
    have hb : zs.length ≤ 1000 := by
      rw [hz]
      refine Nat.le_trans (List.length_filter_le _ _) ?_
      rw [List.length_take, arr_len hl]
      omega
    refine ite2 (fun e => ?_) (fun e => ?_)
    · refine ⟨y, rfl, zs, hD', szlt _ (by omega), same_mut sm hD, _, upd_same, ?_⟩
      rw [take_snoc he0, List.filter_append, List.length_append, List.length_append, hz]
      simp [of_decide_eq_true e]
    · refine ⟨sm, zs, hD', ?_⟩
      rw [take_snoc he0, List.filter_append, List.length_append, hz]
      have e' : ¬ e0 ∈ cyc R := fun z => e (decide_eq_true z)
      simp [e']
  · obtain ⟨sm, zs, hD', hz⟩ := p
    rw [List.take_of_length_le (by omega)] at hz
    refine ⟨D, zs, rfl, .inl (SqL.of hD'), ?_⟩
    rw [hz]
    exact q _ ((w4.trans s5).trans sm)
end
end K40

set_option Elab.async false
set_option linter.all false
set_option maxRecDepth 100000
set_option maxHeartbeats 4000000
namespace K40
open PySem PySem.Spec PyProof.Rows L2
section
variable {P : Program} {w : World} {K : PySem.W.Frag} {mg : Str → Option Value} {base : Heap}
/-! ### ring_worth -/
abbrev Nringworth : List Str := ["web", "fall", "ring", "some"]
theorem scringworth : FnScope Nringworth ["web", "fall", "ring"] (defScope (topS 24)) := ⟨rfl, rfl, rfl, by decide +kernel, rfl, by decide +kernel, by decide +kernel⟩
-- 0 web 1 fall 2 ring 3 some
def spRingWorth : Sp := fun vs H Q _ => ∃ (wv fv rv : V) (n : Nat) (T : List (Nat × Nat)) (f : List Bool) (R : List Nat), vs = [wv, fv, rv] ∧ IsWeb H wv n T ∧ Tup H fv (bzs f) ∧ T.length = f.length ∧ T.length ≤ 1000 ∧
  Tup H rv (nz R) ∧ 2 ≤ R.length ∧ R.length < 1000 ∧ alongM T f R ≤ R.length ∧
  ∀ H' v, Same H H' → Tup H' v [((R.length / Nat.gcd R.length (min (alongM T f R) (R.length - alongM T f R)) : Nat) : Int), ((min (alongM T f R) (R.length - alongM T f R) / Nat.gcd R.length (min (alongM T f R) (R.length - alongM T f R)) : Nat) : Int)] → Q v H'
theorem k_ringworth (T : Tx K mg) : Keeps P w K mg base 3 "ring_worth" ["web", "fall", "ring"] spRingWorth := by
  have kalong := k_along (P := P) (w := w) (base := base) T
  have klowest := k_lowest (P := P) (w := w) (base := base) T
  refine T.dringworth.keeps scringworth (fun vs H Q E h => ?_) (fun fa cdv A outer s H vs Q E hr h => ?_)
  · obtain ⟨wv, fv, rv, n, T, f, R, rfl, _⟩ := h
    rfl
  obtain ⟨wv, fv, rv, n, W, f, R, rfl, hw, hf, hl, hm, hR, h2, h1000, ha, q⟩ := h
  obtain ⟨ar, rfl, har⟩ := id hR
  refine ⟨_, (pss_cons (ps_set (i := 3) scringworth.nd rfl (.inl rfl) (pe_k kalong (hr.mono (by decide)) (pa_cons (pv 0) (pa_cons (pv 1) (pa_cons (pv 2) pa_nil)))))
    (pss_one (ps_ret (pe_k klowest (hr.mono (by decide)) (pa_cons (pe_callB call_len_seq (by rfl) T.zlen (by decide +kernel) (pa_cons (pv 2) pa_nil)) (pa_cons (pe_callB (call_min2 rfl) (by rfl) T.zmin (by decide +kernel) (pa_cons (pv 3) (pa_cons (pe_op op_sub (pe_callB call_len_seq (by rfl) T.zlen (by decide +kernel) (pa_cons (pv 2) pa_nil)) (pv 3)) pa_nil))) pa_nil)))))), ?_⟩
  have lR : ((nz R).map V.int).length = R.length := by simp [nz]
  refine ⟨wv, rfl, fv, rfl, .ref ar, rfl, wv, fv, .ref ar, n, W, f, R, rfl, hw, hf, hl, hm, hR, h2, by omega, fun H1 s1 => ?_⟩
  refine ⟨.ref ar, rfl, ar, _, rfl, .inr (SqT.of (s1 _ _ har)), _, rfl, .ref ar, rfl, ar, _, rfl, .inr (SqT.of (s1 _ _ har)), _, rfl, _, _, rfl, rfl, _, _, rfl,
    R.length, min (alongM W f R) (R.length - alongM W f R), ?_, by omega, h1000, fun H2 v s2 hv => q H2 v (s1.trans s2) hv⟩
  rw [lR]
  have e : (if (R.length : Int) - (alongM W f R : Int) < (alongM W f R : Int) then (R.length : Int) - (alongM W f R : Int) else (alongM W f R : Int)) = ((min (alongM W f R) (R.length - alongM W f R) : Nat) : Int) := by
    by_cases g : (R.length : Int) - (alongM W f R : Int) < (alongM W f R : Int)
    · rw [if_pos g]
      omega
    · rw [if_neg g]
      omega
  exact congrArg (fun z : Int => [V.int (R.length : Nat), V.int z]) e
theorem paired_append {α β : Type} {R : α → β → Prop} : ∀ {l l2 : List α} {m m2 : List β}, Paired R l m → Paired R l2 m2 → Paired R (l ++ l2) (m ++ m2)
  | _, _, _, _, .nil, h => h
  | _, _, _, _, .cons r t, h => .cons r (paired_append t h)
/-! ### least_steps -/
abbrev Nleaststeps : List Str := ["web", "fall", "top", "bottom", "found", "start", "end"]
theorem scleaststeps : FnScope Nleaststeps ["web", "fall", "top", "bottom"] (defScope (topS 25)) := ⟨rfl, rfl, rfl, by decide +kernel, rfl, by decide +kernel, by decide +kernel⟩
-- 0 web 1 fall 2 top 3 bottom 4 found 5 start 6 end
def spLeast : Sp := fun vs H Q _ => ∃ (wv fv : V) (t b : Int) (n : Nat) (T : List (Nat × Nat)) (f : List Bool), vs = [wv, fv, .int t, .int b] ∧ IsWeb H wv n T ∧ Tup H fv (bzs f) ∧ T.length = f.length ∧ T.length ≤ 1000 ∧
  ∀ H' l, Same H H' → H l = none → LstT H' l ((rowsM (arr T f) t b).map rz) → Q (.ref l) H'
theorem rows_take {A : List (Nat × Nat)} {t b : Int} {i : Nat} {e : Nat × Nat} (h : A[i]? = some e) : rowsM (A.take (i + 1)) t b = rowsM (A.take i) t b ++ [(e.1, e.2, b), (e.2, e.1, b - t)] := by
  rw [take_snoc h]
  simp [rowsM]
theorem rows_len (A : List (Nat × Nat)) (t b : Int) : (rowsM A t b).length = 2 * A.length := by
  induction A with
  | nil => rfl
  | cons a r ih =>
    have e : rowsM (a :: r) t b = [(a.1, a.2, b), (a.2, a.1, b - t)] ++ rowsM r t b := rfl
    rw [e, List.length_append, ih]
    simp
    omega
theorem k_leaststeps (T : Tx K mg) : Keeps P w K mg base 2 "least_steps" ["web", "fall", "top", "bottom"] spLeast := by
  have karrows := k_arrows (P := P) (w := w) (base := base) T
  refine T.dleaststeps.keeps scleaststeps (fun vs H Q E h => ?_) (fun fa cdv A outer s H vs Q E hr h => ?_)
  · obtain ⟨wv, fv, t, b, n, T, f, rfl, _⟩ := h
    rfl
  obtain ⟨wv, fv, t, b, n, W, f, rfl, hw, hf, hl, hm, q⟩ := h
  refine ⟨_, (pss_cons (ps_set (i := 4) scleaststeps.nd rfl (.inl rfl) (pe_lst pa_nil))
    (pss_cons (ps_for PassesOwn.never rfl (pi_list (pe_k karrows (hr.mono (by decide)) (pa_cons (pv 0) (pa_cons (pv 1) pa_nil)))) (pg_tup rfl (pgs_cons (pg_name (i := 5) scleaststeps.nd rfl (.inl rfl)) (pgs_cons (pg_name (i := 6) scleaststeps.nd rfl (.inl rfl)) pgs_nil))) (pss_cons (ps_expr (pe_bm PySem.F.plainAttrs_list PySem.F.slot_list_append PySem.F.type_list_append mt_append (pv 4) (pa_cons (pe_tup (pa_cons (pv 5) (pa_cons (pv 6) (pa_cons (pv 3) pa_nil)))) pa_nil)))
    (pss_one (ps_expr (pe_bm PySem.F.plainAttrs_list PySem.F.slot_list_append PySem.F.type_list_append mt_append (pv 4) (pa_cons (pe_tup (pa_cons (pv 6) (pa_cons (pv 5) (pa_cons (pe_op op_sub (pv 3) (pv 2)) pa_nil)))) pa_nil))))))
    (pss_one (ps_ret (pv 4))))), ?_⟩
  refine ⟨Nat.zero_le _, fun o no => ?_⟩
  refine ⟨wv, rfl, fv, rfl, wv, fv, n, W, f, rfl, hw.mono (.new no), hf.mono (.new no), hl, hm, fun H1 l s1 nl ⟨us, hus, hit⟩ => ⟨l, rfl, ⟨us, SqL.of hus⟩, ?_⟩⟩
  have hul := paired_len hit
  rw [List.length_map, arr_len hl] at hul
  have nol : l ≠ o := fun z => by
    rw [z, upd_same] at nl
    cases nl
  refine for_it (walk_list (xs := us)) (fun i σ H' => ∃ y5 y6, σ = [some wv, some fv, some (.int t), some (.int b), some (.ref o), y5, y6] ∧ Same H H' ∧ H' l = some (.lst us) ∧ TupSame H1 H' ∧ LstT H' o ((rowsM ((arr W f).take i) t b).map rz))
    ⟨none, none, rfl, (same_new no).trans s1, hus, .refl _, [], s1 _ _ upd_same, .nil⟩ (fun i σ H' hi p => ?_) (fun i x σ H0 H2 hi p y => ?_) (fun σ H' p => ?_)
  · obtain ⟨y5, y6, _, _, e, _⟩ := p
    exact SqL.of e
  · obtain ⟨y5, y6, rfl, sm, hl0, ts, ⟨rs, ho, hrs⟩⟩ := p
    obtain ⟨rfl, ey⟩ := y
    obtain ⟨e1, e2, pp, h1, rfl, hp⟩ := tie_at hit ey
    refine ⟨pp, [.int (e1 : Nat), .int (e2 : Nat)], rfl, SqT.of (ts _ _ hp), rfl, .int (e1 : Nat), [.int (e2 : Nat)], rfl, .int (e2 : Nat), [], rfl, rfl, ?_⟩
    have hz : rs.length ≤ 2000 := by
      have e := paired_len hrs
      rw [List.length_map, rows_len, List.length_take, arr_len hl] at e
      omega
    refine ⟨.ref o, rfl, .inl ⟨rfl, _, SqL.of ho⟩, .int (e1 : Nat), rfl, .int (e2 : Nat), rfl, .int b, rfl, le3, fun c hc => ?_⟩
    have ho1 := at_new (o := .tup [.int (e1 : Nat), .int (e2 : Nat), .int b]) ho hc
    refine ⟨o, rs, .ref c, rfl, rfl, ho1, szlt _ (by omega), ?_⟩
    refine ⟨.ref o, rfl, .inl ⟨rfl, _, SqL.of upd_same⟩, .int (e2 : Nat), rfl, .int (e1 : Nat), rfl, .int b, rfl, .int t, rfl, _, _, rfl, rfl, le3, fun d hd => ?_⟩
    refine ⟨o, rs ++ [.ref c], .ref d, rfl, rfl, at_new upd_same hd, szlt _ (by rw [List.length_append, List.length_singleton]; omega), ?_⟩
    have t1 : TupSame H2 (upd (upd (upd (upd H2 c (.tup [.int (e1 : Nat), .int (e2 : Nat), .int b])) o (.lst (rs ++ [.ref c]))) d (.tup [.int (e2 : Nat), .int (e1 : Nat), .int (b - t)])) o (.lst ((rs ++ [.ref c]) ++ [.ref d]))) :=
      (((TupSame.new hc).trans (TupSame.lst ho1)).trans (TupSame.new hd)).trans (TupSame.lst (at_new upd_same hd))
    refine ⟨_, _, rfl, same_mut (same_step (same_mut (same_step sm hc) no) hd) no, ?_, ts.trans t1, _, upd_same, ?_⟩
    · rw [upd_ne nol, upd_ne (ne_of_none (by rw [upd_ne nol]; exact at_new hl0 hc) hd), upd_ne nol]
      exact at_new hl0 hc
    · rw [rows_take h1, List.map_append]
      have e : rs ++ [.ref c] ++ [.ref d] = rs ++ [.ref c, .ref d] := List.append_assoc rs [.ref c] [.ref d]
      have h2 := paired_append (hrs.mono t1) (l2 := [V.ref c, .ref d]) (m2 := [(e1, e2, b), (e2, e1, b - t)].map rz) (.cons ⟨c, rfl, ?_⟩ (.cons ⟨d, rfl, ?_⟩ .nil))
      · rw [e] at h2 ⊢
        exact h2
      · exact at_mut (at_new (at_mut upd_same ho1 (fun z => nomatch z)) hd) (at_new upd_same hd) (fun z => nomatch z)
      · exact at_mut upd_same (at_new upd_same hd) (fun z => nomatch z)
  · obtain ⟨y5, y6, rfl, sm, hl0, ts, hL⟩ := p
    rw [List.take_of_length_le (by rw [arr_len hl]; omega)] at hL
    exact ⟨.ref o, rfl, q _ _ sm no hL⟩
/-! ### ring_met -/
abbrev Nringmet : List Str := ["came", "place", "many", "turn", "ring"]
theorem scringmet : FnScope Nringmet ["came", "place", "many"] (defScope (topS 26)) := ⟨rfl, rfl, rfl, by decide +kernel, rfl, by decide +kernel, by decide +kernel⟩
-- 0 came 1 place 2 many 3 turn 4 ring
def spRingMet : Sp := fun vs H Q _ => ∃ (ca : Addr) (C : List Nat) (p m k : Nat), vs = [.ref ca, .int (p : Nat), .int (m : Nat)] ∧ H ca = some (.lst ((nz C).map V.int)) ∧ (∀ v ∈ C, v < C.length) ∧ p < C.length ∧ m ≤ 1000 ∧
  1 ≤ k ∧ k ≤ 1000 ∧ iterC C k (iterC C m p) = iterC C m p ∧ (∀ j, 0 < j → j < k → iterC C j (iterC C m p) ≠ iterC C m p) ∧
  ∀ H' v, Same H H' → Tup H' v (nz (((List.range k).map fun j => iterC C j (iterC C m p)).reverse)) → Q v H'
theorem iter_lt {C : List Nat} (h : ∀ v ∈ C, v < C.length) {p : Nat} (hp : p < C.length) : ∀ j, iterC C j p < C.length
  | 0 => hp
  | j + 1 => by
    have e : iterC C (j + 1) p = C.getD (iterC C j p) 0 := rfl
    have hj := iter_lt h hp j
    rw [e, List.getD_eq_getElem?_getD, List.getElem?_eq_getElem hj]
    exact h _ (List.getElem_mem hj)
theorem iter_at {C : List Nat} (h : ∀ v ∈ C, v < C.length) {p : Nat} (hp : p < C.length) (j : Nat) : atI ((nz C).map V.int) (iterC C j p : Nat) = some (.int (iterC C (j + 1) p : Nat)) := by
  have hj := iter_lt h hp j
  refine at_int (nz_at ?_)
  have e : iterC C (j + 1) p = C.getD (iterC C j p) 0 := rfl
  rw [e, List.getD_eq_getElem?_getD, List.getElem?_eq_getElem hj]
  rfl
theorem k_ringmet (T : Tx K mg) : Keeps P w K mg base 1 "ring_met" ["came", "place", "many"] spRingMet := by
  refine T.dringmet.keeps scringmet (fun vs H Q E h => ?_) (fun fa cdv A outer s H vs Q E hr h => ?_)
  · obtain ⟨ca, C, p, m, k, rfl, _⟩ := h
    rfl
  obtain ⟨ca, C, p, m, k, rfl, hC, hall, hp, hm, k1, k2, per, least, q⟩ := h
  refine ⟨_, (pss_cons (ps_for PassesOwn.never rfl (pi_range1 (by rfl) T.zrange (pa_cons (pv 2) pa_nil)) (pg_name (i := 3) scringmet.nd rfl (.inl rfl)) (pss_one (ps_set (i := 1) scringmet.nd rfl (.inl rfl) (pe_ix ix_list (pv 0) (pv 1) (fun _ _ => rfl)))))
    (pss_cons (ps_set (i := 4) scringmet.nd rfl (.inl rfl) (pe_lst (pa_cons (pv 1) pa_nil)))
    (pss_cons (ps_while PassesOwn.never (pt_cmpR op_ne (pe_ix ix_list (pv 0) (pe_ix ix_list (pv 4) (pe_un un_neg pe_int) (fun _ _ => rfl)) (fun _ _ => rfl)) (pv 1) (nomark _)) (pss_one (ps_expr (pe_bm PySem.F.plainAttrs_list PySem.F.slot_list_append PySem.F.type_list_append mt_append (pv 4) (pa_cons (pe_ix ix_list (pv 0) (pe_ix ix_list (pv 4) (pe_un un_neg pe_int) (fun _ _ => rfl)) (fun _ _ => rfl)) pa_nil)))))
    (pss_cons (ps_expr (pe_bm0 PySem.F.plainAttrs_list PySem.F.slot_list_reverse PySem.F.type_list_reverse mt_reverse (pv 4)))
    (pss_one (ps_ret (pe_callTy call_tuple_of (by rfl) T.ztuple (by decide +kernel) (pa_cons (pv 4) pa_nil)))))))), ?_⟩
  refine ⟨.int (m : Nat), rfl, (m : Nat), rfl, (big62 m (by omega)).1, (big62 m (by omega)).2, ?_⟩
  refine for_it walk_r (fun i σ H' => ∃ y, σ = [some (.ref ca), some (.int (iterC C i p : Nat)), some (.int (m : Nat)), y, none] ∧ H' = H) ⟨none, rfl, rfl⟩ (fun _ _ _ _ _ => trivial) (fun i x σ H0 H1 hi pp y => ?_) (fun σ H' pp => ?_)
  · obtain ⟨y3, rfl, rfl⟩ := pp
    obtain ⟨rfl, rfl⟩ := y
    exact ⟨.ref ca, rfl, .int (iterC C i p : Nat), rfl, ca, _, (iterC C i p : Nat), _, rfl, rfl, SqL.of hC, iter_at hall hp i, _, rfl, rfl⟩
  · obtain ⟨y3, rfl, rfl⟩ := pp
    have hq : iterC C m p < C.length := iter_lt hall hp m
    generalize hqe : iterC C m p = r at *
    refine ⟨.int (r : Nat), rfl, Nat.le_add_left 1 _, fun o no => ?_⟩
    have l0 : [V.int (r : Nat)] = (nz ((List.range 1).map fun j => iterC C j r)).map V.int := rfl
    refine ⟨fun μ σ H2 => ∃ j, μ = k - j ∧ j + 1 ≤ k ∧ σ = [some (.ref ca), some (.int (r : Nat)), some (.int (m : Nat)), y3, some (.ref o)] ∧ Same H' H2 ∧ H2 o = some (.lst ((nz ((List.range (j + 1)).map fun i => iterC C i r)).map V.int)),
      ⟨k, 0, rfl, k1, rfl, same_new no, upd_same⟩, fun μ σ H2 hW => ?_⟩
    obtain ⟨j, rfl, hj, rfl, sm, ho⟩ := hW
    have last : atI ((nz ((List.range (j + 1)).map fun i => iterC C i r)).map V.int) (-1) = some (.int (iterC C j r : Nat)) := by
      rw [List.range_succ]
      simp only [nz, List.map_append]
      exact atI_last _ _
    have hC2 := sm _ _ hC
    refine ⟨.ref ca, rfl, .ref o, rfl, 1, rfl, o, _, -1, _, rfl, rfl, SqL.of ho, last, ca, _, (iterC C j r : Nat), _, rfl, rfl, SqL.of hC2, iter_at hall hq j, .int (r : Nat), rfl, rfl, _, rfl, ?_⟩
    by_cases g : iterC C (j + 1) r = r
    · have hjk : j + 1 = k := by
        by_cases hlt : j + 1 < k
        · exact absurd g (least (j + 1) (by omega) hlt)
        · omega
      have e : (!decide (V.int ((iterC C (j + 1) r : Nat) : Int) = V.int ((r : Nat) : Int))) = false := by
        rw [g]
        simp
      rw [e]
      refine ⟨.ref o, rfl, .inl ⟨rfl, _, SqL.of ho⟩, o, _, rfl, rfl, ho, ?_⟩
      refine ⟨.ref o, rfl, o, _, rfl, .inl ⟨SqL.of upd_same, fun c hc => ?_⟩⟩
      refine q _ _ (same_step (same_mut sm no) hc) ⟨c, rfl, ?_⟩
      rw [hjk]
      have e2 : ((nz ((List.range k).map fun i => iterC C i r)).map V.int).reverse = (nz ((List.range k).map fun j => iterC C j r).reverse).map V.int := by
        simp only [nz, List.map_reverse]
      rw [e2]
      exact upd_same
    · have hjk : j + 2 ≤ k := by
        by_cases hlt : j + 1 = k
        · exact absurd (by rw [hlt]; exact per) g
        · omega
      have e : (!decide (V.int ((iterC C (j + 1) r : Nat) : Int) = V.int ((r : Nat) : Int))) = true := by
        have : ¬ V.int ((iterC C (j + 1) r : Nat) : Int) = V.int ((r : Nat) : Int) := fun z => by
          injection z with z
          exact g (by omega)
        simp [this]
      rw [e]
      refine ⟨fun σ' H3 => ∃ j', k - j' < k - j ∧ j' + 1 ≤ k ∧ σ' = [some (.ref ca), some (.int (r : Nat)), some (.int (m : Nat)), y3, some (.ref o)] ∧ Same H' H3 ∧ H3 o = some (.lst ((nz ((List.range (j' + 1)).map fun i => iterC C i r)).map V.int)),
        fun σ' H3 ⟨j', h1, h2⟩ => ⟨k - j', h1, j', rfl, h2⟩, ?_⟩
      refine ⟨.ref o, rfl, .inl ⟨rfl, _, SqL.of ho⟩, .ref ca, rfl, .ref o, rfl, 1, rfl, o, _, -1, _, rfl, rfl, SqL.of ho, last, ca, _, (iterC C j r : Nat), _, rfl, rfl, SqL.of hC2, iter_at hall hq j, o, _, _, rfl, rfl, ho, ?_, ?_⟩
      · exact szlt _ (by simp [nz]; omega)
      · refine ⟨j + 1, by omega, hjk, rfl, same_mut sm no, ?_⟩
        have e3 : (nz ((List.range (j + 1 + 1)).map fun i => iterC C i r)).map V.int = (nz ((List.range (j + 1)).map fun i => iterC C i r)).map V.int ++ [.int (iterC C (j + 1) r : Nat)] := by
          rw [List.range_succ (n := j + 1)]
          simp only [nz, List.map_append]
          rfl
        rw [e3]
        exact upd_same
end
end K40

set_option Elab.async false
set_option linter.all false
set_option maxHeartbeats 4000000
/-! Plain lemmas; core Lean alone. -/
namespace K40
/-! ### lists without twins -/
theorem nodup_len {α : Type} [DecidableEq α] : ∀ {l m : List α}, l.Nodup → (∀ x ∈ l, x ∈ m) → l.length ≤ m.length
  | [], _, _, _ => Nat.zero_le _
  | a :: r, m, h, hs => by
    obtain ⟨h1, h2⟩ := List.nodup_cons.mp h
    have ha : a ∈ m := hs a (List.mem_cons_self ..)
    have ih := nodup_len (l := r) (m := m.erase a) h2 fun x hx => by
      have hne : x ≠ a := fun e => h1 (e ▸ hx)
      exact (List.mem_erase_of_ne hne).mpr (hs x (List.mem_cons_of_mem _ hx))
    rw [List.length_erase_of_mem ha] at ih
    have hp : 0 < m.length := List.length_pos_of_mem ha
    show r.length + 1 ≤ m.length
    omega
/-- two of n + 1 numbers below n are alike -/
theorem pigeon (g : Nat → Nat) (n : Nat) (h : ∀ i, i ≤ n → g i < n) : ∃ i j, i < j ∧ j ≤ n ∧ g i = g j := by
  by_cases q : ∃ i j, i < j ∧ j ≤ n ∧ g i = g j
  · exact q
  · exfalso
    have nd : ((List.range (n + 1)).map g).Nodup := by
      rw [List.nodup_iff_pairwise_ne, List.pairwise_map, List.pairwise_iff_getElem]
      intro i j hi hj hij e
      simp only [List.length_range] at hi hj
      simp only [List.getElem_range] at e
      exact q ⟨i, j, hij, by omega, e⟩
    have hl := nodup_len (m := List.range n) nd fun x hx => by
      obtain ⟨i, hi, e⟩ := List.mem_map.mp hx
      have := List.mem_range.mp hi
      rw [← e]
      exact List.mem_range.mpr (h i (by omega))
    simp at hl
    omega
theorem least_of (Q : Nat → Prop) (k : Nat) (h : Q k) : ∃ m, m ≤ k ∧ Q m ∧ ∀ j, j < m → ¬ Q j := by
  induction k using Nat.strongRecOn with
  | _ k ih =>
    by_cases q : ∃ j, j < k ∧ Q j
    · obtain ⟨j, hj, hq⟩ := q
      obtain ⟨m, h1, h2, h3⟩ := ih j hj hq
      exact ⟨m, by omega, h2, h3⟩
    · exact ⟨k, Nat.le_refl _, h, fun j hj hq => q ⟨j, hj, hq⟩⟩
/-! ### a place led back comes round -/
theorem iter_add (C : List Nat) (p i : Nat) : ∀ j, iterC C (i + j) p = iterC C j (iterC C i p)
  | 0 => rfl
  | j + 1 => by
    show C.getD (iterC C (i + j) p) 0 = C.getD (iterC C j (iterC C i p)) 0
    rw [iter_add C p i j]
theorem iter_lt0 {C : List Nat} (h : ∀ v ∈ C, v < C.length) {p : Nat} (hp : p < C.length) : ∀ j, iterC C j p < C.length
  | 0 => hp
  | j + 1 => by
    have hj := iter_lt0 h hp j
    show C.getD (iterC C j p) 0 < C.length
    rw [List.getD_eq_getElem?_getD, List.getElem?_eq_getElem hj]
    exact h _ (List.getElem_mem hj)
theorem period {C : List Nat} (h : ∀ v ∈ C, v < C.length) {p : Nat} (hp : p < C.length) : ∃ k, 1 ≤ k ∧ k ≤ C.length ∧ iterC C k (iterC C C.length p) = iterC C C.length p ∧
    ∀ j, 0 < j → j < k → iterC C j (iterC C C.length p) ≠ iterC C C.length p := by
  obtain ⟨i, j, hij, hj, e⟩ := pigeon (fun i => iterC C i p) C.length fun i _ => iter_lt0 h hp i
  have e1 : iterC C (j - i) (iterC C C.length p) = iterC C C.length p := by
    rw [← iter_add]
    have a1 : C.length + (j - i) = j + (C.length - i) := by omega
    have a2 : C.length = i + (C.length - i) := by omega
    rw [a1, iter_add]
    have e' : iterC C j p = iterC C i p := e.symm
    rw [e', ← iter_add, ← a2]
  obtain ⟨m, m1, ⟨m2, m3⟩, m4⟩ := least_of (fun k => 0 < k ∧ iterC C k (iterC C C.length p) = iterC C C.length p) (j - i) ⟨by omega, e1⟩
  exact ⟨m, m2, by omega, m3, fun j' h1 h2 q => m4 j' h2 ⟨h1, q⟩⟩
/-! ### passes keep lengths -/
theorem relax_len (st : List Int × List Nat × Option Nat) (r : Nat × Nat × Int) : (relax st r).1.length = st.1.length ∧ (relax st r).2.1.length = st.2.1.length := by
  unfold relax
  split <;> simp
theorem fold_len (rows : List (Nat × Nat × Int)) : ∀ st : List Int × List Nat × Option Nat, (rows.foldl relax st).1.length = st.1.length ∧ (rows.foldl relax st).2.1.length = st.2.1.length := by
  induction rows with
  | nil => exact fun st => ⟨rfl, rfl⟩
  | cons r rs ih =>
    intro st
    obtain ⟨h1, h2⟩ := ih (relax st r)
    obtain ⟨h3, h4⟩ := relax_len st r
    exact ⟨h1.trans h3, h2.trans h4⟩
theorem bf_len (rows : List (Nat × Nat × Int)) (n : Nat) : ∀ i, (bfAt rows n i).1.length = n ∧ (bfAt rows n i).2.length = n
  | 0 => by simp [bfAt]
  | i + 1 => by
    obtain ⟨h1, h2⟩ := bf_len rows n i
    obtain ⟨h3, h4⟩ := fold_len rows ((bfAt rows n i).1, (bfAt rows n i).2, none)
    exact ⟨h3.trans h1, h4.trans h2⟩
theorem relax_came {n : Nat} {st : List Int × List Nat × Option Nat} {r : Nat × Nat × Int} (hr : r.1 < n ∧ r.2.1 < n) (h : (∀ v ∈ st.2.1, v < n) ∧ ∀ l, st.2.2 = some l → l < n) :
    (∀ v ∈ (relax st r).2.1, v < n) ∧ ∀ l, (relax st r).2.2 = some l → l < n := by
  unfold relax
  split
  · refine ⟨fun v hv => ?_, fun l e => ?_⟩
    · rcases List.mem_or_eq_of_mem_set hv with q | q
      · exact h.1 v q
      · rw [q]
        exact hr.1
    · cases e
      exact hr.2
  · exact h
theorem fold_came {n : Nat} : ∀ {rows : List (Nat × Nat × Int)} {st : List Int × List Nat × Option Nat}, (∀ r ∈ rows, r.1 < n ∧ r.2.1 < n) → ((∀ v ∈ st.2.1, v < n) ∧ ∀ l, st.2.2 = some l → l < n) →
    (∀ v ∈ (rows.foldl relax st).2.1, v < n) ∧ ∀ l, (rows.foldl relax st).2.2 = some l → l < n
  | [], st, _, h => h
  | r :: rs, st, hr, h => fold_came (rows := rs) (fun q hq => hr q (List.mem_cons_of_mem _ hq)) (relax_came (hr r (List.mem_cons_self ..)) h)
theorem bf_came {rows : List (Nat × Nat × Int)} {n : Nat} (hr : ∀ r ∈ rows, r.1 < n ∧ r.2.1 < n) : ∀ i, ∀ v ∈ (bfAt rows n i).2, v < n
  | 0 => fun v hv => List.mem_range.mp hv
  | i + 1 => (fold_came (st := ((bfAt rows n i).1, (bfAt rows n i).2, none)) hr ⟨bf_came hr i, fun l e => nomatch e⟩).1
theorem bf_late {rows : List (Nat × Nat × Int)} {n : Nat} (hr : ∀ r ∈ rows, r.1 < n ∧ r.2.1 < n) (i l : Nat) (h : bfLate rows n i = some l) : l < n :=
  (fold_came (st := ((bfAt rows n i).1, (bfAt rows n i).2, none)) hr ⟨bf_came hr i, fun l e => nomatch e⟩).2 l h
end K40

set_option Elab.async false
set_option linter.all false
set_option maxRecDepth 100000
set_option maxHeartbeats 4000000
namespace K40
open PySem PySem.Spec PyProof.Rows L2
section
variable {P : Program} {w : World} {K : PySem.W.Frag} {mg : Str → Option Value} {base : Heap}
/-! ### raised -/
abbrev Nraised : List Str := ["web", "fall", "top", "bottom", "numbers", "came", "rows", "late", "turn", "start", "end", "by"]
theorem scraised : FnScope Nraised ["web", "fall", "top", "bottom"] (defScope (topS 27)) := ⟨rfl, rfl, rfl, by decide +kernel, rfl, by decide +kernel, by decide +kernel⟩
-- 0 web 1 fall 2 top 3 bottom 4 numbers 5 came 6 rows 7 late 8 turn 9 start 10 end 11 by
def spRaised : Sp := fun vs H Q _ => ∃ (wv fv : V) (t b : Int) (n : Nat) (T : List (Nat × Nat)) (f : List Bool), vs = [wv, fv, .int t, .int b] ∧ IsWeb H wv n T ∧ Tup H fv (bzs f) ∧ T.length = f.length ∧ T.length ≤ 1000 ∧ n ≤ 1000 ∧
  (∀ r ∈ rowsM (arr T f) t b, r.1 < n ∧ r.2.1 < n) ∧
  (∀ i, i ≤ n → bfLate (rowsM (arr T f) t b) n i = none → ∀ H' a xv, Same H H' → H' a = some (.tup [xv, .non]) → Tup H' xv (bfPass (rowsM (arr T f) t b) (bfAt (rowsM (arr T f) t b) n i)).1 → Q (.ref a) H') ∧
  (∀ l k C, (∀ i, i ≤ n → bfLate (rowsM (arr T f) t b) n i ≠ none) → bfLate (rowsM (arr T f) t b) n n = some l → C = (bfAt (rowsM (arr T f) t b) n (n + 1)).2 → 1 ≤ k → k ≤ n → iterC C k (iterC C n l) = iterC C n l →
    (∀ j, 0 < j → j < k → iterC C j (iterC C n l) ≠ iterC C n l) → ∀ H' a rv, Same H H' → H' a = some (.tup [.non, rv]) → Tup H' rv (nz (((List.range k).map fun j => iterC C j (iterC C n l)).reverse)) → Q (.ref a) H')
def latev : Option Nat → V
  | none => .non
  | some l => .int (l : Nat)
theorem rep_flat (n : Nat) (x : V) : (List.replicate n [x]).flatten = List.replicate n x := by
  induction n with
  | zero => rfl
  | succ n ih => simp [List.replicate_succ, ih]
theorem rg_nz (n : Nat) : rgV 0 (n : Int) = (nz (List.range n)).map V.int := by
  unfold rgV nz
  rw [List.map_map]
  have e : ((n : Int) - 0).toNat = n := by omega
  rw [e]
  refine List.map_congr_left fun i _ => ?_
  show V.int (0 + (i : Nat)) = V.int (i : Nat)
  rw [zadd]
theorem set_int (xs : List Int) (j : Nat) (z : Int) : (xs.map V.int).set j (.int z) = (xs.set j z).map V.int := by
  rw [List.map_set]
theorem ixN_nat {n j : Nat} (h : j < n) : ixN n (j : Int) = some j := by
  unfold ixN
  rw [if_pos (by omega), if_pos (by omega)]
  simp
theorem nz_set (ks : List Nat) (j k : Nat) : (nz ks).set j (k : Int) = nz (ks.set j k) := by
  simp [nz, List.map_set]
theorem k_raised (T : Tx K mg) : Keeps P w K mg base 3 "raised" ["web", "fall", "top", "bottom"] spRaised := by
  have kleaststeps := k_leaststeps (P := P) (w := w) (base := base) T
  have kringmet := k_ringmet (P := P) (w := w) (base := base) T
  refine T.draised.keeps scraised (fun vs H Q E h => ?_) (fun fa cdv A outer s H vs Q E hr h => ?_)
  · obtain ⟨wv, fv, t, b, n, T, f, rfl, _⟩ := h
    rfl
  obtain ⟨wv, fv, t, b, n, W, f, rfl, hw, hf, hl, hm, hn, hrow, q1, q2⟩ := h
  obtain ⟨a, tt, tv, rfl, ha, ht, hi⟩ := id hw
  refine ⟨_, (pss_cons (ps_set (i := 4) scraised.nd rfl (.inl rfl) (pe_op op_rep (pe_lst (pa_cons pe_int pa_nil)) (pe_ix ix_tup (pv 0) pe_int (fun _ _ => rfl))))
    (pss_cons (ps_set (i := 5) scraised.nd rfl (.inl rfl) (pe_listRg rfl (by rfl) T.zlist (prg_1 (by rfl) T.zrange (pe_ix ix_tup (pv 0) pe_int (fun _ _ => rfl)))))
    (pss_cons (ps_set (i := 6) scraised.nd rfl (.inl rfl) (pe_k kleaststeps (hr.mono (by decide)) (pa_cons (pv 0) (pa_cons (pv 1) (pa_cons (pv 2) (pa_cons (pv 3) pa_nil))))))
    (pss_cons (ps_set (i := 7) scraised.nd rfl (.inl rfl) pe_non)
    (pss_cons (ps_for PassesOwn.never rfl (pi_range1 (by rfl) T.zrange (pa_cons (pe_op op_add (pe_ix ix_tup (pv 0) pe_int (fun _ _ => rfl)) pe_int) pa_nil)) (pg_name (i := 8) scraised.nd rfl (.inl rfl)) (pss_cons (ps_set (i := 7) scraised.nd rfl (.inl rfl) pe_non)
    (pss_cons (ps_for PassesOwn.never rfl (pi_list (pv 6)) (pg_tup rfl (pgs_cons (pg_name (i := 9) scraised.nd rfl (.inl rfl)) (pgs_cons (pg_name (i := 10) scraised.nd rfl (.inl rfl)) (pgs_cons (pg_name (i := 11) scraised.nd rfl (.inl rfl)) pgs_nil)))) (pss_one (ps_if (pt_cmpR op_lt (pe_ix ix_list (pv 4) (pv 10) (fun _ _ => rfl)) (pe_op op_add (pe_ix ix_list (pv 4) (pv 9) (fun _ _ => rfl)) (pv 11)) (nomark _)) (pss_cons (ps_asg (pe_op op_add (pe_ix ix_list (pv 4) (pv 9) (fun _ _ => rfl)) (pv 11)) (pg_sub (pv 4) (pv 10) set_list))
    (pss_cons (ps_asg (pv 9) (pg_sub (pv 5) (pv 10) set_list))
    (pss_one (ps_set (i := 7) scraised.nd rfl (.inl rfl) (pv 10))))) pss_nil)))
    (pss_one (ps_if (pt_cmpR op_isN (pv 7) pe_non (nomark _)) (pss_one (ps_ret (pe_tup (pa_cons (pe_callTy call_tuple_of (by rfl) T.ztuple (by decide +kernel) (pa_cons (pv 4) pa_nil)) (pa_cons pe_non pa_nil))))) pss_nil)))))
    (pss_one (ps_ret (pe_tup (pa_cons pe_non (pa_cons (pe_k kringmet (hr.mono (by decide)) (pa_cons (pv 5) (pa_cons (pv 7) (pa_cons (pe_ix ix_tup (pv 0) pe_int (fun _ _ => rfl)) pa_nil)))) pa_nil)))))))))), ?_⟩
  -- numbers
  refine ⟨le1, fun o0 n0 => ?_⟩
  refine ⟨.ref a, rfl, a, _, 0, .int n, rfl, rfl, SqT.of (at_new ha n0), rfl, o0, (n : Nat), _, rfl, rfl, upd_same, by omega, by omega, ?_, fun nu nnu => ?_⟩
  · rw [sizeLine_eq]
    simp
    omega
  have e0 : (List.replicate ((n : Nat) : Int).toNat [V.int 0]).flatten = ((bfAt (rowsM (arr W f) t b) n 0).1).map V.int := by
    rw [rep_flat, Int.toNat_natCast]
    simp [bfAt]
  rw [e0]
  -- came
  refine ⟨.ref a, rfl, a, _, 0, .int n, rfl, rfl, SqT.of (at_new (at_new ha n0) nnu), rfl, n, rfl, RgOk.of_le (by omega) (by omega) (by omega) (by omega), fun ca nca => ?_⟩
  rw [rg_nz]
  have s0 : Same H (upd (upd (upd H o0 (.lst [.int 0])) nu (.lst (((bfAt (rowsM (arr W f) t b) n 0).1).map V.int))) ca (.lst ((nz (List.range n)).map V.int))) := same_step (same_step (same_new n0) nnu) nca
  have hnu0 := at_new (o := .lst ((nz (List.range n)).map V.int)) (upd_same (H := upd H o0 (.lst [.int 0])) (a := nu) (o := .lst (((bfAt (rowsM (arr W f) t b) n 0).1).map V.int))) nca
  have fnu : H nu = none := Same.free (same_new n0) nnu
  have fca : H ca = none := Same.free (same_step (same_new n0) nnu) nca
  have nuca : nu ≠ ca := ne_of_none upd_same nca
  -- rows
  refine ⟨.ref a, rfl, fv, rfl, .int t, rfl, .int b, rfl, .ref a, fv, t, b, n, W, f, rfl, hw.mono (.of s0), hf.mono (.of s0), hl, hm, fun H1 ro s1 nro ⟨rs, hrs, hit⟩ => ?_⟩
  have fro : H ro = none := Same.free s0 nro
  have nuro : nu ≠ ro := ne_of_none hnu0 nro
  have caro : ca ≠ ro := ne_of_none upd_same nro
  have s01 := s0.trans s1
  generalize hrows : rowsM (arr W f) t b = rows at *
  have hrl := paired_len hit
  rw [List.length_map] at hrl
  -- the passes
  refine ⟨.ref a, rfl, a, _, 0, .int n, rfl, rfl, SqT.of (s01 _ _ ha), rfl, _, _, rfl, rfl, ((n + 1 : Nat) : Int), rfl, (big62 (n + 1) (by omega)).1, (big62 (n + 1) (by omega)).2, ?_⟩
  refine for_it walk_r (fun i σ H' => ∃ y7 y8 y9 y10 y11, σ = [some (.ref a), some fv, some (.int t), some (.int b), some (.ref nu), some (.ref ca), some (.ref ro), some y7, y8, y9, y10, y11] ∧ Same H H' ∧
      H' nu = some (.lst (((bfAt rows n i).1).map V.int)) ∧ H' ca = some (.lst ((nz (bfAt rows n i).2).map V.int)) ∧ H' ro = some (.lst rs) ∧ TupSame H1 H' ∧ (∀ j, j < i → bfLate rows n j ≠ none) ∧ (∀ j, i = j + 1 → y7 = latev (bfLate rows n j)))
    ⟨.non, none, none, none, none, rfl, s01, s1 _ _ hnu0, s1 _ _ upd_same, hrs, .refl _, fun j hj => absurd hj (Nat.not_lt_zero j), fun j hj => nomatch hj⟩
    (fun _ _ _ _ _ => trivial) (fun i x σ H0 H2 hi' pp y => ?_) (fun σ H' pp => ?_)
  · obtain ⟨y7, y8, y9, y10, y11, rfl, sm, hnu, hca, hro, ts, lates, _⟩ := pp
    obtain ⟨rfl, rfl⟩ := y
    obtain ⟨len1, len2⟩ := bf_len rows n i
    refine ⟨.ref ro, rfl, ro, rfl, ⟨rs, SqL.of hro⟩, ?_⟩
    refine for_it (walk_list (xs := rs)) (fun j σ H' => ∃ y9 y10 y11, σ = [some (.ref a), some fv, some (.int t), some (.int b), some (.ref nu), some (.ref ca), some (.ref ro), some (latev ((rows.take j).foldl relax ((bfAt rows n i).1, (bfAt rows n i).2, none)).2.2), some (.int (i : Nat)), y9, y10, y11] ∧ Same H H' ∧
        H' nu = some (.lst ((((rows.take j).foldl relax ((bfAt rows n i).1, (bfAt rows n i).2, none)).1).map V.int)) ∧ H' ca = some (.lst ((nz ((rows.take j).foldl relax ((bfAt rows n i).1, (bfAt rows n i).2, none)).2.1).map V.int)) ∧ H' ro = some (.lst rs) ∧ TupSame H1 H')
      ⟨y9, y10, y11, rfl, sm, hnu, hca, hro, ts⟩ (fun j σ H' hj pp => ?_) (fun j x σ H3 H4 hj pp y => ?_) (fun σ H' pp => ?_)
    · obtain ⟨_, _, _, _, _, _, _, e, _⟩ := pp
      exact SqL.of e
    · obtain ⟨z9, z10, z11, rfl, sm3, hnu3, hca3, hro3, ts3⟩ := pp
      obtain ⟨rfl, ey⟩ := y
      obtain ⟨xs, hxs, p, rfl, hp⟩ := paired_at hit ey
      rw [List.getElem?_map] at hxs
      obtain ⟨⟨st, en, by0⟩, hrj, rfl⟩ := Option.map_eq_some_iff.mp hxs
      obtain ⟨lt1, lt2⟩ := hrow _ (List.mem_of_getElem? hrj)
      have lt1 : st < n := lt1
      have lt2 : en < n := lt2
      have etake : (rows.take (j + 1)).foldl relax ((bfAt rows n i).1, (bfAt rows n i).2, none) = relax ((rows.take j).foldl relax ((bfAt rows n i).1, (bfAt rows n i).2, none)) (st, en, by0) := by
        rw [take_snoc hrj, List.foldl_append]
        rfl
      obtain ⟨flen1, flen2⟩ := fold_len (rows.take j) ((bfAt rows n i).1, (bfAt rows n i).2, none)
      generalize hS : (rows.take j).foldl relax ((bfAt rows n i).1, (bfAt rows n i).2, none) = S at *
      have l1 : S.1.length = n := flen1.trans len1
      have l2 : S.2.1.length = n := flen2.trans len2
      have g1 : S.1[st]? = some (S.1.getD st 0) := by simp [l1, lt1]
      have g2 : S.1[en]? = some (S.1.getD en 0) := by simp [l1, lt2]
      refine ⟨p, [.int (st : Nat), .int (en : Nat), .int by0], rfl, SqT.of (ts3 _ _ hp), rfl, .int (st : Nat), [.int (en : Nat), .int by0], rfl, .int (en : Nat), [.int by0], rfl, .int by0, [], rfl, rfl, ?_⟩
      refine ⟨.ref nu, rfl, .int (en : Nat), rfl, nu, _, (en : Nat), _, rfl, rfl, SqL.of hnu3, at_int g2, .ref nu, rfl, .int (st : Nat), rfl, nu, _, (st : Nat), _, rfl, rfl, SqL.of hnu3, at_int g1, .int by0, rfl, _, _, rfl, rfl, _, _, rfl, rfl, _, rfl, ?_⟩
      refine ite2 (fun e => ?_) (fun e => ?_)
      · have e1 : S.1.getD en 0 < S.1.getD st 0 + by0 := of_decide_eq_true e
        have er : relax S (st, en, by0) = (S.1.set en (S.1.getD st 0 + by0), S.2.1.set en st, some en) := if_pos e1
        refine ⟨.ref nu, rfl, .int (st : Nat), rfl, nu, _, (st : Nat), _, rfl, rfl, SqL.of hnu3, at_int g1, .int by0, rfl, _, _, rfl, rfl, .ref nu, rfl, .int (en : Nat), rfl, nu, _, (en : Nat), en, rfl, rfl, hnu3, ixN_nat (by rw [List.length_map, l1]; exact lt2), ?_⟩
        have hca4 : upd H4 nu (.lst (((S.1.map V.int)).set en (.int (S.1.getD st 0 + by0)))) ca = some (.lst ((nz S.2.1).map V.int)) := by
          rw [upd_ne nuca.symm]
          exact hca3
        refine ⟨.int (st : Nat), rfl, .ref ca, rfl, .int (en : Nat), rfl, ca, _, (en : Nat), en, rfl, rfl, hca4, ixN_nat (by simp [nz, l2, lt2]), ?_⟩
        refine ⟨.int (en : Nat), rfl, some (.int (st : Nat)), some (.int (en : Nat)), some (.int by0), ?_, same_mut (same_mut sm3 fnu) fca, ?_, ?_, ?_, ?_⟩
        · rw [etake, er]
          rfl
        · rw [etake, er, upd_ne nuca, set_int]
          exact upd_same
        · rw [etake, er, set_int, set_int, nz_set]
          exact upd_same
        · rw [upd_ne caro.symm, upd_ne nuro.symm]
          exact hro3
        · exact (ts3.trans (TupSame.lst hnu3)).trans (TupSame.lst hca4)
      · have e1 : ¬ S.1.getD en 0 < S.1.getD st 0 + by0 := fun z => e (decide_eq_true z)
        have er : relax S (st, en, by0) = S := if_neg e1
        refine ⟨some (.int (st : Nat)), some (.int (en : Nat)), some (.int by0), ?_, sm3, ?_, ?_, hro3, ts3⟩
        · rw [etake, er]
          rfl
        · rw [etake, er]
          exact hnu3
        · rw [etake, er]
          exact hca3
    · obtain ⟨z9, z10, z11, rfl, sm3, hnu3, hca3, hro3, ts3⟩ := pp
      rw [List.take_of_length_le (by omega)] at hnu3 hca3 ⊢
      refine ⟨_, rfl, rfl, _, rfl, ?_⟩
      have el : (rows.foldl relax ((bfAt rows n i).1, (bfAt rows n i).2, none)).2.2 = bfLate rows n i := rfl
      rw [el]
      refine ite2 (fun e => ?_) (fun e => ?_)
      · have e1 : bfLate rows n i = none := by
          cases hb : bfLate rows n i with
          | none => rfl
          | some l =>
            rw [hb] at e
            exact absurd (of_decide_eq_true e) (fun z => nomatch z)
        refine ⟨.ref nu, rfl, nu, _, rfl, .inl ⟨SqL.of hnu3, fun c hc => ⟨le2, fun d hd => ?_⟩⟩⟩
        exact q1 i (by omega) e1 _ d (.ref c) (same_step (same_step sm3 hc) hd) upd_same ⟨c, rfl, at_new upd_same hd⟩
      · refine ⟨_, _, _, _, _, rfl, sm3, hnu3, hca3, hro3, ts3, fun j hj => ?_, fun j hj => ?_⟩
        · by_cases hji : j < i
          · exact lates j hji
          · have : j = i := by omega
            subst this
            intro z
            rw [z] at e
            exact e rfl
        · have : j = i := by omega
          subst this
          rfl
  · obtain ⟨y7, y8, y9, y10, y11, rfl, sm, hnu, hca, hro, ts, lates, h7⟩ := pp
    have e7 := h7 n rfl
    cases hb : bfLate rows n n with
    | none => exact absurd hb (lates n (Nat.lt_succ_self n))
    | some l =>
      rw [hb] at e7
      subst e7
      obtain ⟨len1, len2⟩ := bf_len rows n (n + 1)
      have hC : ∀ v ∈ (bfAt rows n (n + 1)).2, v < (bfAt rows n (n + 1)).2.length := by
        rw [len2]
        exact bf_came hrow (n + 1)
      have hlt : l < (bfAt rows n (n + 1)).2.length := by
        rw [len2]
        exact bf_late hrow n l hb
      obtain ⟨k, k1, k2, k3, k4⟩ := period hC hlt
      rw [len2] at k2 k3 k4
      refine ⟨.ref ca, rfl, .int (l : Nat), rfl, .ref a, rfl, a, _, 0, .int n, rfl, rfl, SqT.of (sm _ _ ha), rfl, ca, (bfAt rows n (n + 1)).2, l, n, k, rfl, hca, hC, hlt, by omega, k1, by omega, k3, k4, fun H5 rv s5 hrv => ⟨le2, fun d hd => ?_⟩⟩
      exact q2 l k _ (fun i hi => lates i (by omega)) hb rfl k1 k2 k3 k4 _ d rv (same_step (sm.trans s5) hd) upd_same (hrv.mono (.new hd))
end
end K40

set_option Elab.async false
set_option linter.all false
set_option maxHeartbeats 4000000
set_option maxRecDepth 100000
/-! What the functions of a web alone compute, with fuel where they loop, none where they would fail; looked at by the kernel for all webs. -/
namespace K40
def ins (x : Nat) : List Nat → List Nat
  | [] => [x]
  | y :: r => if x ≤ y then x :: y :: r else y :: ins x r
def isort : List Nat → List Nat
  | [] => []
  | x :: r => ins x (isort r)
def nbrs (T : List (Nat × Nat)) (p : Nat) : List Nat := (T.filter fun e => p == e.1 || p == e.2).map fun e => e.1 + e.2 - p
def nearM (T : List (Nat × Nat)) (p : Nat) : List Nat := isort (nbrs T p)
def pieceLoop (T : List (Nat × Nat)) : Nat → List Nat → Nat → Option (List Nat)
  | 0, _, _ => none
  | k + 1, found, at_ => match found[at_]? with
    | none => some found
    | some q => pieceLoop T k (found ++ (nearM T q).filter fun o => !decide (o ∈ found)) (at_ + 1)
def pieceM (T : List (Nat × Nat)) (p : Nat) : Option (List Nat) := (pieceLoop T 10 [p] 0).map isort
def piecesFrom (T : List (Nat × Nat)) : List Nat → List (List Nat) → Option (List (List Nat))
  | [], found => some found
  | p :: r, found => match pieceM T p with
    | none => none
    | some pc => piecesFrom T r (if pc ∈ found then found else found ++ [pc])
def piecesM (n : Nat) (T : List (Nat × Nat)) : Option (List (List Nat)) := piecesFrom T (List.range n) []
/-- dicts by numbers -/
abbrev Assoc (α : Type) := List (Nat × α)
def look {α : Type} (l : Assoc α) (k : Nat) : Option α := (l.find? fun p => p.1 == k).map (·.2)
def putA {α : Type} (l : Assoc α) (k : Nat) (v : α) : Assoc α := if (l.any fun p => p.1 == k) = true then l.map (fun p => if p.1 = k then (p.1, v) else p) else l ++ [(k, v)]
/-- ways: for each place those to others -/
abbrev Ways := List (Assoc (List Nat))
def joinOne (W : Ways) (a b s e : Nat) : Option Ways :=
  match (W[s]?).bind fun d => look d a, (W[b]?).bind fun d => look d e with
  | some w1, some w2 => if (w1.isEmpty || (w2.isEmpty || Nat.ble 900 (w1.length + w2.length))) = true then none else
    match W[s]?, (W.set s (putA (W.getD s []) e (w1 ++ w2)))[e]? with
    | some d1, some d2 => if (Nat.ble 900 d1.length || Nat.ble 900 d2.length) = true then none else
      some ((W.set s (putA (W.getD s []) e (w1 ++ w2))).set e (putA d2 s (w1 ++ w2).reverse))
    | _, _ => none
  | _, _ => none
def joinEnds (a b s : Nat) : List Nat → Ways → Option Ways
  | [], W => some W
  | e :: r, W => match joinOne W a b s e with
    | none => none
    | some W' => joinEnds a b s r W'
def joinStarts (a b : Nat) (ends : List Nat) : List Nat → Ways → Option Ways
  | [], W => some W
  | s :: r, W => match joinEnds a b s ends W with
    | none => none
    | some W' => joinStarts a b ends r W'
def joinM (W : Ways) (a b : Nat) : Option Ways := match W[a]?, W[b]? with
  | some da, some db => joinStarts a b (db.map (·.1)) (da.map (·.1)) W
  | _, _ => none
def someLoop : List (Nat × Nat) → Ways → Option (Option (List Nat))
  | [], _ => some none
  | (a, b) :: r, W => match W[a]? with
    | none => none
    | some da => match look da b with
      | some _ => match (W[b]?).bind fun d => look d a with
        | none => none
        | some w => some (some w)
      | none => match joinM W a b with
        | none => none
        | some W' => someLoop r W'
def someRingM (n : Nat) (T : List (Nat × Nat)) : Option (Option (List Nat)) := someLoop T ((List.range n).map fun p => [(p, [p])])
/-! ### all webs -/
def pairsOf (n : Nat) : List (Nat × Nat) := (List.range n).flatMap fun a => ((List.range n).filter fun b => decide (a < b)).map fun b => (a, b)
def memT (T : List (Nat × Nat)) (a b : Nat) : Bool := T.any fun e => e.1 == a && e.2 == b
def nodupB : List Nat → Bool
  | [] => true
  | x :: r => !r.any (fun y => y == x) && nodupB r
def isRingB (n : Nat) (T : List (Nat × Nat)) (R : List Nat) : Bool :=
  Nat.ble 3 R.length && (nodupB R && (R.all (fun p => Nat.blt p n) && (cyc R).all fun e => memT T e.1 e.2 || memT T e.2 e.1))
/-- ties taken away that have a place of no other tie -/
def deg (T : List (Nat × Nat)) (p : Nat) : Nat := (T.filter fun e => p == e.1 || p == e.2).length
def peelOne (T : List (Nat × Nat)) : List (Nat × Nat) → Option (Nat × Nat)
  | [] => none
  | e :: r => if deg T e.1 == 1 || deg T e.2 == 1 then some e else peelOne T r
def peel : Nat → List (Nat × Nat) → Bool
  | _, [] => true
  | 0, _ :: _ => false
  | k + 1, e :: r => match peelOne (e :: r) (e :: r) with
    | none => false
    | some x => peel k ((e :: r).filter fun y => !(y.1 == x.1 && y.2 == x.2))
def checkWeb (n : Nat) (T : List (Nat × Nat)) : Bool :=
  match piecesM n T with
  | none => false
  | some ps => match someRingM n T with
    | none => false
    | some o => if Nat.blt n (T.length + ps.length) = true then (match o with
        | none => false
        | some R => isRingB n T R)
      else peel 8 T
/-- all webs of n places: acc taken, of rest any -/
def checkSub (n : Nat) : List (Nat × Nat) → List (Nat × Nat) → Bool
  | acc, [] => Nat.ble 9 acc.length || checkWeb n acc.reverse
  | acc, x :: r => checkSub n acc r && checkSub n (x :: acc) r
theorem check4 : (checkSub 1 [] (pairsOf 1) && (checkSub 2 [] (pairsOf 2) && (checkSub 3 [] (pairsOf 3) && checkSub 4 [] (pairsOf 4)))) = true := by decide +kernel
end K40

set_option Elab.async false
set_option linter.all false
set_option maxRecDepth 100000
set_option maxHeartbeats 4000000
namespace K40
open PySem PySem.Spec PyProof.Rows L2
section
variable {P : Program} {w : World} {K : PySem.W.Frag} {mg : Str → Option Value} {base : Heap}
/-! ### near -/
theorem ins_perm (x : Nat) : ∀ l : List Nat, (ins x l).Perm (x :: l)
  | [] => .refl _
  | y :: r => by
    unfold ins
    split
    · exact .refl _
    · exact ((ins_perm x r).cons y).trans (List.Perm.swap x y r)
theorem isort_perm : ∀ l : List Nat, (isort l).Perm l
  | [] => .refl _
  | x :: r => (ins_perm x (isort r)).trans ((isort_perm r).cons x)
theorem ins_up (x : Nat) : ∀ l : List Nat, l.Pairwise (· ≤ ·) → (ins x l).Pairwise (· ≤ ·)
  | [], _ => by simp [ins]
  | y :: r, h => by
    obtain ⟨h1, h2⟩ := List.pairwise_cons.mp h
    unfold ins
    split
    · rename_i hxy
      refine List.pairwise_cons.mpr ⟨fun z hz => ?_, h⟩
      rcases List.mem_cons.mp hz with e | hz
      · rw [e]
        exact hxy
      · exact Nat.le_trans hxy (h1 z hz)
    · rename_i hxy
      refine List.pairwise_cons.mpr ⟨fun z hz => ?_, ins_up x r h2⟩
      rcases List.mem_cons.mp ((ins_perm x r).mem_iff.mp hz) with e | hz
      · omega
      · exact h1 z hz
theorem isort_up : ∀ l : List Nat, (isort l).Pairwise (· ≤ ·)
  | [] => .nil
  | x :: r => ins_up x _ (isort_up r)
theorem sorted_is {l : List Nat} {ns : List Int} (hp : ns.Perm (nz l)) (hu : ns.Pairwise (· ≤ ·)) : ns = nz (isort l) := by
  refine List.Perm.eq_of_pairwise (fun a b _ _ h1 h2 => Int.le_antisymm h1 h2) hu ?_ (hp.trans ?_)
  · unfold nz
    rw [List.pairwise_map]
    exact (isort_up l).imp fun h => by omega
  · exact ((isort_perm l).symm.map _)
abbrev Nnear : List Str := ["web", "place", "a", "b"]
theorem scnear : FnScope Nnear ["web", "place"] (defScope (topS 1)) := ⟨rfl, rfl, rfl, by decide +kernel, rfl, by decide +kernel, by decide +kernel⟩
-- 0 web 1 place 2 a 3 b
def spNear : Sp := fun vs H Q _ => ∃ (wv : V) (n p : Nat) (T : List (Nat × Nat)), vs = [wv, .int (p : Nat)] ∧ IsWeb H wv n T ∧ T.length ≤ 1000 ∧
  ∀ H' v, Same H H' → Tup H' v (nz (nearM T p)) → Q v H'
theorem nbrs_take {T : List (Nat × Nat)} {i a b p : Nat} (h : T[i]? = some (a, b)) : nbrs (T.take (i + 1)) p = if (p == a || p == b) = true then nbrs (T.take i) p ++ [a + b - p] else nbrs (T.take i) p := by
  rw [take_snoc h]
  unfold nbrs
  rw [List.filter_append, List.map_append]
  cases g : (p == a || p == b) <;> simp [List.filter_cons, g]
theorem nbrs_len (T : List (Nat × Nat)) (p : Nat) : (nbrs T p).length ≤ T.length := by
  unfold nbrs
  rw [List.length_map]
  exact List.length_filter_le _ _
theorem k_near (T : Tx K mg) : Keeps P w K mg base 1 "near" ["web", "place"] spNear := by
  refine T.dnear.keeps scnear (fun vs H Q E h => ?_) (fun fa cdv A outer s H vs Q E hr h => ?_)
  · obtain ⟨wv, n, p, T, rfl, _⟩ := h
    rfl
  obtain ⟨wv, n, p, W, rfl, hw, hm, q⟩ := h
  obtain ⟨a, t, tv, rfl, ha, ht, hi⟩ := id hw
  have hlen := paired_len hi
  rw [List.length_map] at hlen
  refine ⟨_, (pss_one (ps_ret (pe_callTy call_tuple_of (by rfl) T.ztuple (by decide +kernel) (pa_cons (pe_callB cr_sortedI (by rfl) T.zsorted (by decide +kernel) (pa_cons (pe_lc (own := [("a", 2), ("b", 3)]) (g := (gTup K 2 (gCons (gName 2) (gCons (gName 3) gNil)))) rfl scnear.nd (pi_tup (pe_ix ix_tup (pv 0) pe_int (fun _ _ => rfl))) (blkOk_by (N := Nnear) (sc := defScope (topS 1)) (by decide +kernel)) (fun _ _ _ _ _ => (pg_tup rfl (pgs_cons (pg_name (i := 2) scnear.nd rfl (.inl rfl)) (pgs_cons (pg_name (i := 3) scnear.nd rfl (.inl rfl)) pgs_nil)))) (fun _ _ _ _ _ => pts_one (pt_cmpR (r := rIn K false) op_in_seq (pv 1) (pe_tup (pa_cons (pv 2) (pa_cons (pv 3) pa_nil))) (by rfl))) (fun _ _ _ _ _ => (pe_op op_sub (pe_op op_add (pv 2) (pv 3)) (pv 1)))) pa_nil)) pa_nil)))), ?_⟩
  refine ⟨.ref a, rfl, a, _, 1, .ref t, rfl, rfl, SqT.of ha, rfl, t, rfl, ⟨tv, SqT.of ht⟩, fun D hD => ?_⟩
  refine lc_it (walk_tup (xs := tv)) (fun i H' => Same H H' ∧ H' D = some (.lst ((nz (nbrs (W.take i) p)).map V.int))) ⟨same_new hD, upd_same⟩
    (fun i H' hi' pp => SqT.of (pp.1 _ _ ht)) (fun i y H0 H1 hi' pp yy => ?_) (fun H' pp => ?_)
  · obtain ⟨sm, hD'⟩ := pp
    obtain ⟨rfl, ey⟩ := yy
    obtain ⟨e1, e2, tp, h1, rfl, hp⟩ := tie_at hi ey
    refine ⟨tp, [.int (e1 : Nat), .int (e2 : Nat)], rfl, SqT.of (sm _ _ hp), rfl, .int (e1 : Nat), [.int (e2 : Nat)], rfl, .int (e2 : Nat), [], rfl, rfl, rfl, ?_⟩
    refine ⟨.int (p : Nat), rfl, .int (e1 : Nat), rfl, .int (e2 : Nat), rfl, le2, fun c hc => ⟨c, _, rfl, .inr (SqT.of upd_same), rfl, rfl, _, rfl, ?_⟩⟩
    rw [if_neg Bool.false_ne_true, in_pair]
    refine ite2 (fun e => ?_) (fun e => ?_)
    · refine ⟨.int (e1 : Nat), rfl, .int (e2 : Nat), rfl, _, _, rfl, rfl, .int (p : Nat), rfl, _, _, rfl, rfl, _, at_new hD' hc, ?_, same_mut (same_step sm hc) hD, ?_⟩
      · have := nbrs_len (W.take i) p
        rw [List.length_take] at this
        exact szlt _ (by simp [nz]; omega)
      · rw [nbrs_take h1, if_pos e]
        have e3 : ((e1 : Int) + (e2 : Int) - (p : Int)) = ((e1 + e2 - p : Nat) : Int) := by
          have e' : p = e1 ∨ p = e2 := by simpa using e
          rcases e' with e' | e' <;> omega
        have e4 : (nz (nbrs (W.take i) p ++ [e1 + e2 - p])).map V.int = (nz (nbrs (W.take i) p)).map V.int ++ [.int ((e1 + e2 - p : Nat) : Int)] := by
          simp [nz]
        rw [e4, ← e3]
        exact upd_same
    · refine ⟨same_step sm hc, ?_⟩
      rw [nbrs_take h1, if_neg e]
      exact at_new hD' hc
  · obtain ⟨sm, hD'⟩ := pp
    rw [List.take_of_length_le (by omega)] at hD'
    refine ⟨D, _, rfl, SqL.of hD', fun ns l hperm hup hl => ?_⟩
    rw [sorted_is hperm hup]
    refine ⟨l, _, rfl, .inl ⟨SqL.of upd_same, fun c hc => ?_⟩⟩
    exact q _ _ (same_step (same_step sm hl) hc) ⟨c, rfl, upd_same⟩
/-! ### piece_of -/
abbrev Npieceof : List Str := ["web", "place", "found", "at", "other"]
theorem scpieceof : FnScope Npieceof ["web", "place"] (defScope (topS 2)) := ⟨rfl, rfl, rfl, by decide +kernel, rfl, by decide +kernel, by decide +kernel⟩
-- 0 web 1 place 2 found 3 at 4 other
def spPiece : Sp := fun vs H Q _ => ∃ (wv : V) (n p : Nat) (T : List (Nat × Nat)) (r : List Nat), vs = [wv, .int (p : Nat)] ∧ IsWeb H wv n T ∧ T.length ≤ 1000 ∧ pieceM T p = some r ∧
  ∀ H' v, Same H H' → Tup H' v (nz r) → Q v H'
theorem near_len (T : List (Nat × Nat)) (p : Nat) : (nearM T p).length ≤ T.length := by
  unfold nearM
  rw [(isort_perm _).length_eq]
  exact nbrs_len T p
theorem nz_mem (x : Nat) (l : List Nat) : decide ((x : Int) ∈ nz l) = decide (x ∈ l) := by
  have h : (x : Int) ∈ nz l ↔ x ∈ l := by
    unfold nz
    rw [List.mem_map]
    constructor
    · rintro ⟨y, hy, e⟩
      have : y = x := by omega
      rw [← this]
      exact hy
    · intro hx
      exact ⟨x, hx, rfl⟩
  by_cases g : x ∈ l
  · rw [decide_eq_true g, decide_eq_true (h.mpr g)]
  · rw [decide_eq_false g, decide_eq_false (fun z => g (h.mp z))]
theorem filter_take {l : List Nat} {i x : Nat} {g : Nat → Bool} (h : l[i]? = some x) : (l.take (i + 1)).filter g = if g x = true then (l.take i).filter g ++ [x] else (l.take i).filter g := by
  rw [take_snoc h, List.filter_append]
  cases e : g x <;> simp [e]
theorem k_pieceof (T : Tx K mg) : Keeps P w K mg base 2 "piece_of" ["web", "place"] spPiece := by
  have knear := k_near (P := P) (w := w) (base := base) T
  refine T.dpieceof.keeps scpieceof (fun vs H Q E h => ?_) (fun fa cdv A outer s H vs Q E hr h => ?_)
  · obtain ⟨wv, n, p, T, r, rfl, _⟩ := h
    rfl
  obtain ⟨wv, n, p, W, r, rfl, hw, hm, hP, q⟩ := h
  obtain ⟨res, hres, rfl⟩ := Option.map_eq_some_iff.mp (show (pieceLoop W 10 [p] 0).map isort = some r from hP)
  refine ⟨_, (pss_cons (ps_set (i := 2) scpieceof.nd rfl (.inr rfl) (pe_lst (pa_cons (pv 1) pa_nil)))
    (pss_cons (ps_set (i := 3) scpieceof.nd rfl (.inl rfl) pe_int)
    (pss_cons (ps_while PassesOwn.never (pt_cmpR op_lt (pv 3) (pe_callB call_len_seq (by rfl) T.zlen (by decide +kernel) (pa_cons (pv 2) pa_nil)) (nomark _)) (pss_cons (ps_expr (pe_bm PySem.F.plainAttrs_list PySem.F.slot_list_extend PySem.F.type_list_extend mt_extend (pv 2) (pa_cons (pe_lc (own := [("other", 4)]) (g := (gName 4)) rfl scpieceof.nd (pi_tup (pe_k knear (hr.mono (by decide)) (pa_cons (pv 0) (pa_cons (pe_ix ix_list (pv 2) (pv 3) (fun _ _ => rfl)) pa_nil)))) (blkOk_by (N := Npieceof) (sc := defScope (topS 2)) (by decide +kernel)) (fun _ _ _ _ _ => (pg_name (i := 4) scpieceof.nd rfl (.inl rfl))) (fun _ _ _ _ _ => pts_one (pt_cmpR (r := rIn K true) op_notIn_seq (pv 4) (pv 2) (by rfl))) (fun _ _ _ _ _ => (pv 4))) pa_nil)))
    (pss_one (ps_set (i := 3) scpieceof.nd rfl (.inl rfl) (pe_op op_add (pv 3) pe_int)))))
    (pss_one (ps_ret (pe_callTy call_tuple_of (by rfl) T.ztuple (by decide +kernel) (pa_cons (pe_callB cr_sortedI (by rfl) T.zsorted (by decide +kernel) (pa_cons (pv 2) pa_nil)) pa_nil))))))), ?_⟩
  refine ⟨.int (p : Nat), rfl, le1, fun o no => ?_⟩
  refine ⟨fun m σ H' => ∃ (i : Nat) (cur : List Nat) (y4 : Option V), σ = [some wv, some (.int (p : Nat)), some (.ref o), some (.int (i : Nat)), y4] ∧ Same H H' ∧ H' o = some (.lst ((nz cur).map V.int)) ∧ pieceLoop W m cur i = some res ∧ cur.length + 1000 * m ≤ 20000,
    ⟨10, 0, [p], none, rfl, same_new no, upd_same, hres, by simp⟩, fun m σ H' hW => ?_⟩
  obtain ⟨i, cur, y4, rfl, sm, ho, hL, hB⟩ := hW
  have lcur : ((nz cur).map V.int).length = cur.length := by simp [nz]
  refine ⟨.int (i : Nat), rfl, .ref o, rfl, o, _, rfl, .inl (SqL.of ho), _, _, rfl, rfl, _, rfl, ?_⟩
  rw [lcur]
  cases m with
  | zero => exact nomatch hL
  | succ m =>
    refine ite2 (fun e => ?_) (fun e => ?_)
    · have hi : i < cur.length := by
        have := of_decide_eq_true e
        omega
      have hci : cur[i]? = some cur[i] := List.getElem?_eq_getElem hi
      have hL2 : pieceLoop W m (cur ++ (nearM W cur[i]).filter fun o => !decide (o ∈ cur)) (i + 1) = some res := by
        have e0 : pieceLoop W (m + 1) cur i = pieceLoop W m (cur ++ (nearM W cur[i]).filter fun o => !decide (o ∈ cur)) (i + 1) := by
          show (match cur[i]? with
            | none => some cur
            | some q => pieceLoop W m (cur ++ (nearM W q).filter fun o => !decide (o ∈ cur)) (i + 1)) = _
          rw [hci]
        rw [← e0]
        exact hL
      refine ⟨fun σ' H2 => ∃ (i : Nat) (cur : List Nat) (y4 : Option V), σ' = [some wv, some (.int (p : Nat)), some (.ref o), some (.int (i : Nat)), y4] ∧ Same H H2 ∧ H2 o = some (.lst ((nz cur).map V.int)) ∧ pieceLoop W m cur i = some res ∧ cur.length + 1000 * m ≤ 20000,
        fun σ' H2 hN => ⟨m, Nat.lt_succ_self m, hN⟩, ?_⟩
      refine ⟨.ref o, rfl, .inl ⟨rfl, _, SqL.of ho⟩, wv, rfl, .ref o, rfl, .int (i : Nat), rfl, o, _, (i : Nat), _, rfl, rfl, SqL.of ho, at_int (nz_at hci), wv, n, cur[i], W, rfl, hw.mono (.of sm), hm, fun H2 v s2 hv => ?_⟩
      obtain ⟨av, rfl, hav⟩ := hv
      refine ⟨av, rfl, ⟨_, SqT.of hav⟩, fun D hD => ?_⟩
      have ho2 := s2 _ _ ho
      refine lc_it (walk_tup (xs := (nz (nearM W cur[i])).map V.int)) (fun j H' => Same H2 H' ∧ H' D = some (.lst ((nz (((nearM W cur[i]).take j).filter fun o => !decide (o ∈ cur))).map V.int))) ⟨same_new hD, upd_same⟩
        (fun j H' hj pp => SqT.of (pp.1 _ _ hav)) (fun j y H3 H4 hj pp yy => ?_) (fun H' pp => ?_)
      · obtain ⟨sm3, hD3⟩ := pp
        obtain ⟨rfl, ey⟩ := yy
        obtain ⟨z, hz, rfl⟩ := Option.map_eq_some_iff.mp (show ((nz (nearM W cur[i]))[j]?).map V.int = some y by rw [← List.getElem?_map]; exact ey)
        obtain ⟨x, hx, rfl⟩ := Option.map_eq_some_iff.mp (show ((nearM W cur[i])[j]?).map (fun (k : Nat) => (k : Int)) = some z by rw [← List.getElem?_map]; exact hz)
        refine ⟨rfl, .int (x : Nat), rfl, .ref o, rfl, o, _, rfl, .inl (SqL.of (sm3 _ _ ho2)), rfl, flat_ints _, _, rfl, ?_⟩
        rw [in_ints, if_pos rfl, nz_mem, filter_take hx]
        have hb : (((nearM W cur[i]).take j).filter fun o => !decide (o ∈ cur)).length ≤ 1000 := by
          refine Nat.le_trans (List.length_filter_le _ _) ?_
          rw [List.length_take]
          have := near_len W cur[i]
          omega
        refine ite2 (fun e => ?_) (fun e => ?_)
        · refine ⟨.int (x : Nat), rfl, _, hD3, szlt _ (by simp only [nz, List.length_map]; omega), same_mut sm3 hD, ?_⟩
          rw [if_pos e]
          have e4 : ∀ l : List Nat, (nz (l ++ [x])).map V.int = (nz l).map V.int ++ [.int (x : Int)] := fun l => by simp [nz]
          rw [e4]
          exact upd_same
        · refine ⟨sm3, ?_⟩
          rw [if_neg e]
          exact hD3
      · obtain ⟨sm3, hD3⟩ := pp
        rw [List.take_of_length_le (by simp [nz])] at hD3
        have ho3 := sm3 _ _ ho2
        have hb : ((nearM W cur[i]).filter fun o => !decide (o ∈ cur)).length ≤ 1000 := by
          refine Nat.le_trans (List.length_filter_le _ _) ?_
          have := near_len W cur[i]
          omega
        refine ⟨o, D, _, _, rfl, rfl, ho3, hD3, sz _ (by simp only [nz, List.length_map]; omega), ?_⟩
        refine ⟨.int (i : Nat), rfl, _, _, rfl, rfl, i + 1, cur ++ (nearM W cur[i]).filter fun o => !decide (o ∈ cur), _, rfl, same_mut ((sm.trans s2).trans sm3) no, ?_, hL2, ?_⟩
        · have e4 : ∀ l k : List Nat, (nz (l ++ k)).map V.int = (nz l).map V.int ++ (nz k).map V.int := fun l k => by simp [nz]
          rw [e4]
          exact upd_same
        · rw [List.length_append]
          omega
    · have hi : cur[i]? = none := List.getElem?_eq_none (by
        have : ¬ ((i : Int) < (cur.length : Int)) := fun z => e (decide_eq_true z)
        omega)
      have ec : cur = res := by
        have e0 : pieceLoop W (m + 1) cur i = some cur := by
          show (match cur[i]? with
            | none => some cur
            | some q => pieceLoop W m (cur ++ (nearM W q).filter fun o => !decide (o ∈ cur)) (i + 1)) = _
          rw [hi]
        rw [e0] at hL
        exact Option.some.inj hL
      subst ec
      refine ⟨.ref o, rfl, o, _, rfl, SqL.of ho, fun ns l hperm hup hl => ?_⟩
      rw [sorted_is hperm hup]
      refine ⟨l, _, rfl, .inl ⟨SqL.of upd_same, fun c hc => ?_⟩⟩
      exact q _ _ (same_step (same_step sm hl) hc) ⟨c, rfl, upd_same⟩
end
end K40

set_option Elab.async false
set_option linter.all false
set_option maxRecDepth 100000
set_option maxHeartbeats 4000000
namespace K40
open PySem PySem.Spec PyProof.Rows L2
section
variable {P : Program} {w : World} {K : PySem.W.Frag} {mg : Str → Option Value} {base : Heap}
/-! ### pieces, has_ring -/
abbrev Npieces : List Str := ["web", "found", "place", "piece"]
theorem scpieces : FnScope Npieces ["web"] (defScope (topS 3)) := ⟨rfl, rfl, rfl, by decide +kernel, rfl, by decide +kernel, by decide +kernel⟩
-- 0 web 1 found 2 place 3 piece
def spPieces : Sp := fun vs H Q _ => ∃ (wv : V) (n : Nat) (T : List (Nat × Nat)) (ps : List (List Nat)), vs = [wv] ∧ IsWeb H wv n T ∧ T.length ≤ 1000 ∧ n ≤ 1000 ∧ piecesM n T = some ps ∧
  ∀ H' l, Same H H' → LstT H' l (ps.map nz) → Q (.ref l) H'
theorem nz_inj : ∀ {a b : List Nat}, nz a = nz b → a = b
  | [], [], _ => rfl
  | [], _ :: _, h => by simp [nz] at h
  | _ :: _, [], h => by simp [nz] at h
  | x :: a, y :: b, h => by
    simp only [nz, List.map_cons, List.cons.injEq] at h
    obtain ⟨h1, h2⟩ := h
    have e1 : x = y := by omega
    have e2 : a = b := nz_inj h2
    rw [e1, e2]
theorem nzs_mem (x : List Nat) (l : List (List Nat)) : decide (nz x ∈ l.map nz) = decide (x ∈ l) := by
  have h : nz x ∈ l.map nz ↔ x ∈ l := by
    rw [List.mem_map]
    constructor
    · rintro ⟨y, hy, e⟩
      rw [← nz_inj e]
      exact hy
    · intro hx
      exact ⟨x, hx, rfl⟩
  by_cases g : x ∈ l
  · rw [decide_eq_true g, decide_eq_true (h.mpr g)]
  · rw [decide_eq_false g, decide_eq_false (fun z => g (h.mp z))]
theorem range_drop {n i : Nat} (h : i < n) : (List.range n).drop i = i :: (List.range n).drop (i + 1) := by
  rw [List.drop_eq_getElem_cons (by simpa using h)]
  simp
theorem k_pieces (T : Tx K mg) : Keeps P w K mg base 3 "pieces" ["web"] spPieces := by
  have kpieceof := k_pieceof (P := P) (w := w) (base := base) T
  refine T.dpieces.keeps scpieces (fun vs H Q E h => ?_) (fun fa cdv A outer s H vs Q E hr h => ?_)
  · obtain ⟨wv, n, T, ps, rfl, _⟩ := h
    rfl
  obtain ⟨wv, n, W, ps, rfl, hw, hm, hn, hP, q⟩ := h
  obtain ⟨a, t, tv, rfl, ha, ht, hi⟩ := id hw
  have hu65 := hu65_of hr
  refine ⟨_, (pss_cons (ps_set (i := 1) scpieces.nd rfl (.inl rfl) (pe_lst pa_nil))
    (pss_cons (ps_for PassesOwn.never rfl (pi_range1 (by rfl) T.zrange (pa_cons (pe_ix ix_tup (pv 0) pe_int (fun _ _ => rfl)) pa_nil)) (pg_name (i := 2) scpieces.nd rfl (.inl rfl)) (pss_cons (ps_set (i := 3) scpieces.nd rfl (.inl rfl) (pe_k kpieceof (hr.mono (by decide)) (pa_cons (pv 0) (pa_cons (pv 2) pa_nil))))
    (pss_one (ps_if (pt_cmpR (op_notInD hu65) (pv 3) (pv 1) (by rfl)) (pss_one (ps_expr (pe_bm PySem.F.plainAttrs_list PySem.F.slot_list_append PySem.F.type_list_append mt_append (pv 1) (pa_cons (pv 3) pa_nil)))) pss_nil))))
    (pss_one (ps_ret (pv 1))))), ?_⟩
  refine ⟨Nat.zero_le _, fun o no => ?_⟩
  refine ⟨.ref a, rfl, a, _, 0, .int n, rfl, rfl, SqT.of (at_new ha no), rfl, n, rfl, (big62 n (by omega)).1, (big62 n (by omega)).2, ?_⟩
  refine for_it walk_r (fun i σ H' => ∃ y2 y3 fs, σ = [some (.ref a), some (.ref o), y2, y3] ∧ Same H H' ∧ LstT H' o (fs.map nz) ∧ piecesFrom W ((List.range n).drop i) fs = some ps ∧ fs.length ≤ i)
    ⟨none, none, [], rfl, same_new no, ⟨[], upd_same, .nil⟩, hP, Nat.le_refl _⟩ (fun _ _ _ _ _ => trivial) (fun i x σ H0 H1 hi' pp y => ?_) (fun σ H' pp => ?_)
  · obtain ⟨y2, y3, fs, rfl, sm, ⟨us, ho, hus⟩, hF, hl⟩ := pp
    obtain ⟨rfl, rfl⟩ := y
    rw [range_drop hi'] at hF
    have hF' : (match pieceM W i with
      | none => none
      | some pc => piecesFrom W ((List.range n).drop (i + 1)) (if pc ∈ fs then fs else fs ++ [pc])) = some ps := hF
    cases hpc : pieceM W i with
    | none =>
      rw [hpc] at hF'
      exact nomatch hF'
    | some pc =>
      rw [hpc] at hF'
      have hF' : piecesFrom W ((List.range n).drop (i + 1)) (if pc ∈ fs then fs else fs ++ [pc]) = some ps := hF'
      have hul := paired_len hus
      rw [List.length_map] at hul
      refine ⟨.ref a, rfl, .int (i : Nat), rfl, .ref a, n, i, W, pc, rfl, hw.mono (.of sm), hm, hpc, fun H2 v s2 hv => ?_⟩
      have hus2 : LstT H2 o (fs.map nz) := ⟨us, s2 _ _ ho, hus.mono (.of s2)⟩
      refine ⟨v, rfl, .ref o, rfl, _, _, dp_tup hv, dp_lst hus2, shaped_dT _, shaped_dTs _, _, rfl, ?_⟩
      rw [any_dT, nzs_mem]
      refine ite2 (fun e => ?_) (fun e => ?_)
      · have e' : ¬ pc ∈ fs := fun z => by
          rw [decide_eq_true z] at e
          exact absurd e (by decide)
        rw [if_neg e'] at hF'
        have ho2 := s2 _ _ ho
        refine ⟨.ref o, rfl, .inl ⟨rfl, _, SqL.of ho2⟩, v, rfl, o, us, v, rfl, rfl, ho2, szlt _ (by omega), ?_⟩
        refine ⟨_, _, fs ++ [pc], rfl, same_mut (sm.trans s2) no, ⟨_, upd_same, ?_⟩, hF', by rw [List.length_append, List.length_singleton]; omega⟩
        rw [List.map_append]
        exact paired_snoc (hv.mono (.lst ho2)) (hus.mono (.trans (.of s2) (.lst ho2)))
      · have e' : pc ∈ fs := by
          by_cases g : pc ∈ fs
          · exact g
          · rw [decide_eq_false g] at e
            exact absurd rfl e
        rw [if_pos e'] at hF'
        exact ⟨_, _, fs, rfl, sm.trans s2, hus2, hF', by omega⟩
  · obtain ⟨y2, y3, fs, rfl, sm, hL, hF, hl⟩ := pp
    rw [List.drop_of_length_le (by simp)] at hF
    have ef : fs = ps := Option.some.inj hF
    subst ef
    exact ⟨.ref o, rfl, q _ _ sm hL⟩
abbrev Nhasring : List Str := ["web"]
theorem schasring : FnScope Nhasring ["web"] (defScope (topS 23)) := ⟨rfl, rfl, rfl, by decide +kernel, rfl, by decide +kernel, by decide +kernel⟩
-- 0 web
def spHas : Sp := fun vs H Q _ => ∃ (wv : V) (n : Nat) (T : List (Nat × Nat)) (ps : List (List Nat)), vs = [wv] ∧ IsWeb H wv n T ∧ T.length ≤ 1000 ∧ n ≤ 1000 ∧ piecesM n T = some ps ∧
  ∀ H', Same H H' → Q (.bl (decide (n < T.length + ps.length))) H'
theorem k_hasring (T : Tx K mg) : Keeps P w K mg base 4 "has_ring" ["web"] spHas := by
  have kpieces := k_pieces (P := P) (w := w) (base := base) T
  refine T.dhasring.keeps schasring (fun vs H Q E h => ?_) (fun fa cdv A outer s H vs Q E hr h => ?_)
  · obtain ⟨wv, n, T, ps, rfl, _⟩ := h
    rfl
  obtain ⟨wv, n, W, ps, rfl, hw, hm, hn, hP, q⟩ := h
  obtain ⟨a, t, tv, rfl, ha, ht, hi⟩ := id hw
  have hlen := paired_len hi
  rw [List.length_map] at hlen
  refine ⟨_, (pss_one (ps_ret (pe_cmpR op_gt (pe_callB call_len_seq (by rfl) T.zlen (by decide +kernel) (pa_cons (pe_ix ix_tup (pv 0) pe_int (fun _ _ => rfl)) pa_nil)) (pe_op op_sub (pe_ix ix_tup (pv 0) pe_int (fun _ _ => rfl)) (pe_callB call_len_seq (by rfl) T.zlen (by decide +kernel) (pa_cons (pe_k kpieces (hr.mono (by decide)) (pa_cons (pv 0) pa_nil)) pa_nil))) (nomark _)))), ?_⟩
  refine ⟨.ref a, rfl, a, _, 1, .ref t, rfl, rfl, SqT.of ha, rfl, t, _, rfl, .inr (SqT.of ht), .ref a, rfl, a, _, 0, .int n, rfl, rfl, SqT.of ha, rfl, .ref a, rfl, .ref a, n, W, ps, rfl, hw, hm, hn, hP, fun H1 l s1 ⟨us, hl, hus⟩ => ?_⟩
  have hul := paired_len hus
  rw [List.length_map] at hul
  refine ⟨l, us, rfl, .inl (SqL.of hl), _, _, rfl, rfl, _, _, rfl, rfl, ?_⟩
  have e : decide ((n : Int) - (us.length : Int) < (tv.length : Int)) = decide (n < W.length + ps.length) := by
    rw [hlen, hul]
    by_cases g : n < W.length + ps.length
    · rw [decide_eq_true g]
      exact decide_eq_true (by omega)
    · rw [decide_eq_false g]
      exact decide_eq_false (by omega)
  show Q (.bl (decide ((n : Int) - (us.length : Int) < (tv.length : Int)))) H1
  rw [e]
  exact q _ s1
end
end K40

set_option Elab.async false
set_option linter.all false
set_option maxRecDepth 100000
set_option maxHeartbeats 4000000
namespace K40
open PySem PySem.Spec PyProof.Rows L2
section
variable {P : Program} {w : World} {K : PySem.W.Frag} {mg : Str → Option Value} {base : Heap}
/-! ### dicts of dicts of tuples -/
def outerK (k : Nat) : List Addr → List (L2.Key × V)
  | [] => []
  | d :: r => (Sum.inl (k : Int), V.ref d) :: outerK (k + 1) r
theorem outer_len : ∀ (k : Nat) (ds : List Addr), (outerK k ds).length = ds.length
  | _, [] => rfl
  | k, _ :: r => congrArg Nat.succ (outer_len (k + 1) r)
theorem outer_at : ∀ (k : Nat) (ds : List Addr) (j : Nat), valV (outerK k ds) (Sum.inl ((k + j : Nat) : Int)) = ds[j]?.map V.ref
  | k, [], j => by simp [outerK, valV]
  | k, d :: r, 0 => by
    refine (valV_pos (p := (Sum.inl (k : Int), V.ref d)) ?_).trans rfl
    rfl
  | k, d :: r, j + 1 => by
    have ih := outer_at (k + 1) r j
    have e : (k + 1 + j : Nat) = k + (j + 1) := by omega
    rw [e] at ih
    refine (valV_neg (p := (Sum.inl (k : Int), V.ref d)) ?_).trans (ih.trans (by simp))
    intro z
    have z' : (k : Int) = ((k + (j + 1) : Nat) : Int) := Sum.inl.inj z
    omega
theorem outer_snoc : ∀ (k : Nat) (ds : List Addr) (d : Addr), outerK k (ds ++ [d]) = outerK k ds ++ [(Sum.inl ((k + ds.length : Nat) : Int), V.ref d)]
  | k, [], d => rfl
  | k, c :: r, d => by
    have ih := outer_snoc (k + 1) r d
    have e : k + 1 + r.length = k + (c :: r).length := by
      rw [List.length_cons]
      omega
    rw [e] at ih
    show (Sum.inl (k : Int), V.ref c) :: outerK (k + 1) (r ++ [d]) = _
    rw [ih]
    rfl
/-- a dict of ways to places -/
def InnerOk (H : Hp) (d : Addr) (A : Assoc (List Nat)) : Prop := ∃ kvs, H d = some (.dK kvs) ∧ Paired (fun (kv : L2.Key × V) (p : Nat × List Nat) => kv.1 = Sum.inl (p.1 : Int) ∧ Tup H kv.2 (nz p.2)) kvs A
theorem inl_eq (a b : Nat) : decide ((Sum.inl (a : Int) : L2.Key) = Sum.inl (b : Int)) = (a == b) := by
  rw [key_ll, Bool.eq_iff_iff]
  simp
  omega
theorem look_rel {H : Hp} {k : Nat} : ∀ {kvs : List (L2.Key × V)} {A : Assoc (List Nat)}, Paired (fun (kv : L2.Key × V) (p : Nat × List Nat) => kv.1 = Sum.inl (p.1 : Int) ∧ Tup H kv.2 (nz p.2)) kvs A →
    (look A k = none → valV kvs (Sum.inl (k : Int)) = none) ∧ ∀ w, look A k = some w → ∃ v, valV kvs (Sum.inl (k : Int)) = some v ∧ Tup H v (nz w)
  | _, _, .nil => ⟨fun _ => rfl, fun w h => by simp [look] at h⟩
  | (kk, v) :: kvs, (j, w0) :: A, .cons r t => by
    obtain ⟨h1, h2⟩ := r
    have h1 : kk = Sum.inl (j : Int) := h1
    subst h1
    by_cases g : j = k
    · subst g
      have e : look ((j, w0) :: A) j = some w0 := by simp [look]
      rw [e]
      refine ⟨(fun z => nomatch z), fun w h => ?_⟩
      cases h
      exact ⟨v, valV_pos rfl, h2⟩
    · have e : look ((j, w0) :: A) k = look A k := by simp [look, g]
      rw [e]
      have ne : ¬ ((Sum.inl (j : Int) : L2.Key) = Sum.inl (k : Int)) := fun z => by
        injection z with z
        exact g (by omega)
      obtain ⟨i1, i2⟩ := look_rel (k := k) t
      refine ⟨fun z => (valV_neg ne).trans (i1 z), fun w h => ?_⟩
      obtain ⟨v', e1, e2⟩ := i2 w h
      exact ⟨v', (valV_neg ne).trans e1, e2⟩
theorem put_rel {H : Hp} {k : Nat} {v : V} {w : List Nat} (hv : Tup H v (nz w)) {kvs : List (L2.Key × V)} {A : Assoc (List Nat)}
    (h : Paired (fun (kv : L2.Key × V) (p : Nat × List Nat) => kv.1 = Sum.inl (p.1 : Int) ∧ Tup H kv.2 (nz p.2)) kvs A) :
    Paired (fun (kv : L2.Key × V) (p : Nat × List Nat) => kv.1 = Sum.inl (p.1 : Int) ∧ Tup H kv.2 (nz p.2)) (putK kvs (Sum.inl (k : Int)) v) (putA A k w) := by
  have e : ∀ {kvs : List (L2.Key × V)} {A : Assoc (List Nat)}, Paired (fun (kv : L2.Key × V) (p : Nat × List Nat) => kv.1 = Sum.inl (p.1 : Int) ∧ Tup H kv.2 (nz p.2)) kvs A →
      (kvs.any fun kv => decide (kv.1 = Sum.inl (k : Int))) = (A.any fun p => p.1 == k) := by
    intro kvs A h
    induction h with
    | nil => rfl
    | cons r t ih =>
      rw [List.any_cons, List.any_cons, ih, r.1, inl_eq]
  have m : ∀ {kvs : List (L2.Key × V)} {A : Assoc (List Nat)}, Paired (fun (kv : L2.Key × V) (p : Nat × List Nat) => kv.1 = Sum.inl (p.1 : Int) ∧ Tup H kv.2 (nz p.2)) kvs A →
      Paired (fun (kv : L2.Key × V) (p : Nat × List Nat) => kv.1 = Sum.inl (p.1 : Int) ∧ Tup H kv.2 (nz p.2)) (kvs.map fun kv => if kv.1 = Sum.inl (k : Int) then (kv.1, v) else kv) (A.map fun p => if p.1 = k then (p.1, w) else p) := by
    intro kvs A h
    induction h with
    | nil => exact .nil
    | @cons a b _ _ r t ih =>
      refine .cons ?_ ih
      have q := inl_eq b.1 k
      by_cases g : b.1 = k
      · have g2 : a.1 = Sum.inl (k : Int) := by rw [r.1, g]
        dsimp only
        rw [if_pos g, if_pos g2]
        exact ⟨r.1, hv⟩
      · have g2 : ¬ a.1 = Sum.inl (k : Int) := fun z => by
          rw [r.1] at z
          injection z with z
          exact g (by omega)
        dsimp only
        rw [if_neg g, if_neg g2]
        exact r
  unfold putK putA
  rw [e h]
  by_cases g : (A.any fun p => p.1 == k) = true
  · rw [if_pos g, if_pos g]
    exact m h
  · rw [if_neg g, if_neg g]
    exact paired_snoc ⟨rfl, hv⟩ h
theorem keys_rel {H : Hp} {kvs : List (L2.Key × V)} {A : Assoc (List Nat)} (h : Paired (fun (kv : L2.Key × V) (p : Nat × List Nat) => kv.1 = Sum.inl (p.1 : Int) ∧ Tup H kv.2 (nz p.2)) kvs A) :
    (kvs.map fun kv => kV kv.1) = (nz (A.map (·.1))).map V.int := by
  induction h with
  | nil => rfl
  | cons r t ih =>
    rw [List.map_cons, ih, r.1]
    rfl
theorem rel_mono {H H' : Hp} (e : TupSame H H') {kvs : List (L2.Key × V)} {A : Assoc (List Nat)} (h : Paired (fun (kv : L2.Key × V) (p : Nat × List Nat) => kv.1 = Sum.inl (p.1 : Int) ∧ Tup H kv.2 (nz p.2)) kvs A) :
    Paired (fun (kv : L2.Key × V) (p : Nat × List Nat) => kv.1 = Sum.inl (p.1 : Int) ∧ Tup H' kv.2 (nz p.2)) kvs A := Paired.mapP h fun _ _ q => ⟨q.1, q.2.mono e⟩
/-- all ways -/
structure WaysOk (H : Hp) (wd : Addr) (ds : List Addr) (W : Ways) : Prop where
  out : H wd = some (.dK (outerK 0 ds))
  len : ds.length = W.length
  nd : ds.Nodup
  off : wd ∉ ds
  inn : ∀ (p : Nat) (d : Addr) (A : Assoc (List Nat)), ds[p]? = some d → W[p]? = some A → InnerOk H d A
theorem WaysOk.mono {H H' : Hp} {wd : Addr} {ds : List Addr} {W : Ways} (h : WaysOk H wd ds W) (e : Same H H') : WaysOk H' wd ds W :=
  ⟨e _ _ h.out, h.len, h.nd, h.off, fun p d A h1 h2 => by
    obtain ⟨kvs, k1, k2⟩ := h.inn p d A h1 h2
    exact ⟨kvs, e _ _ k1, rel_mono (.of e) k2⟩⟩
theorem WaysOk.dget {H : Hp} {wd : Addr} {ds : List Addr} {W : Ways} (h : WaysOk H wd ds W) {p : Nat} {A : Assoc (List Nat)} (e : W[p]? = some A) : ∃ d, ds[p]? = some d ∧ DGet H wd (.int (p : Nat)) (some (.ref d)) ∧ InnerOk H d A := by
  have hp : p < ds.length := by
    have := (List.getElem?_eq_some_iff.mp e).1
    rw [h.len]
    exact this
  have hd : ds[p]? = some ds[p] := List.getElem?_eq_getElem hp
  refine ⟨ds[p], hd, ?_, h.inn p _ A hd e⟩
  have q := outer_at 0 ds p
  rw [hd, Nat.zero_add] at q
  have g := DGet.k (k := Sum.inl (p : Int)) h.out
  rw [q] at g
  exact g
/-- one way more -/
theorem WaysOk.put {H : Hp} {wd : Addr} {ds : List Addr} {W : Ways} (h : WaysOk H wd ds W) {p k : Nat} {d : Addr} {A : Assoc (List Nat)} {v : V} {w : List Nat} (e : W[p]? = some A) (hd : ds[p]? = some d) (hv : Tup H v (nz w)) (hl : A.length < 1000) :
    ∃ H', DPut H d (.int (k : Nat)) v H' ∧ WaysOk H' wd ds (W.set p (putA A k w)) ∧ (∀ c o, H c = some o → c ≠ d → H' c = some o) ∧ TupSame H H' := by
  obtain ⟨kvs, k1, k2⟩ := h.inn p d A hd e
  have hkl := paired_len k2
  have ts : TupSame H (upd H d (.dK (putK kvs (Sum.inl (k : Int)) v))) := .dk k1
  have hmem : d ∈ ds := List.mem_of_getElem? hd
  refine ⟨_, DPut.k (k := Sum.inl (k : Int)) (v := v) k1 (szlt _ (by omega)), ⟨?_, ?_, h.nd, h.off, fun q c B hc hB => ?_⟩, fun c o hc hne => ?_, ts⟩
  · rw [upd_ne (fun z => h.off (by rw [z]; exact hmem))]
    exact h.out
  · rw [List.length_set]
    exact h.len
  · by_cases g : q = p
    · subst g
      rw [hd] at hc
      cases hc
      have hlt := (List.getElem?_eq_some_iff.mp e).1
      rw [List.getElem?_set_self hlt] at hB
      cases hB
      exact ⟨_, upd_same, put_rel (hv.mono ts) (rel_mono ts k2)⟩
    · have hcd : c ≠ d := fun z => by
        rw [z] at hc
        have hlt := (List.getElem?_eq_some_iff.mp hd).1
        exact g (nd_ix h.nd hc hd)
      rw [List.getElem?_set_ne (fun z => g z.symm)] at hB
      obtain ⟨kv2, m1, m2⟩ := h.inn q c B hc hB
      exact ⟨kv2, by rw [upd_ne hcd]; exact m1, rel_mono ts m2⟩
  · rw [upd_ne hne]
    exact hc
theorem dget_way {H : Hp} {d : Addr} {A : Assoc (List Nat)} (h : InnerOk H d A) {k : Nat} {w : List Nat} (e : look A k = some w) : ∃ v, DGet H d (.int (k : Nat)) (some v) ∧ Tup H v (nz w) := by
  obtain ⟨kvs, k1, k2⟩ := h
  obtain ⟨v, e1, e2⟩ := (look_rel (k := k) k2).2 w e
  refine ⟨v, ?_, e2⟩
  rw [← e1]
  exact DGet.k (k := Sum.inl (k : Int)) k1
theorem dget_o {H : Hp} {d : Addr} {A : Assoc (List Nat)} (h : InnerOk H d A) (k : Nat) : ∃ o, DGet H d (.int (k : Nat)) o ∧ o.isSome = (look A k).isSome := by
  obtain ⟨kvs, k1, k2⟩ := h
  refine ⟨_, DGet.k (k := Sum.inl (k : Int)) k1, ?_⟩
  cases e : look A k with
  | none =>
    rw [(look_rel (k := k) k2).1 e]
    rfl
  | some w =>
    obtain ⟨v, e1, _⟩ := (look_rel (k := k) k2).2 w e
    rw [e1]
    rfl
/-! ### joined -/
abbrev Njoined : List Str := ["ways", "a", "b", "starts", "ends", "start", "end", "way"]
theorem scjoined : FnScope Njoined ["ways", "a", "b"] (defScope (topS 30)) := ⟨rfl, rfl, rfl, by decide +kernel, rfl, by decide +kernel, by decide +kernel⟩
-- 0 ways 1 a 2 b 3 starts 4 ends 5 start 6 end 7 way
def spJoined : Sp := fun vs H Q _ => ∃ (wd : Addr) (ds : List Addr) (W W' : Ways) (a b : Nat), vs = [.ref wd, .int (a : Nat), .int (b : Nat)] ∧ WaysOk H wd ds W ∧ joinM W a b = some W' ∧
  ∀ H', WaysOk H' wd ds W' → (∀ c o, H c = some o → c ∉ ds → H' c = some o) → Q .non H'
theorem k_joined (T : Tx K mg) : Keeps P w K mg base 1 "joined" ["ways", "a", "b"] spJoined := by
  refine T.djoined.keeps scjoined (fun vs H Q E h => ?_) (fun fa cdv A outer s H vs Q E hr h => ?_)
  · obtain ⟨wd, ds, W, W', a, b, rfl, _⟩ := h
    rfl
  obtain ⟨wd, ds, W, W', a, b, rfl, hW, hJ, q⟩ := h
  have hu := hu_of hr
  refine ⟨_, (pss_cons (ps_par (i := 3) (j := 4) (by rfl) scjoined.nd rfl rfl (by decide) rfl rfl (pa_cons (pe_callTy (call_list_dK rfl) (by rfl) T.zlist (by decide +kernel) (pa_cons (pe_dget hu (pv 0) (pv 1) (fun _ _ => rfl)) pa_nil)) (pa_cons (pe_callTy (call_list_dK rfl) (by rfl) T.zlist (by decide +kernel) (pa_cons (pe_dget hu (pv 0) (pv 2) (fun _ _ => rfl)) pa_nil)) pa_nil)) (by rfl))
    (pss_one (ps_for PassesOwn.never rfl (pi_list (pv 3)) (pg_name (i := 5) scjoined.nd rfl (.inl rfl)) (pss_one (ps_for PassesOwn.never rfl (pi_list (pv 4)) (pg_name (i := 6) scjoined.nd rfl (.inl rfl)) (pss_cons (ps_set (i := 7) scjoined.nd rfl (.inl rfl) (pe_op op_catT (pe_dget hu (pe_dget hu (pv 0) (pv 5) (fun _ _ => rfl)) (pv 1) (fun _ _ => rfl)) (pe_dget hu (pe_dget hu (pv 0) (pv 2) (fun _ _ => rfl)) (pv 6) (fun _ _ => rfl))))
    (pss_cons (ps_dput hu (pe_dget hu (pv 0) (pv 5) (fun _ _ => rfl)) (pv 6) (pv 7) rfl)
    (pss_one (ps_dput hu (pe_dget hu (pv 0) (pv 6) (fun _ _ => rfl)) (pv 5) (pe_revT (pv 7)) rfl))))))))), ?_⟩
  cases ea : W[a]? with
  | none => simp [joinM, ea] at hJ
  | some da =>
  cases eb : W[b]? with
  | none => simp [joinM, ea, eb] at hJ
  | some db =>
  have hJ : joinStarts a b (db.map (·.1)) (da.map (·.1)) W = some W' := by
    simpa [joinM, ea, eb] using hJ
  obtain ⟨dda, hda, ga, ina⟩ := hW.dget ea
  obtain ⟨ddb, hdb, gb, inb⟩ := hW.dget eb
  obtain ⟨kva, ka1, ka2⟩ := id ina
  obtain ⟨kvb, kb1, kb2⟩ := id inb
  -- the lists of starts and ends
  refine ⟨.ref wd, rfl, .int (a : Nat), rfl, wd, .ref dda, rfl, ga, dda, kva, rfl, ka1, fun st nst => ?_⟩
  rw [keys_rel ka2]
  have s1 : Same H (upd H st (.lst ((nz (da.map (·.1))).map V.int))) := same_new nst
  obtain ⟨ddb2, hdb2, gb2, _⟩ := (hW.mono s1).dget eb
  rw [hdb] at hdb2
  cases hdb2
  refine ⟨.ref wd, rfl, .int (b : Nat), rfl, wd, .ref ddb, rfl, gb2, ddb, kvb, rfl, s1 _ _ kb1, fun en nen => ?_⟩
  rw [keys_rel kb2]
  have s2 : Same H (upd (upd H st (.lst ((nz (da.map (·.1))).map V.int))) en (.lst ((nz (db.map (·.1))).map V.int))) := same_step s1 nen
  have hst2 := at_new (o := .lst ((nz (db.map (·.1))).map V.int)) (upd_same (H := H) (a := st) (o := .lst ((nz (da.map (·.1))).map V.int))) nen
  have fen : H en = none := Same.free s1 nen
  have offd : ∀ c, H c = none → c ∉ ds := fun c hc hm => by
    obtain ⟨p, hp⟩ := List.mem_iff_getElem?.mp hm
    have hlt : p < W.length := by
      rw [← hW.len]
      exact (List.getElem?_eq_some_iff.mp hp).1
    obtain ⟨kvs, k1, _⟩ := hW.inn p c _ hp (List.getElem?_eq_getElem hlt)
    rw [hc] at k1
    cases k1
  have ost := offd st nst
  have oen := offd en fen
  refine ⟨_, _, rfl, ?_⟩
  -- for start in starts
  refine ⟨.ref st, rfl, st, rfl, ⟨_, SqL.of hst2⟩, ?_⟩
  refine for_it (walk_list (xs := (nz (da.map (·.1))).map V.int)) (fun i σ H' => ∃ y5 y6 y7 Wi, σ = [some (.ref wd), some (.int (a : Nat)), some (.int (b : Nat)), some (.ref st), some (.ref en), y5, y6, y7] ∧
      WaysOk H' wd ds Wi ∧ joinStarts a b (db.map (·.1)) ((da.map (·.1)).drop i) Wi = some W' ∧ H' st = some (.lst ((nz (da.map (·.1))).map V.int)) ∧ H' en = some (.lst ((nz (db.map (·.1))).map V.int)) ∧ (∀ c o, H c = some o → c ∉ ds → H' c = some o))
    ⟨none, none, none, W, rfl, hW.mono s2, hJ, hst2, upd_same, fun c o h1 _ => s2 c o h1⟩ (fun i σ H' hi pp => ?_) (fun i x σ H0 H1 hi pp y => ?_) (fun σ H' pp => ?_)
  · obtain ⟨_, _, _, _, _, _, _, e, _⟩ := pp
    exact SqL.of e
  · obtain ⟨y5, y6, y7, Wi, rfl, hWi, hJi, hst, hen, hfr⟩ := pp
    obtain ⟨rfl, ey⟩ := y
    obtain ⟨z, hz, rfl⟩ := Option.map_eq_some_iff.mp (show ((nz (da.map (·.1)))[i]?).map V.int = some x by rw [← List.getElem?_map]; exact ey)
    obtain ⟨sk, hsk, rfl⟩ := Option.map_eq_some_iff.mp (show ((da.map (·.1))[i]?).map (fun (k : Nat) => (k : Int)) = some z by rw [← List.getElem?_map]; exact hz)
    have hlt := (List.getElem?_eq_some_iff.mp hsk).1
    have edrop : (da.map (·.1)).drop i = sk :: (da.map (·.1)).drop (i + 1) := by
      rw [List.drop_eq_getElem_cons hlt]
      congr 1
      exact (List.getElem?_eq_some_iff.mp hsk).2
    rw [edrop] at hJi
    cases hje : joinEnds a b sk (db.map (·.1)) Wi with
    | none => simp [joinStarts, hje] at hJi
    | some Wn =>
    have hJn : joinStarts a b (db.map (·.1)) ((da.map (·.1)).drop (i + 1)) Wn = some W' := by
      simpa [joinStarts, hje] using hJi
    refine ⟨.ref en, rfl, en, rfl, ⟨_, SqL.of hen⟩, ?_⟩
    refine for_it (walk_list (xs := (nz (db.map (·.1))).map V.int)) (fun j σ H' => ∃ y6 y7 Wj, σ = [some (.ref wd), some (.int (a : Nat)), some (.int (b : Nat)), some (.ref st), some (.ref en), some (.int (sk : Nat)), y6, y7] ∧
        WaysOk H' wd ds Wj ∧ joinEnds a b sk ((db.map (·.1)).drop j) Wj = some Wn ∧ H' st = some (.lst ((nz (da.map (·.1))).map V.int)) ∧ H' en = some (.lst ((nz (db.map (·.1))).map V.int)) ∧ (∀ c o, H c = some o → c ∉ ds → H' c = some o))
      ⟨y6, y7, Wi, rfl, hWi, hje, hst, hen, hfr⟩ (fun i σ H' hi pp => ?_) (fun j x σ H0 H2 hj pp y => ?_) (fun σ H' pp => ?_)
    · obtain ⟨_, _, _, _, _, _, _, e, _⟩ := pp
      exact SqL.of e
    · obtain ⟨z6, z7, Wj, rfl, hWj, hJj, hst, hen, hfr⟩ := pp
      obtain ⟨rfl, ey⟩ := y
      obtain ⟨z, hz, rfl⟩ := Option.map_eq_some_iff.mp (show ((nz (db.map (·.1)))[j]?).map V.int = some x by rw [← List.getElem?_map]; exact ey)
      obtain ⟨ek, hek, rfl⟩ := Option.map_eq_some_iff.mp (show ((db.map (·.1))[j]?).map (fun (k : Nat) => (k : Int)) = some z by rw [← List.getElem?_map]; exact hz)
      have hlt2 := (List.getElem?_eq_some_iff.mp hek).1
      have edrop2 : (db.map (·.1)).drop j = ek :: (db.map (·.1)).drop (j + 1) := by
        rw [List.drop_eq_getElem_cons hlt2]
        congr 1
        exact (List.getElem?_eq_some_iff.mp hek).2
      rw [edrop2] at hJj
      cases hjo : joinOne Wj a b sk ek with
      | none => simp [joinEnds, hjo] at hJj
      | some Wk =>
      have hJk : joinEnds a b sk ((db.map (·.1)).drop (j + 1)) Wk = some Wn := by
        simpa [joinEnds, hjo] using hJj
      -- what joinOne has looked at
      cases eS : Wj[sk]? with
      | none => simp [joinOne, eS] at hjo
      | some dS =>
      cases eB : Wj[b]? with
      | none => simp [joinOne, eS, eB] at hjo
      | some dB =>
      cases l1 : look dS a with
      | none => simp [joinOne, eS, eB, l1] at hjo
      | some w1 =>
      cases l2 : look dB ek with
      | none => simp [joinOne, eS, eB, l1, l2] at hjo
      | some w2 =>
      have eget : Wj.getD sk [] = dS := by
        rw [List.getD_eq_getElem?_getD, eS]
        rfl
      have hjo2 : (if (w1.isEmpty || (w2.isEmpty || Nat.ble 900 (w1.length + w2.length))) = true then none else
          match (Wj.set sk (putA dS ek (w1 ++ w2)))[ek]? with
          | some d2 => if (Nat.ble 900 dS.length || Nat.ble 900 d2.length) = true then none else some ((Wj.set sk (putA dS ek (w1 ++ w2))).set ek (putA d2 sk (w1 ++ w2).reverse))
          | none => none) = some Wk := by
        rw [← hjo]
        simp only [joinOne, eS, eB, Option.bind_some, l1, l2, eget]
        split
        · rfl
        · cases (Wj.set sk (putA dS ek (w1 ++ w2)))[ek]? <;> rfl
      by_cases gg : (w1.isEmpty || (w2.isEmpty || Nat.ble 900 (w1.length + w2.length))) = true
      · rw [if_pos gg] at hjo2
        exact nomatch hjo2
      rw [if_neg gg] at hjo2
      cases eE : (Wj.set sk (putA dS ek (w1 ++ w2)))[ek]? with
      | none =>
        rw [eE] at hjo2
        exact nomatch hjo2
      | some d2 =>
      rw [eE] at hjo2
      have hjo3 : (if (Nat.ble 900 dS.length || Nat.ble 900 d2.length) = true then none else some ((Wj.set sk (putA dS ek (w1 ++ w2))).set ek (putA d2 sk (w1 ++ w2).reverse))) = some Wk := hjo2
      by_cases g3 : (Nat.ble 900 dS.length || Nat.ble 900 d2.length) = true
      · rw [if_pos g3] at hjo3
        exact nomatch hjo3
      rw [if_neg g3] at hjo3
      have eWk := Option.some.inj hjo3
      have n1 : w1 ≠ [] := fun z => gg (by rw [z]; rfl)
      have n2 : w2 ≠ [] := fun z => gg (by rw [z]; simp)
      have n3 : w1.length + w2.length < 900 := by
        by_cases z : 900 ≤ w1.length + w2.length
        · exact absurd (by rw [Nat.ble_eq_true_of_le z]; simp) gg
        · omega
      have n4 : dS.length < 900 := by
        by_cases z : 900 ≤ dS.length
        · exact absurd (by rw [Nat.ble_eq_true_of_le z]; rfl) g3
        · omega
      have n5 : d2.length < 900 := by
        by_cases z : 900 ≤ d2.length
        · exact absurd (by rw [Nat.ble_eq_true_of_le z]; simp) g3
        · omega
      -- way = ways[start][a] + ways[b][end]
      obtain ⟨cS, hcS, gS, iS⟩ := hWj.dget eS
      obtain ⟨cB, hcB, gB, iB⟩ := hWj.dget eB
      obtain ⟨v1, gv1, tv1⟩ := dget_way iS l1
      obtain ⟨v2, gv2, tv2⟩ := dget_way iB l2
      obtain ⟨p1, rfl, hp1⟩ := tv1
      obtain ⟨p2, rfl, hp2⟩ := tv2
      refine ⟨.ref wd, rfl, .int (sk : Nat), rfl, wd, .ref cS, rfl, gS, .int (a : Nat), rfl, cS, .ref p1, rfl, gv1, .ref wd, rfl, .int (b : Nat), rfl, wd, .ref cB, rfl, gB, .int (ek : Nat), rfl, cB, .ref p2, rfl, gv2,
        p1, p2, _, _, rfl, rfl, SqT.of hp1, SqT.of hp2, ?_, ?_, fun z => ?_, fun _ wy nwy => ?_⟩
      · intro z
        cases w1 with
        | nil => exact n1 rfl
        | cons x r => simp [nz] at z
      · exact sz _ (by simp [nz]; omega)
      · cases w2 with
        | nil => exact absurd rfl n2
        | cons x r => simp [nz] at z
      have e12 : (nz w1).map V.int ++ (nz w2).map V.int = (nz (w1 ++ w2)).map V.int := by simp [nz]
      rw [e12]
      have sw : Same H2 (upd H2 wy (.tup ((nz (w1 ++ w2)).map V.int))) := same_new nwy
      have hWw := hWj.mono sw
      -- ways[start][end] = way
      obtain ⟨H4, dp4, hW4, fr4, ts4⟩ := hWw.put (k := ek) (v := .ref wy) (w := w1 ++ w2) eS hcS ⟨wy, rfl, upd_same⟩ (by omega)
      obtain ⟨cS2, hcS2, gS2, _⟩ := hWw.dget eS
      rw [hcS] at hcS2
      cases hcS2
      refine ⟨.ref wy, rfl, .ref wd, rfl, .int (sk : Nat), rfl, wd, .ref cS, rfl, gS2, .int (ek : Nat), rfl, cS, H4, rfl, dp4, ?_⟩
      -- ways[end][start] = way[::-1]
      have hwy4 : H4 wy = some (.tup ((nz (w1 ++ w2)).map V.int)) := ts4 _ _ upd_same
      refine ⟨.ref wy, rfl, wy, _, rfl, SqT.of hwy4, ?_, fun rv nrv => ?_⟩
      · intro z
        cases w1 with
        | nil => exact n1 rfl
        | cons x r => simp [nz] at z
      have erv : ((nz (w1 ++ w2)).map V.int).reverse = (nz (w1 ++ w2).reverse).map V.int := by
        simp only [nz, List.map_reverse]
      rw [erv]
      have sr : Same H4 (upd H4 rv (.tup ((nz (w1 ++ w2).reverse).map V.int))) := same_new nrv
      have hWr := hW4.mono sr
      obtain ⟨cE, hcE, gE, _⟩ := hWr.dget eE
      obtain ⟨H5, dp5, hW5, fr5, ts5⟩ := hWr.put (k := sk) (v := .ref rv) (w := (w1 ++ w2).reverse) eE hcE ⟨rv, rfl, upd_same⟩ (by omega)
      refine ⟨.ref wd, rfl, .int (ek : Nat), rfl, wd, .ref cE, rfl, gE, .int (sk : Nat), rfl, cE, H5, rfl, dp5, ?_⟩
      have mS : cS ∈ ds := List.mem_of_getElem? hcS
      have mE : cE ∈ ds := List.mem_of_getElem? hcE
      have go : ∀ c o, H2 c = some o → c ∉ ds → H5 c = some o := fun c o h1 h2 =>
        fr5 c o (sr c o (fr4 c o (sw c o h1) (fun z => h2 (by rw [z]; exact mS)))) (fun z => h2 (by rw [z]; exact mE))
      refine ⟨_, _, Wk, rfl, by rw [← eWk]; exact hW5, hJk, go _ _ hst ost, go _ _ hen oen, fun c o h1 h2 => go c o (hfr c o h1 h2) h2⟩
    · obtain ⟨z6, z7, Wj, rfl, hWj, hJj, hst, hen, hfr⟩ := pp
      rw [List.drop_of_length_le (by simp [nz])] at hJj
      have eW : Wj = Wn := Option.some.inj hJj
      subst eW
      exact ⟨_, _, _, Wj, rfl, hWj, hJn, hst, hen, hfr⟩
  · obtain ⟨y5, y6, y7, Wi, rfl, hWi, hJi, hst, hen, hfr⟩ := pp
    rw [List.drop_of_length_le (by simp [nz])] at hJi
    have eW : Wi = W' := Option.some.inj hJi
    subst eW
    exact q _ hWi hfr
end
end K40

set_option Elab.async false
set_option linter.all false
set_option maxRecDepth 100000
set_option maxHeartbeats 4000000
namespace K40
open PySem PySem.Spec PyProof.Rows L2
section
variable {P : Program} {w : World} {K : PySem.W.Frag} {mg : Str → Option Value} {base : Heap}
/-! ### some_ring -/
theorem outer_any : ∀ (k : Nat) (ds : List Addr) (j : Nat), k + ds.length ≤ j → ((outerK k ds).any fun kv => decide (kv.1 = Sum.inl (j : Int))) = false
  | _, [], _, _ => rfl
  | k, d :: r, j, h => by
    rw [List.length_cons] at h
    have ih := outer_any (k + 1) r j (by omega)
    show (decide ((Sum.inl (k : Int) : L2.Key) = Sum.inl (j : Int)) || ((outerK (k + 1) r).any fun kv => decide (kv.1 = Sum.inl (j : Int)))) = false
    rw [ih, inl_eq]
    simp
    omega
theorem outer_put (ds : List Addr) (d : Addr) : putK (outerK 0 ds) (Sum.inl (ds.length : Int)) (.ref d) = outerK 0 (ds ++ [d]) := by
  unfold putK
  rw [outer_any 0 ds ds.length (by omega), outer_snoc, Nat.zero_add]
  exact if_neg Bool.false_ne_true
theorem WaysOk.more {H H1 : Hp} {wd : Addr} {ds : List Addr} {W : Ways} (h : WaysOk H wd ds W) (e : Same H H1) {d : Addr} {v : V} {A : Assoc (List Nat)} (hd : H d = none) (hi : InnerOk H1 d A) (hl : ds.length ≤ 1000) :
    ∃ H2, DPut H1 wd (.int (ds.length : Nat)) (.ref d) H2 ∧ WaysOk H2 wd (ds ++ [d]) (W ++ [A]) ∧ H2 = upd H1 wd (.dK (outerK 0 (ds ++ [d]))) := by
  have hW1 := h.mono e
  have ts : TupSame H1 (upd H1 wd (.dK (outerK 0 (ds ++ [d])))) := .dk hW1.out
  have dwd : d ≠ wd := fun z => by
    rw [z, h.out] at hd
    cases hd
  have dds : d ∉ ds := fun hm => by
    obtain ⟨p, hp⟩ := List.mem_iff_getElem?.mp hm
    have hlt : p < W.length := by
      rw [← h.len]
      exact (List.getElem?_eq_some_iff.mp hp).1
    obtain ⟨kvs, k1, _⟩ := h.inn p d _ hp (List.getElem?_eq_getElem hlt)
    rw [hd] at k1
    cases k1
  refine ⟨_, DPut.k (k := Sum.inl (ds.length : Int)) (v := .ref d) hW1.out (szlt _ (by rw [outer_len]; omega)), ?_, by rw [outer_put]⟩
  rw [outer_put]
  refine ⟨upd_same, by rw [List.length_append, List.length_append, h.len]; rfl, ?_, ?_, fun p c B hc hB => ?_⟩
  · refine List.nodup_append.mpr ⟨h.nd, by simp, fun x hx y hy => ?_⟩
    rw [List.mem_singleton] at hy
    subst hy
    exact fun z => dds (z ▸ hx)
  · intro z
    rcases List.mem_append.mp z with z | z
    · exact h.off z
    · exact dwd (List.mem_singleton.mp z).symm
  · by_cases g : p < ds.length
    · rw [List.getElem?_append_left g] at hc
      rw [List.getElem?_append_left (by rw [← h.len]; exact g)] at hB
      obtain ⟨kvs, k1, k2⟩ := hW1.inn p c B hc hB
      have cwd : c ≠ wd := fun z => h.off (z ▸ List.mem_of_getElem? hc)
      exact ⟨kvs, by rw [upd_ne cwd]; exact k1, rel_mono ts k2⟩
    · rw [List.getElem?_append_right (by omega)] at hc
      rw [List.getElem?_append_right (by rw [← h.len]; omega), ← h.len] at hB
      cases hp : p - ds.length with
      | zero =>
        rw [hp] at hc hB
        cases hc
        cases hB
        obtain ⟨kvs, k1, k2⟩ := hi
        exact ⟨kvs, by rw [upd_ne dwd]; exact k1, rel_mono ts k2⟩
      | succ q =>
        rw [hp] at hc
        exact nomatch hc
abbrev Nsomering : List Str := ["web", "ways", "place", "a", "b"]
theorem scsomering : FnScope Nsomering ["web"] (defScope (topS 29)) := ⟨rfl, rfl, rfl, by decide +kernel, rfl, by decide +kernel, by decide +kernel⟩
-- 0 web 1 ways 2 place 3 a 4 b
def spSome : Sp := fun vs H Q _ => ∃ (wv : V) (n : Nat) (T : List (Nat × Nat)) (o : Option (List Nat)), vs = [wv] ∧ IsWeb H wv n T ∧ T.length ≤ 1000 ∧ n ≤ 1000 ∧ someRingM n T = some o ∧
  (o = none → ∀ H', Same H H' → Q .non H') ∧ (∀ R H' v, o = some R → Same H H' → Tup H' v (nz R) → Q v H')
theorem k_somering (T : Tx K mg) : Keeps P w K mg base 2 "some_ring" ["web"] spSome := by
  have kjoined := k_joined (P := P) (w := w) (base := base) T
  refine T.dsomering.keeps scsomering (fun vs H Q E h => ?_) (fun fa cdv A outer s H vs Q E hr h => ?_)
  · obtain ⟨wv, n, T, o, rfl, _⟩ := h
    rfl
  obtain ⟨wv, n, W, o, rfl, hw, hm, hn, hR, q1, q2⟩ := h
  obtain ⟨a, t, tv, rfl, ha, ht, hi⟩ := id hw
  have hlen := paired_len hi
  rw [List.length_map] at hlen
  have hu := hu_of hr
  refine ⟨_, (pss_cons (ps_set (i := 1) scsomering.nd rfl (.inl rfl) pe_dnewK)
    (pss_cons (ps_for PassesOwn.never rfl (pi_range1 (by rfl) T.zrange (pa_cons (pe_ix ix_tup (pv 0) pe_int (fun _ _ => rfl)) pa_nil)) (pg_name (i := 2) scsomering.nd rfl (.inl rfl)) (pss_one (ps_dput hu (pv 1) (pv 2) (pe_disp (pps_cons (pv 2) (pe_tup (pa_cons (pv 2) pa_nil)) pps_nil) (by rfl) (by rfl) (fun z => by cases z) (by decide)) rfl)))
    (pss_cons (ps_for PassesOwn.never rfl (pi_tup (pe_ix ix_tup (pv 0) pe_int (fun _ _ => rfl))) (pg_tup rfl (pgs_cons (pg_name (i := 3) scsomering.nd rfl (.inl rfl)) (pgs_cons (pg_name (i := 4) scsomering.nd rfl (.inl rfl)) pgs_nil))) (pss_cons (ps_if (pt_cmp (pc_din hu (pv 4) (pe_dget hu (pv 1) (pv 3) (fun _ _ => rfl)))) (pss_one (ps_ret (pe_dget hu (pe_dget hu (pv 1) (pv 4) (fun _ _ => rfl)) (pv 3) (fun _ _ => rfl)))) pss_nil)
    (pss_one (ps_expr (pe_k kjoined (hr.mono (by decide)) (pa_cons (pv 1) (pa_cons (pv 3) (pa_cons (pv 4) pa_nil))))))))
    (pss_one (ps_ret pe_non))))), ?_⟩
  refine fun wd nwd => ?_
  have s0 : Same H (upd H wd (.dK [])) := same_new nwd
  refine ⟨.ref a, rfl, a, _, 0, .int n, rfl, rfl, SqT.of (s0 _ _ ha), rfl, n, rfl, (big62 n (by omega)).1, (big62 n (by omega)).2, ?_⟩
  refine for_it walk_r (fun i σ H' => ∃ y2 ds, σ = [some (.ref a), some (.ref wd), y2, none, none] ∧ Same H H' ∧ (∀ d ∈ ds, H d = none) ∧ ds.length = i ∧ WaysOk H' wd ds ((List.range i).map fun p => [(p, [p])]))
    ⟨none, [], rfl, s0, (fun d hd => nomatch hd), rfl, upd_same, rfl, .nil, (fun z => nomatch z), fun p d A e => by simp at e⟩ (fun _ _ _ _ _ => trivial) (fun i x σ H0 H1 hi' pp y => ?_) (fun σ H' pp => ?_)
  · obtain ⟨y2, ds, rfl, sm, fr, ld, hW⟩ := pp
    obtain ⟨rfl, rfl⟩ := y
    subst ld
    refine fun d nd => ⟨.int (ds.length : Nat), rfl, .int (ds.length : Nat), rfl, le1, fun c nc => ⟨at_new upd_same nc, [(Sum.inl (ds.length : Int), .ref c)], rfl, Nat.succ_le_succ (Nat.zero_le _), ?_⟩⟩
    have sc : Same H1 (upd (upd H1 d (.dK [])) c (.tup [.int (ds.length : Nat)])) := same_step (same_new nd) nc
    have cd : c ≠ d := (ne_of_none upd_same nc).symm
    have sd := same_mut (o := .dK (mergeK [] [(Sum.inl (ds.length : Int), .ref c)])) sc nd
    have hin : InnerOk (upd (upd (upd H1 d (.dK [])) c (.tup [.int (ds.length : Nat)])) d (.dK (mergeK [] [(Sum.inl (ds.length : Int), .ref c)]))) d [(ds.length, [ds.length])] := by
      refine ⟨_, upd_same, .cons ⟨rfl, c, rfl, ?_⟩ .nil⟩
      rw [upd_ne cd]
      exact upd_same
    obtain ⟨H2, dp, hW2, eH⟩ := hW.more (v := .ref d) sd nd hin (by omega)
    refine ⟨.ref wd, rfl, .int (ds.length : Nat), rfl, wd, H2, rfl, dp, ?_⟩
    refine ⟨_, ds ++ [d], rfl, ?_, fun x hx => ?_, by rw [List.length_append]; rfl, ?_⟩
    · rw [eH]
      exact same_mut (sm.trans sd) nwd
    · rcases List.mem_append.mp hx with hx | hx
      · exact fr x hx
      · rw [List.mem_singleton.mp hx]
        exact Same.free sm nd
    · rw [List.range_succ, List.map_append]
      exact hW2
  · obtain ⟨y2, ds, rfl, sm, fr, ld, hW⟩ := pp
    refine ⟨.ref a, rfl, a, _, 1, .ref t, rfl, rfl, SqT.of (sm _ _ ha), rfl, t, rfl, ⟨tv, SqT.of (sm _ _ ht)⟩, ?_⟩
    refine for_it (walk_tup (xs := tv)) (fun i σ H' => ∃ y3 y4 Wi, σ = [some (.ref a), some (.ref wd), y2, y3, y4] ∧ Same H H' ∧ WaysOk H' wd ds Wi ∧ someLoop (W.drop i) Wi = some o)
      ⟨none, none, _, rfl, sm, hW, hR⟩ (fun i σ H' hi' pp => ?_) (fun i x σ H0 H1 hi' pp y => ?_) (fun σ H' pp => ?_)
    · obtain ⟨_, _, _, _, s, _⟩ := pp
      exact SqT.of (s _ _ ht)
    · obtain ⟨y3, y4, Wi, rfl, sm, hW, hL⟩ := pp
      obtain ⟨rfl, ey⟩ := y
      obtain ⟨e1, e2, tp, h1, rfl, hp⟩ := tie_at hi ey
      have hlt := (List.getElem?_eq_some_iff.mp h1).1
      have edrop : W.drop i = (e1, e2) :: W.drop (i + 1) := by
        rw [List.drop_eq_getElem_cons hlt]
        congr 1
        exact (List.getElem?_eq_some_iff.mp h1).2
      rw [edrop] at hL
      refine ⟨tp, [.int (e1 : Nat), .int (e2 : Nat)], rfl, SqT.of (sm _ _ hp), rfl, .int (e1 : Nat), [.int (e2 : Nat)], rfl, .int (e2 : Nat), [], rfl, rfl, ?_⟩
      cases ea : Wi[e1]? with
      | none => simp [someLoop, ea] at hL
      | some da =>
      obtain ⟨dda, hda, ga, ina⟩ := hW.dget ea
      obtain ⟨g, gg, gs⟩ := dget_o ina e2
      refine ⟨.int (e2 : Nat), rfl, .ref wd, rfl, .int (e1 : Nat), rfl, wd, .ref dda, rfl, ga, dda, g, rfl, gg, _, rfl, ?_⟩
      rw [gs]
      cases lb : look da e2 with
      | some w0 =>
        refine ite2 (fun _ => ?_) (fun e => absurd rfl e)
        cases hww : (Wi[e2]?).bind fun d => look d e1 with
        | none => simp [someLoop, ea, lb, hww] at hL
        | some ww =>
        have eo : o = some ww := by
          have : some (some ww) = some o := by
            rw [← hL]
            simp [someLoop, ea, lb, hww]
          exact (Option.some.inj this).symm
        obtain ⟨db, eb, lw⟩ := Option.bind_eq_some_iff.mp hww
        obtain ⟨ddb, hdb, gb, inb⟩ := hW.dget eb
        obtain ⟨v, gv, tv'⟩ := dget_way inb lw
        exact ⟨.ref wd, rfl, .int (e2 : Nat), rfl, wd, .ref ddb, rfl, gb, .int (e1 : Nat), rfl, ddb, v, rfl, gv, q2 ww _ _ eo sm tv'⟩
      | none =>
        refine ite2 (fun e => absurd e (by decide)) (fun _ => ?_)
        cases hj : joinM Wi e1 e2 with
        | none => simp [someLoop, ea, lb, hj] at hL
        | some Wn =>
        have hL2 : someLoop (W.drop (i + 1)) Wn = some o := by
          rw [← hL]
          simp [someLoop, ea, lb, hj]
        refine ⟨.ref wd, rfl, .int (e1 : Nat), rfl, .int (e2 : Nat), rfl, wd, ds, Wi, Wn, e1, e2, rfl, hW, hj, fun H2 hW2 fr2 => ?_⟩
        refine ⟨_, _, Wn, rfl, fun c ob hc => fr2 c ob (sm c ob hc) (fun z => ?_), hW2, hL2⟩
        rw [fr c z] at hc
        cases hc
    · obtain ⟨y3, y4, Wi, rfl, sm, hW, hL⟩ := pp
      rw [List.drop_of_length_le (by omega)] at hL
      exact q1 (Option.some.inj hL).symm _ sm
end
end K40

set_option Elab.async false
set_option linter.all false
set_option maxRecDepth 100000
set_option maxHeartbeats 4000000
namespace K40
open PySem PySem.Spec PyProof.Rows L2
section
variable {P : Program} {w : World} {K : PySem.W.Frag} {mg : Str → Option Value} {base : Heap}
/-! ### dicts by places -/
abbrev DRel {α : Type} (R : V → α → Prop) (kvs : List (L2.Key × V)) (A : Assoc α) : Prop := Paired (fun (kv : L2.Key × V) (p : Nat × α) => kv.1 = Sum.inl (p.1 : Int) ∧ R kv.2 p.2) kvs A
theorem drel_look {α : Type} {R : V → α → Prop} {k : Nat} : ∀ {kvs : List (L2.Key × V)} {A : Assoc α}, DRel R kvs A →
    (look A k = none → valV kvs (Sum.inl (k : Int)) = none) ∧ ∀ w, look A k = some w → ∃ v, valV kvs (Sum.inl (k : Int)) = some v ∧ R v w
  | _, _, .nil => ⟨fun _ => rfl, fun w h => by simp [look] at h⟩
  | (kk, v) :: kvs, (j, w0) :: A, .cons r t => by
    obtain ⟨h1, h2⟩ := r
    have h1 : kk = Sum.inl (j : Int) := h1
    subst h1
    by_cases g : j = k
    · subst g
      have e : look ((j, w0) :: A) j = some w0 := by simp [look]
      rw [e]
      refine ⟨(fun z => nomatch z), fun w h => ?_⟩
      cases h
      exact ⟨v, valV_pos rfl, h2⟩
    · have e : look ((j, w0) :: A) k = look A k := by simp [look, g]
      rw [e]
      have ne : ¬ ((Sum.inl (j : Int) : L2.Key) = Sum.inl (k : Int)) := fun z => by
        injection z with z
        exact g (by omega)
      obtain ⟨i1, i2⟩ := drel_look (k := k) t
      refine ⟨fun z => (valV_neg ne).trans (i1 z), fun w h => ?_⟩
      obtain ⟨v', e1, e2⟩ := i2 w h
      exact ⟨v', (valV_neg ne).trans e1, e2⟩
theorem look_none {α : Type} {A : Assoc α} {k : Nat} : look A k = none ↔ k ∉ A.map (·.1) := by
  induction A with
  | nil => simp [look]
  | cons p r ih =>
    by_cases g : p.1 = k
    · simp [look, g]
    · have e : look (p :: r) k = look r k := by simp [look, g]
      rw [e, ih, List.map_cons, List.mem_cons]
      constructor
      · intro h z
        rcases z with z | z
        · exact g z.symm
        · exact h z
      · intro h z
        exact h (.inr z)
theorem look_mem {α : Type} {A : Assoc α} {k : Nat} {w : α} (h : look A k = some w) : (k, w) ∈ A := by
  unfold look at h
  obtain ⟨p, hp, rfl⟩ := Option.map_eq_some_iff.mp h
  have h1 := List.mem_of_find?_eq_some hp
  have h2 := List.find?_some hp
  have h3 : p.1 = k := by simpa using h2
  rw [← h3]
  exact h1
theorem drel_new {α : Type} {R : V → α → Prop} {k : Nat} {v : V} {kvs : List (L2.Key × V)} {A : Assoc α} (h : DRel R kvs A) (e : look A k = none) : putK kvs (Sum.inl (k : Int)) v = kvs ++ [(Sum.inl (k : Int), v)] := by
  have q : (kvs.any fun kv => decide (kv.1 = Sum.inl (k : Int))) = false := by
    induction h with
    | nil => rfl
    | @cons a b _ _ r t ih =>
      have hb := look_none.mp e
      rw [List.map_cons, List.mem_cons] at hb
      rw [List.any_cons, ih (look_none.mpr fun z => hb (.inr z)), r.1, inl_eq]
      have : ¬ b.1 = k := fun z => hb (.inl z.symm)
      simp [this]
  unfold putK
  rw [q]
  exact if_neg Bool.false_ne_true
theorem drel_mono {α : Type} {R R' : V → α → Prop} (m : ∀ v w, R v w → R' v w) {kvs : List (L2.Key × V)} {A : Assoc α} (h : DRel R kvs A) : DRel R' kvs A := Paired.mapP h fun _ _ q => ⟨q.1, m _ _ q.2⟩
theorem drel_get {α : Type} {R : V → α → Prop} {H : Hp} {d : Addr} {kvs : List (L2.Key × V)} {A : Assoc α} (hd : H d = some (.dK kvs)) (h : DRel R kvs A) (k : Nat) :
    ∃ o, DGet H d (.int (k : Nat)) o ∧ o.isSome = (look A k).isSome ∧ (o = none → look A k = none) ∧ ∀ w, look A k = some w → ∃ v, o = some v ∧ R v w := by
  refine ⟨_, DGet.k (k := Sum.inl (k : Int)) hd, ?_, ?_, (drel_look (k := k) h).2⟩
  · cases e : look A k with
    | none =>
      rw [(drel_look (k := k) h).1 e]
      rfl
    | some w =>
      obtain ⟨v, e1, _⟩ := (drel_look (k := k) h).2 w e
      rw [e1]
      rfl
  · intro z
    cases e : look A k with
    | none => rfl
    | some w =>
      obtain ⟨v, e1, _⟩ := (drel_look (k := k) h).2 w e
      rw [e1] at z
      cases z
theorem drel_put {α : Type} {R : V → α → Prop} {H : Hp} {d : Addr} {kvs : List (L2.Key × V)} {A : Assoc α} {k : Nat} {v : V} {w : α} (hd : H d = some (.dK kvs)) (h : DRel R kvs A) (e : look A k = none) (hv : R v w) (hl : A.length ≤ 1000) :
    DPut H d (.int (k : Nat)) v (upd H d (.dK (kvs ++ [(Sum.inl (k : Int), v)]))) ∧ DRel R (kvs ++ [(Sum.inl (k : Int), v)]) (A ++ [(k, w)]) := by
  have hk := paired_len h
  have q := DPut.k (k := Sum.inl (k : Int)) (v := v) hd (szlt _ (by omega))
  rw [drel_new h e] at q
  exact ⟨q, paired_snoc ⟨rfl, hv⟩ h⟩
theorem under_len {l : List Nat} {n : Nat} (nd : l.Nodup) (h : ∀ x ∈ l, x < n) : l.length ≤ n := by
  have := nodup_len (m := List.range n) nd fun x hx => List.mem_range.mpr (h x hx)
  simpa using this
theorem nz_snoc (l : List Nat) (x : Nat) : (nz (l ++ [x])).map V.int = (nz l).map V.int ++ [.int (x : Int)] := by simp [nz]
theorem nodup_snoc {l : List Nat} {x : Nat} (h : l.Nodup) (e : x ∉ l) : (l ++ [x]).Nodup := by
  refine List.nodup_append.mpr ⟨h, by simp, fun a ha b hb => ?_⟩
  rw [List.mem_singleton] at hb
  subst hb
  exact fun z => e (z ▸ ha)
/-! ### laid_way -/
/-- a list of numbers, another one than ln -/
def LstW (H : Hp) (ln : Addr) (v : V) (xs : List Nat) : Prop := ∃ l, v = .ref l ∧ l ≠ ln ∧ H l = some (.lst ((nz xs).map V.int))
theorem LstW.mono {H H' : Hp} {ln : Addr} (e : ∀ a vs, a ≠ ln → H a = some (.lst vs) → H' a = some (.lst vs)) {v : V} {xs : List Nat} (h : LstW H ln v xs) : LstW H' ln v xs := by
  obtain ⟨l, h1, h2, h3⟩ := h
  exact ⟨l, h1, h2, e _ _ h2 h3⟩
/-- ways laid from a place -/
structure LaidOk (s N : Nat) (A : Assoc (List Nat)) : Prop where
  nd : (A.map (·.1)).Nodup
  lt : ∀ x ∈ A.map (·.1), x < N
  way : ∀ p ∈ A, p.2.head? = some s ∧ p.2.getLast? = some p.1 ∧ p.2.length ≤ A.length
abbrev Nlaidway : List Str := ["laid", "start", "goal", "ways", "line", "at", "a", "b", "begin", "end"]
theorem sclaidway : FnScope Nlaidway ["laid", "start", "goal"] (defScope (topS 13)) := ⟨rfl, rfl, rfl, by decide +kernel, rfl, by decide +kernel, by decide +kernel⟩
-- 0 laid 1 start 2 goal 3 ways 4 line 5 at 6 a 7 b 8 begin 9 end
def spLaid : Sp := fun vs H Q _ => ∃ (la : Addr) (s g N : Nat) (L : List (Nat × Nat)) (us : List V), vs = [.ref la, .int (s : Nat), .int (g : Nat)] ∧ H la = some (.lst us) ∧ Items H us (L.map pz) ∧ N ≤ 1000 ∧ s < N ∧ (∀ e ∈ L, e.1 < N ∧ e.2 < N) ∧
  (∀ H', Same H H' → Q .non H') ∧ (∀ H' l xs, Same H H' → H' l = some (.lst ((nz xs).map V.int)) → xs.head? = some s → xs.getLast? = some g → xs.length ≤ 1000 → Q (.ref l) H')
theorem k_laidway (T : Tx K mg) : Keeps P w K mg base 1 "laid_way" ["laid", "start", "goal"] spLaid := by
  refine T.dlaidway.keeps sclaidway (fun vs H Q E h => ?_) (fun fa cdv A outer s H vs Q E hr h => ?_)
  · obtain ⟨la, s, g, N, L, us, rfl, _⟩ := h
    rfl
  obtain ⟨la, s, g, N, L, us, rfl, hla, hus, hN, hs, hL, q1, q2⟩ := h
  have hu := hu_of hr
  refine ⟨_, (pss_cons (ps_set (i := 3) sclaidway.nd rfl (.inl rfl) (pe_disp (pps_cons (pv 1) (pe_lst (pa_cons (pv 1) pa_nil)) pps_nil) (by rfl) (by rfl) (fun z => by cases z) (by decide)))
    (pss_cons (ps_set (i := 4) sclaidway.nd rfl (.inl rfl) (pe_lst (pa_cons (pv 1) pa_nil)))
    (pss_cons (ps_set (i := 5) sclaidway.nd rfl (.inl rfl) pe_int)
    (pss_cons (ps_while PassesOwn.never (pt_cmpR op_lt (pv 5) (pe_callB call_len_seq (by rfl) T.zlen (by decide +kernel) (pa_cons (pv 4) pa_nil)) (nomark _)) (pss_cons (ps_for PassesOwn.never rfl (pi_list (pv 0)) (pg_tup rfl (pgs_cons (pg_name (i := 6) sclaidway.nd rfl (.inl rfl)) (pgs_cons (pg_name (i := 7) sclaidway.nd rfl (.inl rfl)) pgs_nil))) (pss_one (ps_for PassesOwn.never rfl (pi_tup (pe_tup (pa_cons (pe_tup (pa_cons (pv 6) (pa_cons (pv 7) pa_nil))) (pa_cons (pe_tup (pa_cons (pv 7) (pa_cons (pv 6) pa_nil))) pa_nil)))) (pg_tup rfl (pgs_cons (pg_name (i := 8) sclaidway.nd rfl (.inl rfl)) (pgs_cons (pg_name (i := 9) sclaidway.nd rfl (.inl rfl)) pgs_nil))) (pss_one (ps_if (PW.pt (pw_and (pt_cmpR op_eq (pv 8) (pe_ix ix_list (pv 4) (pv 5) (fun _ _ => rfl)) (nomark _)) (pw_and1 (pt_cmp (pc_dnotin hu (pv 9) (pv 3)))))) (pss_cons (ps_dput hu (pv 3) (pv 9) (pe_op op_cat (pe_dget hu (pv 3) (pv 8) (fun _ _ => rfl)) (pe_lst (pa_cons (pv 9) pa_nil))) rfl)
    (pss_one (ps_expr (pe_bm PySem.F.plainAttrs_list PySem.F.slot_list_append PySem.F.type_list_append mt_append (pv 4) (pa_cons (pv 9) pa_nil))))) pss_nil)))))
    (pss_one (ps_set (i := 5) sclaidway.nd rfl (.inl rfl) (pe_op op_add (pv 5) pe_int)))))
    (pss_one (ps_ret (pe_dget1 hu (pv 3) (pv 2) ⟨rfl, rfl, rfl, rfl⟩))))))), ?_⟩
  refine fun wd nwd => ⟨.int (s : Nat), rfl, .int (s : Nat), rfl, le1, fun w0 nw0 => ⟨at_new upd_same nw0, [(Sum.inl (s : Int), .ref w0)], rfl, Nat.succ_le_succ (Nat.zero_le _), ?_⟩⟩
  have s0 : Same H (upd (upd (upd H wd (.dK [])) w0 (.lst [.int (s : Nat)])) wd (.dK (mergeK [] [(Sum.inl (s : Int), .ref w0)]))) := same_mut (same_step (same_new nwd) nw0) nwd
  have w0d : w0 ≠ wd := (ne_of_none upd_same nw0).symm
  refine ⟨.int (s : Nat), rfl, le1, fun ln nln => ?_⟩
  have fln : H ln = none := Same.free s0 nln
  have lnd : ln ≠ wd := (ne_of_none upd_same nln).symm
  have lnw : w0 ≠ ln := by
    refine ne_of_none (o := .lst [.int (s : Nat)]) ?_ nln
    rw [upd_ne w0d]
    exact upd_same
  refine ⟨fun m σ H' => ∃ (i : Nat) (y6 y7 y8 y9 : Option V) (kvs : List (L2.Key × V)) (A : Assoc (List Nat)), σ = [some (.ref la), some (.int (s : Nat)), some (.int (g : Nat)), some (.ref wd), some (.ref ln), some (.int (i : Nat)), y6, y7, y8, y9] ∧ i ≤ A.length ∧ m + i = N ∧
      Same H H' ∧ H' wd = some (.dK kvs) ∧ H' ln = some (.lst ((nz (A.map (·.1))).map V.int)) ∧ DRel (LstW H' ln) kvs A ∧ LaidOk s N A,
    ⟨N, 0, none, none, none, none, [(Sum.inl (s : Int), .ref w0)], [(s, [s])], rfl, Nat.zero_le _, rfl, same_step s0 nln, ?_, upd_same, .cons ⟨rfl, w0, rfl, lnw, ?_⟩ .nil, by simp, by simpa using hs, by simp⟩, fun m σ H' hW => ?_⟩
  · rw [upd_ne lnd.symm]
    exact upd_same
  · rw [upd_ne lnw, upd_ne w0d]
    exact upd_same
  obtain ⟨i, y6, y7, y8, y9, kvs, A, rfl, hi, hmi, sm, hwd, hln, hD, hA⟩ := hW
  refine ⟨.int (i : Nat), rfl, .ref ln, rfl, ln, _, rfl, .inl (SqL.of hln), _, _, rfl, rfl, _, rfl, ?_⟩
  have lA : ((nz (A.map (·.1))).map V.int).length = A.length := by simp [nz]
  rw [lA]
  have hAN : A.length ≤ N := by
    have := under_len hA.nd hA.lt
    simpa using this
  refine ite2 (fun e => ?_) (fun e => ?_)
  · have hiA : i < A.length := by
      have := of_decide_eq_true e
      omega
    obtain ⟨m, rfl⟩ : ∃ m', m = m' + 1 := ⟨m - 1, by omega⟩
    refine ⟨fun σ' H2 => ∃ (i : Nat) (y6 y7 y8 y9 : Option V) (kvs : List (L2.Key × V)) (A : Assoc (List Nat)), σ' = [some (.ref la), some (.int (s : Nat)), some (.int (g : Nat)), some (.ref wd), some (.ref ln), some (.int (i : Nat)), y6, y7, y8, y9] ∧ i ≤ A.length ∧ m + i = N ∧
        Same H H2 ∧ H2 wd = some (.dK kvs) ∧ H2 ln = some (.lst ((nz (A.map (·.1))).map V.int)) ∧ DRel (LstW H2 ln) kvs A ∧ LaidOk s N A,
      fun σ' H2 hN => ⟨m, Nat.lt_succ_self m, hN⟩, ?_⟩
    refine ⟨.ref la, rfl, la, rfl, ⟨us, SqL.of (sm _ _ hla)⟩, ?_⟩
    refine for_it (walk_list (xs := us)) (fun j σ H' => ∃ (y6 y7 y8 y9 : Option V) (kvs : List (L2.Key × V)) (A : Assoc (List Nat)), σ = [some (.ref la), some (.int (s : Nat)), some (.int (g : Nat)), some (.ref wd), some (.ref ln), some (.int (i : Nat)), y6, y7, y8, y9] ∧ i < A.length ∧
        Same H H' ∧ H' wd = some (.dK kvs) ∧ H' ln = some (.lst ((nz (A.map (·.1))).map V.int)) ∧ DRel (LstW H' ln) kvs A ∧ LaidOk s N A)
      ⟨y6, y7, y8, y9, kvs, A, rfl, hiA, sm, hwd, hln, hD, hA⟩ (fun j σ H' hj pp => ?_) (fun j x σ H0 H1 hj pp y => ?_) (fun σ H' pp => ?_)
    · obtain ⟨_, _, _, _, _, _, _, _, s1, _⟩ := pp
      exact SqL.of (s1 _ _ hla)
    · obtain ⟨y6, y7, y8, y9, kvs, A, rfl, hiA, sm, hwd, hln, hD, hA⟩ := pp
      obtain ⟨rfl, ey⟩ := y
      obtain ⟨e1, e2, tp, h1, rfl, hp⟩ := tie_at hus ey
      obtain ⟨b1, b2⟩ := hL _ (List.mem_of_getElem? h1)
      have b1 : e1 < N := b1
      have b2 : e2 < N := b2
      refine ⟨tp, [.int (e1 : Nat), .int (e2 : Nat)], rfl, SqT.of (sm _ _ hp), rfl, .int (e1 : Nat), [.int (e2 : Nat)], rfl, .int (e2 : Nat), [], rfl, rfl, ?_⟩
      refine ⟨.int (e1 : Nat), rfl, .int (e2 : Nat), rfl, le2, fun c1 nc1 => ⟨.int (e2 : Nat), rfl, .int (e1 : Nat), rfl, le2, fun c2 nc2 => ⟨le2, fun c3 nc3 => ⟨c3, rfl, ⟨_, SqT.of upd_same⟩, ?_⟩⟩⟩⟩
      have sc : Same H1 (upd (upd (upd H1 c1 (.tup [.int (e1 : Nat), .int (e2 : Nat)])) c2 (.tup [.int (e2 : Nat), .int (e1 : Nat)])) c3 (.tup [.ref c1, .ref c2])) := same_step (same_step (same_new nc1) nc2) nc3
      have hc1 := at_new (o := .tup [.ref c1, .ref c2]) (at_new (o := .tup [.int (e2 : Nat), .int (e1 : Nat)]) (upd_same (H := H1) (a := c1) (o := .tup [.int (e1 : Nat), .int (e2 : Nat)])) nc2) nc3
      have hc2 := at_new (o := .tup [.ref c1, .ref c2]) (upd_same (H := upd H1 c1 (.tup [.int (e1 : Nat), .int (e2 : Nat)])) (a := c2) (o := .tup [.int (e2 : Nat), .int (e1 : Nat)])) nc3
      have both : ∀ (jj : Nat) (x : V), [V.ref c1, V.ref c2][jj]? = some x → ∃ c b0 e0, x = .ref c ∧ (upd (upd (upd H1 c1 (.tup [.int (e1 : Nat), .int (e2 : Nat)])) c2 (.tup [.int (e2 : Nat), .int (e1 : Nat)])) c3 (.tup [.ref c1, .ref c2])) c = some (.tup [.int (b0 : Nat), .int (e0 : Nat)]) ∧ b0 < N ∧ e0 < N := by
        intro jj x hx
        match jj, hx with
        | 0, hx => cases hx; exact ⟨c1, e1, e2, rfl, hc1, b1, b2⟩
        | 1, hx => cases hx; exact ⟨c2, e2, e1, rfl, hc2, b2, b1⟩
        | _ + 2, hx => exact nomatch hx
      have hc3 : (upd (upd (upd H1 c1 (.tup [.int (e1 : Nat), .int (e2 : Nat)])) c2 (.tup [.int (e2 : Nat), .int (e1 : Nat)])) c3 (.tup [.ref c1, .ref c2])) c3 = some (.tup [.ref c1, .ref c2]) := upd_same
      generalize (upd (upd (upd H1 c1 (.tup [.int (e1 : Nat), .int (e2 : Nat)])) c2 (.tup [.int (e2 : Nat), .int (e1 : Nat)])) c3 (.tup [.ref c1, .ref c2])) = H2 at *
      refine for_it (walk_tup (xs := [.ref c1, .ref c2])) (fun j σ H' => ∃ (y8 y9 : Option V) (kvs : List (L2.Key × V)) (A : Assoc (List Nat)), σ = [some (.ref la), some (.int (s : Nat)), some (.int (g : Nat)), some (.ref wd), some (.ref ln), some (.int (i : Nat)), some (.int (e1 : Nat)), some (.int (e2 : Nat)), y8, y9] ∧ i < A.length ∧
          Same H H' ∧ TupSame H2 H' ∧ H' wd = some (.dK kvs) ∧ H' ln = some (.lst ((nz (A.map (·.1))).map V.int)) ∧ DRel (LstW H' ln) kvs A ∧ LaidOk s N A)
        ⟨y8, y9, kvs, A, rfl, hiA, sm.trans sc, .refl _, sc _ _ hwd, sc _ _ hln, drel_mono (fun _ _ q => q.mono fun a vs _ h => sc _ _ h) hD, hA⟩ (fun j σ H' hj pp => ?_) (fun jj x σ H0 H3 hj pp y => ?_) (fun σ H' pp => ?_)
      · obtain ⟨_, _, _, _, _, _, _, t1, _⟩ := pp
        exact SqT.of (t1 _ _ hc3)
      · obtain ⟨y8, y9, kvs, A, rfl, hiA, sm, ts, hwd, hln, hD, hA⟩ := pp
        obtain ⟨rfl, ey⟩ := y
        obtain ⟨c, b0, e0, rfl, hc, l1, l2⟩ := both jj x ey
        have hAN : A.length ≤ N := by
          have := under_len hA.nd hA.lt
          simpa using this
        refine ⟨c, [.int (b0 : Nat), .int (e0 : Nat)], rfl, SqT.of (ts _ _ hc), rfl, .int (b0 : Nat), [.int (e0 : Nat)], rfl, .int (e0 : Nat), [], rfl, rfl, ?_⟩
        have hk : (A.map (·.1))[i]? = some (A[i].1) := by simp [hiA]
        refine ⟨.int (b0 : Nat), rfl, .ref ln, rfl, .int (i : Nat), rfl, ln, _, (i : Nat), _, rfl, rfl, SqL.of hln, at_int (nz_at hk), rfl, _, rfl, ?_⟩
        refine ite2 (fun e => ?_) (fun e => ?_)
        · have eb : b0 = A[i].1 := by
            have := of_decide_eq_true e
            injection this with this
            omega
          obtain ⟨o, go, so, _, oo⟩ := drel_get hwd hD e0
          refine ⟨.int (e0 : Nat), rfl, .ref wd, rfl, wd, o, rfl, go, _, rfl, ?_⟩
          rw [so]
          cases le0 : look A e0 with
          | some w1 =>
            refine ite2 (fun e => absurd e (by simp)) (fun _ => ?_)
            exact ⟨_, _, kvs, A, rfl, hiA, sm, ts, hwd, hln, hD, hA⟩
          | none =>
            refine ite2 (fun _ => ?_) (fun e => absurd rfl e)
            obtain ⟨o2, go2, so2, no2, oo2⟩ := drel_get hwd hD b0
            cases lb : look A b0 with
            | none =>
              exfalso
              exact look_none.mp lb (by rw [eb]; exact List.mem_map.mpr ⟨A[i], List.getElem_mem hiA, rfl⟩)
            | some w2 =>
            obtain ⟨v2, rfl, l2a, rfl, hl2, hL2⟩ := oo2 w2 lb
            obtain ⟨k1, k2, k3⟩ := hA.way _ (look_mem lb)
            have k1 : w2.head? = some s := k1
            have k2 : w2.getLast? = some b0 := k2
            have k3 : w2.length ≤ A.length := k3
            refine ⟨.ref wd, rfl, .int (b0 : Nat), rfl, wd, .ref l2a, rfl, go2, .int (e0 : Nat), rfl, le1, fun n1 nn1 => ⟨l2a, n1, _, _, rfl, rfl, at_new hL2 nn1, upd_same, sz _ (by simp [nz]; omega), fun n2 nn2 => ?_⟩⟩
            rw [← nz_snoc]
            have sn : Same H3 (upd (upd H3 n1 (.lst [.int (e0 : Nat)])) n2 (.lst ((nz (w2 ++ [e0])).map V.int))) := same_step (same_new nn1) nn2
            have n2ln : n2 ≠ ln := (ne_of_none (at_new hln nn1) nn2).symm
            obtain ⟨dp, hD2⟩ := drel_put (H := upd (upd H3 n1 (.lst [.int (e0 : Nat)])) n2 (.lst ((nz (w2 ++ [e0])).map V.int))) (R := LstW (upd (upd H3 n1 (.lst [.int (e0 : Nat)])) n2 (.lst ((nz (w2 ++ [e0])).map V.int))) ln) (w := w2 ++ [e0])
              (v := .ref n2) (sn _ _ hwd) (drel_mono (fun _ _ q => q.mono fun a vs _ h => sn _ _ h) hD) le0 ⟨n2, rfl, n2ln, upd_same⟩ (by omega)
            have hwd2 := sn _ _ hwd
            have hln2 := sn _ _ hln
            generalize (upd (upd H3 n1 (.lst [.int (e0 : Nat)])) n2 (.lst ((nz (w2 ++ [e0])).map V.int))) = H4 at *
            have hln3 : upd H4 wd (.dK (kvs ++ [(Sum.inl (e0 : Int), .ref n2)])) ln = some (.lst ((nz (A.map (·.1))).map V.int)) := by
              rw [upd_ne lnd]
              exact hln2
            refine ⟨.ref wd, rfl, .int (e0 : Nat), rfl, wd, _, rfl, dp, ?_⟩
            refine ⟨.ref ln, rfl, .inl ⟨rfl, _, SqL.of hln3⟩, .int (e0 : Nat), rfl, ln, _, .int (e0 : Nat), rfl, rfl, hln3, szlt _ (by simp [nz]; omega), ?_⟩
            refine ⟨_, _, kvs ++ [(Sum.inl (e0 : Int), .ref n2)], A ++ [(e0, w2 ++ [e0])], rfl, by simp; omega, same_mut (same_mut (sm.trans sn) nwd) fln, (ts.trans (.of sn)).trans (.trans (.dk hwd2) (.lst hln3)), ?_, ?_, ?_, ?_⟩
            · rw [upd_ne lnd.symm]
              exact upd_same
            · rw [List.map_append]
              have := nz_snoc (A.map (·.1)) e0
              rw [show (List.map (fun x => x.1) A ++ List.map (fun x => x.1) [(e0, w2 ++ [e0])]) = A.map (·.1) ++ [e0] from rfl, this]
              exact upd_same
            · refine drel_mono (fun _ _ q => q.mono fun a vs ha h => ?_) hD2
              rw [upd_ne ha, upd_ne (ne_of h hwd2 (fun z => nomatch z))]
              exact h
            · have hne := look_none.mp le0
              refine ⟨?_, fun x hx => ?_, fun p hp => ?_⟩
              · rw [List.map_append]
                exact nodup_snoc hA.nd hne
              · rw [List.map_append] at hx
                rcases List.mem_append.mp hx with hx | hx
                · exact hA.lt x hx
                · rw [List.mem_singleton.mp hx]
                  exact l2
              · rcases List.mem_append.mp hp with hp | hp
                · obtain ⟨m1, m2, m3⟩ := hA.way p hp
                  exact ⟨m1, m2, by rw [List.length_append]; omega⟩
                · rw [List.mem_singleton.mp hp]
                  refine ⟨?_, by simp, by simp; omega⟩
                  show (w2 ++ [e0]).head? = some s
                  rw [List.head?_append, k1]
                  rfl
        · refine ite2 (fun e => absurd e (by simp)) (fun _ => ?_)
          exact ⟨_, _, kvs, A, rfl, hiA, sm, ts, hwd, hln, hD, hA⟩
      · obtain ⟨y8, y9, kvs, A, rfl, hiA, sm, ts, hwd, hln, hD, hA⟩ := pp
        exact ⟨_, _, _, _, kvs, A, rfl, hiA, sm, hwd, hln, hD, hA⟩
    · obtain ⟨y6, y7, y8, y9, kvs, A, rfl, hiA, sm, hwd, hln, hD, hA⟩ := pp
      exact ⟨.int (i : Nat), rfl, _, _, rfl, rfl, i + 1, _, _, _, _, kvs, A, rfl, by omega, by omega, sm, hwd, hln, hD, hA⟩
  · obtain ⟨o, go, so, no, oo⟩ := drel_get hwd hD g
    refine ⟨.ref wd, rfl, wd, rfl, .inl ⟨kvs, .inl hwd⟩, .int (g : Nat), rfl, o, go, ?_⟩
    cases lg : look A g with
    | none =>
      rw [lg] at so
      cases o with
      | none => exact q1 _ sm
      | some v => exact absurd so (by simp)
    | some w =>
      obtain ⟨v, rfl, l, rfl, _, hl⟩ := oo w lg
      obtain ⟨k1, k2, k3⟩ := hA.way _ (look_mem lg)
      have k3 : w.length ≤ A.length := k3
      exact q2 _ l w sm hl k1 k2 (by omega)
end
end K40

set_option Elab.async false
set_option linter.all false
set_option maxRecDepth 100000
set_option maxHeartbeats 4000000
namespace K40
open PySem PySem.Spec PyProof.Rows L2
section
variable {P : Program} {w : World} {K : PySem.W.Frag} {mg : Str → Option Value} {base : Heap}
/-! ### closed_rings, parting_ring -/
abbrev Nclosedrings : List Str := ["web", "laid", "found", "a", "b", "way"]
theorem scclosedrings : FnScope Nclosedrings ["web"] (defScope (topS 14)) := ⟨rfl, rfl, rfl, by decide +kernel, rfl, by decide +kernel, by decide +kernel⟩
-- 0 web 1 laid 2 found 3 a 4 b 5 way
def spClosed : Sp := fun vs H Q _ => ∃ (wv : V) (n : Nat) (T : List (Nat × Nat)), vs = [wv] ∧ IsWeb H wv n T ∧ T.length ≤ 500 ∧ n ≤ 500 ∧ (∀ e ∈ T, e.1 < e.2 ∧ e.2 < n) ∧
  ∀ H' l (Rs : List (List Nat)), Same H H' → LstT H' l (Rs.map nz) → (∀ R ∈ Rs, 2 ≤ R.length ∧ R.length ≤ 1000) → Q (.ref l) H'
theorem cut_dropLast (xs : List V) : cutV xs none (some (-1)) = xs.dropLast := by
  unfold cutV
  have e : HT.sIx xs.length xs.length (some (-1)) = xs.length - 1 := by
    show (if (-1 : Int) < 0 then ((-1 : Int) + (xs.length : Int)).toNat else min (-1 : Int).toNat xs.length) = _
    rw [if_pos (show (-1 : Int) < 0 by decide)]
    omega
  rw [e, HT.sIx_none, List.dropLast_eq_take]
  simp
theorem k_closedrings (T : Tx K mg) : Keeps P w K mg base 2 "closed_rings" ["web"] spClosed := by
  have klaidway := k_laidway (P := P) (w := w) (base := base) T
  refine T.dclosedrings.keeps scclosedrings (fun vs H Q E h => ?_) (fun fa cdv A outer s H vs Q E hr h => ?_)
  · obtain ⟨wv, n, T, rfl, _⟩ := h
    rfl
  obtain ⟨wv, n, W, rfl, hw, hm, hn, hlow, q⟩ := h
  obtain ⟨a, t, tv, rfl, ha, ht, hi⟩ := id hw
  have hlen := paired_len hi
  rw [List.length_map] at hlen
  refine ⟨_, (pss_cons (ps_set (i := 1) scclosedrings.nd rfl (.inl rfl) (pe_lst pa_nil))
    (pss_cons (ps_set (i := 2) scclosedrings.nd rfl (.inl rfl) (pe_lst pa_nil))
    (pss_cons (ps_for PassesOwn.never rfl (pi_tup (pe_ix ix_tup (pv 0) pe_int (fun _ _ => rfl))) (pg_tup rfl (pgs_cons (pg_name (i := 3) scclosedrings.nd rfl (.inl rfl)) (pgs_cons (pg_name (i := 4) scclosedrings.nd rfl (.inl rfl)) pgs_nil))) (pss_cons (ps_set (i := 5) scclosedrings.nd rfl (.inl rfl) (pe_k klaidway (hr.mono (by decide)) (pa_cons (pv 1) (pa_cons (pv 4) (pa_cons (pv 3) pa_nil)))))
    (pss_one (ps_if (pt_cmpR op_isN (pv 5) pe_non (nomark _)) (pss_one (ps_expr (pe_bm PySem.F.plainAttrs_list PySem.F.slot_list_append PySem.F.type_list_append mt_append (pv 1) (pa_cons (pe_tup (pa_cons (pv 3) (pa_cons (pv 4) pa_nil))) pa_nil)))) (pss_one (ps_expr (pe_bm PySem.F.plainAttrs_list PySem.F.slot_list_append PySem.F.type_list_append mt_append (pv 2) (pa_cons (pe_op op_catT (pe_tup (pa_cons (pv 3) pa_nil)) (pe_callTy call_tuple_of (by rfl) T.ztuple (by decide +kernel) (pa_cons (pe_slice sl_list (pv 5) po_none (po_some (pe_un un_neg pe_int))) pa_nil))) pa_nil))))))))
    (pss_one (ps_ret (pv 2)))))), ?_⟩
  refine ⟨Nat.zero_le _, fun la nla => ⟨Nat.zero_le _, fun fo nfo => ?_⟩⟩
  have s0 : Same H (upd (upd H la (.lst [])) fo (.lst [])) := same_step (same_new nla) nfo
  have ffo : H fo = none := Same.free (same_new nla) nfo
  have lafo : la ≠ fo := ne_of_none upd_same nfo
  refine ⟨.ref a, rfl, a, _, 1, .ref t, rfl, rfl, SqT.of (s0 _ _ ha), rfl, t, rfl, ⟨tv, SqT.of (s0 _ _ ht)⟩, ?_⟩
  refine for_it (walk_tup (xs := tv)) (fun i σ H' => ∃ y3 y4 y5 us L fs Rs, σ = [some (.ref a), some (.ref la), some (.ref fo), y3, y4, y5] ∧ Same H H' ∧ H' la = some (.lst us) ∧ Items H' us (List.map pz L) ∧ (∀ e ∈ L, e.1 < n ∧ e.2 < n) ∧ L.length ≤ i ∧
      H' fo = some (.lst fs) ∧ Items H' fs (Rs.map nz) ∧ (∀ R ∈ Rs, 2 ≤ R.length ∧ R.length ≤ 1000) ∧ Rs.length ≤ i)
    ⟨none, none, none, [], [], [], [], rfl, s0, at_new upd_same nfo, .nil, (fun e he => nomatch he), Nat.le_refl _, upd_same, .nil, (fun e he => nomatch he), Nat.le_refl _⟩ (fun i σ H' hi' pp => ?_) (fun i x σ H0 H1 hi' pp y => ?_) (fun σ H' pp => ?_)
  · obtain ⟨_, _, _, _, _, _, _, _, s1, _⟩ := pp
    exact SqT.of (s1 _ _ ht)
  · obtain ⟨y3, y4, y5, us, L, fs, Rs, rfl, sm, hla, hus, hL, lL, hfo, hfs, hR, lR⟩ := pp
    obtain ⟨rfl, ey⟩ := y
    obtain ⟨e1, e2, tp, h1, rfl, hp⟩ := tie_at hi ey
    obtain ⟨b1, b2⟩ := hlow _ (List.mem_of_getElem? h1)
    have b1 : e1 < e2 := b1
    have b2 : e2 < n := b2
    have hul := paired_len hus
    rw [List.length_map] at hul
    have hfl := paired_len hfs
    rw [List.length_map] at hfl
    refine ⟨tp, [.int (e1 : Nat), .int (e2 : Nat)], rfl, SqT.of (sm _ _ hp), rfl, .int (e1 : Nat), [.int (e2 : Nat)], rfl, .int (e2 : Nat), [], rfl, rfl, ?_⟩
    refine ⟨.ref la, rfl, .int (e2 : Nat), rfl, .int (e1 : Nat), rfl, la, e2, e1, n, L, us, rfl, hla, hus, by omega, by omega, hL, fun H2 s2 => ?_, fun H2 l xs s2 hl k1 k2 k3 => ?_⟩
    · refine ⟨_, rfl, rfl, _, rfl, ?_⟩
      refine ite2 (fun _ => ?_) (fun e => absurd (by simp) e)
      refine ⟨.ref la, rfl, .inl ⟨rfl, _, SqL.of (s2 _ _ hla)⟩, .int (e1 : Nat), rfl, .int (e2 : Nat), rfl, le2, fun c nc => ⟨la, us, .ref c, rfl, rfl, at_new (s2 _ _ hla) nc, szlt _ (by omega), ?_⟩⟩
      have sc : Same H1 (upd H2 c (.tup [.int (e1 : Nat), .int (e2 : Nat)])) := same_step s2 nc
      have hla2 := sc _ _ hla
      have hfo2 := sc _ _ hfo
      have hc : (upd H2 c (.tup [.int (e1 : Nat), .int (e2 : Nat)])) c = some (.tup [.int (e1 : Nat), .int (e2 : Nat)]) := upd_same
      generalize (upd H2 c (.tup [.int (e1 : Nat), .int (e2 : Nat)])) = H3 at *
      refine ⟨_, _, _, us ++ [.ref c], L ++ [(e1, e2)], fs, Rs, rfl, same_mut (sm.trans sc) nla, upd_same, ?_, fun e he => ?_, by rw [List.length_append]; simp; omega, ?_, (hfs.mono (.of sc)).mono (.lst hla2), hR, by omega⟩
      · rw [List.map_append]
        exact paired_snoc ⟨c, rfl, (TupSame.lst hla2) _ _ hc⟩ ((hus.mono (.of sc)).mono (.lst hla2))
      · rcases List.mem_append.mp he with he | he
        · exact hL e he
        · rw [List.mem_singleton.mp he]
          exact ⟨Nat.lt_trans b1 b2, b2⟩
      · rw [upd_ne lafo.symm]
        exact hfo2
    · refine ⟨_, rfl, rfl, _, rfl, ?_⟩
      refine ite2 (fun e => absurd e (by simp)) (fun _ => ?_)
      refine ⟨.ref fo, rfl, .inl ⟨rfl, _, SqL.of (s2 _ _ hfo)⟩, .int (e1 : Nat), rfl, le1, fun c1 nc1 => ⟨.ref l, rfl, 1, rfl, -1, rfl, l, _, rfl, SqL.of (at_new hl nc1), fun c2 nc2 => ?_⟩⟩
      rw [cut_dropLast]
      refine ⟨c2, _, rfl, .inl ⟨SqL.of upd_same, fun c3 nc3 => ?_⟩⟩
      have ed : ((nz xs).map V.int).dropLast = (nz xs.dropLast).map V.int := by simp [nz, List.map_dropLast]
      rw [ed]
      rw [ed] at nc3
      have hxs : 2 ≤ xs.length := by
        match xs, k1, k2 with
        | [x], k1, k2 =>
          exfalso
          have e1' : x = e2 := by simpa using k1
          have e2' : x = e1 := by simpa using k2
          omega
        | _ :: _ :: _, _, _ => simp
      have sc : Same H1 (upd (upd (upd H2 c1 (.tup [.int (e1 : Nat)])) c2 (.lst ((nz xs.dropLast).map V.int))) c3 (.tup ((nz xs.dropLast).map V.int))) := same_step (same_step (same_step s2 nc1) nc2) nc3
      refine ⟨c1, c3, [.int (e1 : Nat)], _, rfl, rfl, SqT.of (at_new (at_new upd_same nc2) nc3), SqT.of upd_same, (fun z => nomatch z), sz _ (by simp [nz]; omega), fun z => ?_, fun _ c4 nc4 => ?_⟩
      · exfalso
        have : (nz xs.dropLast).length = 0 := by simpa using congrArg List.length z
        simp [nz] at this
        omega
      have sd : Same H1 (upd (upd (upd (upd H2 c1 (.tup [.int (e1 : Nat)])) c2 (.lst ((nz xs.dropLast).map V.int))) c3 (.tup ((nz xs.dropLast).map V.int))) c4 (.tup ([.int (e1 : Nat)] ++ (nz xs.dropLast).map V.int))) := same_step sc nc4
      have hc : (upd (upd (upd (upd H2 c1 (.tup [.int (e1 : Nat)])) c2 (.lst ((nz xs.dropLast).map V.int))) c3 (.tup ((nz xs.dropLast).map V.int))) c4 (.tup ([.int (e1 : Nat)] ++ (nz xs.dropLast).map V.int))) c4 = some (.tup ([.int (e1 : Nat)] ++ (nz xs.dropLast).map V.int)) := upd_same
      generalize (upd (upd (upd (upd H2 c1 (.tup [.int (e1 : Nat)])) c2 (.lst ((nz xs.dropLast).map V.int))) c3 (.tup ((nz xs.dropLast).map V.int))) c4 (.tup ([.int (e1 : Nat)] ++ (nz xs.dropLast).map V.int))) = H3 at *
      have hla2 := sd _ _ hla
      have hfo2 := sd _ _ hfo
      refine ⟨fo, fs, .ref c4, rfl, rfl, hfo2, szlt _ (by omega), ?_⟩
      refine ⟨_, _, _, us, L, fs ++ [.ref c4], Rs ++ [e1 :: xs.dropLast], rfl, same_mut (sm.trans sd) ffo, ?_, (hus.mono (.of sd)).mono (.lst hfo2), hL, by omega, upd_same, ?_, fun R hR' => ?_, by rw [List.length_append]; simp; omega⟩
      · rw [upd_ne lafo]
        exact hla2
      · rw [List.map_append]
        exact paired_snoc ⟨c4, rfl, (TupSame.lst hfo2) _ _ hc⟩ ((hfs.mono (.of sd)).mono (.lst hfo2))
      · rcases List.mem_append.mp hR' with he | he
        · exact hR R he
        · rw [List.mem_singleton.mp he]
          simp
          omega
  · obtain ⟨y3, y4, y5, us, L, fs, Rs, rfl, sm, hla, hus, hL, lL, hfo, hfs, hR, lR⟩ := pp
    exact ⟨.ref fo, rfl, q _ _ Rs sm ⟨fs, hfo, hfs⟩ hR⟩
abbrev Npartingring : List Str := ["web", "one", "other", "ring"]
theorem scpartingring : FnScope Npartingring ["web", "one", "other"] (defScope (topS 18)) := ⟨rfl, rfl, rfl, by decide +kernel, rfl, by decide +kernel, by decide +kernel⟩
-- 0 web 1 one 2 other 3 ring
def spParting : Sp := fun vs H Q _ => ∃ (wv fv gv : V) (n : Nat) (T : List (Nat × Nat)) (f g : List Bool), vs = [wv, fv, gv] ∧ IsWeb H wv n T ∧ Tup H fv (bzs f) ∧ Tup H gv (bzs g) ∧ T.length = f.length ∧ T.length = g.length ∧ T.length ≤ 500 ∧ n ≤ 500 ∧ (∀ e ∈ T, e.1 < e.2 ∧ e.2 < n) ∧
  (∀ H', Same H H' → Q .non H') ∧ (∀ H' v, Same H H' → (∃ R, Tup H' v (nz R)) → Q v H')
theorem k_partingring (T : Tx K mg) : Keeps P w K mg base 3 "parting_ring" ["web", "one", "other"] spParting := by
  have kclosedrings := k_closedrings (P := P) (w := w) (base := base) T
  have kalong := k_along (P := P) (w := w) (base := base) T
  refine T.dpartingring.keeps scpartingring (fun vs H Q E h => ?_) (fun fa cdv A outer s H vs Q E hr h => ?_)
  · obtain ⟨wv, fv, gv, n, T, f, g, rfl, _⟩ := h
    rfl
  obtain ⟨wv, fv, gv, n, W, f, g, rfl, hw, hf, hg, lf, lg, hm, hn, hlow, q1, q2⟩ := h
  refine ⟨_, (pss_cons (ps_for PassesOwn.never rfl (pi_list (pe_k kclosedrings (hr.mono (by decide)) (pa_cons (pv 0) pa_nil))) (pg_name (i := 3) scpartingring.nd rfl (.inl rfl)) (pss_one (ps_if (pt_cmpR op_ne (pe_k kalong (hr.mono (by decide)) (pa_cons (pv 0) (pa_cons (pv 1) (pa_cons (pv 3) pa_nil)))) (pe_k kalong (hr.mono (by decide)) (pa_cons (pv 0) (pa_cons (pv 2) (pa_cons (pv 3) pa_nil)))) (nomark _)) (pss_one (ps_ret (pv 3))) pss_nil)))
    (pss_one (ps_ret pe_non))), ?_⟩
  refine ⟨wv, rfl, wv, n, W, rfl, hw, hm, hn, hlow, fun H1 l Rs s1 ⟨fs, hl, hfs⟩ hR => ⟨l, rfl, ⟨fs, SqL.of hl⟩, ?_⟩⟩
  have hfl := paired_len hfs
  refine for_it (walk_list (xs := fs)) (fun i σ H' => ∃ y3, σ = [some wv, some fv, some gv, y3] ∧ Same H1 H')
    ⟨none, rfl, .refl _⟩ (fun i σ H' hi' pp => ?_) (fun i x σ H0 H2 hi' pp y => ?_) (fun σ H' pp => ?_)
  · obtain ⟨_, _, s1⟩ := pp
    exact SqL.of (s1 _ _ hl)
  · obtain ⟨y3, rfl, s2⟩ := pp
    obtain ⟨rfl, ey⟩ := y
    obtain ⟨xs, hxs, hx⟩ := paired_at hfs ey
    rw [List.getElem?_map] at hxs
    obtain ⟨R, hRi, rfl⟩ := Option.map_eq_some_iff.mp hxs
    obtain ⟨r1, r2⟩ := hR R (List.mem_of_getElem? hRi)
    have s12 := s1.trans s2
    refine ⟨wv, rfl, fv, rfl, x, rfl, wv, fv, x, n, W, f, R, rfl, hw.mono (.of s12), hf.mono (.of s12), lf, by omega, hx.mono (.of s2), r1, r2, fun H3 s3 => ?_⟩
    have s13 := s12.trans s3
    refine ⟨wv, rfl, gv, rfl, x, rfl, wv, gv, x, n, W, g, R, rfl, hw.mono (.of s13), hg.mono (.of s13), lg, by omega, hx.mono (.of (s2.trans s3)), r1, r2, fun H4 s4 => ?_⟩
    refine ⟨rfl, _, rfl, ?_⟩
    refine ite2 (fun _ => ?_) (fun _ => ?_)
    · exact ⟨x, rfl, q2 _ _ (s13.trans s4) ⟨R, hx.mono (.of ((s2.trans s3).trans s4))⟩⟩
    · exact ⟨_, rfl, (s2.trans s3).trans s4⟩
  · obtain ⟨y3, rfl, s2⟩ := pp
    exact q1 _ (s1.trans s2)
end
end K40

set_option Elab.async false
set_option linter.all false
set_option maxRecDepth 100000
set_option maxHeartbeats 4000000
namespace K40
open PySem PySem.Spec PyProof.Rows L2
section
variable {P : Program} {w : World} {K : PySem.W.Frag} {mg : Str → Option Value} {base : Heap}
/-! ### counts_of_piece -/
/-- an arrow of a tie -/
def ao (e : Nat × Nat) (d : Bool) : Nat × Nat := if d = true then e else (e.2, e.1)
/-- how often each place is to be turned, up to a number for each piece -/
def Pot (T : List (Nat × Nat)) (f g : List Bool) (c : Nat → Int) : Prop := ∀ (k : Nat) (e : Nat × Nat) (d d' : Bool), T[k]? = some e → f[k]? = some d → g[k]? = some d' → c (ao e d).2 = c (ao e d).1 - (if d = d' then 0 else 1)
theorem arr_at2 {T : List (Nat × Nat)} {f : List Bool} {i : Nat} {e : Nat × Nat} {d : Bool} (h1 : T[i]? = some e) (h2 : f[i]? = some d) : (arr T f)[i]? = some (ao e d) := by
  simp [arr, List.getElem?_zipWith, h1, h2, ao]
theorem arr_of {T : List (Nat × Nat)} {f : List Bool} {i : Nat} {p : Nat × Nat} (h : (arr T f)[i]? = some p) : ∃ e d, T[i]? = some e ∧ f[i]? = some d ∧ p = ao e d := by
  unfold arr at h
  rw [List.getElem?_zipWith] at h
  cases h1 : T[i]? with
  | none => simp [h1] at h
  | some e =>
    cases h2 : f[i]? with
    | none => simp [h1, h2] at h
    | some d =>
      refine ⟨e, d, rfl, rfl, ?_⟩
      simp [h1, h2] at h
      exact h.symm
/-- the piece gone through, up to place i and there arrow k -/
def Closed (A : List (Nat × Nat)) (l : List Nat) (i kk : Nat) : Prop := ∀ (j x k a b : Nat), l[j]? = some x → A[k]? = some (a, b) → (a = x ∨ b = x) → (j < i ∨ (j = i ∧ k < kk)) → a ∈ l ∧ b ∈ l
theorem Closed.snoc {A : List (Nat × Nat)} {l : List Nat} {i kk y : Nat} (h : Closed A l i kk) (hi : i < l.length) : Closed A (l ++ [y]) i kk := by
  intro j x k a b hj hk hx hc
  have hjl : j < l.length := by omega
  rw [List.getElem?_append_left hjl] at hj
  obtain ⟨h1, h2⟩ := h j x k a b hj hk hx hc
  exact ⟨List.mem_append_left _ h1, List.mem_append_left _ h2⟩
theorem Closed.step {A : List (Nat × Nat)} {l : List Nat} {i kk : Nat} (h : Closed A l i kk) (h2 : ∀ x a b, l[i]? = some x → A[kk]? = some (a, b) → (a = x ∨ b = x) → a ∈ l ∧ b ∈ l) : Closed A l i (kk + 1) := by
  intro j x k a b hj hk hx hc
  by_cases g : j = i ∧ k = kk
  · obtain ⟨rfl, rfl⟩ := g
    exact h2 x a b hj hk hx
  · refine h j x k a b hj hk hx ?_
    rcases hc with hc | hc
    · exact .inl hc
    · have hc1 := hc.1
      have hc2 := hc.2
      by_cases g3 : k = kk
      · exact absurd ⟨hc1, g3⟩ g
      · exact .inr ⟨hc1, by omega⟩
theorem Closed.next {A : List (Nat × Nat)} {l : List Nat} {i kk : Nat} (h : Closed A l i kk) (hk : A.length ≤ kk) : Closed A l (i + 1) 0 := by
  intro j x k a b hj hk' hx hc
  refine h j x k a b hj hk' hx ?_
  have := (List.getElem?_eq_some_iff.mp hk').1
  rcases hc with hc | hc
  · by_cases g : j = i
    · exact .inr ⟨g, by omega⟩
    · exact .inl (by omega)
  · omega
/-- counts of places -/
abbrev RInt : V → Int → Prop := fun v z => v = .int z
structure CountsOk (c : Nat → Int) (p0 N : Nat) (A : Assoc Int) : Prop where
  nd : (A.map (·.1)).Nodup
  lt : ∀ x ∈ A.map (·.1), x < N
  val : ∀ q ∈ A, q.2 = c q.1 - c p0
  has : p0 ∈ A.map (·.1)
theorem CountsOk.snoc {c : Nat → Int} {p0 N : Nat} {A : Assoc Int} (h : CountsOk c p0 N A) {x : Nat} {z : Int} (hx : x < N) (e : look A x = none) (hz : z = c x - c p0) : CountsOk c p0 N (A ++ [(x, z)]) := by
  have hne := look_none.mp e
  refine ⟨?_, fun y hy => ?_, fun q hq => ?_, ?_⟩
  · rw [List.map_append]
    exact nodup_snoc h.nd hne
  · rw [List.map_append] at hy
    rcases List.mem_append.mp hy with hy | hy
    · exact h.lt y hy
    · rw [List.mem_singleton.mp hy]
      exact hx
  · rcases List.mem_append.mp hq with hq | hq
    · exact h.val q hq
    · rw [List.mem_singleton.mp hq]
      exact hz
  · rw [List.map_append]
    exact List.mem_append_left _ h.has
abbrev Ncountsofpiece : List Str := ["web", "one", "other", "place", "counts", "line", "at", "k", "begin", "end", "more"]
theorem sccountsofpiece : FnScope Ncountsofpiece ["web", "one", "other", "place"] (defScope (topS 16)) := ⟨rfl, rfl, rfl, by decide +kernel, rfl, by decide +kernel, by decide +kernel⟩
-- 0 web 1 one 2 other 3 place 4 counts 5 line 6 at 7 k 8 begin 9 end 10 more
def spCounts : Sp := fun vs H Q _ => ∃ (wv fv gv : V) (p n : Nat) (T : List (Nat × Nat)) (f g : List Bool) (c : Nat → Int), vs = [wv, fv, gv, .int (p : Nat)] ∧ IsWeb H wv n T ∧ Tup H fv (bzs f) ∧ Tup H gv (bzs g) ∧ T.length = f.length ∧ T.length = g.length ∧ T.length ≤ 500 ∧ n ≤ 500 ∧ (∀ e ∈ T, e.1 < e.2 ∧ e.2 < n) ∧
  p < n ∧ Pot T f g c ∧ ∀ H' d kvs (A : Assoc Int), Same H H' → H d = none → H' d = some (.dK kvs) → DRel RInt kvs A → CountsOk c p n A → Closed (arr T f) (A.map (·.1)) A.length 0 → Q (.ref d) H'
theorem ao_lt {T : List (Nat × Nat)} {n : Nat} (h : ∀ e ∈ T, e.1 < e.2 ∧ e.2 < n) {k : Nat} {e : Nat × Nat} {d : Bool} (he : T[k]? = some e) : (ao e d).1 < n ∧ (ao e d).2 < n := by
  obtain ⟨h1, h2⟩ := h e (List.mem_of_getElem? he)
  unfold ao
  cases d
  · exact ⟨h2, Nat.lt_trans h1 h2⟩
  · exact ⟨Nat.lt_trans h1 h2, h2⟩
theorem bz_ne (d d' : Bool) : (if (!decide (V.int (bz d) = V.int (bz d'))) = true then (1 : Int) else 0) = if d = d' then 0 else 1 := by
  cases d <;> cases d' <;> simp [bz]
theorem and_notin {σ : L2.St} {H : Hp} {Q : Bool → Hp → Prop} {v w' l d j : Nat} {a b i key : Nat} {ln wd : Addr} {ks : List Nat} {kvs : List (L2.Key × V)} {A : Assoc Int} (hx : σ[v]? = some (some (.int (a : Nat)))) (hl : σ[l]? = some (some (.ref ln))) (hj : σ[j]? = some (some (.int (i : Nat))))
    (hb : σ[w']? = some (some (.int (b : Nat)))) (hd : σ[d]? = some (some (.ref wd))) (hln : H ln = some (.lst ((nz ks).map V.int))) (hk : ks[i]? = some key) (hwd : H wd = some (.dK kvs)) (hD : DRel RInt kvs A)
    (q1 : a = key → look A b = none → Q true H) (q2 : ¬ (a = key ∧ look A b = none) → Q false H) : tAnd (tTest (tOp rEq (tVar v) (tOp (rIxL K) (tVar l) (tVar j)))) (tTest (tDNotIn (tVar w') (tVar d))) σ H Q := by
  refine ⟨.int (a : Nat), hx, .ref ln, hl, .int (i : Nat), hj, ln, _, (i : Nat), _, rfl, rfl, SqL.of hln, at_int (nz_at hk), rfl, _, rfl, ?_⟩
  refine ite2 (fun e => ?_) (fun e => ?_)
  · have eb : a = key := by
      have := of_decide_eq_true e
      injection this with this
      omega
    obtain ⟨o, go, so, _, _⟩ := drel_get hwd hD b
    refine ⟨.int (b : Nat), hb, .ref wd, hd, wd, o, rfl, go, _, rfl, ?_⟩
    rw [so]
    cases lb : look A b with
    | none => exact q1 eb lb
    | some z => exact q2 (fun z => by rw [lb] at z; exact nomatch z.2)
  · exact q2 fun z => e (decide_eq_true (by rw [z.1]))
theorem k_countsofpiece (T : Tx K mg) : Keeps P w K mg base 2 "counts_of_piece" ["web", "one", "other", "place"] spCounts := by
  have karrows := k_arrows (P := P) (w := w) (base := base) T
  refine T.dcountsofpiece.keeps sccountsofpiece (fun vs H Q E h => ?_) (fun fa cdv A outer s H vs Q E hr h => ?_)
  · obtain ⟨wv, fv, gv, p, n, T, f, g, c, rfl, _⟩ := h
    rfl
  obtain ⟨wv, fv, gv, p, n, W, f, g, c, rfl, hw, hf, hg, lf, lg, hm, hn, hlow, hp, hc, q⟩ := h
  obtain ⟨af, rfl, haf⟩ := id hf
  obtain ⟨ag, rfl, hag⟩ := id hg
  have hu := hu_of hr
  refine ⟨_, (pss_cons (ps_set (i := 4) sccountsofpiece.nd rfl (.inl rfl) (pe_disp (pps_cons (pv 3) pe_int pps_nil) (by rfl) (by rfl) (fun z => by cases z) (by decide)))
    (pss_cons (ps_set (i := 5) sccountsofpiece.nd rfl (.inl rfl) (pe_lst (pa_cons (pv 3) pa_nil)))
    (pss_cons (ps_set (i := 6) sccountsofpiece.nd rfl (.inl rfl) pe_int)
    (pss_cons (ps_while PassesOwn.never (pt_cmpR op_lt (pv 6) (pe_callB call_len_seq (by rfl) T.zlen (by decide +kernel) (pa_cons (pv 5) pa_nil)) (nomark _)) (pss_cons (ps_for PassesOwn.never rfl (pi_enum (by rfl) T.zenumerate (pa_cons (pe_k karrows (hr.mono (by decide)) (pa_cons (pv 0) (pa_cons (pv 1) pa_nil))) pa_nil)) (pg_tup rfl (pgs_cons (pg_name (i := 7) sccountsofpiece.nd rfl (.inl rfl)) (pgs_cons (pg_tup rfl (pgs_cons (pg_name (i := 8) sccountsofpiece.nd rfl (.inl rfl)) (pgs_cons (pg_name (i := 9) sccountsofpiece.nd rfl (.inl rfl)) pgs_nil))) pgs_nil))) (pss_cons (ps_set (i := 10) sccountsofpiece.nd rfl (.inl rfl) (pe_callTy call_int1 (by rfl) T.zint (by decide +kernel) (pa_cons (pe_cmpR op_ne (pe_ix ix_tup (pv 1) (pv 7) (fun _ _ => rfl)) (pe_ix ix_tup (pv 2) (pv 7) (fun _ _ => rfl)) (nomark _)) pa_nil)))
    (pss_one (ps_if (PW.pt (pw_and (pt_cmpR op_eq (pv 8) (pe_ix ix_list (pv 5) (pv 6) (fun _ _ => rfl)) (nomark _)) (pw_and1 (pt_cmp (pc_dnotin hu (pv 9) (pv 4)))))) (pss_cons (ps_dput hu (pv 4) (pv 9) (pe_op op_sub (pe_dget hu (pv 4) (pv 8) (fun _ _ => rfl)) (pv 10)) rfl)
    (pss_one (ps_expr (pe_bm PySem.F.plainAttrs_list PySem.F.slot_list_append PySem.F.type_list_append mt_append (pv 5) (pa_cons (pv 9) pa_nil))))) (pss_one (ps_if (PW.pt (pw_and (pt_cmpR op_eq (pv 9) (pe_ix ix_list (pv 5) (pv 6) (fun _ _ => rfl)) (nomark _)) (pw_and1 (pt_cmp (pc_dnotin hu (pv 8) (pv 4)))))) (pss_cons (ps_dput hu (pv 4) (pv 8) (pe_op op_add (pe_dget hu (pv 4) (pv 9) (fun _ _ => rfl)) (pv 10)) rfl)
    (pss_one (ps_expr (pe_bm PySem.F.plainAttrs_list PySem.F.slot_list_append PySem.F.type_list_append mt_append (pv 5) (pa_cons (pv 8) pa_nil))))) pss_nil))))))
    (pss_one (ps_set (i := 6) sccountsofpiece.nd rfl (.inl rfl) (pe_op op_add (pv 6) pe_int)))))
    (pss_one (ps_ret (pv 4))))))), ?_⟩
  refine fun wd nwd => ⟨.int (p : Nat), rfl, ⟨upd_same, [(Sum.inl (p : Int), .int 0)], rfl, Nat.succ_le_succ (Nat.zero_le _), ?_⟩⟩
  have s0 : Same H (upd (upd H wd (.dK [])) wd (.dK (mergeK [] [(Sum.inl (p : Int), .int 0)]))) := same_mut (same_new nwd) nwd
  refine ⟨.int (p : Nat), rfl, le1, fun ln nln => ?_⟩
  have fln : H ln = none := Same.free s0 nln
  have lnd : ln ≠ wd := (ne_of_none upd_same nln).symm
  refine ⟨fun m σ H' => ∃ (i : Nat) (y7 y8 y9 y10 : Option V) (kvs : List (L2.Key × V)) (A : Assoc Int), σ = [some wv, some (.ref af), some (.ref ag), some (.int (p : Nat)), some (.ref wd), some (.ref ln), some (.int (i : Nat)), y7, y8, y9, y10] ∧ i ≤ A.length ∧ m + i = n ∧
      Same H H' ∧ H' wd = some (.dK kvs) ∧ H' ln = some (.lst ((nz (A.map (·.1))).map V.int)) ∧ DRel RInt kvs A ∧ CountsOk c p n A ∧ Closed (arr W f) (A.map (·.1)) i 0,
    ⟨n, 0, none, none, none, none, [(Sum.inl (p : Int), .int 0)], [(p, 0)], rfl, Nat.zero_le _, rfl, same_step s0 nln, ?_, upd_same, .cons ⟨rfl, rfl⟩ .nil, ⟨by simp, by simpa using hp, by simp, by simp⟩, fun j x k a b _ _ _ hc => by omega⟩, fun m σ H' hW => ?_⟩
  · rw [upd_ne lnd.symm]
    exact upd_same
  obtain ⟨i, y7, y8, y9, y10, kvs, A, rfl, hi, hmi, sm, hwd, hln, hD, hA, hC⟩ := hW
  refine ⟨.int (i : Nat), rfl, .ref ln, rfl, ln, _, rfl, .inl (SqL.of hln), _, _, rfl, rfl, _, rfl, ?_⟩
  have lA : ((nz (A.map (·.1))).map V.int).length = A.length := by simp [nz]
  rw [lA]
  have hAN : A.length ≤ n := by
    have := under_len hA.nd hA.lt
    simpa using this
  refine ite2 (fun e => ?_) (fun e => ?_)
  · have hiA : i < A.length := by
      have := of_decide_eq_true e
      omega
    obtain ⟨m, rfl⟩ : ∃ m', m = m' + 1 := ⟨m - 1, by omega⟩
    refine ⟨fun σ' H2 => ∃ (i : Nat) (y7 y8 y9 y10 : Option V) (kvs : List (L2.Key × V)) (A : Assoc Int), σ' = [some wv, some (.ref af), some (.ref ag), some (.int (p : Nat)), some (.ref wd), some (.ref ln), some (.int (i : Nat)), y7, y8, y9, y10] ∧ i ≤ A.length ∧ m + i = n ∧
        Same H H2 ∧ H2 wd = some (.dK kvs) ∧ H2 ln = some (.lst ((nz (A.map (·.1))).map V.int)) ∧ DRel RInt kvs A ∧ CountsOk c p n A ∧ Closed (arr W f) (A.map (·.1)) i 0,
      fun σ' H2 hN => ⟨m, Nat.lt_succ_self m, hN⟩, ?_⟩
    refine ⟨wv, rfl, .ref af, rfl, wv, .ref af, n, W, f, rfl, hw.mono (.of sm), hf.mono (.of sm), lf, by omega, fun H1 l s1 nl ⟨us, hl, hus⟩ => ⟨l, us, rfl, SqL.of hl, ?_⟩⟩
    have sm1 := sm.trans s1
    have hul := paired_len hus
    rw [List.length_map, arr_len lf] at hul
    have lnl : l ≠ ln := (ne_of_none hln nl).symm
    have lwd : l ≠ wd := (ne_of_none hwd nl).symm
    refine for_it (walk_enum (xs := us)) (fun k σ H2 => ∃ (y7 y8 y9 y10 : Option V) (kvs : List (L2.Key × V)) (A : Assoc Int), σ = [some wv, some (.ref af), some (.ref ag), some (.int (p : Nat)), some (.ref wd), some (.ref ln), some (.int (i : Nat)), y7, y8, y9, y10] ∧ i < A.length ∧
        Same H H2 ∧ TupSame H1 H2 ∧ H2 l = some (.lst us) ∧ H2 wd = some (.dK kvs) ∧ H2 ln = some (.lst ((nz (A.map (·.1))).map V.int)) ∧ DRel RInt kvs A ∧ CountsOk c p n A ∧ Closed (arr W f) (A.map (·.1)) i k)
      ⟨y7, y8, y9, y10, kvs, A, rfl, hiA, sm1, .refl _, hl, s1 _ _ hwd, s1 _ _ hln, hD, hA, hC⟩ (fun j σ H' hj pp => ?_) (fun k x σ H0 H2 hk pp y => ?_) (fun σ H' pp => ?_)
    · obtain ⟨_, _, _, _, _, _, _, _, _, _, h1, _⟩ := pp
      exact SqL.of h1
    · obtain ⟨y7, y8, y9, y10, kvs, A, rfl, hiA, sm, ts, hl, hwd, hln, hD, hA, hC⟩ := pp
      obtain ⟨Tt, x1, z, rfl, nT, rfl, ex, ez⟩ := y
      cases ex
      have ez : us[k]? = some z := ez
      obtain ⟨xs, hxs, pp, rfl, hpp⟩ := paired_at hus ez
      rw [List.getElem?_map] at hxs
      obtain ⟨⟨a, b⟩, hab, rfl⟩ := Option.map_eq_some_iff.mp hxs
      obtain ⟨e, d, he, hd, eab⟩ := arr_of hab
      have hkl := (List.getElem?_eq_some_iff.mp he).1
      have hd' : g[k]? = some g[k] := List.getElem?_eq_getElem (by omega)
      have hab2 := ao_lt hlow he (d := d)
      rw [← eab] at hab2
      obtain ⟨ha, hb⟩ := hab2
      have ha : a < n := ha
      have hb : b < n := hb
      have hcc := hc k e d g[k] he hd hd'
      rw [← eab] at hcc
      have hcc : c b = c a - (if d = g[k] then 0 else 1) := hcc
      have sT : Same H0 (upd H0 Tt (.tup [.int (k : Nat), .ref pp])) := same_new nT
      have hT : (upd H0 Tt (.tup [.int (k : Nat), .ref pp])) Tt = some (.tup [.int (k : Nat), .ref pp]) := upd_same
      have hAN : A.length ≤ n := by
        have := under_len hA.nd hA.lt
        simpa using this
      generalize (upd H0 Tt (.tup [.int (k : Nat), .ref pp])) = H2 at *
      have smT := sm.trans sT
      have hwd := sT _ _ hwd
      have hln := sT _ _ hln
      have hl := sT _ _ hl
      have ts := ts.trans (.of sT)
      refine ⟨Tt, [.int (k : Nat), .ref pp], rfl, SqT.of hT, rfl, .int (k : Nat), [.ref pp], rfl, .ref pp, [], rfl, ⟨pp, [.int (a : Nat), .int (b : Nat)], rfl, SqT.of (ts _ _ hpp), rfl, .int (a : Nat), [.int (b : Nat)], rfl, .int (b : Nat), [], rfl, rfl, rfl, ?_⟩⟩
      refine ⟨.ref af, rfl, .int (k : Nat), rfl, af, _, (k : Nat), _, rfl, rfl, SqT.of (smT _ _ haf), at_int (bzs_at hd), .ref ag, rfl, .int (k : Nat), rfl, ag, _, (k : Nat), _, rfl, rfl, SqT.of (smT _ _ hag), at_int (bzs_at hd'), rfl, .inr ⟨_, rfl, ?_⟩⟩
      rw [bz_ne]
      have hky : (A.map (·.1))[i]? = some (A[i].1) := by simp [hiA]
      have hmem : A[i].1 ∈ A.map (·.1) := List.mem_of_getElem? hky
      have addIt : ∀ (x : Nat) (z : Int), x < n → look A x = none → z = c x - c p →
          ∃ H3, DPut H2 wd (.int (x : Nat)) (.int z) H3 ∧ H3 ln = some (.lst ((nz (A.map (·.1))).map V.int)) ∧ DRel RInt (kvs ++ [(Sum.inl (x : Int), .int z)]) (A ++ [(x, z)]) ∧ CountsOk c p n (A ++ [(x, z)]) ∧
            (∀ H4, H4 = upd H3 ln (.lst ((nz (A.map (·.1))).map V.int ++ [.int (x : Nat)])) → Same H H4 ∧ TupSame H1 H4 ∧ H4 l = some (.lst us) ∧ H4 wd = some (.dK (kvs ++ [(Sum.inl (x : Int), .int z)])) ∧ H4 ln = some (.lst ((nz ((A ++ [(x, z)]).map (·.1))).map V.int))) := by
        intro x z hx hlk hz
        obtain ⟨dp, hD2⟩ := drel_put (H := H2) (R := RInt) (w := z) (v := .int z) hwd hD hlk rfl (by omega)
        have hln3 : upd H2 wd (.dK (kvs ++ [(Sum.inl (x : Int), .int z)])) ln = some (.lst ((nz (A.map (·.1))).map V.int)) := by
          rw [upd_ne lnd]
          exact hln
        refine ⟨_, dp, hln3, hD2, hA.snoc hx hlk hz, fun H4 e4 => ?_⟩
        subst e4
        refine ⟨same_mut (same_mut smT nwd) fln, ts.trans (.trans (.dk hwd) (.lst hln3)), ?_, ?_, ?_⟩
        · rw [upd_ne lnl, upd_ne lwd]
          exact hl
        · rw [upd_ne lnd.symm]
          exact upd_same
        · rw [List.map_append]
          have := nz_snoc (A.map (·.1)) x
          rw [show (List.map (fun x => x.1) A ++ List.map (fun x => x.1) [(x, z)]) = A.map (·.1) ++ [x] from rfl, this]
          exact upd_same
      -- if begin == line[at] and end not in counts
      have done : (a = A[i].1 → b ∈ A.map (·.1)) → (b = A[i].1 → a ∈ A.map (·.1)) → Closed (arr W f) (A.map (·.1)) i (k + 1) := by
        intro n1 n2
        refine hC.step fun x a' b' hx hab' hor => ?_
        rw [hky] at hx
        cases hx
        rw [hab] at hab'
        cases hab'
        rcases hor with h | h
        · exact ⟨by rw [h]; exact hmem, n1 h⟩
        · exact ⟨n2 h, by rw [h]; exact hmem⟩
      have doneA : ∀ (x : Nat) (z : Int), (x = a ∨ x = b) → (a = A[i].1 ∨ b = A[i].1) → (a = x ∨ a = A[i].1) → (b = x ∨ b = A[i].1) → Closed (arr W f) ((A ++ [(x, z)]).map (·.1)) i (k + 1) := by
        intro x z _ _ ho1 ho2
        rw [List.map_append]
        have hi2 : i < (A.map (·.1)).length := by simp [hiA]
        refine (hC.snoc hi2).step fun x' a' b' hx hab' hor => ?_
        rw [hab] at hab'
        cases hab'
        constructor
        · rcases ho1 with h | h
          · rw [h]; simp
          · rw [h]; exact List.mem_append_left _ hmem
        · rcases ho2 with h | h
          · rw [h]; simp
          · rw [h]; exact List.mem_append_left _ hmem
      have getv : ∀ x, x ∈ A.map (·.1) → DGet H2 wd (.int (x : Nat)) (some (.int (c x - c p))) := by
        intro x hx
        obtain ⟨o, go, so, no, oo⟩ := drel_get hwd hD x
        cases lx : look A x with
        | none => exact absurd hx (look_none.mp lx)
        | some w =>
          obtain ⟨v, rfl, rfl⟩ := oo w lx
          have := hA.val _ (look_mem lx)
          have this : w = c x - c p := this
          rw [this] at go
          exact go
      have push : ∀ (x : Nat) (z : Int) (H3 : Hp), H3 ln = some (.lst ((nz (A.map (·.1))).map V.int)) → True := fun _ _ _ _ => trivial
      refine and_notin (ks := A.map (·.1)) rfl rfl rfl rfl rfl hln hky hwd hD (fun e1 e2 => ?_) (fun ne1 => ?_)
      · obtain ⟨H3, dp, hln3, hD3, hA3, fin⟩ := addIt b (c a - c p - (if d = g[k] then 0 else 1)) hb e2 (by rw [hcc]; omega)
        obtain ⟨f1, f2, f3, f4, f5⟩ := fin _ rfl
        refine ⟨.ref wd, rfl, .int (a : Nat), rfl, wd, _, rfl, getv a (by rw [e1]; exact hmem), _, rfl, _, _, rfl, rfl, .ref wd, rfl, .int (b : Nat), rfl, wd, H3, rfl, dp, ?_⟩
        refine ⟨.ref ln, rfl, .inl ⟨rfl, _, SqL.of hln3⟩, .int (b : Nat), rfl, ln, _, .int (b : Nat), rfl, rfl, hln3, szlt _ (by simp [nz]; omega), ?_⟩
        exact ⟨_, _, _, _, _, _, rfl, by rw [List.length_append]; omega, f1, f2, f3, f4, f5, hD3, hA3, doneA _ _ (.inr rfl) (.inl e1) (.inr e1) (.inl rfl)⟩
      · refine and_notin (ks := A.map (·.1)) rfl rfl rfl rfl rfl hln hky hwd hD (fun e1 e2 => ?_) (fun ne2 => ?_)
        · obtain ⟨H3, dp, hln3, hD3, hA3, fin⟩ := addIt a (c b - c p + (if d = g[k] then 0 else 1)) ha e2 (by rw [hcc]; omega)
          obtain ⟨f1, f2, f3, f4, f5⟩ := fin _ rfl
          refine ⟨.ref wd, rfl, .int (b : Nat), rfl, wd, _, rfl, getv b (by rw [e1]; exact hmem), _, rfl, _, _, rfl, rfl, .ref wd, rfl, .int (a : Nat), rfl, wd, H3, rfl, dp, ?_⟩
          refine ⟨.ref ln, rfl, .inl ⟨rfl, _, SqL.of hln3⟩, .int (a : Nat), rfl, ln, _, .int (a : Nat), rfl, rfl, hln3, szlt _ (by simp [nz]; omega), ?_⟩
          exact ⟨_, _, _, _, _, _, rfl, by rw [List.length_append]; omega, f1, f2, f3, f4, f5, hD3, hA3, doneA _ _ (.inl rfl) (.inr e1) (.inl rfl) (.inr e1)⟩
        · refine ⟨_, _, _, _, kvs, A, rfl, hiA, smT, ts, hl, hwd, hln, hD, hA, done (fun e => ?_) (fun e => ?_)⟩
          · by_cases z : b ∈ A.map (·.1)
            · exact z
            · exact absurd ⟨e, look_none.mpr z⟩ ne1
          · by_cases z : a ∈ A.map (·.1)
            · exact z
            · exact absurd ⟨e, look_none.mpr z⟩ ne2
    · obtain ⟨y7, y8, y9, y10, kvs, A, rfl, hiA, sm, ts, hl, hwd, hln, hD, hA, hC⟩ := pp
      exact ⟨.int (i : Nat), rfl, _, _, rfl, rfl, i + 1, _, _, _, _, kvs, A, rfl, by omega, by omega, sm, hwd, hln, hD, hA, hC.next (by rw [arr_len lf]; omega)⟩
  · have hiA : i = A.length := by
      have : ¬ ((i : Int) < (A.length : Int)) := fun z => e (decide_eq_true z)
      omega
    subst hiA
    exact ⟨.ref wd, rfl, q _ wd kvs A sm nwd hwd hD hA hC⟩
end
end K40

set_option Elab.async false
set_option linter.all false
set_option maxRecDepth 100000
set_option maxHeartbeats 4000000
namespace K40
open PySem PySem.Spec PyProof.Rows L2
section
variable {P : Program} {w : World} {K : PySem.W.Frag} {mg : Str → Option Value} {base : Heap}
/-! ### often_turned -/
theorem look_cons {α : Type} (p : Nat × α) (r : Assoc α) (j : Nat) : look (p :: r) j = if p.1 = j then some p.2 else look r j := by
  by_cases h : p.1 = j <;> simp [look, h]
theorem look_map {α : Type} {k j : Nat} {w : α} : ∀ A : Assoc α, look (A.map fun p => if p.1 = k then (p.1, w) else p) j = if j = k then (look A j).map (fun _ => w) else look A j
  | [] => by simp [look]
  | p :: r => by
    rw [List.map_cons, look_cons, look_cons, look_map r]
    by_cases h : p.1 = k
    · rw [if_pos h]
      show (if p.1 = j then some w else _) = _
      by_cases g : p.1 = j
      · rw [if_pos g, if_pos g, if_pos (by omega)]
        rfl
      · rw [if_neg g, if_neg g]
    · rw [if_neg h]
      by_cases g : p.1 = j
      · rw [if_pos g, if_pos g, if_neg (by omega)]
      · rw [if_neg g, if_neg g]
theorem look_app {α : Type} {k j : Nat} {w : α} : ∀ A : Assoc α, look (A ++ [(k, w)]) j = (look A j).or (if k = j then some w else none)
  | [] => by
    rw [List.nil_append, look_cons]
    simp [look]
  | p :: r => by
    rw [List.cons_append, look_cons, look_cons, look_app r]
    by_cases g : p.1 = j
    · rw [if_pos g, if_pos g]
      rfl
    · rw [if_neg g, if_neg g]
theorem look_put {α : Type} {A : Assoc α} {k j : Nat} {w : α} : look (putA A k w) j = if j = k then some w else look A j := by
  have e : (A.any fun p => p.1 == k) = (look A k).isSome := by
    induction A with
    | nil => rfl
    | cons p r ih =>
      rw [List.any_cons, look_cons, ih]
      by_cases g : p.1 = k
      · simp [g]
      · simp [g]
  unfold putA
  rw [e]
  cases hk : look A k with
  | none =>
    rw [if_neg (by simp), look_app]
    by_cases g : j = k
    · subst g
      rw [hk, if_pos rfl]
      rfl
    · rw [if_neg g, if_neg (fun z => g z.symm)]
      simp
  | some w0 =>
    rw [if_pos (by simp), look_map]
    by_cases g : j = k
    · subst g
      rw [hk, if_pos rfl, if_pos rfl]
      rfl
    · rw [if_neg g, if_neg g]
theorem keys_put {α : Type} (A : Assoc α) (k : Nat) (w : α) : (putA A k w).map (·.1) = if k ∈ A.map (·.1) then A.map (·.1) else A.map (·.1) ++ [k] := by
  unfold putA
  have e : (A.any fun p => p.1 == k) = decide (k ∈ A.map (·.1)) := by
    rw [Bool.eq_iff_iff, decide_eq_true_iff, List.any_eq_true, List.mem_map]
    simp
  rw [e]
  by_cases h : k ∈ A.map (·.1)
  · rw [decide_eq_true h, if_pos rfl, if_pos h, List.map_map]
    refine List.map_congr_left fun q _ => ?_
    show (if q.1 = k then (q.1, w) else q).1 = q.1
    split <;> rfl
  · rw [decide_eq_false h, if_neg Bool.false_ne_true, if_neg h, List.map_append]
    rfl
theorem drel_putA {α : Type} {R : V → α → Prop} {k : Nat} {v : V} {w : α} (hv : R v w) {kvs : List (L2.Key × V)} {A : Assoc α} (h : DRel R kvs A) : DRel R (putK kvs (Sum.inl (k : Int)) v) (putA A k w) := by
  have e : ∀ {kvs : List (L2.Key × V)} {A : Assoc α}, DRel R kvs A → (kvs.any fun kv => decide (kv.1 = Sum.inl (k : Int))) = (A.any fun p => p.1 == k) := by
    intro kvs A h
    induction h with
    | nil => rfl
    | cons r t ih =>
      rw [List.any_cons, List.any_cons, ih, r.1, inl_eq]
  have m : ∀ {kvs : List (L2.Key × V)} {A : Assoc α}, DRel R kvs A → DRel R (kvs.map fun kv => if kv.1 = Sum.inl (k : Int) then (kv.1, v) else kv) (A.map fun p => if p.1 = k then (p.1, w) else p) := by
    intro kvs A h
    induction h with
    | nil => exact .nil
    | @cons a b _ _ r t ih =>
      refine .cons ?_ ih
      by_cases g : b.1 = k
      · have g2 : a.1 = Sum.inl (k : Int) := by rw [r.1, g]
        dsimp only
        rw [if_pos g, if_pos g2]
        exact ⟨r.1, hv⟩
      · have g2 : ¬ a.1 = Sum.inl (k : Int) := fun z => by
          rw [r.1] at z
          injection z with z
          exact g (by omega)
        dsimp only
        rw [if_neg g, if_neg g2]
        exact r
  unfold putK putA
  rw [e h]
  by_cases g : (A.any fun p => p.1 == k) = true
  · rw [if_pos g, if_pos g]
    exact m h
  · rw [if_neg g, if_neg g]
    exact paired_snoc ⟨rfl, hv⟩ h
def putAll (A P : Assoc Int) : Assoc Int := P.foldl (fun A q => putA A q.1 q.2) A
theorem look_putAll {x : Nat} : ∀ {P A : Assoc Int}, (P.map (·.1)).Nodup → look (putAll A P) x = (look P x).or (look A x)
  | [], A, _ => by simp [putAll, look]
  | q :: P, A, h => by
    rw [List.map_cons] at h
    obtain ⟨h1, h2⟩ := List.nodup_cons.mp h
    have ih := look_putAll (x := x) (P := P) (A := putA A q.1 q.2) h2
    show look (putAll (putA A q.1 q.2) P) x = _
    rw [ih, look_put]
    by_cases g : x = q.1
    · subst g
      rw [if_pos rfl, look_none.mpr h1]
      simp [look]
    · rw [if_neg g]
      have : look (q :: P) x = look P x := by
        have g' : ¬ q.1 = x := fun z => g z.symm
        simp [look, g']
      rw [this]
theorem keys_putAll : ∀ {P A : Assoc Int} {n : Nat}, (A.map (·.1)).Nodup → (∀ x ∈ A.map (·.1), x < n) → (∀ x ∈ P.map (·.1), x < n) → ((putAll A P).map (·.1)).Nodup ∧ ∀ x ∈ (putAll A P).map (·.1), x < n
  | [], A, n, h1, h2, _ => ⟨h1, h2⟩
  | q :: P, A, n, h1, h2, h3 => by
    refine keys_putAll (P := P) (A := putA A q.1 q.2) ?_ ?_ (fun x hx => h3 x (by simp at hx ⊢; exact .inr hx))
    · rw [keys_put]
      split
      · exact h1
      · rename_i g
        exact nodup_snoc h1 g
    · rw [keys_put]
      split
      · exact h2
      · intro x hx
        rcases List.mem_append.mp hx with hx | hx
        · exact h2 x hx
        · rw [List.mem_singleton.mp hx]
          exact h3 q.1 (by simp)
theorem look_some {α : Type} {A : Assoc α} {k : Nat} : k ∈ A.map (·.1) ↔ ∃ w, look A k = some w := by
  cases e : look A k with
  | none =>
    have := look_none.mp e
    simp [this]
  | some w =>
    have : k ∈ A.map (·.1) := by
      by_cases g : k ∈ A.map (·.1)
      · exact g
      · rw [look_none.mpr g] at e
        cases e
    simp [this]
structure GoodC (c : Nat → Int) (n : Nat) (F : List (Nat × Nat)) (A : Assoc Int) : Prop where
  nd : (A.map (·.1)).Nodup
  lt : ∀ x ∈ A.map (·.1), x < n
  val : ∃ off : Nat → Int, (∀ x w, look A x = some w → w = c x - off x ∧ 0 ≤ w ∧ w ≤ 1000) ∧ ∀ (k a b : Nat), F[k]? = some (a, b) → (a ∈ A.map (·.1) ∨ b ∈ A.map (·.1)) → a ∈ A.map (·.1) ∧ b ∈ A.map (·.1) ∧ off a = off b
theorem GoodC.all {c : Nat → Int} {n p : Nat} {F : List (Nat × Nat)} {A P : Assoc Int} (h : GoodC c n F A) (hP : CountsOk c p n P) (hC : Closed F (P.map (·.1)) P.length 0) (hc : ∀ x, x < n → 0 ≤ c x ∧ c x ≤ 1000) {m : Int} (hm : m ∈ P.map (·.2)) (hl : ∀ z ∈ P.map (·.2), m ≤ z) :
    GoodC c n F (putAll A (P.map fun q => (q.1, q.2 - m))) := by
  have ek : (P.map fun q => (q.1, q.2 - m)).map (·.1) = P.map (·.1) := by
    rw [List.map_map]
    rfl
  have hnd : ((P.map fun q => (q.1, q.2 - m)).map (·.1)).Nodup := by
    rw [ek]
    exact hP.nd
  obtain ⟨k1, k2⟩ := keys_putAll (A := A) (P := P.map fun q => (q.1, q.2 - m)) h.nd h.lt (by rw [ek]; exact hP.lt)
  obtain ⟨off, o1, o2⟩ := h.val
  have mk : ∀ x, x ∈ (putAll A (P.map fun q => (q.1, q.2 - m))).map (·.1) ↔ x ∈ P.map (·.1) ∨ x ∈ A.map (·.1) := by
    intro x
    rw [look_some, look_some (A := A), look_putAll hnd]
    rw [← ek, look_some]
    cases look (P.map fun q => (q.1, q.2 - m)) x <;> simp
  have cl : ∀ (k a b : Nat), F[k]? = some (a, b) → (a ∈ P.map (·.1) ∨ b ∈ P.map (·.1)) → a ∈ P.map (·.1) ∧ b ∈ P.map (·.1) := by
    intro k a b hk hor
    rcases hor with g | g
    · obtain ⟨j, hj⟩ := List.mem_iff_getElem?.mp g
      have hjl := (List.getElem?_eq_some_iff.mp hj).1
      rw [List.length_map] at hjl
      exact hC j a k a b hj hk (.inl rfl) (.inl hjl)
    · obtain ⟨j, hj⟩ := List.mem_iff_getElem?.mp g
      have hjl := (List.getElem?_eq_some_iff.mp hj).1
      rw [List.length_map] at hjl
      exact hC j b k a b hj hk (.inr rfl) (.inl hjl)
  refine ⟨k1, k2, fun x => if x ∈ P.map (·.1) then c p + m else off x, fun x w hw => ?_, fun k a b hk hor => ?_⟩
  · rw [look_putAll hnd] at hw
    by_cases g : x ∈ P.map (·.1)
    · dsimp only
      rw [if_pos g]
      have g2 := g
      rw [← ek] at g2
      obtain ⟨w', hw'⟩ := look_some.mp g2
      rw [hw'] at hw
      have hw : w' = w := by simpa using hw
      subst hw
      obtain ⟨q, hq, eq⟩ := List.mem_map.mp (look_mem hw')
      have e1 : q.1 = x := congrArg Prod.fst eq
      have e2 : q.2 - m = w' := congrArg Prod.snd eq
      have v := hP.val q hq
      obtain ⟨q2, hq2, e3⟩ := List.mem_map.mp hm
      have v2 := hP.val q2 hq2
      have m1 := hl q.2 (List.mem_map.mpr ⟨q, hq, rfl⟩)
      have b1 := hc q.1 (hP.lt _ (List.mem_map.mpr ⟨q, hq, rfl⟩))
      have b2 := hc q2.1 (hP.lt _ (List.mem_map.mpr ⟨q2, hq2, rfl⟩))
      rw [e1] at v b1
      omega
    · dsimp only
      rw [if_neg g]
      have g2 := g
      rw [← ek] at g2
      rw [look_none.mpr g2] at hw
      exact o1 x w (by simpa using hw)
  · rw [mk, mk] at hor
    rw [mk, mk]
    by_cases g : a ∈ P.map (·.1) ∨ b ∈ P.map (·.1)
    · obtain ⟨c1, c2⟩ := cl k a b hk g
      dsimp only
      rw [if_pos c1, if_pos c2]
      exact ⟨.inl c1, .inl c2, rfl⟩
    · have ga : a ∉ P.map (·.1) := fun z => g (.inl z)
      have gb : b ∉ P.map (·.1) := fun z => g (.inr z)
      have hor2 : a ∈ A.map (·.1) ∨ b ∈ A.map (·.1) := by
        rcases hor with (h | h) | h | h
        · exact absurd h ga
        · exact .inl h
        · exact absurd h gb
        · exact .inr h
      obtain ⟨c1, c2, c3⟩ := o2 k a b hk hor2
      dsimp only
      rw [if_neg ga, if_neg gb]
      exact ⟨.inr c1, .inr c2, c3⟩
abbrev Noftenturned : List Str := ["web", "one", "other", "counts", "place", "piece", "least", "near_one"]
theorem scoftenturned : FnScope Noftenturned ["web", "one", "other"] (defScope (topS 15)) := ⟨rfl, rfl, rfl, by decide +kernel, rfl, by decide +kernel, by decide +kernel⟩
-- 0 web 1 one 2 other 3 counts 4 place 5 piece 6 least 7 near_one
def spOften : Sp := fun vs H Q _ => ∃ (wv fv gv : V) (n : Nat) (T : List (Nat × Nat)) (f g : List Bool) (c : Nat → Int), vs = [wv, fv, gv] ∧ IsWeb H wv n T ∧ Tup H fv (bzs f) ∧ Tup H gv (bzs g) ∧ T.length = f.length ∧ T.length = g.length ∧ T.length ≤ 500 ∧ n ≤ 500 ∧ (∀ e ∈ T, e.1 < e.2 ∧ e.2 < n) ∧
  Pot T f g c ∧ (∀ x, x < n → 0 ≤ c x ∧ c x ≤ 1000) ∧ ∀ H' l (xs : List Int), Same H H' → H l = none → H' l = some (.lst (xs.map V.int)) → xs.length = n → (∀ x ∈ xs, 0 ≤ x ∧ x ≤ 1000) → Pot T f g (fun p => xs.getD p 0) → Q (.ref l) H'
theorem drel_vals {kvs : List (L2.Key × V)} {A : Assoc Int} (h : DRel RInt kvs A) : kvs.map (·.2) = (A.map (·.2)).map V.int := by
  induction h with
  | nil => rfl
  | cons r t ih =>
    rw [List.map_cons, ih, r.2]
    rfl
theorem k_oftenturned (T : Tx K mg) : Keeps P w K mg base 3 "often_turned" ["web", "one", "other"] spOften := by
  have kcountsofpiece := k_countsofpiece (P := P) (w := w) (base := base) T
  refine T.doftenturned.keeps scoftenturned (fun vs H Q E h => ?_) (fun fa cdv A outer s H vs Q E hr h => ?_)
  · obtain ⟨wv, fv, gv, n, T, f, g, c, rfl, _⟩ := h
    rfl
  obtain ⟨wv, fv, gv, n, W, f, g, c, rfl, hw, hf, hg, lf, lg, hm, hn, hlow, hc, hb, q⟩ := h
  obtain ⟨a, t, tv, rfl, ha, ht, hi⟩ := id hw
  have hu := hu_of hr
  refine ⟨_, (pss_cons (ps_set (i := 3) scoftenturned.nd rfl (.inr rfl) pe_dnewK)
    (pss_cons (ps_for PassesOwn.never rfl (pi_range1 (by rfl) T.zrange (pa_cons (pe_ix ix_tup (pv 0) pe_int (fun _ _ => rfl)) pa_nil)) (pg_name (i := 4) scoftenturned.nd rfl (.inl rfl)) (pss_one (ps_if (pt_cmp (pc_dnotin hu (pv 4) (pv 3))) (pss_cons (ps_set (i := 5) scoftenturned.nd rfl (.inl rfl) (pe_k kcountsofpiece (hr.mono (by decide)) (pa_cons (pv 0) (pa_cons (pv 1) (pa_cons (pv 2) (pa_cons (pv 4) pa_nil))))))
    (pss_cons (ps_set (i := 6) scoftenturned.nd rfl (.inl rfl) (pe_minVals rfl (by rfl) T.zmin (pv 5)))
    (pss_one (ps_lock (ps_for PassesOwn.never rfl (pi_keys (pv 5)) (pg_name (i := 7) scoftenturned.nd rfl (.inl rfl)) (pss_one (ps_dput hu (pv 3) (pv 7) (pe_op op_sub (pe_dget hu (pv 5) (pv 7) (fun _ _ => rfl)) (pv 6)) rfl))))))) pss_nil)))
    (pss_one (ps_ret (pe_lc (own := [("place", 4)]) (g := (gName 4)) (tt := tYes) rfl scoftenturned.nd (pi_range1 (by rfl) T.zrange (pa_cons (pe_ix ix_tup (pv 0) pe_int (fun _ _ => rfl)) pa_nil)) (blkOk_by (N := Noftenturned) (sc := defScope (topS 15)) (by decide +kernel)) (fun _ _ _ _ _ => (pg_name (i := 4) scoftenturned.nd rfl (.inl rfl))) (fun _ _ _ _ _ => pts_nil) (fun _ _ _ _ _ => (pe_dget hu (pv 3) (pv 4) (fun _ _ => rfl)))))))), ?_⟩
  refine fun cd ncd => ?_
  have s0 : Same H (upd H cd (.dK [])) := same_new ncd
  refine ⟨.ref a, rfl, a, _, 0, .int n, rfl, rfl, SqT.of (s0 _ _ ha), rfl, n, rfl, (big62 n (by omega)).1, (big62 n (by omega)).2, ?_⟩
  refine for_it walk_r (fun i σ H' => ∃ y4 y5 y6 y7 kvs A, σ = [some (.ref a), some fv, some gv, some (.ref cd), y4, y5, y6, y7] ∧ Same H H' ∧ H' cd = some (.dK kvs) ∧ DRel RInt kvs A ∧ GoodC c n (arr W f) A ∧ ∀ x, x < i → x ∈ A.map (·.1))
    ⟨none, none, none, none, [], [], rfl, s0, upd_same, .nil, ⟨.nil, (fun x hx => nomatch hx), fun _ => 0, (fun x w hw => by simp [look] at hw), fun k a b _ hor => by simp at hor⟩, fun x hx => absurd hx (Nat.not_lt_zero x)⟩ (fun _ _ _ _ _ => trivial) (fun i x σ H0 H1 hi' pp y => ?_) (fun σ H' pp => ?_)
  · obtain ⟨y4, y5, y6, y7, kvs, A, rfl, sm, hcd, hD, hG, hall⟩ := pp
    obtain ⟨rfl, rfl⟩ := y
    obtain ⟨o, go, so, _, _⟩ := drel_get hcd hD i
    refine ⟨.int (i : Nat), rfl, .ref cd, rfl, cd, o, rfl, go, _, rfl, ?_⟩
    rw [so]
    cases li : look A i with
    | some w0 =>
      refine ite2 (fun e => absurd e (by simp)) (fun _ => ?_)
      refine ⟨_, _, _, _, kvs, A, rfl, sm, hcd, hD, hG, fun x hx => ?_⟩
      by_cases g : x = i
      · rw [g]
        exact look_some.mpr ⟨w0, li⟩
      · exact hall x (by omega)
    | none =>
      refine ite2 (fun _ => ?_) (fun e => absurd rfl e)
      refine ⟨.ref a, rfl, fv, rfl, gv, rfl, .int (i : Nat), rfl, .ref a, fv, gv, i, n, W, f, g, c, rfl, hw.mono (.of sm), hf.mono (.of sm), hg.mono (.of sm), lf, lg, hm, hn, hlow, hi', hc, fun H2 d kp P s2 nd hd hP hPo hPc => ?_⟩
      have sm2 := sm.trans s2
      have hcd2 := s2 _ _ hcd
      have dcd : d ≠ cd := (ne_of_none hcd nd).symm
      have fd : H d = none := Same.free sm nd
      have ePv := drel_vals hP
      refine ⟨.ref d, rfl, d, kp, P.map (·.2), rfl, hd, ePv, ?_, fun m hmm hml => ?_⟩
      · intro z
        have h1 : P.length = 0 := by simpa using congrArg List.length z
        have := List.length_pos_of_mem hPo.has
        rw [List.length_map] at this
        omega
      -- the piece's counts are taken over
      refine ⟨d, .dK kp, hd, trivial, fun od => ?_⟩
      refine ⟨.ref d, rfl, d, od, rfl, .inl ⟨kp, upd_same, ?_⟩⟩
      have lk := paired_len hP
      refine for_it (walk_keys (kvs := kp)) (fun j σ H' => ∃ y7 kvs, σ = [some (.ref a), some fv, some gv, some (.ref cd), some (.int (i : Nat)), some (.ref d), some (.int m), y7] ∧ (∀ b o, b ≠ d → H b = some o → H' b = some o) ∧ H' d = some (.frz od (.dK kp)) ∧ H' cd = some (.dK kvs) ∧
          DRel RInt kvs (putAll A ((P.take j).map fun q => (q.1, q.2 - m))))
        ⟨y7, kvs, rfl, fun b o hbd hbo => by rw [upd_ne hbd]; exact sm2 _ _ hbo, upd_same, by rw [upd_ne dcd.symm]; exact hcd2, hD⟩ (fun j σ H' hj pp => ?_) (fun j x σ H3 H4 hj pp y => ?_) (fun σ H' pp => ?_)
      · obtain ⟨_, _, _, _, h1, _⟩ := pp
        exact h1
      · obtain ⟨y7, kvs, rfl, fr, hd3, hcd3, hD3⟩ := pp
        obtain ⟨rfl, kk, v, ekv, rfl⟩ := y
        obtain ⟨⟨x, z⟩, hxz, r1, r2⟩ := paired_at hP ekv
        have r1 : kk = Sum.inl (x : Int) := r1
        have r2 : v = .int z := r2
        subst r1
        subst r2
        have gx : DGet H4 d (.int (x : Nat)) (some (.int z)) := by
          refine .inl ⟨kp, Sum.inl (x : Int), .inr ⟨od, hd3⟩, rfl, ?_⟩
          have hx : x ∈ P.map (·.1) := List.mem_map.mpr ⟨(x, z), List.mem_of_getElem? hxz, rfl⟩
          obtain ⟨w, hw2⟩ := look_some.mp hx
          obtain ⟨v, e1, e2⟩ := (drel_look (k := x) hP).2 w hw2
          have v1 := hPo.val _ (look_mem hw2)
          have v2 := hPo.val _ (List.mem_of_getElem? hxz)
          have v1 : w = c x - c i := v1
          have v2 : z = c x - c i := v2
          rw [e1, e2, v1, v2]
        have lkeys : (putAll A ((P.take j).map fun q => (q.1, q.2 - m))).length ≤ n := by
          obtain ⟨n1, n2⟩ := keys_putAll (A := A) (P := (P.take j).map fun q => (q.1, q.2 - m)) (n := n) hG.nd hG.lt (fun x hx => by
            rw [List.map_map] at hx
            obtain ⟨q, hq, rfl⟩ := List.mem_map.mp hx
            exact hPo.lt _ (List.mem_map.mpr ⟨q, List.mem_of_mem_take hq, rfl⟩))
          have := under_len n1 n2
          simpa using this
        have lkv := paired_len hD3
        refine ⟨.ref d, rfl, .int (x : Nat), rfl, d, .int z, rfl, gx, .int m, rfl, _, _, rfl, rfl, .ref cd, rfl, .int (x : Nat), rfl, cd, _, rfl, DPut.k (k := Sum.inl (x : Int)) hcd3 (szlt _ (by omega)), ?_⟩
        refine ⟨_, _, rfl, fun b o hbd hbo => ?_, ?_, upd_same, ?_⟩
        · rw [upd_ne (ne_of_none hbo ncd)]
          exact fr b o hbd hbo
        · rw [upd_ne dcd]
          exact hd3
        · rw [take_snoc hxz, List.map_append]
          unfold putAll at hD3 ⊢
          rw [List.foldl_append]
          exact drel_putA (R := RInt) rfl hD3
      · obtain ⟨y7, kvs, rfl, fr, hd3, hcd3, hD3⟩ := pp
        rw [List.take_of_length_le (by omega)] at hD3
        have hG2 := hG.all hPo hPc hb hmm hml
        refine ⟨hd3, ?_⟩
        refine ⟨_, _, _, _, kvs, _, rfl, fun b o hbo => ?_, ?_, hD3, hG2, fun x hx => ?_⟩
        · have hbd := ne_of_none hbo fd
          rw [upd_ne hbd]
          exact fr b o hbd hbo
        · rw [upd_ne dcd.symm]
          exact hcd3
        · have ek : (P.map fun q => (q.1, q.2 - m)).map (·.1) = P.map (·.1) := by
            rw [List.map_map]
            rfl
          rw [look_some, look_putAll (by rw [ek]; exact hPo.nd)]
          by_cases g : x = i
          · have h2 := hPo.has
            rw [← g, ← ek] at h2
            obtain ⟨w, hw2⟩ := look_some.mp h2
            exact ⟨w, by rw [hw2]; rfl⟩
          · obtain ⟨w, hw2⟩ := look_some.mp (hall x (by omega))
            rw [hw2]
            cases look (P.map fun q => (q.1, q.2 - m)) x with
            | none => exact ⟨w, rfl⟩
            | some w' => exact ⟨w', rfl⟩
  · obtain ⟨y4, y5, y6, y7, kvs, A, rfl, sm, hcd, hD, hG, hall⟩ := pp
    refine ⟨.ref a, rfl, a, _, 0, .int n, rfl, rfl, SqT.of (sm _ _ ha), rfl, n, rfl, (big62 n (by omega)).1, (big62 n (by omega)).2, fun D hD0 => ?_⟩
    refine lc_it walk_r (fun i H2 => Same H' H2 ∧ H2 D = some (.lst ((((List.range n).map fun x => (look A x).getD 0).take i).map V.int))) ⟨same_new hD0, upd_same⟩
      (fun _ _ _ _ => trivial) (fun i y H0 H1 hi' pp yy => ?_) (fun H2 pp => ?_)
    · obtain ⟨s2, hDl⟩ := pp
      obtain ⟨rfl, rfl⟩ := yy
      obtain ⟨o, go, so, no, oo⟩ := drel_get (s2 _ _ hcd) hD i
      obtain ⟨w, hw2⟩ := look_some.mp (hall i hi')
      obtain ⟨v, rfl, rfl⟩ := oo w hw2
      refine ⟨rfl, .ref cd, rfl, .int (i : Nat), rfl, cd, .int w, rfl, go, _, hDl, szlt _ (by simp; omega), same_mut s2 hD0, ?_⟩
      have e : ((List.range n).map fun x => (look A x).getD 0)[i]? = some w := by
        rw [List.getElem?_map, List.getElem?_range hi']
        simp [hw2]
      rw [take_snoc e, List.map_append]
      exact upd_same
    · obtain ⟨s2, hDl⟩ := pp
      rw [List.take_of_length_le (by simp)] at hDl
      obtain ⟨off, o1, o2⟩ := hG.val
      refine q _ D ((List.range n).map fun x => (look A x).getD 0) (sm.trans s2) (Same.free sm hD0) hDl (by simp) (fun z hz => ?_) (fun k e d d' he hd hd' => ?_)
      · obtain ⟨x, hx, rfl⟩ := List.mem_map.mp hz
        obtain ⟨w, hw2⟩ := look_some.mp (hall x (List.mem_range.mp hx))
        rw [hw2]
        exact ⟨(o1 x w hw2).2.1, (o1 x w hw2).2.2⟩
      · obtain ⟨l1, l2⟩ := ao_lt hlow he (d := d)
        have hF := arr_at2 he hd
        obtain ⟨w1, hw1⟩ := look_some.mp (hall _ l1)
        obtain ⟨w2, hw2⟩ := look_some.mp (hall _ l2)
        obtain ⟨_, _, eo⟩ := o2 k (ao e d).1 (ao e d).2 hF (.inl (hall _ l1))
        have v1 := (o1 _ _ hw1).1
        have v2 := (o1 _ _ hw2).1
        have cc := hc k e d d' he hd hd'
        have g1 : ((List.range n).map fun x => (look A x).getD 0).getD (ao e d).1 0 = w1 := by
          rw [List.getD_eq_getElem?_getD, List.getElem?_map, List.getElem?_range l1]
          simp [hw1]
        have g2 : ((List.range n).map fun x => (look A x).getD 0).getD (ao e d).2 0 = w2 := by
          rw [List.getD_eq_getElem?_getD, List.getElem?_map, List.getElem?_range l2]
          simp [hw2]
        show ((List.range n).map fun x => (look A x).getD 0).getD (ao e d).2 0 = ((List.range n).map fun x => (look A x).getD 0).getD (ao e d).1 0 - _
        rw [g1, g2, v1, v2, cc, eo]
        omega
end
end K40

set_option Elab.async false
set_option linter.all false
set_option maxRecDepth 100000
set_option maxHeartbeats 4000000
namespace K40
open PySem PySem.Spec PyProof.Rows L2
section
variable {P : Program} {w : World} {K : PySem.W.Frag} {mg : Str → Option Value} {base : Heap}
/-! ### what turning a spring does -/
theorem turn_at0 {T : List (Nat × Nat)} {f : List Bool} {p k : Nat} {e : Nat × Nat} {d : Bool} (h1 : T[k]? = some e) (h2 : (turnAt T f p)[k]? = some d) : ∃ d0, f[k]? = some d0 ∧ d = (d0 != (p == e.1 || p == e.2)) := by
  unfold turnAt at h2
  rw [List.getElem?_zipWith, h1] at h2
  cases h3 : f[k]? with
  | none => simp [h3] at h2
  | some d0 =>
    refine ⟨d0, rfl, ?_⟩
    simp [h3] at h2
    exact h2.symm
theorem spring_out {T : List (Nat × Nat)} {f : List Bool} {p k : Nat} {e : Nat × Nat} {d : Bool} (hs : isSpring (arr T f) p = true) (h1 : T[k]? = some e) (h2 : f[k]? = some d) : (ao e d).2 ≠ p := by
  intro z
  unfold isSpring at hs
  have hm : ao e d ∈ arr T f := List.mem_of_getElem? (arr_at2 h1 h2)
  have : ((arr T f).any fun e => e.2 == p) = true := List.any_eq_true.mpr ⟨_, hm, by simp [z]⟩
  rw [this] at hs
  exact absurd hs (by decide)
theorem getD_set {xs : List Int} {p q : Nat} {z : Int} (hp : p < xs.length) : (xs.set p z).getD q 0 = if q = p then z else xs.getD q 0 := by
  rw [List.getD_eq_getElem?_getD, List.getD_eq_getElem?_getD, List.getElem?_set]
  by_cases h : p = q
  · subst h
    simp [hp]
  · rw [if_neg h, if_neg (fun z => h z.symm)]
theorem ao_swap (e : Nat × Nat) (d : Bool) : ao e (!d) = ((ao e d).2, (ao e d).1) := by
  cases d <;> rfl
theorem ao_ends (e : Nat × Nat) (d : Bool) (p : Nat) : (p == e.1 || p == e.2) = true ↔ p = (ao e d).1 ∨ p = (ao e d).2 := by
  cases d
  · simp [ao]
    exact Or.comm
  · simp [ao]
theorem pot_turn {T : List (Nat × Nat)} {f g : List Bool} {xs : List Int} {p : Nat} (h : Pot T f g (fun q => xs.getD q 0)) (hs : isSpring (arr T f) p = true) (hp : p < xs.length) :
    Pot T (turnAt T f p) g (fun q => (xs.set p (xs.getD p 0 - 1)).getD q 0) := by
  intro k e d d' he hd hd'
  obtain ⟨d0, hd0, ed⟩ := turn_at0 he hd
  have h0 := h k e d0 d' he hd0 hd'
  have h0 : xs.getD (ao e d0).2 0 = xs.getD (ao e d0).1 0 - (if d0 = d' then 0 else 1) := h0
  have n2 := spring_out hs he hd0
  show (xs.set p (xs.getD p 0 - 1)).getD (ao e d).2 0 = (xs.set p (xs.getD p 0 - 1)).getD (ao e d).1 0 - (if d = d' then 0 else 1)
  rw [getD_set hp, getD_set hp]
  by_cases g : (p == e.1 || p == e.2) = true
  · rw [g] at ed
    have ed2 : d = !d0 := by rw [ed]; cases d0 <;> rfl
    have e1 : (ao e d0).1 = p := by
      rcases (ao_ends e d0 p).mp g with z | z
      · exact z.symm
      · exact absurd z.symm n2
    rw [ed2, ao_swap]
    dsimp only
    rw [if_pos e1, if_neg n2, h0, e1]
    cases d0 <;> cases d' <;> simp <;> omega
  · have g' : (p == e.1 || p == e.2) = false := by simpa using g
    rw [g'] at ed
    have ed2 : d = d0 := by rw [ed]; cases d0 <;> rfl
    have g3 : ¬ (p = (ao e d0).1 ∨ p = (ao e d0).2) := fun z => g ((ao_ends e d0 p).mpr z)
    rw [ed2, if_neg (fun z => g3 (.inr z.symm)), if_neg (fun z => g3 (.inl z.symm)), h0]
theorem rank_top (T : List (Nat × Nat)) (r : Nat → Int) : ∃ M : Int, ∀ e ∈ T, r e.1 < M ∧ r e.2 < M := by
  induction T with
  | nil => exact ⟨0, fun e he => nomatch he⟩
  | cons e T ih =>
    obtain ⟨M, hM⟩ := ih
    refine ⟨max M (max (r e.1) (r e.2) + 1), fun x hx => ?_⟩
    rcases List.mem_cons.mp hx with rfl | hx
    · omega
    · have := hM x hx
      omega
theorem acyc_turn {T : List (Nat × Nat)} {f : List Bool} {p : Nat} (h : Acyc (arr T f)) (hs : isSpring (arr T f) p = true) : Acyc (arr T (turnAt T f p)) := by
  obtain ⟨r, hr⟩ := h
  obtain ⟨M, hM⟩ := rank_top T r
  refine ⟨fun q => if q = p then M else r q, fun x hx => ?_⟩
  obtain ⟨k, hk⟩ := List.mem_iff_getElem?.mp hx
  obtain ⟨e, d, he, hd, rfl⟩ := arr_of hk
  obtain ⟨d0, hd0, ed⟩ := turn_at0 he hd
  have h0 := hr _ (List.mem_of_getElem? (arr_at2 he hd0))
  have n2 := spring_out hs he hd0
  obtain ⟨m1, m2⟩ := hM e (List.mem_of_getElem? he)
  have mm : r (ao e d0).1 < M ∧ r (ao e d0).2 < M := by
    cases d0
    · exact ⟨m2, m1⟩
    · exact ⟨m1, m2⟩
  show (if (ao e d).1 = p then M else r (ao e d).1) < (if (ao e d).2 = p then M else r (ao e d).2)
  by_cases g : (p == e.1 || p == e.2) = true
  · rw [g] at ed
    have ed2 : d = !d0 := by rw [ed]; cases d0 <;> rfl
    have e1 : (ao e d0).1 = p := by
      rcases (ao_ends e d0 p).mp g with z | z
      · exact z.symm
      · exact absurd z.symm n2
    rw [ed2, ao_swap]
    dsimp only
    rw [if_neg n2, if_pos e1]
    exact mm.2
  · have g' : (p == e.1 || p == e.2) = false := by simpa using g
    rw [g'] at ed
    have ed2 : d = d0 := by rw [ed]; cases d0 <;> rfl
    have g3 : ¬ (p = (ao e d0).1 ∨ p = (ao e d0).2) := fun z => g ((ao_ends e d0 p).mpr z)
    rw [ed2, if_neg (fun z => g3 (.inl z.symm)), if_neg (fun z => g3 (.inr z.symm))]
    exact h0
theorem least_rank (r : Nat → Int) (S : Nat → Prop) : ∀ n, (∃ p, p < n ∧ S p) → ∃ p, p < n ∧ S p ∧ ∀ q, q < n → S q → r p ≤ r q
  | 0, h => by
    obtain ⟨p, hp, _⟩ := h
    omega
  | n + 1, h => by
    by_cases g : ∃ p, p < n ∧ S p
    · obtain ⟨p, hp, sp, hm⟩ := least_rank r S n g
      by_cases g2 : S n ∧ r n < r p
      · refine ⟨n, by omega, g2.1, fun q hq sq => ?_⟩
        by_cases e : q = n
        · rw [e]
          exact Int.le_refl _
        · have := hm q (by omega) sq
          have := g2.2
          omega
      · refine ⟨p, by omega, sp, fun q hq sq => ?_⟩
        by_cases e : q = n
        · subst e
          by_cases g3 : r q < r p
          · exact absurd ⟨sq, g3⟩ g2
          · omega
        · exact hm q (by omega) sq
    · obtain ⟨p, hp, sp⟩ := h
      have e : p = n := by
        by_cases e : p = n
        · exact e
        · exact absurd ⟨p, by omega, sp⟩ g
      subst e
      refine ⟨p, by omega, sp, fun q hq sq => ?_⟩
      by_cases e : q = p
      · rw [e]
        exact Int.le_refl _
      · exact absurd ⟨q, by omega, sq⟩ g
theorem spring_top {T : List (Nat × Nat)} {f g : List Bool} {xs : List Int} {n : Nat} {m : Int} (hac : Acyc (arr T f)) (h : Pot T f g (fun q => xs.getD q 0)) (hl : T.length = g.length) (hlow : ∀ e ∈ T, e.1 < e.2 ∧ e.2 < n) (hn : xs.length = n)
    (hm : m ∈ xs) (hmax : ∀ y ∈ xs, y ≤ m) : ∃ p, p < n ∧ xs.getD p 0 = m ∧ isSpring (arr T f) p = true := by
  obtain ⟨r, hr⟩ := hac
  have ex : ∃ p, p < n ∧ xs.getD p 0 = m := by
    obtain ⟨j, hj⟩ := List.mem_iff_getElem?.mp hm
    have := (List.getElem?_eq_some_iff.mp hj).1
    refine ⟨j, by omega, ?_⟩
    rw [List.getD_eq_getElem?_getD, hj]
    rfl
  obtain ⟨p, hp, sp, hmin⟩ := least_rank r (fun q => xs.getD q 0 = m) n ex
  refine ⟨p, hp, sp, ?_⟩
  unfold isSpring
  rw [Bool.not_eq_true']
  cases z : ((arr T f).any fun e => e.2 == p) with
  | false => rfl
  | true =>
    exfalso
    obtain ⟨x, hx, hx2⟩ := List.any_eq_true.mp z
    have hx2 : x.2 = p := by simpa using hx2
    obtain ⟨k, hk⟩ := List.mem_iff_getElem?.mp hx
    obtain ⟨e, d, he, hd, rfl⟩ := arr_of hk
    have hkl := (List.getElem?_eq_some_iff.mp he).1
    have hd' : g[k]? = some g[k] := List.getElem?_eq_getElem (by omega)
    have h0 := h k e d _ he hd hd'
    have h0 : xs.getD (ao e d).2 0 = xs.getD (ao e d).1 0 - (if d = g[k] then 0 else 1) := h0
    rw [hx2, sp] at h0
    obtain ⟨l1, l2⟩ := ao_lt hlow he (d := d)
    have hr1 := hr _ hx
    have hin : xs.getD (ao e d).1 0 ∈ xs := by
      rw [List.getD_eq_getElem?_getD, List.getElem?_eq_getElem (by omega)]
      exact List.getElem_mem _
    have h1 := hmax _ hin
    have h2 : xs.getD (ao e d).1 0 = m := by
      split at h0 <;> omega
    have := hmin _ l1 h2
    rw [hx2] at hr1
    omega
/-- all counts together -/
def sumN : List Int → Nat
  | [] => 0
  | x :: r => x.toNat + sumN r
theorem sumN_set : ∀ {xs : List Int} {p : Nat} {z : Int}, xs[p]? = some z → 0 < z → sumN (xs.set p (z - 1)) + 1 = sumN xs
  | [], p, z, h, _ => by simp at h
  | x :: r, 0, z, h, hz => by
    simp at h
    subst h
    show (x - 1).toNat + sumN r + 1 = x.toNat + sumN r
    omega
  | x :: r, p + 1, z, h, hz => by
    have ih := sumN_set (xs := r) (p := p) (z := z) (by simpa using h) hz
    show x.toNat + sumN (r.set p (z - 1)) + 1 = x.toNat + sumN r
    omega
theorem sumN_le {b : Nat} : ∀ {xs : List Int}, (∀ x ∈ xs, 0 ≤ x ∧ x ≤ (b : Int)) → sumN xs ≤ b * xs.length
  | [], _ => by simp [sumN]
  | x :: r, h => by
    have ih := sumN_le (b := b) (xs := r) fun y hy => h y (List.mem_cons_of_mem _ hy)
    have hx := h x (List.mem_cons_self ..)
    show x.toNat + sumN r ≤ b * (r.length + 1)
    rw [Nat.mul_add, Nat.mul_one]
    omega
theorem turn_len {T : List (Nat × Nat)} {f : List Bool} (p : Nat) (h : T.length = f.length) : T.length = (turnAt T f p).length := by
  unfold turnAt
  rw [List.length_zipWith]
  omega
/-! ### row_by_counts, kin -/
abbrev Nrowbycounts : List Str := ["web", "fall", "counts", "left", "row", "most", "place", "spring"]
theorem scrowbycounts : FnScope Nrowbycounts ["web", "fall", "counts"] (defScope (topS 17)) := ⟨rfl, rfl, rfl, by decide +kernel, rfl, by decide +kernel, by decide +kernel⟩
-- 0 web 1 fall 2 counts 3 left 4 row 5 most 6 place 7 spring
def spRow : Sp := fun vs H Q _ => ∃ (wv fv : V) (lc : Addr) (n : Nat) (T : List (Nat × Nat)) (f g : List Bool) (xs : List Int), vs = [wv, fv, .ref lc] ∧ IsWeb H wv n T ∧ Tup H fv (bzs f) ∧ T.length = f.length ∧ T.length = g.length ∧ T.length ≤ 500 ∧ 1 ≤ n ∧ n ≤ 50 ∧ (∀ e ∈ T, e.1 < e.2 ∧ e.2 < n) ∧
  H lc = some (.lst (xs.map V.int)) ∧ xs.length = n ∧ (∀ x ∈ xs, 0 ≤ x ∧ x ≤ 1000) ∧ Pot T f g (fun p => xs.getD p 0) ∧ Acyc (arr T f) ∧ ∀ H' v, Same H H' → Q v H'
theorem k_rowbycounts (T : Tx K mg) : Keeps P w K mg base 3 "row_by_counts" ["web", "fall", "counts"] spRow := by
  have ksprings := k_springs (P := P) (w := w) (base := base) T
  have kturnedabout := k_turnedabout (P := P) (w := w) (base := base) T
  refine T.drowbycounts.keeps scrowbycounts (fun vs H Q E h => ?_) (fun fa cdv A outer s H vs Q E hr h => ?_)
  · obtain ⟨wv, fv, lc, n, T, f, g, xs, rfl, _⟩ := h
    rfl
  obtain ⟨wv, fv, lc, n, W, f, g, xs, rfl, hw, hf, lf, lg, hm, hn1, hn, hlow, hlc, lx, hx, hpot, hac, q⟩ := h
  refine ⟨_, (pss_cons (ps_set (i := 3) scrowbycounts.nd rfl (.inr rfl) (pe_callTy call_list_of (by rfl) T.zlist (by decide +kernel) (pa_cons (pv 2) pa_nil)))
    (pss_cons (ps_set (i := 4) scrowbycounts.nd rfl (.inl rfl) (pe_lst pa_nil))
    (pss_cons (ps_while PassesOwn.never (pt_cmpR op_gt (pe_callB (cr_max rfl) (by rfl) T.zmax (by decide +kernel) (pa_cons (pv 3) pa_nil)) pe_int (nomark _)) (pss_cons (ps_set (i := 5) scrowbycounts.nd rfl (.inr rfl) (pe_callB (cr_max rfl) (by rfl) T.zmax (by decide +kernel) (pa_cons (pv 3) pa_nil)))
    (pss_cons (ps_set (i := 6) scrowbycounts.nd rfl (.inl rfl) (pe_ix ix_list (pe_lc (own := [("spring", 7)]) (g := (gName 7)) rfl scrowbycounts.nd (pi_tup (pe_k ksprings (hr.mono (by decide)) (pa_cons (pv 0) (pa_cons (pv 1) pa_nil)))) (blkOk_by (N := Nrowbycounts) (sc := defScope (topS 17)) (by decide +kernel)) (fun _ _ _ _ _ => (pg_name (i := 7) scrowbycounts.nd rfl (.inl rfl))) (fun _ _ _ _ _ => pts_one (pt_cmpR op_eq (pe_ix (r := rIxL K) ix_list (pv 3) (pv 7) (fun _ _ => rfl)) (pv 5) (nomark _))) (fun _ _ _ _ _ => (pv 7))) pe_int (fun _ _ => rfl)))
    (pss_cons (ps_expr (pe_bm PySem.F.plainAttrs_list PySem.F.slot_list_append PySem.F.type_list_append mt_append (pv 4) (pa_cons (pv 6) pa_nil)))
    (pss_cons (ps_asg (pe_op op_sub (pe_ix ix_list (pv 3) (pv 6) (fun _ _ => rfl)) pe_int) (pg_sub (pv 3) (pv 6) set_list))
    (pss_one (ps_set (i := 1) scrowbycounts.nd rfl (.inl rfl) (pe_k kturnedabout (hr.mono (by decide)) (pa_cons (pv 0) (pa_cons (pv 1) (pa_cons (pv 6) pa_nil)))))))))))
    (pss_one (ps_ret (pv 4)))))), ?_⟩
  refine ⟨.ref lc, rfl, lc, _, rfl, .inl (SqL.of hlc), fun ll nll => ⟨Nat.zero_le _, fun rr nrr => ?_⟩⟩
  have s0 : Same H (upd (upd H ll (.lst (xs.map V.int))) rr (.lst [])) := same_step (same_new nll) nrr
  have frr : H rr = none := Same.free (same_new nll) nrr
  have llrr : ll ≠ rr := ne_of_none upd_same nrr
  have hS := sumN_le (b := 1000) (xs := xs) hx
  refine ⟨fun m σ H' => ∃ (fv' : V) (f' : List Bool) (xs' : List Int) (rs : List V) (y5 y6 y7 : Option V), σ = [some wv, some fv', some (.ref lc), some (.ref ll), some (.ref rr), y5, y6, y7] ∧ Same H H' ∧ Tup H' fv' (bzs f') ∧ W.length = f'.length ∧ Pot W f' g (fun p => xs'.getD p 0) ∧ Acyc (arr W f') ∧
      xs'.length = n ∧ (∀ x ∈ xs', 0 ≤ x) ∧ H' ll = some (.lst (xs'.map V.int)) ∧ H' rr = some (.lst rs) ∧ sumN xs' = m ∧ rs.length + m ≤ 50000,
    ⟨sumN xs, fv, f, xs, [], none, none, none, rfl, s0, hf.mono (.of s0), lf, hpot, hac, lx, (fun x h => (hx x h).1), at_new upd_same nrr, upd_same, rfl, ?_⟩, fun m σ H' hW => ?_⟩
  · rw [lx] at hS
    have : 1000 * n ≤ 1000 * 50 := Nat.mul_le_mul_left _ hn
    simp
    omega
  obtain ⟨fv', f', xs', rs, y5, y6, y7, rfl, sm, hf', lf', hpot', hac', lx', hx', hll, hrr, hsum, hrs⟩ := hW
  refine ⟨.ref ll, rfl, ll, xs', rfl, SqL.of hll, by omega, fun mx hmx hmax => ?_⟩
  refine ⟨_, _, rfl, rfl, _, rfl, ?_⟩
  refine ite2 (fun e => ?_) (fun e => ?_)
  · have hpos : 0 < mx := of_decide_eq_true e
    refine ⟨fun σ' H2 => ∃ m', m' < m ∧ ∃ (fv' : V) (f' : List Bool) (xs' : List Int) (rs : List V) (y5 y6 y7 : Option V), σ' = [some wv, some fv', some (.ref lc), some (.ref ll), some (.ref rr), y5, y6, y7] ∧ Same H H2 ∧ Tup H2 fv' (bzs f') ∧ W.length = f'.length ∧ Pot W f' g (fun p => xs'.getD p 0) ∧ Acyc (arr W f') ∧
      xs'.length = n ∧ (∀ x ∈ xs', 0 ≤ x) ∧ H2 ll = some (.lst (xs'.map V.int)) ∧ H2 rr = some (.lst rs) ∧ sumN xs' = m' ∧ rs.length + m' ≤ 50000, fun σ' H2 hN => hN, ?_⟩
    refine ⟨.ref ll, rfl, ll, xs', rfl, SqL.of hll, by omega, fun mx2 hmx2 hmax2 => ?_⟩
    have em : mx2 = mx := Int.le_antisymm (hmax _ hmx2) (hmax2 _ hmx)
    subst em
    refine ⟨wv, rfl, fv', rfl, wv, fv', n, W, f', rfl, hw.mono (.of sm), hf', lf', by omega, by omega, fun H1 sv s1 hsv => ?_⟩
    obtain ⟨sa, rfl, hsa⟩ := hsv
    obtain ⟨p0, hp0, ep0, sp0⟩ := spring_top hac' hpot' lg hlow lx' hmx hmax
    refine ⟨sa, rfl, ⟨_, SqT.of hsa⟩, fun D hD => ?_⟩
    generalize hL : (List.range n).filter (isSpring (arr W f')) = L at *
    have sm1 := sm.trans s1
    have hll1 := s1 _ _ hll
    refine lc_it (walk_tup (xs := (nz L).map V.int)) (fun j H' => Same H1 H' ∧ H' D = some (.lst ((nz ((L.take j).filter fun p => decide (xs'.getD p 0 = mx2))).map V.int))) ⟨same_new hD, upd_same⟩
      (fun j H' hj pp => SqT.of (pp.1 _ _ hsa)) (fun j y H3 H4 hj pp yy => ?_) (fun H2 pp => ?_)
    · obtain ⟨sm3, hD3⟩ := pp
      obtain ⟨rfl, ey⟩ := yy
      obtain ⟨z, hz, rfl⟩ := Option.map_eq_some_iff.mp (show ((nz L)[j]?).map V.int = some y by rw [← List.getElem?_map]; exact ey)
      obtain ⟨p, hp, rfl⟩ := Option.map_eq_some_iff.mp (show (L[j]?).map (fun (k : Nat) => (k : Int)) = some z by rw [← List.getElem?_map]; exact hz)
      have hpn : p < n := by
        have := List.mem_of_getElem? hp
        rw [← hL] at this
        exact List.mem_range.mp (List.mem_filter.mp this).1
      have hxp : xs'[p]? = some (xs'.getD p 0) := by
        rw [List.getD_eq_getElem?_getD, List.getElem?_eq_getElem (by omega)]
        rfl
      refine ⟨rfl, .ref ll, rfl, .int (p : Nat), rfl, ll, _, (p : Nat), _, rfl, rfl, SqL.of (sm3 _ _ hll1), at_int hxp, .int mx2, rfl, rfl, _, rfl, ?_⟩
      rw [filter_take (g := fun p => decide (xs'.getD p 0 = mx2)) hp]
      have ed : decide (V.int (xs'.getD p 0) = V.int mx2) = decide (xs'.getD p 0 = mx2) := by
        by_cases g : xs'.getD p 0 = mx2
        · rw [decide_eq_true g, decide_eq_true (by rw [g])]
        · rw [decide_eq_false g]
          exact decide_eq_false fun z => g (by injection z)
      rw [ed]
      have hb : ((L.take j).filter fun p => decide (xs'.getD p 0 = mx2)).length ≤ 1000 := by
        refine Nat.le_trans (List.length_filter_le _ _) ?_
        rw [List.length_take]
        have : L.length ≤ n := by
          rw [← hL]
          have := List.length_filter_le (isSpring (arr W f')) (List.range n)
          simpa using this
        omega
      refine ite2 (fun e => ?_) (fun e => ?_)
      · refine ⟨.int (p : Nat), rfl, _, hD3, szlt _ (by simp only [nz, List.length_map]; omega), same_mut sm3 hD, ?_⟩
        rw [if_pos e, nz_snoc]
        exact upd_same
      · refine ⟨sm3, ?_⟩
        rw [if_neg e]
        exact hD3
    · obtain ⟨sm3, hD3⟩ := pp
      rw [List.take_of_length_le (by simp [nz])] at hD3
      cases hLL : L.filter fun p => decide (xs'.getD p 0 = mx2) with
      | nil =>
        exfalso
        have : p0 ∈ L.filter fun p => decide (xs'.getD p 0 = mx2) := by
          refine List.mem_filter.mpr ⟨?_, by simpa using ep0⟩
          rw [← hL]
          exact List.mem_filter.mpr ⟨List.mem_range.mpr hp0, sp0⟩
        rw [hLL] at this
        exact nomatch this
      | cons p r =>
        have hpm : p ∈ L.filter fun p => decide (xs'.getD p 0 = mx2) := by
          rw [hLL]
          exact List.mem_cons_self ..
        obtain ⟨hpL, hpe⟩ := List.mem_filter.mp hpm
        have hpe : xs'.getD p 0 = mx2 := of_decide_eq_true hpe
        rw [← hL] at hpL
        obtain ⟨hpn, hps⟩ := List.mem_filter.mp hpL
        have hpn := List.mem_range.mp hpn
        have hxp : xs'[p]? = some mx2 := by
          rw [← hpe, List.getD_eq_getElem?_getD, List.getElem?_eq_getElem (by omega)]
          rfl
        rw [hLL] at hD3
        refine ⟨D, _, 0, .int (p : Nat), rfl, rfl, SqL.of hD3, at_intz (j := 0) rfl rfl, ?_⟩
        have s3 := s1.trans sm3
        have hrr3 := s3 _ _ hrr
        have hll3 := s3 _ _ hll
        refine ⟨.ref rr, rfl, .inl ⟨rfl, _, SqL.of hrr3⟩, .int (p : Nat), rfl, rr, rs, .int (p : Nat), rfl, rfl, hrr3, szlt _ (by omega), ?_⟩
        have hll4 : upd H2 rr (.lst (rs ++ [.int (p : Nat)])) ll = some (.lst (xs'.map V.int)) := by
          rw [upd_ne llrr]
          exact hll3
        refine ⟨.ref ll, rfl, .int (p : Nat), rfl, ll, _, (p : Nat), _, rfl, rfl, SqL.of hll4, at_int hxp, _, _, rfl, rfl, .ref ll, rfl, .int (p : Nat), rfl, ll, _, (p : Nat), p, rfl, rfl, hll4, ixN_nat (by rw [List.length_map, lx']; exact hpn), ?_⟩
        have sm5 : Same H (upd (upd H2 rr (.lst (rs ++ [.int (p : Nat)]))) ll (.lst (((xs'.map V.int)).set p (.int (mx2 - 1))))) := same_mut (same_mut (sm.trans s3) frr) nll
        have ts5 : TupSame H2 (upd (upd H2 rr (.lst (rs ++ [.int (p : Nat)]))) ll (.lst (((xs'.map V.int)).set p (.int (mx2 - 1))))) := .trans (.lst hrr3) (.lst hll4)
        have hll5 : (upd (upd H2 rr (.lst (rs ++ [.int (p : Nat)]))) ll (.lst (((xs'.map V.int)).set p (.int (mx2 - 1))))) ll = some (.lst ((xs'.set p (mx2 - 1)).map V.int)) := by
          rw [set_int]
          exact upd_same
        have hrr5 : (upd (upd H2 rr (.lst (rs ++ [.int (p : Nat)]))) ll (.lst (((xs'.map V.int)).set p (.int (mx2 - 1))))) rr = some (.lst (rs ++ [.int (p : Nat)])) := by
          rw [upd_ne llrr.symm]
          exact upd_same
        generalize (upd (upd H2 rr (.lst (rs ++ [.int (p : Nat)]))) ll (.lst (((xs'.map V.int)).set p (.int (mx2 - 1))))) = H5 at *
        have hf5 : Tup H5 fv' (bzs f') := (hf'.mono (.of s3)).mono ts5
        refine ⟨wv, rfl, fv', rfl, .int (p : Nat), rfl, wv, fv', p, n, W, f', rfl, hw.mono (.of sm5), hf5, lf', by omega, fun H6 v6 s6 hv6 => ?_⟩
        have hp2 := pot_turn hpot' hps (by omega)
        rw [hpe] at hp2
        have hsm := sumN_set hxp hpos
        refine ⟨sumN (xs'.set p (mx2 - 1)), by omega, v6, turnAt W f' p, xs'.set p (mx2 - 1), rs ++ [.int (p : Nat)], _, _, _, rfl, sm5.trans s6, hv6, turn_len p lf', hp2, acyc_turn hac' hps, by rw [List.length_set]; exact lx', fun x hx => ?_, s6 _ _ hll5, s6 _ _ hrr5, rfl, ?_⟩
        · rcases List.mem_or_eq_of_mem_set hx with h | h
          · exact hx' x h
          · omega
        · rw [List.length_append, List.length_singleton]
          omega
  · exact ⟨.ref rr, rfl, q _ _ sm⟩
abbrev Nkin : List Str := ["web", "one", "other", "ring"]
theorem sckin : FnScope Nkin ["web", "one", "other"] (defScope (topS 19)) := ⟨rfl, rfl, rfl, by decide +kernel, rfl, by decide +kernel, by decide +kernel⟩
-- 0 web 1 one 2 other 3 ring
def spKin : Sp := fun vs H Q _ => ∃ (wv fv gv : V) (n : Nat) (T : List (Nat × Nat)) (f g : List Bool) (c : Nat → Int), vs = [wv, fv, gv] ∧ IsWeb H wv n T ∧ Tup H fv (bzs f) ∧ Tup H gv (bzs g) ∧ T.length = f.length ∧ T.length = g.length ∧ T.length ≤ 500 ∧ 1 ≤ n ∧ n ≤ 50 ∧ (∀ e ∈ T, e.1 < e.2 ∧ e.2 < n) ∧
  Pot T f g c ∧ (∀ x, x < n → 0 ≤ c x ∧ c x ≤ 1000) ∧ Acyc (arr T f) ∧ ∀ H' a x y, Same H H' → H' a = some (.tup [x, y]) → Q (.ref a) H'
theorem k_kin (T : Tx K mg) : Keeps P w K mg base 4 "kin" ["web", "one", "other"] spKin := by
  have kpartingring := k_partingring (P := P) (w := w) (base := base) T
  have koftenturned := k_oftenturned (P := P) (w := w) (base := base) T
  have krowbycounts := k_rowbycounts (P := P) (w := w) (base := base) T
  refine T.dkin.keeps sckin (fun vs H Q E h => ?_) (fun fa cdv A outer s H vs Q E hr h => ?_)
  · obtain ⟨wv, fv, gv, n, T, f, g, c, rfl, _⟩ := h
    rfl
  obtain ⟨wv, fv, gv, n, W, f, g, c, rfl, hw, hf, hg, lf, lg, hm, hn1, hn, hlow, hc, hb, hac, q⟩ := h
  refine ⟨_, (pss_cons (ps_set (i := 3) sckin.nd rfl (.inl rfl) (pe_k kpartingring (hr.mono (by decide)) (pa_cons (pv 0) (pa_cons (pv 1) (pa_cons (pv 2) pa_nil)))))
    (pss_cons (ps_if (pt_cmpR op_notN (pv 3) pe_non (nomark _)) (pss_one (ps_ret (pe_tup (pa_cons pe_str (pa_cons (pv 3) pa_nil))))) pss_nil)
    (pss_one (ps_ret (pe_tup (pa_cons pe_str (pa_cons (pe_k krowbycounts (hr.mono (by decide)) (pa_cons (pv 0) (pa_cons (pv 1) (pa_cons (pe_k koftenturned (hr.mono (by decide)) (pa_cons (pv 0) (pa_cons (pv 1) (pa_cons (pv 2) pa_nil)))) pa_nil)))) pa_nil))))))), ?_⟩
  refine ⟨wv, rfl, fv, rfl, gv, rfl, wv, fv, gv, n, W, f, g, rfl, hw, hf, hg, lf, lg, hm, by omega, hlow, fun H1 s1 => ?_, fun H1 v s1 hv => ?_⟩
  · refine ⟨_, rfl, rfl, _, rfl, ?_⟩
    refine ite2 (fun e => absurd e (by simp)) (fun _ => ?_)
    refine ⟨wv, rfl, fv, rfl, wv, rfl, fv, rfl, gv, rfl, wv, fv, gv, n, W, f, g, c, rfl, hw.mono (.of s1), hf.mono (.of s1), hg.mono (.of s1), lf, lg, hm, by omega, hlow, hc, hb, fun H2 l xs s2 nl hl lx hx hp => ?_⟩
    have s12 := s1.trans s2
    refine ⟨wv, fv, l, n, W, f, g, xs, rfl, hw.mono (.of s12), hf.mono (.of s12), lf, lg, hm, hn1, hn, hlow, hl, lx, hx, hp, hac, fun H3 v s3 => ?_⟩
    exact ⟨le2, fun d hd => q _ d _ _ (same_step (s12.trans s3) hd) upd_same⟩
  · obtain ⟨R, a, rfl, ha⟩ := hv
    refine ⟨_, rfl, rfl, _, rfl, ?_⟩
    refine ite2 (fun _ => ?_) (fun e => absurd (by simp) e)
    exact ⟨_, rfl, le2, fun d hd => q _ d _ _ (same_step s1 hd) upd_same⟩
end
end K40

set_option Elab.async false
set_option linter.all false
set_option maxHeartbeats 4000000
/-! Rings and the passes of raised, in plain Lean. -/
namespace K40
/-! ### sums along a ring -/
def isum : List Int → Int
  | [] => 0
  | x :: r => x + isum r
theorem isum_perm {l m : List Int} (h : l.Perm m) : isum l = isum m := by
  induction h with
  | nil => rfl
  | cons x _ ih => simp [isum, ih]
  | swap x y l => simp [isum]; omega
  | trans _ _ h1 h2 => exact h1.trans h2
def gap (x : Nat → Int) (e : Nat × Nat) : Int := x e.2 - x e.1
theorem isum_gap (x : Nat → Int) : ∀ (l m : List Nat), l.length = m.length → isum ((l.zip m).map (gap x)) = isum (m.map x) - isum (l.map x)
  | [], [], _ => rfl
  | [], _ :: _, h => by simp at h
  | _ :: _, [], h => by simp at h
  | a :: l, b :: m, h => by
    have ih := isum_gap x l m (by simpa using h)
    show gap x (a, b) + isum ((l.zip m).map (gap x)) = (x b + isum (m.map x)) - (x a + isum (l.map x))
    rw [ih]
    unfold gap
    dsimp only
    omega
theorem rot_perm (R : List Nat) : (rot R).Perm R := by
  have h : (R.drop 1 ++ R.take 1).Perm (R.take 1 ++ R.drop 1) := List.perm_append_comm
  rw [List.take_append_drop] at h
  exact h
theorem cyc_sum (x : Nat → Int) (R : List Nat) : isum ((cyc R).map (gap x)) = 0 := by
  unfold cyc
  rw [isum_gap x R (rot R) (rot_perm R).length_eq.symm, isum_perm ((rot_perm R).map x)]
  omega
theorem cyc_size (R : List Nat) : (cyc R).length = R.length := by
  unfold cyc
  rw [List.length_zip, (rot_perm R).length_eq]
  omega
def cntA (A S : List (Nat × Nat)) : Nat := (S.filter fun e => decide (e ∈ A)).length
theorem cntA_cons (A S : List (Nat × Nat)) (e : Nat × Nat) : cntA A (e :: S) = if e ∈ A then cntA A S + 1 else cntA A S := by
  unfold cntA
  rw [List.filter_cons]
  by_cases h : e ∈ A
  · rw [if_pos h, decide_eq_true h, if_pos rfl, List.length_cons]
  · rw [if_neg h, decide_eq_false h, if_neg Bool.false_ne_true]
theorem keep_sum {A : List (Nat × Nat)} {x : Nat → Int} {t b : Int} (h : Keep A x t b) : ∀ S : List (Nat × Nat), (∀ e ∈ S, e ∈ A ∨ (e.2, e.1) ∈ A) →
    (S.length : Int) * b - ((S.length : Int) - (cntA A S : Int)) * t ≤ isum (S.map (gap x)) ∧ isum (S.map (gap x)) ≤ (cntA A S : Int) * t - (S.length : Int) * b
  | [], _ => by simp [isum, cntA]
  | e :: S, hS => by
    obtain ⟨i1, i2⟩ := keep_sum h S fun y hy => hS y (List.mem_cons_of_mem _ hy)
    have he := hS e (List.mem_cons_self ..)
    have hs : isum ((e :: S).map (gap x)) = gap x e + isum (S.map (gap x)) := rfl
    rw [hs, cntA_cons, List.length_cons]
    have e1 : ((S.length + 1 : Nat) : Int) * b = (S.length : Int) * b + b := by
      rw [Int.natCast_add, Int.add_mul]
      simp
    rw [e1]
    by_cases g : e ∈ A
    · rw [if_pos g]
      have hk := h e g
      have e2 : (((S.length + 1 : Nat) : Int) - ((cntA A S + 1 : Nat) : Int)) = (S.length : Int) - (cntA A S : Int) := by omega
      have e3 : ((cntA A S + 1 : Nat) : Int) * t = (cntA A S : Int) * t + t := by
        rw [Int.natCast_add, Int.add_mul]
        simp
      rw [e2, e3]
      have eg : gap x e = x e.2 - x e.1 := rfl
      omega
    · rw [if_neg g]
      have hr := h _ (he.resolve_left g)
      dsimp only at hr
      have e2 : (((S.length + 1 : Nat) : Int) - (cntA A S : Int)) * t = ((S.length : Int) - (cntA A S : Int)) * t + t := by
        have : (((S.length + 1 : Nat) : Int) - (cntA A S : Int)) = ((S.length : Int) - (cntA A S : Int)) + 1 := by omega
        rw [this, Int.add_mul]
        simp
      rw [e2]
      have eg : gap x e = x e.2 - x e.1 := rfl
      omega
/-- what a step weighs -/
def wt (A : List (Nat × Nat)) (t b : Int) (e : Nat × Nat) : Int := if e ∈ A then b else b - t
theorem wt_sum (A : List (Nat × Nat)) (t b : Int) : ∀ S : List (Nat × Nat), isum (S.map (wt A t b)) = (S.length : Int) * b - ((S.length : Int) - (cntA A S : Int)) * t
  | [] => by simp [isum, cntA]
  | e :: S => by
    have ih := wt_sum A t b S
    have hs : isum ((e :: S).map (wt A t b)) = wt A t b e + isum (S.map (wt A t b)) := rfl
    rw [hs, cntA_cons, List.length_cons, ih]
    have e1 : ((S.length + 1 : Nat) : Int) * b = (S.length : Int) * b + b := by
      rw [Int.natCast_add, Int.add_mul]
      simp
    rw [e1]
    unfold wt
    by_cases g : e ∈ A
    · rw [if_pos g, if_pos g]
      have e2 : (((S.length + 1 : Nat) : Int) - ((cntA A S + 1 : Nat) : Int)) = (S.length : Int) - (cntA A S : Int) := by omega
      rw [e2]
      omega
    · rw [if_neg g, if_neg g]
      have e2 : (((S.length + 1 : Nat) : Int) - (cntA A S : Int)) * t = ((S.length : Int) - (cntA A S : Int)) * t + t := by
        have : (((S.length + 1 : Nat) : Int) - (cntA A S : Int)) = ((S.length : Int) - (cntA A S : Int)) + 1 := by omega
        rw [this, Int.add_mul]
        simp
      rw [e2]
      omega
theorem gap_lt {α : Type} {g w : α → Int} : ∀ {S : List α}, (∀ e ∈ S, g e ≤ w e) → isum (S.map g) ≤ isum (S.map w) ∧ ((∃ e ∈ S, g e < w e) → isum (S.map g) < isum (S.map w))
  | [], _ => ⟨Int.le_refl _, fun ⟨e, he, _⟩ => nomatch he⟩
  | e :: S, h => by
    obtain ⟨i1, i2⟩ := gap_lt (S := S) fun y hy => h y (List.mem_cons_of_mem _ hy)
    have he := h e (List.mem_cons_self ..)
    have s1 : isum ((e :: S).map g) = g e + isum (S.map g) := rfl
    have s2 : isum ((e :: S).map w) = w e + isum (S.map w) := rfl
    rw [s1, s2]
    refine ⟨by omega, fun ⟨y, hy, hlt⟩ => ?_⟩
    rcases List.mem_cons.mp hy with z | hy
    · rw [z] at hlt
      omega
    · have := i2 ⟨y, hy, hlt⟩
      omega
/-! ### the arrows of a web -/
theorem web_nodup {n : Nat} {T : List (Nat × Nat)} (h : WebOk n T) : T.Nodup := by
  rw [List.nodup_iff_pairwise_ne]
  refine h.sorted.imp fun {p q} r z => ?_
  subst z
  omega
theorem arr_mem {T : List (Nat × Nat)} {f : List Bool} {i : Nat} {p : Nat × Nat} (h : (arr T f)[i]? = some p) : ∃ e, T[i]? = some e ∧ (p = e ∨ p = (e.2, e.1)) := by
  unfold arr at h
  rw [List.getElem?_zipWith] at h
  cases h1 : T[i]? with
  | none => simp [h1] at h
  | some e =>
    cases h2 : f[i]? with
    | none => simp [h1, h2] at h
    | some d =>
      refine ⟨e, rfl, ?_⟩
      simp [h1, h2] at h
      cases d with
      | true => exact .inl (by simpa using h.symm)
      | false => exact .inr (by simpa using h.symm)
theorem arr_nodup {n : Nat} {T : List (Nat × Nat)} {f : List Bool} (h : WebOk n T) : (arr T f).Nodup := by
  rw [List.nodup_iff_pairwise_ne, List.pairwise_iff_getElem]
  intro i j hi hj hij e
  obtain ⟨e1, h1, r1⟩ := arr_mem (List.getElem?_eq_getElem hi)
  obtain ⟨e2, h2, r2⟩ := arr_mem (List.getElem?_eq_getElem hj)
  have l1 := h.low e1 (List.mem_of_getElem? h1)
  have l2 := h.low e2 (List.mem_of_getElem? h2)
  have nd := web_nodup h
  rw [List.nodup_iff_pairwise_ne, List.pairwise_iff_getElem] at nd
  obtain ⟨k1, v1⟩ := List.getElem?_eq_some_iff.mp h1
  obtain ⟨k2, v2⟩ := List.getElem?_eq_some_iff.mp h2
  have ne := nd i j k1 k2 hij
  rw [v1, v2] at ne
  rw [e] at r1
  apply ne
  rcases r1 with r1 | r1 <;> rcases r2 with r2 | r2 <;> rw [r1] at r2
  · exact r2
  · have a1 : e1.1 = e2.2 := congrArg Prod.fst r2
    have a2 : e1.2 = e2.1 := congrArg Prod.snd r2
    omega
  · have a1 : e1.2 = e2.1 := congrArg Prod.fst r2
    have a2 : e1.1 = e2.2 := congrArg Prod.snd r2
    omega
  · have a1 : e1.2 = e2.2 := congrArg Prod.fst r2
    have a2 : e1.1 = e2.1 := congrArg Prod.snd r2
    exact Prod.ext a2 a1
theorem cnt_comm {A S : List (Nat × Nat)} (hA : A.Nodup) (hS : S.Nodup) : (A.filter fun e => decide (e ∈ S)).length = cntA A S := by
  unfold cntA
  refine Nat.le_antisymm ?_ ?_
  · refine nodup_len (hA.filter _) fun x hx => ?_
    obtain ⟨h1, h2⟩ := List.mem_filter.mp hx
    exact List.mem_filter.mpr ⟨of_decide_eq_true h2, decide_eq_true h1⟩
  · refine nodup_len (hS.filter _) fun x hx => ?_
    obtain ⟨h1, h2⟩ := List.mem_filter.mp hx
    exact List.mem_filter.mpr ⟨of_decide_eq_true h2, decide_eq_true h1⟩
theorem cyc_nodup {R : List Nat} (h : R.Nodup) : (cyc R).Nodup := by
  have e : (cyc R).map (·.1) = R := by
    unfold cyc
    exact List.map_fst_zip (by rw [(rot_perm R).length_eq]; exact Nat.le_refl _)
  rw [← e, List.nodup_iff_pairwise_ne, List.pairwise_map] at h
  rw [List.nodup_iff_pairwise_ne]
  exact h.imp fun {a b} q z => q (by rw [z])
/-- a ring of a web -/
structure Ring (T : List (Nat × Nat)) (R : List Nat) : Prop where
  two : 2 ≤ R.length
  nd : R.Nodup
  tied : ∀ e ∈ cyc R, e ∈ T ∨ (e.2, e.1) ∈ T
theorem arr_has {T : List (Nat × Nat)} {f : List Bool} (hl : T.length = f.length) {e : Nat × Nat} (h : e ∈ T) : e ∈ arr T f ∨ (e.2, e.1) ∈ arr T f := by
  obtain ⟨k, hk⟩ := List.mem_iff_getElem?.mp h
  have hlt := (List.getElem?_eq_some_iff.mp hk).1
  have hf : f[k]? = some f[k] := List.getElem?_eq_getElem (by omega)
  have : (arr T f)[k]? = some (if f[k] = true then e else (e.2, e.1)) := by
    simp [arr, List.getElem?_zipWith, hk, hf]
  cases hd : f[k] with
  | true =>
    rw [hd] at this
    exact .inl (List.mem_of_getElem? this)
  | false =>
    rw [hd] at this
    exact .inr (List.mem_of_getElem? this)
theorem Ring.steps {T : List (Nat × Nat)} {R : List Nat} {f : List Bool} (h : Ring T R) (hl : T.length = f.length) : ∀ e ∈ cyc R, e ∈ arr T f ∨ (e.2, e.1) ∈ arr T f := by
  intro e he
  rcases h.tied e he with g | g
  · exact arr_has hl g
  · exact (arr_has hl g).symm
theorem Ring.cnt {n : Nat} {T : List (Nat × Nat)} {R : List Nat} {f : List Bool} (h : Ring T R) (hw : WebOk n T) : alongM T f R = cntA (arr T f) (cyc R) := cnt_comm (arr_nodup hw) (cyc_nodup h.nd)
/-- a ring bounds each ratio that numbers keep to -/
theorem Ring.bound {n : Nat} {T : List (Nat × Nat)} {R : List Nat} {f : List Bool} {x : Nat → Int} {t b : Int} (h : Ring T R) (hw : WebOk n T) (hl : T.length = f.length) (hk : Keep (arr T f) x t b) :
    (R.length : Int) * b ≤ (alongM T f R : Int) * t ∧ (R.length : Int) * b ≤ ((R.length : Int) - (alongM T f R : Int)) * t := by
  have q := keep_sum hk (cyc R) (h.steps hl)
  rw [cyc_sum, cyc_size, ← h.cnt hw] at q
  omega
theorem keep_of_acyc {A : List (Nat × Nat)} (h : Acyc A) : ∃ x t, Keep A x t 1 := by
  obtain ⟨r, hr⟩ := h
  have : ∃ t : Int, ∀ e ∈ A, r e.2 - r e.1 ≤ t - 1 := by
    clear hr
    induction A with
    | nil => exact ⟨0, fun e he => nomatch he⟩
    | cons a A ih =>
      obtain ⟨t, ht⟩ := ih
      refine ⟨max t (r a.2 - r a.1 + 1), fun e he => ?_⟩
      rcases List.mem_cons.mp he with rfl | he
      · omega
      · have := ht e he
        omega
  obtain ⟨t, ht⟩ := this
  exact ⟨r, t, fun e he => ⟨by have := hr e he; omega, ht e he⟩⟩
theorem Ring.both {n : Nat} {T : List (Nat × Nat)} {R : List Nat} {f : List Bool} (h : Ring T R) (hw : WebOk n T) (hl : T.length = f.length) (hac : Acyc (arr T f)) : 0 < alongM T f R ∧ alongM T f R < R.length := by
  obtain ⟨x, t, hk⟩ := keep_of_acyc hac
  obtain ⟨h1, h2⟩ := h.bound hw hl hk
  have two := h.two
  rw [Int.mul_one] at h1 h2
  constructor
  · cases e : alongM T f R with
    | zero =>
      have hz : ((0 : Nat) : Int) * t = 0 := Int.zero_mul t
      rw [e, hz] at h1
      omega
    | succ k => omega
  · have hle : alongM T f R ≤ R.length := by
      rw [h.cnt hw, ← cyc_size R]
      exact List.length_filter_le _ _
    by_cases e : alongM T f R = R.length
    · have hz : ((R.length : Int) - (R.length : Int)) * t = 0 := by rw [Int.sub_self, Int.zero_mul]
      rw [e, hz] at h2
      omega
    · omega
/-! ### the passes -/
theorem getD_set0 {α : Type} {xs : List α} {p q : Nat} {z d : α} (hp : p < xs.length) : (xs.set p z).getD q d = if q = p then z else xs.getD q d := by
  rw [List.getD_eq_getElem?_getD, List.getD_eq_getElem?_getD, List.getElem?_set]
  by_cases h : p = q
  · subst h
    simp [hp]
  · rw [if_neg h, if_neg (fun z => h z.symm)]
abbrev St3 := List Int × List Nat × Option Nat
abbrev Row := Nat × Nat × Int
/-- within pass i: the rows of done gone through; for each place when it was raised last, and in which pass -/
def BInv (rows : List Row) (n i : Nat) (done : List Row) (st : St3) : Prop := ∃ (last : Nat → Nat) (pas : Nat → Int) (clk : Nat),
  (∀ v, -1 ≤ pas v) ∧ (∀ v, last v ≤ clk) ∧ (∀ v, pas v ≤ i) ∧
  (∀ v, v < n → 0 ≤ pas v → ∃ w, (st.2.1.getD v 0, v, w) ∈ rows ∧ st.1.getD v 0 ≤ st.1.getD (st.2.1.getD v 0) 0 + w ∧
    (last (st.2.1.getD v 0) < last v ∨ st.1.getD v 0 < st.1.getD (st.2.1.getD v 0) 0 + w) ∧ pas v - 1 ≤ pas (st.2.1.getD v 0)) ∧
  (∀ v, v < n → pas v = -1 → st.2.1.getD v 0 = v) ∧
  (∀ r ∈ rows, pas r.1 ≤ i - 2 → st.1.getD r.1 0 + r.2.2 ≤ st.1.getD r.2.1 0) ∧
  (∀ r ∈ done, pas r.1 ≤ i - 1 → st.1.getD r.1 0 + r.2.2 ≤ st.1.getD r.2.1 0) ∧
  (∀ l, st.2.2 = some l → pas l = i)
def RowsOk (rows : List Row) (n : Nat) : Prop := ∀ r ∈ rows, r.1 < n ∧ r.2.1 < n ∧ r.1 ≠ r.2.1
theorem relax_inv {rows : List Row} {n i : Nat} {done : List Row} {st : St3} {r : Row} (hrows : RowsOk rows n) (hr : r ∈ rows) (l1 : st.1.length = n) (l2 : st.2.1.length = n) (h : BInv rows n i done st) : BInv rows n i (done ++ [r]) (relax st r) := by
  obtain ⟨last, pas, clk, ge, top, cur, up, root, hA, hB, late⟩ := h
  obtain ⟨u, v, w⟩ := r
  obtain ⟨lu, lv, ne⟩ := hrows _ hr
  have lu : u < n := lu
  have lv : v < n := lv
  have ne : u ≠ v := ne
  by_cases g : st.1.getD v 0 < st.1.getD u 0 + w
  · have er : relax st (u, v, w) = (st.1.set v (st.1.getD u 0 + w), st.2.1.set v u, some v) := if_pos g
    rw [er]
    have N : ∀ q, (st.1.set v (st.1.getD u 0 + w)).getD q 0 = if q = v then st.1.getD u 0 + w else st.1.getD q 0 := fun q => getD_set0 (by omega)
    have C : ∀ q, (st.2.1.set v u).getD q 0 = if q = v then u else st.2.1.getD q 0 := fun q => getD_set0 (by omega)
    have ge2 : ∀ q, st.1.getD q 0 ≤ (st.1.set v (st.1.getD u 0 + w)).getD q 0 := fun q => by
      rw [N]
      split
      · rename_i e
        rw [e]
        omega
      · exact Int.le_refl _
    refine ⟨fun x => if x = v then clk + 1 else last x, fun x => if x = v then (i : Int) else pas x, clk + 1, fun x => ?_, fun x => ?_, fun x => ?_, fun x hx hp => ?_, fun x hx hp => ?_, fun q hq hp => ?_, fun q hq hp => ?_, fun l hl => ?_⟩
    · dsimp only
      split
      · omega
      · exact ge x
    · dsimp only
      split
      · omega
      · have := top x
        omega
    · dsimp only
      split
      · exact Int.le_refl _
      · exact cur x
    · dsimp only at hp ⊢
      by_cases e : x = v
      · subst e
        refine ⟨w, ?_, ?_, ?_, ?_⟩
        · rw [C, if_pos rfl]
          exact hr
        · rw [C, if_pos rfl, N, N, if_pos rfl, if_neg ne]
          exact Int.le_refl _
        · left
          rw [C, if_pos rfl, if_pos rfl, if_neg ne]
          have := top u
          omega
        · rw [C, if_pos rfl, if_pos rfl, if_neg ne]
          by_cases z : pas u ≤ (i : Int) - 2
          · have := hA _ hr z
            dsimp only at this
            omega
          · omega
      · rw [if_neg e] at hp
        obtain ⟨w2, m1, m2, m3, m4⟩ := up x hx hp
        rw [C, if_neg e, N, if_neg e, N]
        by_cases e2 : st.2.1.getD x 0 = v
        · refine ⟨w2, m1, ?_, .inr ?_, ?_⟩
          · rw [if_pos e2]
            rw [e2] at m2
            omega
          · rw [if_pos e2]
            rw [e2] at m2
            omega
          · rw [if_neg e, if_pos e2]
            have := cur x
            omega
        · refine ⟨w2, m1, ?_, ?_, ?_⟩
          · rw [if_neg e2]
            exact m2
          · rw [if_neg e2, if_neg e2, if_neg e]
            exact m3
          · rw [if_neg e2, if_neg e]
            exact m4
    · dsimp only at hp
      by_cases e : x = v
      · rw [if_pos e] at hp
        omega
      · rw [if_neg e] at hp
        rw [C, if_neg e]
        exact root x hx hp
    · dsimp only at hp
      by_cases e : q.1 = v
      · rw [if_pos e] at hp
        omega
      · rw [if_neg e] at hp
        have h1 := hA q hq hp
        have h2 := ge2 q.2.1
        have h3 := N q.1
        rw [if_neg e] at h3
        dsimp only
        omega
    · dsimp only at hp
      by_cases e : q.1 = v
      · rw [if_pos e] at hp
        omega
      · rw [if_neg e] at hp
        have h3 := N q.1
        rw [if_neg e] at h3
        rcases List.mem_append.mp hq with hq | hq
        · have h1 := hB q hq hp
          have h2 := ge2 q.2.1
          dsimp only
          omega
        · rw [List.mem_singleton] at hq
          subst hq
          have h4 := N v
          rw [if_pos rfl] at h4
          dsimp only at h3 ⊢
          omega
    · cases hl
      dsimp only
      rw [if_pos rfl]
  · have er : relax st (u, v, w) = st := if_neg g
    rw [er]
    refine ⟨last, pas, clk, ge, top, cur, up, root, hA, fun q hq hp => ?_, late⟩
    rcases List.mem_append.mp hq with hq | hq
    · exact hB q hq hp
    · rw [List.mem_singleton] at hq
      subst hq
      dsimp only
      omega
theorem fold_inv {rows : List Row} {n i : Nat} (hrows : RowsOk rows n) : ∀ (rest done : List Row) (st : St3), (∀ r ∈ rest, r ∈ rows) → st.1.length = n → st.2.1.length = n → BInv rows n i done st → BInv rows n i (done ++ rest) (rest.foldl relax st)
  | [], done, st, _, _, _, h => by
    rw [List.append_nil]
    exact h
  | r :: rest, done, st, hm, l1, l2, h => by
    have e : done ++ r :: rest = (done ++ [r]) ++ rest := by simp
    rw [e]
    obtain ⟨k1, k2⟩ := relax_len st r
    exact fold_inv hrows rest (done ++ [r]) (relax st r) (fun q hq => hm q (List.mem_cons_of_mem _ hq)) (k1.trans l1) (k2.trans l2) (relax_inv hrows (hm r (List.mem_cons_self ..)) l1 l2 h)
theorem pass_inv {rows : List Row} {n : Nat} (hrows : RowsOk rows n) : ∀ i, BInv rows n i rows (bfPass rows (bfAt rows n i))
  | 0 => by
    have h := fold_inv (i := 0) hrows rows [] ((bfAt rows n 0).1, (bfAt rows n 0).2, none) (fun r hr => hr) (by simp [bfAt]) (by simp [bfAt]) ?_
    · rw [List.nil_append] at h
      exact h
    · refine ⟨fun _ => 0, fun _ => -1, 0, fun v => by simp, fun v => by simp, fun v => by simp, fun v hv hp => ?_, fun v hv _ => ?_, fun r hr hp => ?_, fun r hr => ?_, fun l hl => ?_⟩
      · simp at hp
      · simp [bfAt, hv]
      · simp at hp
      · simp at hr
      · simp at hl
  | i + 1 => by
    obtain ⟨last, pas, clk, ge, top, cur, up, root, hA, hB, late⟩ := pass_inv hrows i
    obtain ⟨b1, b2⟩ := bf_len rows n (i + 1)
    have h := fold_inv (i := i + 1) hrows rows [] ((bfAt rows n (i + 1)).1, (bfAt rows n (i + 1)).2, none) (fun r hr => hr) b1 b2 ?_
    · rw [List.nil_append] at h
      exact h
    · refine ⟨last, pas, clk, ge, top, fun v => ?_, up, root, fun r hr hp => ?_, fun r hr => ?_, fun l hl => ?_⟩
      · have := cur v
        omega
      · exact hB r hr (by omega)
      · simp at hr
      · simp at hl
/-! ### the ring that is met -/
theorem iter_last {C : List Nat} {v : Nat} (h : C.getD v 0 = v) : ∀ j, iterC C j v = v
  | 0 => rfl
  | j + 1 => by
    show C.getD (iterC C j v) 0 = v
    rw [iter_last h j, h]
theorem reach {rows : List Row} {n l : Nat} (hrows : RowsOk rows n) (hl : bfLate rows n n = some l) {C : List Nat} (hC : C = (bfAt rows n (n + 1)).2) {k : Nat} (k1 : 1 ≤ k) (k2 : iterC C k (iterC C n l) = iterC C n l) :
    ∃ N : Nat → Int, ∃ last : Nat → Nat, (∀ j, j < k → ∃ w, (iterC C (j + 1) (iterC C n l), iterC C j (iterC C n l), w) ∈ rows ∧ N (iterC C j (iterC C n l)) ≤ N (iterC C (j + 1) (iterC C n l)) + w ∧
      (last (iterC C (j + 1) (iterC C n l)) < last (iterC C j (iterC C n l)) ∨ N (iterC C j (iterC C n l)) < N (iterC C (j + 1) (iterC C n l)) + w)) := by
  obtain ⟨last, pas, clk, ge, top, cur, up, root, hA, hB, late⟩ := pass_inv hrows n
  have hrw : ∀ r ∈ rows, r.1 < n ∧ r.2.1 < n := fun r hr => ⟨(hrows r hr).1, (hrows r hr).2.1⟩
  have eC : (bfPass rows (bfAt rows n n)).2.1 = C := hC.symm
  rw [eC] at up root
  have lC : C.length = n := by
    rw [hC]
    exact (bf_len rows n (n + 1)).2
  have ltC : ∀ v ∈ C, v < C.length := by
    rw [lC, hC]
    exact bf_came hrw (n + 1)
  have ll : l < n := bf_late hrw n l hl
  have lt : ∀ j, iterC C j l < n := fun j => by
    have := iter_lt0 ltC (p := l) (by omega) j
    omega
  have hp : ∀ j, j ≤ n → (n : Int) - j ≤ pas (iterC C j l) := by
    intro j
    induction j with
    | zero =>
      intro _
      have := late l hl
      show (n : Int) - 0 ≤ pas l
      omega
    | succ j ih =>
      intro hj
      have h1 := ih (by omega)
      obtain ⟨w, _, _, _, h2⟩ := up _ (lt j) (by omega)
      show (n : Int) - (j + 1 : Nat) ≤ pas (C.getD (iterC C j l) 0)
      omega
  have h0 := hp n (Nat.le_refl _)
  have lt2 : ∀ j, iterC C j (iterC C n l) < n := fun j => by
    rw [← iter_add]
    exact lt _
  refine ⟨fun v => (bfPass rows (bfAt rows n n)).1.getD v 0, last, fun j hj => ?_⟩
  have hr : 0 ≤ pas (iterC C j (iterC C n l)) := by
    by_cases z : pas (iterC C j (iterC C n l)) = -1
    · exfalso
      have e1 := root _ (lt2 j) z
      have e2 : iterC C (j + (k - j)) (iterC C n l) = iterC C (k - j) (iterC C j (iterC C n l)) := iter_add C _ j (k - j)
      rw [iter_last e1, show j + (k - j) = k by omega, k2] at e2
      rw [← e2] at z
      omega
    · have := ge (iterC C j (iterC C n l))
      omega
  obtain ⟨w, m1, m2, m3, _⟩ := up _ (lt2 j) hr
  exact ⟨w, m1, m2, m3⟩
/-- the places met, the last one first -/
def metR (C : List Nat) (k v : Nat) : List Nat := ((List.range k).map fun j => iterC C j v).reverse
theorem metR_succ (C : List Nat) (k v : Nat) : metR C (k + 1) v = iterC C k v :: metR C k v := by
  unfold metR
  rw [List.range_succ, List.map_append, List.reverse_append]
  rfl
theorem zip_met (C : List Nat) (v : Nat) : ∀ (k : Nat) (y : Nat), ∀ e ∈ (metR C (k + 1) v).zip (metR C k v ++ [y]), (∃ j, j < k ∧ e = (iterC C (j + 1) v, iterC C j v)) ∨ e = (v, y)
  | 0, y, e, he => by
    have h1 : metR C 1 v = [v] := rfl
    have h0 : metR C 0 v = [] := rfl
    rw [h1, h0] at he
    right
    simpa using he
  | k + 1, y, e, he => by
    rw [metR_succ C (k + 1), metR_succ C k, List.cons_append, List.zip_cons_cons] at he
    rcases List.mem_cons.mp he with h | h
    · exact .inl ⟨k, by omega, h⟩
    · rw [← metR_succ] at h
      rcases zip_met C v k y e h with ⟨j, hj, e1⟩ | e1
      · exact .inl ⟨j, by omega, e1⟩
      · exact .inr e1
theorem cyc_met {C : List Nat} {v k : Nat} (h : iterC C (k + 1) v = v) : ∀ e ∈ cyc (metR C (k + 1) v), ∃ j, j < k + 1 ∧ e = (iterC C (j + 1) v, iterC C j v) := by
  intro e he
  have e1 : rot (metR C (k + 1) v) = metR C k v ++ [iterC C k v] := by
    rw [metR_succ]
    rfl
  unfold cyc at he
  rw [e1] at he
  rcases zip_met C v k _ e he with ⟨j, hj, e2⟩ | e2
  · exact ⟨j, by omega, e2⟩
  · exact ⟨k, by omega, by rw [h]; exact e2⟩
theorem cyc_met_has {C : List Nat} {v k : Nat} (h : iterC C (k + 1) v = v) (hnd : (metR C (k + 1) v).Nodup) {j : Nat} (hj : j < k + 1) : (iterC C (j + 1) v, iterC C j v) ∈ cyc (metR C (k + 1) v) := by
  -- each place of the ring is the end of one step
  have e : (cyc (metR C (k + 1) v)).map (·.2) = rot (metR C (k + 1) v) := by
    unfold cyc
    exact List.map_snd_zip (by rw [(rot_perm _).length_eq]; exact Nat.le_refl _)
  have hm : iterC C j v ∈ rot (metR C (k + 1) v) := by
    refine (rot_perm _).mem_iff.mpr ?_
    unfold metR
    exact List.mem_reverse.mpr (List.mem_map.mpr ⟨j, List.mem_range.mpr hj, rfl⟩)
  rw [← e] at hm
  obtain ⟨p, hp, e2⟩ := List.mem_map.mp hm
  obtain ⟨j2, hj2, e3⟩ := cyc_met h p hp
  have e4 : p.2 = iterC C j2 v := congrArg Prod.snd e3
  have e5 : p.1 = iterC C (j2 + 1) v := congrArg Prod.fst e3
  have e6 : p.1 = C.getD p.2 0 := by
    rw [e4, e5]
    rfl
  have e7 : p = (iterC C (j + 1) v, iterC C j v) := by
    refine Prod.ext ?_ e2
    rw [e6, e2]
    rfl
  rw [← e7]
  exact hp
theorem met_nodup {C : List Nat} {v k : Nat} (h : iterC C k v = v) (hm : ∀ j, 0 < j → j < k → iterC C j v ≠ v) : (metR C k v).Nodup := by
  unfold metR
  rw [List.nodup_iff_pairwise_ne, List.pairwise_reverse, List.pairwise_map, List.pairwise_iff_getElem]
  intro i j hi hj hij e
  simp only [List.length_range] at hi hj
  simp only [List.getElem_range] at e
  have e1 : iterC C (j + (k - j)) v = iterC C (i + (k - j)) v := by
    rw [iter_add, iter_add, e.symm]
  rw [show j + (k - j) = k by omega, h] at e1
  exact hm (i + (k - j)) (by omega) (by omega) e1.symm
theorem rows_mem {A : List (Nat × Nat)} {t b : Int} {u v : Nat} {w : Int} (h : (u, v, w) ∈ rowsM A t b) : ((u, v) ∈ A ∧ w = b) ∨ ((v, u) ∈ A ∧ w = b - t) := by
  unfold rowsM at h
  obtain ⟨e, he, h2⟩ := List.mem_flatMap.mp h
  rcases List.mem_cons.mp h2 with z | z
  · left
    injection z with z1 z2
    injection z2 with z2 z3
    subst z1; subst z2; subst z3
    exact ⟨he, rfl⟩
  · rw [List.mem_singleton] at z
    right
    injection z with z1 z2
    injection z2 with z2 z3
    subst z1; subst z2; subst z3
    exact ⟨he, rfl⟩
theorem rows_ok {n : Nat} {T : List (Nat × Nat)} {f : List Bool} {t b : Int} (h : WebOk n T) : RowsOk (rowsM (arr T f) t b) n := by
  intro r hr
  have key : ∀ p ∈ arr T f, p.1 < n ∧ p.2 < n ∧ p.1 ≠ p.2 := by
    intro p hp
    obtain ⟨k, hk⟩ := List.mem_iff_getElem?.mp hp
    obtain ⟨e, he, hor⟩ := arr_mem hk
    have := h.low e (List.mem_of_getElem? he)
    rcases hor with z | z
    · rw [z]
      omega
    · rw [z]
      dsimp only
      omega
  rcases rows_mem (u := r.1) (v := r.2.1) (w := r.2.2) hr with ⟨z, _⟩ | ⟨z, _⟩
  · exact key _ z
  · obtain ⟨a1, a2, a3⟩ := key _ z
    exact ⟨a2, a1, a3.symm⟩
theorem arr_tie {T : List (Nat × Nat)} {f : List Bool} {p : Nat × Nat} (h : p ∈ arr T f) : p ∈ T ∨ (p.2, p.1) ∈ T := by
  obtain ⟨k, hk⟩ := List.mem_iff_getElem?.mp h
  obtain ⟨e, he, hor⟩ := arr_mem hk
  rcases hor with z | z
  · left
    rw [z]
    exact List.mem_of_getElem? he
  · right
    rw [z]
    exact List.mem_of_getElem? he
/-- all passes raise something: there is a ring of a greater worth -/
theorem ring_of_late {n : Nat} {T : List (Nat × Nat)} {f : List Bool} {t b : Int} (hw : WebOk n T) (ht : 0 ≤ t) {l k : Nat} (hl : bfLate (rowsM (arr T f) t b) n n = some l) {C : List Nat} (hC : C = (bfAt (rowsM (arr T f) t b) n (n + 1)).2)
    (k1 : 1 ≤ k) (k2 : iterC C k (iterC C n l) = iterC C n l) (k3 : ∀ j, 0 < j → j < k → iterC C j (iterC C n l) ≠ iterC C n l) :
    Ring T (metR C k (iterC C n l)) ∧ ((k : Int) - (alongM T f (metR C k (iterC C n l)) : Int)) * t < (k : Int) * b := by
  obtain ⟨N, last, hst⟩ := reach (rows_ok hw) hl hC k1 k2
  obtain ⟨m, rfl⟩ : ∃ m, k = m + 1 := ⟨k - 1, by omega⟩
  generalize iterC C n l = v at *
  have nd := met_nodup k2 k3
  have hlen : (metR C (m + 1) v).length = m + 1 := by simp [metR]
  have two : 2 ≤ m + 1 := by
    by_cases z : m = 0
    · exfalso
      subst z
      obtain ⟨w, h1, _⟩ := hst 0 (by omega)
      have := (rows_ok hw _ h1).2.2
      exact this k2
    · omega
  have ring : Ring T (metR C (m + 1) v) := by
    refine ⟨by omega, nd, fun e he => ?_⟩
    obtain ⟨j, hj, rfl⟩ := cyc_met k2 e he
    obtain ⟨w, h1, _⟩ := hst j hj
    rcases rows_mem h1 with ⟨z, _⟩ | ⟨z, _⟩
    · exact arr_tie z
    · exact (arr_tie z).symm
  refine ⟨ring, ?_⟩
  have hle : ∀ e ∈ cyc (metR C (m + 1) v), gap (fun x => N x) e ≤ wt (arr T f) t b e := by
    intro e he
    obtain ⟨j, hj, rfl⟩ := cyc_met k2 e he
    obtain ⟨w, h1, h2, _⟩ := hst j hj
    unfold gap wt
    dsimp only
    rcases rows_mem h1 with ⟨z, zw⟩ | ⟨z, zw⟩
    · rw [if_pos z]
      omega
    · split <;> omega
  obtain ⟨_, g2⟩ := gap_lt hle
  have ex : ∃ e ∈ cyc (metR C (m + 1) v), gap (fun x => N x) e < wt (arr T f) t b e := by
    by_cases q : ∃ j, j < m + 1 ∧ gap (fun x => N x) (iterC C (j + 1) v, iterC C j v) < wt (arr T f) t b (iterC C (j + 1) v, iterC C j v)
    · obtain ⟨j, hj, h⟩ := q
      exact ⟨_, cyc_met_has k2 nd hj, h⟩
    · exfalso
      have all : ∀ j, j < m + 1 → last (iterC C (j + 1) v) < last (iterC C j v) := by
        intro j hj
        obtain ⟨w, h1, h2, h3⟩ := hst j hj
        rcases h3 with h3 | h3
        · exact h3
        · exfalso
          refine q ⟨j, hj, ?_⟩
          unfold gap wt
          dsimp only
          rcases rows_mem h1 with ⟨z, zw⟩ | ⟨z, zw⟩
          · rw [if_pos z]
            omega
          · split <;> omega
      have down : ∀ j, j ≤ m + 1 → last (iterC C j v) + j ≤ last v := by
        intro j
        induction j with
        | zero => intro _; exact Nat.le_refl _
        | succ j ih =>
          intro hj
          have := ih (by omega)
          have := all j (by omega)
          omega
      have := down (m + 1) (Nat.le_refl _)
      rw [k2] at this
      omega
  have fin := g2 ex
  rw [cyc_sum, wt_sum, cyc_size, hlen, ← ring.cnt hw] at fin
  omega
/-- no row is late: the numbers keep to the ratio -/
theorem fold_none : ∀ (rows : List Row) (st : St3), (rows.foldl relax st).2.2 = none → st.2.2 = none → rows.foldl relax st = st ∧ ∀ r ∈ rows, st.1.getD r.1 0 + r.2.2 ≤ st.1.getD r.2.1 0
  | [], st, _, _ => ⟨rfl, fun r hr => nomatch hr⟩
  | r :: rows, st, h, h0 => by
    have stay : ∀ (rows : List Row) (st : St3), st.2.2 ≠ none → (rows.foldl relax st).2.2 ≠ none := by
      intro rows
      induction rows with
      | nil => exact fun st h => h
      | cons r rs ih =>
        intro st h
        refine ih (relax st r) ?_
        unfold relax
        split
        · exact fun z => nomatch z
        · exact h
    by_cases g : st.1.getD r.2.1 0 < st.1.getD r.1 0 + r.2.2
    · exfalso
      refine stay rows (relax st r) ?_ h
      unfold relax
      rw [if_pos g]
      exact fun z => nomatch z
    · have er : relax st r = st := if_neg g
      have h' : (rows.foldl relax st).2.2 = none := by
        have := h
        rw [List.foldl_cons, er] at this
        exact this
      obtain ⟨h1, h2⟩ := fold_none rows st h' h0
      refine ⟨by rw [List.foldl_cons, er]; exact h1, fun q hq => ?_⟩
      rcases List.mem_cons.mp hq with rfl | hq
      · omega
      · exact h2 q hq
theorem keep_of_none {A : List (Nat × Nat)} {t b : Int} {n i : Nat} (h : bfLate (rowsM A t b) n i = none) : Keep A (fun p => (bfPass (rowsM A t b) (bfAt (rowsM A t b) n i)).1.getD p 0) t b := by
  obtain ⟨h1, h2⟩ := fold_none (rowsM A t b) ((bfAt (rowsM A t b) n i).1, (bfAt (rowsM A t b) n i).2, none) h rfl
  have e : bfPass (rowsM A t b) (bfAt (rowsM A t b) n i) = ((bfAt (rowsM A t b) n i).1, (bfAt (rowsM A t b) n i).2, none) := h1
  rw [e]
  intro p hp
  have m1 : (p.1, p.2, b) ∈ rowsM A t b := List.mem_flatMap.mpr ⟨p, hp, by simp⟩
  have m2 : (p.2, p.1, b - t) ∈ rowsM A t b := List.mem_flatMap.mpr ⟨p, hp, by simp⟩
  have r1 := h2 _ m1
  have r2 := h2 _ m2
  dsimp only at r1 r2 ⊢
  omega
/-- numbers keep to the ratio: some pass raises nothing -/
theorem not_late {n : Nat} {T : List (Nat × Nat)} {f : List Bool} {t b : Int} {x : Nat → Int} (hw : WebOk n T) (hl : T.length = f.length) (ht : 0 ≤ t) (hk : Keep (arr T f) x t b) {l k : Nat} (hlate : bfLate (rowsM (arr T f) t b) n n = some l) {C : List Nat} (hC : C = (bfAt (rowsM (arr T f) t b) n (n + 1)).2)
    (k1 : 1 ≤ k) (k2 : iterC C k (iterC C n l) = iterC C n l) (k3 : ∀ j, 0 < j → j < k → iterC C j (iterC C n l) ≠ iterC C n l) : False := by
  obtain ⟨ring, h⟩ := ring_of_late hw ht hlate hC k1 k2 k3
  obtain ⟨_, h2⟩ := ring.bound hw hl hk
  have hlen : (metR C k (iterC C n l)).length = k := by simp [metR]
  rw [hlen] at h2
  omega
/-! ### bounds of the numbers -/
theorem relax_bound {M t : Int} {st : St3} {r : Row} {n : Nat} (l1 : st.1.length = n) (hr : r.1 < n ∧ r.2.1 < n) (hw : r.2.2 ≤ t) (ht : 0 ≤ t) (h : ∀ v, 0 ≤ st.1.getD v 0 ∧ st.1.getD v 0 ≤ M) : ∀ v, 0 ≤ (relax st r).1.getD v 0 ∧ (relax st r).1.getD v 0 ≤ M + t := by
  intro v
  unfold relax
  split
  · rename_i g
    show 0 ≤ (st.1.set r.2.1 (st.1.getD r.1 0 + r.2.2)).getD v 0 ∧ (st.1.set r.2.1 (st.1.getD r.1 0 + r.2.2)).getD v 0 ≤ M + t
    rw [getD_set0 (by omega)]
    split
    · have h1 := h r.1
      have h2 := h r.2.1
      omega
    · have := h v
      omega
  · have := h v
    omega
theorem fold_bound {t : Int} {n : Nat} (ht : 0 ≤ t) : ∀ (rows : List Row) (st : St3) (M : Int), (∀ r ∈ rows, (r.1 < n ∧ r.2.1 < n) ∧ r.2.2 ≤ t) → st.1.length = n → (∀ v, 0 ≤ st.1.getD v 0 ∧ st.1.getD v 0 ≤ M) →
    ∀ v, 0 ≤ (rows.foldl relax st).1.getD v 0 ∧ (rows.foldl relax st).1.getD v 0 ≤ M + rows.length * t
  | [], st, M, _, _, h => by
    intro v
    have := h v
    simpa using this
  | r :: rows, st, M, hr, l1, h => by
    intro v
    have hr1 := hr r (List.mem_cons_self ..)
    have h1 := relax_bound l1 hr1.1 hr1.2 ht h
    have h2 := fold_bound ht rows (relax st r) (M + t) (fun q hq => hr q (List.mem_cons_of_mem _ hq)) ((relax_len st r).1.trans l1) h1 v
    have e : ((r :: rows).length : Int) * t = rows.length * t + t := by
      rw [List.length_cons, Int.natCast_add, Int.add_mul]
      simp
    rw [List.foldl_cons, e]
    omega
theorem bf_bound {t : Int} {n : Nat} {rows : List Row} (ht : 0 ≤ t) (hr : ∀ r ∈ rows, (r.1 < n ∧ r.2.1 < n) ∧ r.2.2 ≤ t) : ∀ i v, 0 ≤ (bfAt rows n i).1.getD v 0 ∧ (bfAt rows n i).1.getD v 0 ≤ i * (rows.length * t)
  | 0, v => by
    have : (bfAt rows n 0).1.getD v 0 = 0 := by
      show (List.replicate n (0 : Int)).getD v 0 = 0
      rw [List.getD_eq_getElem?_getD, List.getElem?_replicate]
      split <;> rfl
    rw [this]
    simp
  | i + 1, v => by
    have ih := bf_bound ht hr i
    have h := fold_bound ht rows ((bfAt rows n i).1, (bfAt rows n i).2, none) (i * (rows.length * t)) hr (bf_len rows n i).1 ih v
    have e : ((i + 1 : Nat) : Int) * (rows.length * t) = i * (rows.length * t) + rows.length * t := by
      rw [Int.natCast_add, Int.add_mul]
      simp
    rw [e]
    exact h
end K40

set_option Elab.async false
set_option maxRecDepth 100000
set_option maxHeartbeats 0
/-! The check of all webs of five places, in eight parts. -/
namespace K40
theorem check5p0 : checkSub 5 [] [(0,4),(1,2),(1,3),(1,4),(2,3),(2,4),(3,4)] = true := by decide +kernel
theorem check5p1 : checkSub 5 [(0,3)] [(0,4),(1,2),(1,3),(1,4),(2,3),(2,4),(3,4)] = true := by decide +kernel
theorem check5p2 : checkSub 5 [(0,2)] [(0,4),(1,2),(1,3),(1,4),(2,3),(2,4),(3,4)] = true := by decide +kernel
theorem check5p3 : checkSub 5 [(0,3),(0,2)] [(0,4),(1,2),(1,3),(1,4),(2,3),(2,4),(3,4)] = true := by decide +kernel
theorem check5p4 : checkSub 5 [(0,1)] [(0,4),(1,2),(1,3),(1,4),(2,3),(2,4),(3,4)] = true := by decide +kernel
theorem check5p5 : checkSub 5 [(0,3),(0,1)] [(0,4),(1,2),(1,3),(1,4),(2,3),(2,4),(3,4)] = true := by decide +kernel
theorem check5p6 : checkSub 5 [(0,2),(0,1)] [(0,4),(1,2),(1,3),(1,4),(2,3),(2,4),(3,4)] = true := by decide +kernel
theorem check5p7 : checkSub 5 [(0,3),(0,2),(0,1)] [(0,4),(1,2),(1,3),(1,4),(2,3),(2,4),(3,4)] = true := by decide +kernel
theorem check_three (n : Nat) (x y z : Nat × Nat) (r : List (Nat × Nat)) : checkSub n [] (x :: y :: z :: r) = (((checkSub n [] r && checkSub n [z] r) && (checkSub n [y] r && checkSub n [z, y] r)) && ((checkSub n [x] r && checkSub n [z, x] r) && (checkSub n [y, x] r && checkSub n [z, y, x] r))) := rfl
theorem check5 : checkSub 5 [] (pairsOf 5) = true := by
  have e : pairsOf 5 = (0,1) :: (0,2) :: (0,3) :: [(0,4),(1,2),(1,3),(1,4),(2,3),(2,4),(3,4)] := by decide
  rw [e, check_three, check5p0, check5p1, check5p2, check5p3, check5p4, check5p5, check5p6, check5p7]
  rfl
end K40

set_option Elab.async false
set_option linter.all false
set_option maxHeartbeats 4000000
set_option maxRecDepth 100000
/-! Webs gone through, worths; in plain Lean. -/
namespace K40
/-! ### each web is one of those that were checked -/
abbrev lexlt (p q : Nat × Nat) : Prop := p.1 < q.1 ∨ (p.1 = q.1 ∧ p.2 < q.2)
theorem sub_of_sorted : ∀ {L T : List (Nat × Nat)}, T.Pairwise lexlt → L.Pairwise lexlt → (∀ x ∈ T, x ∈ L) → T.Sublist L
  | [], T, _, _, h => by
    cases T with
    | nil => exact .slnil
    | cons x T => exact nomatch h x (List.mem_cons_self ..)
  | y :: L, [], _, _, _ => List.nil_sublist _
  | y :: L, x :: T, hT, hL, h => by
    obtain ⟨t1, t2⟩ := List.pairwise_cons.mp hT
    obtain ⟨l1, l2⟩ := List.pairwise_cons.mp hL
    by_cases e : x = y
    · subst e
      refine List.Sublist.cons_cons _ (sub_of_sorted t2 l2 fun z hz => ?_)
      rcases List.mem_cons.mp (h z (List.mem_cons_of_mem _ hz)) with q | q
      · have := t1 z hz
        rw [q] at this
        unfold lexlt at this
        omega
      · exact q
    · have hx : x ∈ L := (List.mem_cons.mp (h x (List.mem_cons_self ..))).resolve_left e
      have yx := l1 x hx
      refine List.Sublist.cons _ (sub_of_sorted hT l2 fun z hz => ?_)
      rcases List.mem_cons.mp (h z hz) with q | q
      · exfalso
        rcases List.mem_cons.mp hz with r | r
        · exact e (r.symm.trans q)
        · have := t1 z r
          rw [q] at this
          unfold lexlt at this yx
          omega
      · exact q
theorem check_all {n : Nat} : ∀ {S rest acc : List (Nat × Nat)}, S.Sublist rest → checkSub n acc rest = true → acc.length + S.length ≤ 8 → checkWeb n (acc.reverse ++ S) = true := by
  intro S rest acc h
  induction h generalizing acc with
  | slnil =>
    intro hc hl
    unfold checkSub at hc
    have : Nat.ble 9 acc.length = false := by
      cases e : Nat.ble 9 acc.length with
      | false => rfl
      | true =>
        have := Nat.le_of_ble_eq_true e
        simp at hl
        omega
    rw [this, Bool.false_or] at hc
    rw [List.append_nil]
    exact hc
  | cons x _ ih =>
    intro hc hl
    unfold checkSub at hc
    exact ih (Bool.and_eq_true_iff.mp hc).1 hl
  | cons_cons x _ ih =>
    intro hc hl
    unfold checkSub at hc
    have := ih (acc := x :: acc) (Bool.and_eq_true_iff.mp hc).2 (by simp at hl ⊢; omega)
    rw [List.reverse_cons, List.append_assoc] at this
    exact this
theorem pairs_mem {n : Nat} {p : Nat × Nat} (h : p.1 < p.2 ∧ p.2 < n) : p ∈ pairsOf n := by
  obtain ⟨a, b⟩ := p
  simp only at h
  unfold pairsOf
  refine List.mem_flatMap.mpr ⟨a, List.mem_range.mpr (by omega), List.mem_map.mpr ⟨b, List.mem_filter.mpr ⟨List.mem_range.mpr h.2, decide_eq_true h.1⟩, rfl⟩⟩
theorem pairs_up (n : Nat) (h : n ≤ 5) : (pairsOf n).Pairwise lexlt := by
  match n, h with
  | 0, _ => decide
  | 1, _ => decide
  | 2, _ => decide
  | 3, _ => decide
  | 4, _ => decide
  | 5, _ => decide
  | n + 6, h => omega
theorem check_n (n : Nat) (h1 : 1 ≤ n) (h : n ≤ 5) : checkSub n [] (pairsOf n) = true := by
  have h4 := check4
  simp only [Bool.and_eq_true] at h4
  match n, h1, h with
  | 1, _, _ => exact h4.1
  | 2, _, _ => exact h4.2.1
  | 3, _, _ => exact h4.2.2.1
  | 4, _, _ => exact h4.2.2.2
  | 5, _, _ => exact check5
  | n + 6, _, h => omega
theorem web_check {n : Nat} {T : List (Nat × Nat)} (h : WebOk n T) : checkWeb n T = true := by
  have hs := sub_of_sorted h.sorted (pairs_up n h.most) fun x hx => pairs_mem (h.low x hx)
  have := check_all (acc := []) hs (check_n n h.pos h.most) (by have := h.ties; simp; exact this)
  simpa using this
/-! ### what the check tells -/
theorem nodup_of_B : ∀ {l : List Nat}, nodupB l = true → l.Nodup
  | [], _ => .nil
  | x :: r, h => by
    unfold nodupB at h
    obtain ⟨h1, h2⟩ := Bool.and_eq_true_iff.mp h
    refine List.nodup_cons.mpr ⟨fun z => ?_, nodup_of_B h2⟩
    have : (r.any fun y => y == x) = true := List.any_eq_true.mpr ⟨x, z, by simp⟩
    rw [this] at h1
    exact absurd h1 (by decide)
theorem mem_of_B {T : List (Nat × Nat)} {a b : Nat} (h : memT T a b = true) : (a, b) ∈ T := by
  unfold memT at h
  obtain ⟨e, he, h2⟩ := List.any_eq_true.mp h
  obtain ⟨h3, h4⟩ := Bool.and_eq_true_iff.mp h2
  have e3 : e.1 = a := by simpa using h3
  have e4 : e.2 = b := by simpa using h4
  rw [← e3, ← e4]
  exact he
theorem ring_of_B {n : Nat} {T : List (Nat × Nat)} {R : List Nat} (h : isRingB n T R = true) : Ring T R ∧ R.length ≤ n := by
  unfold isRingB at h
  obtain ⟨h1, h⟩ := Bool.and_eq_true_iff.mp h
  obtain ⟨h2, h⟩ := Bool.and_eq_true_iff.mp h
  obtain ⟨h3, h4⟩ := Bool.and_eq_true_iff.mp h
  have h1 := Nat.le_of_ble_eq_true h1
  have nd := nodup_of_B h2
  refine ⟨⟨by omega, nd, fun e he => ?_⟩, ?_⟩
  · have := List.all_eq_true.mp h4 e he
    rcases Bool.or_eq_true_iff.mp this with z | z
    · exact .inl (mem_of_B z)
    · exact .inr (mem_of_B z)
  · have hlt : ∀ x ∈ R, x < n := fun x hx => by
      have := List.all_eq_true.mp h3 x hx
      exact Nat.le_of_ble_eq_true this
    have := nodup_len (m := List.range n) nd fun x hx => List.mem_range.mpr (hlt x hx)
    simpa using this
theorem web_facts {n : Nat} {T : List (Nat × Nat)} (h : WebOk n T) : ∃ ps o, piecesM n T = some ps ∧ someRingM n T = some o ∧ (n < T.length + ps.length → ∃ R, o = some R ∧ Ring T R ∧ R.length ≤ n) ∧ (¬ n < T.length + ps.length → peel 8 T = true) := by
  have hc := web_check h
  unfold checkWeb at hc
  cases hp : piecesM n T with
  | none =>
    rw [hp] at hc
    exact absurd (show false = true from hc) Bool.false_ne_true
  | some ps =>
    cases ho : someRingM n T with
    | none =>
      rw [hp, ho] at hc
      exact absurd (show false = true from hc) Bool.false_ne_true
    | some o =>
      rw [hp, ho] at hc
      refine ⟨ps, o, rfl, rfl, fun z => ?_, fun z => ?_⟩
      · have e : Nat.blt n (T.length + ps.length) = true := Nat.ble_eq_true_of_le z
        dsimp only at hc
        rw [if_pos e] at hc
        cases o with
        | none => exact absurd (show false = true from hc) Bool.false_ne_true
        | some R =>
          obtain ⟨r1, r2⟩ := ring_of_B hc
          exact ⟨R, rfl, r1, r2⟩
      · have e : ¬ Nat.blt n (T.length + ps.length) = true := fun q => z (Nat.le_of_ble_eq_true q)
        dsimp only at hc
        rw [if_neg e] at hc
        exact hc
/-! ### a web that is taken away tie by tie -/
theorem peelOne_some {T : List (Nat × Nat)} {x : Nat × Nat} : ∀ {l : List (Nat × Nat)}, peelOne T l = some x → x ∈ l ∧ (deg T x.1 = 1 ∨ deg T x.2 = 1)
  | [], h => nomatch h
  | e :: r, h => by
    unfold peelOne at h
    by_cases g : (deg T e.1 == 1 || deg T e.2 == 1) = true
    · rw [if_pos g] at h
      cases h
      refine ⟨List.mem_cons_self .., ?_⟩
      simpa using g
    · rw [if_neg g] at h
      obtain ⟨h1, h2⟩ := peelOne_some h
      exact ⟨List.mem_cons_of_mem _ h1, h2⟩
theorem deg_one {T : List (Nat × Nat)} {p : Nat} (h : deg T p = 1) {x y : Nat × Nat} (hx : x ∈ T) (hy : y ∈ T) (px : p = x.1 ∨ p = x.2) (py : p = y.1 ∨ p = y.2) : x = y := by
  unfold deg at h
  have m : ∀ z ∈ T, (p = z.1 ∨ p = z.2) → z ∈ T.filter fun e => p == e.1 || p == e.2 := fun z hz pz => List.mem_filter.mpr ⟨hz, by simpa using pz⟩
  have m1 := m x hx px
  have m2 := m y hy py
  cases hl : T.filter fun e => p == e.1 || p == e.2 with
  | nil =>
    rw [hl] at h
    simp at h
  | cons a r =>
    rw [hl] at h m1 m2
    have : r = [] := by
      cases r with
      | nil => rfl
      | cons b r => simp at h
    subst this
    rw [List.mem_singleton.mp m1, List.mem_singleton.mp m2]
theorem peel_pot : ∀ {k : Nat} {T : List (Nat × Nat)}, peel k T = true → (∀ e ∈ T, e.1 ≠ e.2) → ∀ w : Nat × Nat → Int, ∃ x : Nat → Int, ∀ e ∈ T, x e.2 - x e.1 = w e
  | _, [], _, _, _ => ⟨fun _ => 0, fun e he => nomatch he⟩
  | 0, _ :: _, h, _, _ => nomatch h
  | k + 1, e :: r, h, hne, w => by
    have h' : (match peelOne (e :: r) (e :: r) with
      | none => false
      | some x => peel k ((e :: r).filter fun y => !(y.1 == x.1 && y.2 == x.2))) = true := h
    cases hp : peelOne (e :: r) (e :: r) with
    | none =>
      rw [hp] at h'
      exact nomatch h'
    | some x =>
      rw [hp] at h'
      obtain ⟨hx, hd⟩ := peelOne_some hp
      obtain ⟨z, hz⟩ := peel_pot (k := k) (T := (e :: r).filter fun y => !(y.1 == x.1 && y.2 == x.2)) h' (fun y hy => hne y (List.mem_filter.mp hy).1) w
      have hxn := hne x hx
      have other : ∀ y ∈ e :: r, y ≠ x → z y.2 - z y.1 = w y := by
        intro y hy hyx
        refine hz y (List.mem_filter.mpr ⟨hy, ?_⟩)
        cases q : (y.1 == x.1 && y.2 == x.2) with
        | false => rfl
        | true =>
          obtain ⟨q1, q2⟩ := Bool.and_eq_true_iff.mp q
          exact absurd (Prod.ext (by simpa using q1) (by simpa using q2)) hyx
      rcases hd with hd | hd
      · refine ⟨fun p => if p = x.1 then z x.2 - w x else z p, fun y hy => ?_⟩
        by_cases g : y = x
        · rw [g]
          dsimp only
          rw [if_neg (fun q => hxn q.symm), if_pos rfl]
          omega
        · have n1 : ¬ y.1 = x.1 := fun q => g (deg_one hd hy hx (.inl q.symm) (.inl rfl))
          have n2 : ¬ y.2 = x.1 := fun q => g (deg_one hd hy hx (.inr q.symm) (.inl rfl))
          dsimp only
          rw [if_neg n1, if_neg n2]
          exact other y hy g
      · refine ⟨fun p => if p = x.2 then z x.1 + w x else z p, fun y hy => ?_⟩
        by_cases g : y = x
        · rw [g]
          dsimp only
          rw [if_neg hxn, if_pos rfl]
          omega
        · have n1 : ¬ y.1 = x.2 := fun q => g (deg_one hd hy hx (.inl q.symm) (.inr rfl))
          have n2 : ¬ y.2 = x.2 := fun q => g (deg_one hd hy hx (.inr q.symm) (.inr rfl))
          dsimp only
          rw [if_neg n1, if_neg n2]
          exact other y hy g
/-- numbers can keep to a ratio -/
def Feas (A : List (Nat × Nat)) (t b : Int) : Prop := ∃ x, Keep A x t b
theorem forest_feas {n : Nat} {T : List (Nat × Nat)} {f : List Bool} (hw : WebOk n T) (h : peel 8 T = true) : Feas (arr T f) 2 1 := by
  obtain ⟨x, hx⟩ := peel_pot h (fun e he => by have := hw.low e he; omega) (fun e => if e ∈ arr T f then 1 else -1)
  refine ⟨x, fun p hp => ?_⟩
  obtain ⟨k, hk⟩ := List.mem_iff_getElem?.mp hp
  obtain ⟨e, he, hor⟩ := arr_mem hk
  have heT := List.mem_of_getElem? he
  have hxe := hx e heT
  rcases hor with z | z
  · rw [← z, if_pos hp] at hxe
    omega
  · have hn : e ∉ arr T f := by
      intro q
      obtain ⟨j, hj⟩ := List.mem_iff_getElem?.mp q
      obtain ⟨e', he', hor'⟩ := arr_mem hj
      have l1 := hw.low e heT
      have l2 := hw.low e' (List.mem_of_getElem? he')
      rcases hor' with z' | z'
      · -- the same tie, the same place in the row
        have nd := web_nodup hw
        rw [List.nodup_iff_pairwise_ne, List.pairwise_iff_getElem] at nd
        obtain ⟨k1, v1⟩ := List.getElem?_eq_some_iff.mp he
        obtain ⟨k2, v2⟩ := List.getElem?_eq_some_iff.mp he'
        have ekj : k = j := by
          rcases Nat.lt_trichotomy k j with g | g | g
          · exact absurd (v1.trans (z'.trans v2.symm)) (nd k j k1 k2 g)
          · exact g
          · exact absurd (v2.trans (z'.symm.trans v1.symm)) (nd j k k2 k1 g)
        rw [ekj, hj] at hk
        have epe : e = p := Option.some.inj hk
        rw [z] at epe
        have : e.1 = e.2 := congrArg Prod.fst epe
        omega
      · have a1 : e.1 = e'.2 := congrArg Prod.fst z'
        have a2 : e.2 = e'.1 := congrArg Prod.snd z'
        omega
    rw [if_neg hn] at hxe
    rw [z]
    dsimp only
    omega
/-! ### worths -/
/-- the worth of a fall -/
structure WorthOk (T : List (Nat × Nat)) (f : List Bool) (t b : Nat) : Prop where
  pos : 0 < b
  low1 : Nat.gcd t b = 1
  feas : Feas (arr T f) t b
  nil : T = [] → t = 1 ∧ b = 1
  least : T ≠ [] → ∀ t' b' : Int, 0 < b' → Feas (arr T f) t' b' → (t : Int) * b' ≤ t' * b
  le : t ≤ 5
  half : T ≠ [] → 2 * b ≤ t
/-- a ratio that is a bound -/
structure LowOk (T : List (Nat × Nat)) (f : List Bool) (t b : Nat) : Prop where
  pos : 0 < b
  low1 : Nat.gcd t b = 1
  least : ∀ t' b' : Int, 0 < b' → Feas (arr T f) t' b' → (t : Int) * b' ≤ t' * b
  le : t ≤ 5
  half : 2 * b ≤ t
theorem ring_low {n : Nat} {T : List (Nat × Nat)} {f : List Bool} {R : List Nat} (hw : WebOk n T) (hl : T.length = f.length) (hac : Acyc (arr T f)) (hR : Ring T R) (hn : R.length ≤ n) :
    LowOk T f (R.length / Nat.gcd R.length (min (alongM T f R) (R.length - alongM T f R))) (min (alongM T f R) (R.length - alongM T f R) / Nat.gcd R.length (min (alongM T f R) (R.length - alongM T f R))) ∧
    ∀ t b : Nat, ((R.length : Int) - (alongM T f R : Int)) * t < (R.length : Int) * b →
      min (alongM T f R) (R.length - alongM T f R) / Nat.gcd R.length (min (alongM T f R) (R.length - alongM T f R)) * t < R.length / Nat.gcd R.length (min (alongM T f R) (R.length - alongM T f R)) * b := by
  obtain ⟨s1, s2⟩ := hR.both hw hl hac
  have n5 := hw.most
  have bnd := fun (x : Nat → Int) (t' b' : Int) (hk : Keep (arr T f) x t' b') => hR.bound hw hl hk
  generalize alongM T f R = s at *
  generalize R.length = L at *
  have hm : 0 < min s (L - s) := by omega
  have hm2 : 2 * min s (L - s) ≤ L := by omega
  have hm3 : min s (L - s) = s ∨ min s (L - s) = L - s := by omega
  generalize hM : min s (L - s) = m at *
  have hg : 0 < Nat.gcd L m := Nat.gcd_pos_of_pos_left _ (by omega)
  have d1 : Nat.gcd L m * (L / Nat.gcd L m) = L := Nat.mul_div_cancel' (Nat.gcd_dvd_left ..)
  have d2 : Nat.gcd L m * (m / Nat.gcd L m) = m := Nat.mul_div_cancel' (Nat.gcd_dvd_right ..)
  have hc : Nat.gcd (L / Nat.gcd L m) (m / Nat.gcd L m) = 1 := Nat.coprime_div_gcd_div_gcd hg
  generalize Nat.gcd L m = g at *
  generalize L / g = t1 at *
  generalize m / g = b1 at *
  have hb : 0 < b1 := by
    cases b1 with
    | zero => simp at d2; omega
    | succ k => omega
  have gi : (0 : Int) < (g : Int) := by omega
  have dL : (L : Int) = g * t1 := by rw [← d1, Int.natCast_mul]
  have dM : (m : Int) = g * b1 := by rw [← d2, Int.natCast_mul]
  refine ⟨⟨hb, hc, fun t' b' hb' hf => ?_, ?_, ?_⟩, fun t b h => ?_⟩
  · obtain ⟨x, hk⟩ := hf
    obtain ⟨b1', b2'⟩ := bnd x t' b' hk
    have e : (L : Int) * b' ≤ (m : Int) * t' := by
      rcases hm3 with z | z
      · rw [z]
        exact b1'
      · have e2 : (m : Int) = (L : Int) - (s : Int) := by omega
        rw [e2]
        exact b2'
    rw [dL, dM, Int.mul_assoc, Int.mul_assoc] at e
    have := Int.le_of_mul_le_mul_left e gi
    rw [Int.mul_comm t' (b1 : Int)]
    exact this
  · refine Nat.le_trans ?_ (Nat.le_trans hn n5)
    rw [← d1]
    exact Nat.le_mul_of_pos_left _ hg
  · have : g * (2 * b1) ≤ g * t1 := by
      rw [d1, ← Nat.mul_assoc, Nat.mul_comm g 2, Nat.mul_assoc, d2]
      exact hm2
    exact Nat.le_of_mul_le_mul_left this hg
  · have hle : (m : Int) * t ≤ ((L : Int) - (s : Int)) * t := Int.mul_le_mul_of_nonneg_right (by omega) (by omega)
    have h2 : (m : Int) * t < (L : Int) * b := by omega
    rw [dL, dM, Int.mul_assoc, Int.mul_assoc] at h2
    have h3 := Int.lt_of_mul_lt_mul_left h2 (by omega)
    have : ((b1 * t : Nat) : Int) < ((t1 * b : Nat) : Int) := by
      rw [Int.natCast_mul, Int.natCast_mul]
      exact h3
    omega
/-- how far a ratio is from the greatest one -/
def farM (t b : Nat) : Nat := if b = 1 then 10 - 2 * t else 10 - t
theorem far_less {t b t1 b1 : Nat} (h : b1 * t < t1 * b) (hb : 0 < b) (hb1 : 0 < b1) (ht : t ≤ 5) (ht1 : t1 ≤ 5) (h2 : 2 * b ≤ t) (h21 : 2 * b1 ≤ t1) : farM t1 b1 < farM t b := by
  have c : b = 1 ∨ b = 2 := by omega
  have c1 : b1 = 1 ∨ b1 = 2 := by omega
  unfold farM
  rcases c with rfl | rfl <;> rcases c1 with rfl | rfl <;> simp <;> omega
theorem low_two {T : List (Nat × Nat)} {f : List Bool} (hl : T.length = f.length) (h : T ≠ []) : LowOk T f 2 1 := by
  refine ⟨by omega, by decide, fun t' b' hb' hf => ?_, by omega, by omega⟩
  obtain ⟨x, hk⟩ := hf
  cases T with
  | nil => exact absurd rfl h
  | cons e T =>
    rcases arr_has hl (List.mem_cons_self ..) with z | z
    · have := hk _ z
      simp only [Int.natCast_one]
      omega
    · have := hk _ z
      simp only [Int.natCast_one]
      omega
theorem worth_one {T : List (Nat × Nat)} {f : List Bool} {t b t1 b1 : Nat} (hT : T ≠ []) (h : WorthOk T f t b) {g : List Bool} (h1 : WorthOk T g t1 b1) (e : ∀ t' b' : Int, Feas (arr T f) t' b' ↔ Feas (arr T g) t' b') : t = t1 ∧ b = b1 := by
  have q1 := h.least hT t1 b1 (by have := h1.pos; omega) ((e _ _).mpr h1.feas)
  have q2 := h1.least hT t b (by have := h.pos; omega) ((e _ _).mp h.feas)
  have q : t * b1 = t1 * b := by
    have : ((t * b1 : Nat) : Int) = ((t1 * b : Nat) : Int) := by
      rw [Int.natCast_mul, Int.natCast_mul]
      omega
    omega
  have d1 : t ∣ t1 := by
    exact Nat.Coprime.dvd_of_dvd_mul_right (n := b) h.low1 ⟨b1, q.symm⟩
  have d2 : t1 ∣ t := by
    exact Nat.Coprime.dvd_of_dvd_mul_right (n := b1) h1.low1 ⟨b, q⟩
  have et : t = t1 := Nat.dvd_antisymm d1 d2
  refine ⟨et, ?_⟩
  subst et
  have ht : 0 < t := by
    have := h.half hT
    have := h.pos
    omega
  exact (Nat.eq_of_mul_eq_mul_left ht q).symm
end K40

set_option Elab.async false
set_option linter.all false
set_option maxRecDepth 100000
set_option maxHeartbeats 4000000
namespace K40
open PySem PySem.Spec PyProof.Rows L2
section
variable {P : Program} {w : World} {K : PySem.W.Frag} {mg : Str → Option Value} {base : Heap}
/-! ### worth -/
theorem lay_ties (xss : List (List Int)) : SeqAt.shaped (.tuple (xss.map dT)) = true := by
  have h := dep_dTs xss
  show ((PyData.tuple (xss.map dT)).canLay0 && decide ((PyData.tuple (xss.map dT)).depth ≤ 64)) = true
  have e : (PyData.tuple (xss.map dT)).canLay0 = true := by simp [PyData.canLay0, lay_dTs xss]
  rw [e, Bool.true_and]
  refine decide_eq_true ?_
  simp only [PyData.depth]
  omega
theorem eqv_nil (T : List (Nat × Nat)) : PyData.eqv (.tuple ((T.map pz).map dT)) (.tuple []) = decide (T = []) := by
  cases T with
  | nil => simp [PyData.eqv, PyData.eqvAll]
  | cons e T => simp [PyData.eqv, PyData.eqvAll]
/-- what worth holds ahead of raised -/
def Start (T : List (Nat × Nat)) (f : List Bool) (t b : Nat) : Prop := (Feas (arr T f) t b → WorthOk T f t b) ∧ (LowOk T f t b ∨ Feas (arr T f) t b)
theorem start_low {T : List (Nat × Nat)} {f : List Bool} {t b : Nat} (hT : T ≠ []) (h : LowOk T f t b) : Start T f t b :=
  ⟨fun hf => ⟨h.pos, h.low1, hf, fun z => absurd z hT, fun _ => h.least, h.le, fun _ => h.half⟩, .inl h⟩
theorem start_nil (f : List Bool) : Start [] f 1 1 := by
  have hf : Feas (arr [] f) (1 : Nat) (1 : Nat) := ⟨fun _ => 0, fun e he => by simp [arr] at he⟩
  exact ⟨fun _ => ⟨by decide, by decide, hf, fun _ => ⟨rfl, rfl⟩, fun z => absurd rfl z, by decide, fun z => absurd rfl z⟩, .inr hf⟩
theorem pass_len (rows : List Row) (n i : Nat) : (bfPass rows (bfAt rows n i)).1.length = n := (fold_len rows ((bfAt rows n i).1, (bfAt rows n i).2, none)).1.trans (bf_len rows n i).1
theorem ring_next {t b n l k : Nat} {T : List (Nat × Nat)} {f : List Bool} {C : List Nat} (hl : T.length = f.length) (hok : WebOk n T) (hs : Start T f t b) (hlate : bfLate (rowsM (arr T f) t b) n n = some l) (hC : C = (bfAt (rowsM (arr T f) t b) n (n + 1)).2)
    (k1 : 1 ≤ k) (k2 : k ≤ n) (k3 : iterC C k (iterC C n l) = iterC C n l) (k4 : ∀ j, 0 < j → j < k → iterC C j (iterC C n l) ≠ iterC C n l) :
    Ring T (metR C k (iterC C n l)) ∧ (metR C k (iterC C n l)).length ≤ n ∧ LowOk T f t b ∧ (((metR C k (iterC C n l)).length : Int) - (alongM T f (metR C k (iterC C n l)) : Int)) * t < ((metR C k (iterC C n l)).length : Int) * b := by
  rcases hs.2 with hlow | ⟨x, hk⟩
  · obtain ⟨ring, hlt⟩ := ring_of_late hok (by omega) hlate hC k1 k3 k4
    have e : (metR C k (iterC C n l)).length = k := by simp [metR]
    rw [e]
    exact ⟨ring, k2, hlow, hlt⟩
  · exact (not_late hok hl (by omega) hk hlate hC k1 k3 k4).elim
theorem ring_some {T : List (Nat × Nat)} {R : List Nat} (h : Ring T R) : T ≠ [] := by
  intro z
  subst z
  have h2 := h.two
  match R, h2 with
  | a :: b :: r, _ =>
    have := h.tied (a, b) (by simp [cyc, rot])
    simp at this
abbrev Nworth : List Str := ["web", "fall", "told", "found", "numbers", "ring", "number"]
theorem scworth : FnScope Nworth ["web", "fall"] (defScope (topS 28)) := ⟨rfl, rfl, rfl, by decide +kernel, rfl, by decide +kernel, by decide +kernel⟩
-- 0 web 1 fall 2 told 3 found 4 numbers 5 ring 6 number
def spWorth : Sp := fun vs H Q _ => ∃ (wv fv : V) (n : Nat) (T : List (Nat × Nat)) (f : List Bool), vs = [wv, fv] ∧ IsWeb H wv n T ∧ Tup H fv (bzs f) ∧ T.length = f.length ∧ WebOk n T ∧ Acyc (arr T f) ∧
  ∀ H' a ta x y (t b : Nat), Same H H' → H' a = some (.tup [.ref ta, x, y]) → H' ta = some (.tup [.int (t : Nat), .int (b : Nat)]) → WorthOk T f t b → Q (.ref a) H'
/-- ahead of each turn of worth's loop -/
def WInv (H : Hp) (wv fv : V) (n : Nat) (T : List (Nat × Nat)) (f : List Bool) (m : Nat) (σ : L2.St) (H' : Hp) : Prop := ∃ (ta : Addr) (fo num ring : V) (y6 : Option V) (t b : Nat), σ = [some wv, some fv, some (.ref ta), some fo, some num, some ring, y6] ∧ Same H H' ∧ H' ta = some (.tup [.int (t : Nat), .int (b : Nat)]) ∧
  ((∃ N, ring = .non ∧ Tup H' num N ∧ N.length = n ∧ WorthOk T f t b ∧ m = 0) ∨ ∃ (ra : Addr) (R : List Nat), ring = .ref ra ∧ Tup H' ring (nz R) ∧ Ring T R ∧ R.length ≤ n ∧ LowOk T f t b ∧ ((R.length : Int) - (alongM T f R : Int)) * t < (R.length : Int) * b ∧ m = farM t b + 1)
theorem k_worth (T : Tx K mg) : Keeps P w K mg base 5 "worth" ["web", "fall"] spWorth := by
  have khasring := k_hasring (P := P) (w := w) (base := base) T
  have ksomering := k_somering (P := P) (w := w) (base := base) T
  have kringworth := k_ringworth (P := P) (w := w) (base := base) T
  have kraised := k_raised (P := P) (w := w) (base := base) T
  refine T.dworth.keeps scworth (fun vs H Q E h => ?_) (fun fa cdv A outer s H vs Q E hr h => ?_)
  · obtain ⟨wv, fv, n, T, f, rfl, _⟩ := h
    rfl
  obtain ⟨wv, fv, n, W, f, rfl, hw, hf, hl, hok, hac, q⟩ := h
  obtain ⟨a, t, tv, rfl, ha, ht, hi⟩ := id hw
  have h5 := hok.most
  have h8 := hok.ties
  obtain ⟨ps, o, hps, hor, hyes, hno⟩ := web_facts hok
  refine ⟨_, (pss_cons (ps_set (i := 2) scworth.nd rfl (.inl rfl) (pe_tup (pa_cons pe_int (pa_cons pe_int pa_nil))))
    (pss_cons (ps_if (pt_cmpR (op_eqD hr.units) (pe_ix ix_tup (pv 0) pe_int (fun _ _ => rfl)) (pe_tup pa_nil) (by rfl)) (pss_one (ps_set (i := 2) scworth.nd rfl (.inl rfl) (pe_tup (pa_cons pe_int (pa_cons pe_int pa_nil))))) pss_nil)
    (pss_cons (ps_set (i := 3) scworth.nd rfl (.inl rfl) pe_non)
    (pss_cons (ps_if (pt_val (pe_k khasring (hr.mono (by decide)) (pa_cons (pv 0) pa_nil))) (pss_cons (ps_set (i := 3) scworth.nd rfl (.inl rfl) (pe_k ksomering (hr.mono (by decide)) (pa_cons (pv 0) pa_nil)))
    (pss_one (ps_set (i := 2) scworth.nd rfl (.inl rfl) (pe_k kringworth (hr.mono (by decide)) (pa_cons (pv 0) (pa_cons (pv 1) (pa_cons (pv 3) pa_nil))))))) pss_nil)
    (pss_cons (ps_asg (pe_k kraised (hr.mono (by decide)) (pa_cons (pv 0) (pa_cons (pv 1) (pa_cons (pe_ix ix_tup (pv 2) pe_int (fun _ _ => rfl)) (pa_cons (pe_ix ix_tup (pv 2) pe_int (fun _ _ => rfl)) pa_nil))))) (pg_tup rfl (pgs_cons (pg_name (i := 4) scworth.nd rfl (.inr rfl)) (pgs_cons (pg_name (i := 5) scworth.nd rfl (.inl rfl)) pgs_nil))))
    (pss_cons (ps_while PassesOwn.never (pt_cmpR op_notN (pv 5) pe_non (nomark _)) (pss_cons (ps_set (i := 3) scworth.nd rfl (.inl rfl) (pv 5))
    (pss_cons (ps_set (i := 2) scworth.nd rfl (.inl rfl) (pe_k kringworth (hr.mono (by decide)) (pa_cons (pv 0) (pa_cons (pv 1) (pa_cons (pv 5) pa_nil)))))
    (pss_one (ps_asg (pe_k kraised (hr.mono (by decide)) (pa_cons (pv 0) (pa_cons (pv 1) (pa_cons (pe_ix ix_tup (pv 2) pe_int (fun _ _ => rfl)) (pa_cons (pe_ix ix_tup (pv 2) pe_int (fun _ _ => rfl)) pa_nil))))) (pg_tup rfl (pgs_cons (pg_name (i := 4) scworth.nd rfl (.inr rfl)) (pgs_cons (pg_name (i := 5) scworth.nd rfl (.inl rfl)) pgs_nil))))))))
    (pss_one (ps_ret (pe_tup (pa_cons (pv 2) (pa_cons (pv 3) (pa_cons (pe_callTy call_tuple_of (by rfl) T.ztuple (by decide +kernel) (pa_cons (pe_lc (own := [("number", 6)]) (g := (gName 6)) (tt := tYes) rfl scworth.nd (pi_tup (pv 4)) (blkOk_by (N := Nworth) (sc := defScope (topS 28)) (by decide +kernel)) (fun _ _ _ _ _ => (pg_name (i := 6) scworth.nd rfl (.inl rfl))) (fun _ _ _ _ _ => pts_nil) (fun _ _ _ _ _ => (pe_op op_sub (pv 6) (pe_callB (r := rMinT K) (cr_minT rfl) (by rfl) T.zmin (by decide +kernel) (pa_cons (pv 4) pa_nil))))) pa_nil)) pa_nil)))))))))))), ?_⟩
  refine ⟨le2, fun t0 nt0 => ?_⟩
  have s0 : Same H (upd H t0 (.tup [.int 2, .int 1])) := same_new nt0
  refine ⟨.ref a, rfl, a, _, 1, .ref t, rfl, rfl, SqT.of (s0 _ _ ha), rfl, Nat.zero_le _, fun em nem => ?_⟩
  have s1 : Same H (upd (upd H t0 (.tup [.int 2, .int 1])) em (.tup [])) := same_step s0 nem
  have ht0 := at_new (o := .tup []) (upd_same (H := H) (a := t0) (o := .tup [.int 2, .int 1])) nem
  refine ⟨.tuple ((W.map pz).map dT), .tuple [], .tup (SqT.of (s1 _ _ ht)) (dp_items (hi.mono (.of s1))), .tup (SqT.of upd_same) .nil, lay_ties _, lay_ties [], _, rfl, ?_⟩
  rw [eqv_nil]
  generalize (upd (upd H t0 (.tup [.int 2, .int 1])) em (.tup [])) = H1 at *
  have nodes : ∀ (H2 : Hp), Same H H2 → IsWeb H2 (.ref a) n W ∧ Tup H2 fv (bzs f) := fun H2 s2 => ⟨hw.mono (.of s2), hf.mono (.of s2)⟩
  have nring : W = [] → ¬ n < W.length + ps.length := fun e z => by
    obtain ⟨R, _, hR, _⟩ := hyes z
    exact ring_some hR e
  refine ite2 (fun e => ?A) (fun e => ?B)
  case' A =>
    have eW : W = [] := of_decide_eq_true e
    refine ⟨le2, fun ta nta => ?A1⟩
  case' A =>
    have s2 : Same H (upd H1 ta (.tup [.int 1, .int 1])) := same_step s1 nta
    have hta : (upd H1 ta (.tup [.int 1, .int 1])) ta = some (.tup [.int ((1 : Nat) : Int), .int ((1 : Nat) : Int)]) := upd_same
    have hst : Start W f 1 1 := by
      rw [eW]
      exact start_nil f
    generalize (upd H1 ta (.tup [.int 1, .int 1])) = H2 at *
    refine ⟨.ref a, rfl, .ref a, n, W, ps, rfl, (nodes _ s2).1, by omega, by omega, hps, fun H3 s3 => ⟨_, rfl, ?A2⟩⟩
  case' A =>
    rw [decide_eq_false (nring eW)]
    refine ite2 (fun e => absurd e (by decide)) (fun _ => ?A3)
  case' A =>
    have s2 := s2.trans s3
    have hta := s3 _ _ hta
    obtain ⟨tt, bb, hta, hst⟩ : ∃ tt bb : Nat, H3 ta = some (.tup [.int (tt : Nat), .int (bb : Nat)]) ∧ Start W f tt bb := ⟨_, _, hta, hst⟩
  case' B =>
    have eW : W ≠ [] := fun z => e (decide_eq_true z)
    refine ⟨.ref a, rfl, .ref a, n, W, ps, rfl, (nodes _ s1).1, by omega, by omega, hps, fun H3 s3 => ⟨_, rfl, ?B1⟩⟩
  case' B =>
    have s13 := s1.trans s3
    refine ite2 (fun e => ?C) (fun e => ?D)
  case' C =>
    obtain ⟨R, rfl, hR, hRn⟩ := hyes (of_decide_eq_true e)
    refine ⟨.ref a, rfl, .ref a, n, W, some R, rfl, (nodes _ s13).1, by omega, by omega, hor, (fun z => nomatch z), fun R' H4 v4 eR s4 hv4 => ?C1⟩
  case' C =>
    cases eR
    have s14 := s13.trans s4
    obtain ⟨hboth1, hboth2⟩ := hR.both hok hl hac
    have two := hR.two
    refine ⟨.ref a, rfl, fv, rfl, v4, rfl, .ref a, fv, v4, n, W, f, R, rfl, (nodes _ s14).1, (nodes _ s14).2, hl, by omega, hv4, two, by omega, by omega, fun H2 v5 s5 hv5 => ?C2⟩
  case' C =>
    obtain ⟨ta, rfl, hta⟩ := hv5
    have s2 := s14.trans s5
    have hst := start_low eW (ring_low hok hl hac hR hRn).1
    obtain ⟨tt, bb, hta, hst⟩ : ∃ tt bb : Nat, H2 ta = some (.tup [.int (tt : Nat), .int (bb : Nat)]) ∧ Start W f tt bb := ⟨_, _, hta, hst⟩
  case' D =>
    have s2 := s13
    have hta : H3 t0 = some (.tup [.int ((2 : Nat) : Int), .int ((1 : Nat) : Int)]) := s3 _ _ ht0
    have hst : Start W f 2 1 := start_low eW (low_two hl eW)
    obtain ⟨tt, bb, hta, hst⟩ : ∃ tt bb : Nat, H3 t0 = some (.tup [.int (tt : Nat), .int (bb : Nat)]) ∧ Start W f tt bb := ⟨_, _, hta, hst⟩
  all_goals
    refine ⟨.ref a, rfl, fv, rfl, _, rfl, _, _, 0, .int (tt : Nat), rfl, rfl, SqT.of hta, rfl, _, rfl, _, _, 1, .int (bb : Nat), rfl, rfl, SqT.of hta, rfl, .ref a, fv, tt, bb, n, W, f, rfl, (nodes _ s2).1, (nodes _ s2).2, hl, by omega, by omega, (fun r hr => ⟨(rows_ok hok r hr).1, (rows_ok hok r hr).2.1⟩), (fun i hi hn H4 a4 xv s4 ha4 hx => ?_), (fun l k C _ hlate hC k1 k2 k3 k4 H4 a4 rv s4 ha4 hr => ?_)⟩
  all_goals
    first
    | refine ⟨a4, [xv, .non], rfl, SqT.of ha4, rfl, xv, [.non], rfl, .non, [], rfl, rfl, WInv H (.ref a) fv n W f, ⟨0, _, _, xv, .non, none, tt, bb, rfl, s2.trans s4, s4 _ _ hta, .inl ⟨_, rfl, hx, pass_len _ n i, hst.1 ⟨_, keep_of_none hn⟩, rfl⟩⟩, fun m σ H' hW => ?_⟩
    | have nx := ring_next hl hok hst hlate hC k1 k2 k3 k4
      refine ⟨a4, [.non, rv], rfl, SqT.of ha4, rfl, .non, [rv], rfl, rv, [], rfl, rfl, WInv H (.ref a) fv n W f, ⟨farM tt bb + 1, _, _, .non, rv, none, tt, bb, rfl, s2.trans s4, s4 _ _ hta, .inr ⟨hr.choose, metR C k (iterC C n l), hr.choose_spec.1, hr, nx.1, nx.2.1, nx.2.2.1, nx.2.2.2, rfl⟩⟩, fun m σ H' hW => ?_⟩
  all_goals
    obtain ⟨ta', fo, num, ring, y6, tt', bb', rfl, sm, hta', hor2⟩ := hW
    refine ⟨ring, rfl, rfl, _, rfl, ?_⟩
    rcases hor2 with ⟨N', rfl, hN, lN, hWok, rfl⟩ | ⟨ra, R', rfl, hr', hR', hRn', hlow', hlt', rfl⟩
    · refine ite2 (fun e => absurd e (by simp)) (fun _ => ?_)
      obtain ⟨an, rfl, han⟩ := hN
      refine ⟨.ref ta', rfl, fo, rfl, .ref an, rfl, an, rfl, ⟨_, SqT.of han⟩, fun D hD => ?_⟩
      refine lc_it (walk_tup (xs := N'.map V.int)) (fun j H2 => Same H' H2 ∧ ∃ zs, H2 D = some (.lst zs) ∧ zs.length = j) ⟨same_new hD, [], upd_same, rfl⟩
        (fun j H2 hj pp => SqT.of (pp.1 _ _ han)) (fun j y H3 H5 hj pp yy => ?_) (fun H2 pp => ?_)
      · obtain ⟨sm3, zs, hD3, lz⟩ := pp
        obtain ⟨rfl, ey⟩ := yy
        obtain ⟨z, hz, rfl⟩ := Option.map_eq_some_iff.mp (show (N'[j]?).map V.int = some y by rw [← List.getElem?_map]; exact ey)
        rw [List.length_map] at hj
        refine ⟨rfl, .int z, rfl, .ref an, rfl, an, N', rfl, SqT.of (sm3 _ _ han), (fun q => ?_), fun m hm hmin => ⟨_, _, rfl, rfl, zs, hD3, szlt _ (by omega), same_mut sm3 hD, _, upd_same, ?_⟩⟩
        · rw [q] at hz
          simp at hz
        · rw [List.length_append, List.length_singleton, lz]
      · obtain ⟨sm3, zs, hD3, lz⟩ := pp
        refine ⟨D, _, rfl, .inl ⟨SqL.of hD3, fun lt nlt => ⟨le3, fun lr nlr => ?_⟩⟩⟩
        have s5 : Same H' (upd (upd H2 lt (.tup zs)) lr (.tup [.ref ta', fo, .ref lt])) := same_step (same_step sm3 nlt) nlr
        exact q _ lr ta' fo (.ref lt) tt' bb' (sm.trans s5) upd_same (s5 _ _ hta') hWok
    · refine ite2 (fun _ => ?_) (fun e => absurd (by simp) e)
      refine ⟨fun σ' H2 => ∃ m', m' < farM tt' bb' + 1 ∧ WInv H (.ref a) fv n W f m' σ' H2, fun σ' H2 hN => hN, ?_⟩
      obtain ⟨hboth1, hboth2⟩ := hR'.both hok hl hac
      have two := hR'.two
      obtain ⟨low1, low2⟩ := ring_low hok hl hac hR' hRn'
      have low3 := low2 tt' bb' hlt'
      refine ⟨.ref ra, rfl, .ref a, rfl, fv, rfl, .ref ra, rfl, .ref a, fv, .ref ra, n, W, f, R', rfl, (nodes _ sm).1, (nodes _ sm).2, hl, by omega, hr', two, by omega, by omega, fun H5 v5 s5 hv5 => ?_⟩
      obtain ⟨ta5, rfl, hta5⟩ := hv5
      have sm5 := sm.trans s5
      have hst5 := start_low (ring_some hR') low1
      generalize R'.length / Nat.gcd R'.length (min (alongM W f R') (R'.length - alongM W f R')) = t5 at *
      generalize min (alongM W f R') (R'.length - alongM W f R') / Nat.gcd R'.length (min (alongM W f R') (R'.length - alongM W f R')) = b5 at *
      have hfar := far_less low3 hlow'.pos low1.pos hlow'.le low1.le hlow'.half low1.half
      refine ⟨.ref a, rfl, fv, rfl, .ref ta5, rfl, ta5, _, 0, .int (t5 : Nat), rfl, rfl, SqT.of hta5, rfl, .ref ta5, rfl, ta5, _, 1, .int (b5 : Nat), rfl, rfl, SqT.of hta5, rfl, .ref a, fv, t5, b5, n, W, f, rfl, (nodes _ sm5).1, (nodes _ sm5).2, hl, by omega, by omega, (fun r hr => ⟨(rows_ok hok r hr).1, (rows_ok hok r hr).2.1⟩), (fun i hi hn H6 a6 xv s6 ha6 hx => ?_), (fun l k C _ hlate hC k1 k2 k3 k4 H6 a6 rv s6 ha6 hr6 => ?_)⟩
      · exact ⟨a6, [xv, .non], rfl, SqT.of ha6, rfl, xv, [.non], rfl, .non, [], rfl, rfl, 0, by omega, _, _, xv, .non, _, t5, b5, rfl, sm5.trans s6, s6 _ _ hta5, .inl ⟨_, rfl, hx, pass_len _ n i, hst5.1 ⟨_, keep_of_none hn⟩, rfl⟩⟩
      · have nx := ring_next hl hok hst5 hlate hC k1 k2 k3 k4
        exact ⟨a6, [.non, rv], rfl, SqT.of ha6, rfl, .non, [rv], rfl, rv, [], rfl, rfl, farM t5 b5 + 1, by omega, _, _, .non, rv, _, t5, b5, rfl, sm5.trans s6, s6 _ _ hta5, .inr ⟨hr6.choose, metR C k (iterC C n l), hr6.choose_spec.1, hr6, nx.1, nx.2.1, nx.2.2.1, nx.2.2.2, rfl⟩⟩
end
end K40

set_option Elab.async false
set_option linter.all false
set_option maxRecDepth 100000
set_option maxHeartbeats 4000000
namespace K40
open PySem PySem.Spec PyProof.Rows L2
section
variable {P : Program} {w : World} {K : PySem.W.Frag} {mg : Str → Option Value} {base : Heap}
/-! ### shortest -/
theorem ceil_nat (t b : Nat) (hb : 0 < b) : ∃ m : Nat, (0 : Int) - ((0 : Int) - (t : Int)).fdiv (b : Int) = (m : Int) ∧ t ≤ m * b ∧ m * b < t + b := by
  have hb' : (0 : Int) < (b : Int) := by omega
  rw [Int.fdiv_eq_ediv_of_nonneg _ (by omega)]
  have h1 := Int.mul_ediv_add_emod ((0 : Int) - (t : Int)) (b : Int)
  have h2 := Int.emod_nonneg ((0 : Int) - (t : Int)) (show (b : Int) ≠ 0 by omega)
  have h3 := Int.emod_lt_of_pos ((0 : Int) - (t : Int)) hb'
  have hq : ((0 : Int) - (t : Int)) / (b : Int) ≤ 0 := by
    have : ((0 : Int) - (t : Int)) / (b : Int) ≤ 0 / (b : Int) := Int.ediv_le_ediv hb' (by omega)
    rw [Int.zero_ediv] at this
    exact this
  generalize ((0 : Int) - (t : Int)) / (b : Int) = q at *
  generalize ((0 : Int) - (t : Int)) % (b : Int) = r at *
  refine ⟨(0 - q).toNat, by omega, ?_, ?_⟩
  · have e : (((0 - q).toNat * b : Nat) : Int) = -((b : Int) * q) := by
      rw [Int.natCast_mul, Int.toNat_of_nonneg (by omega), Int.zero_sub, Int.neg_mul, Int.mul_comm]
    omega
  · have e : (((0 - q).toNat * b : Nat) : Int) = -((b : Int) * q) := by
      rw [Int.natCast_mul, Int.toNat_of_nonneg (by omega), Int.zero_sub, Int.neg_mul, Int.mul_comm]
    omega
theorem feas_floor {A : List (Nat × Nat)} {t b m : Nat} (h : Feas A t b) (hb : 0 < b) (hm : t ≤ m * b) : Feas A (m : Nat) (1 : Nat) := by
  obtain ⟨x, hx⟩ := h
  have hb' : (0 : Int) < (b : Int) := by omega
  refine ⟨fun p => x p / (b : Int), fun e he => ?_⟩
  obtain ⟨h1, h2⟩ := hx e he
  dsimp only
  constructor
  · have : (x e.1 + 1 * (b : Int)) / (b : Int) ≤ x e.2 / (b : Int) := Int.ediv_le_ediv hb' (by omega)
    rw [Int.add_mul_ediv_right _ _ (by omega)] at this
    simp only [Int.natCast_one]
    omega
  · have hmi : (t : Int) ≤ (m : Int) * (b : Int) := by
      rw [← Int.natCast_mul]
      omega
    have e2 : ((m : Int) - 1) * (b : Int) = (m : Int) * (b : Int) - b := by
      rw [Int.sub_mul, Int.one_mul]
    have : x e.2 / (b : Int) ≤ (x e.1 + ((m : Int) - 1) * (b : Int)) / (b : Int) := Int.ediv_le_ediv hb' (by omega)
    rw [Int.add_mul_ediv_right _ _ (by omega)] at this
    simp only [Int.natCast_one]
    omega
theorem getD_map0 {xs : List Int} {g : Int → Int} (h : g 0 = 0) (p : Nat) : (xs.map g).getD p 0 = g (xs.getD p 0) := by
  rw [List.getD_eq_getElem?_getD, List.getD_eq_getElem?_getD, List.getElem?_map]
  cases xs[p]? with
  | none => exact h.symm
  | some z => rfl
theorem hued_pot {T : List (Nat × Nat)} {f : List Bool} {ns : List Int} {m : Nat} {c0 : Int} (hm : 0 < m) (h : Keep (arr T f) (fun p => ns.getD p 0) (m : Nat) (1 : Nat)) :
    Pot T f (huedM T (ns.map fun z => z.fmod (m : Int))) (fun p => c0 - ns.getD p 0 / (m : Int)) := by
  intro k e d d' he hd hd'
  obtain ⟨h1, h2⟩ := h _ (List.mem_of_getElem? (arr_at2 he hd))
  dsimp only at h1 h2 ⊢
  simp only [Int.natCast_one] at h1 h2
  have hm' : (0 : Int) < (m : Int) := by omega
  unfold huedM at hd'
  rw [List.getElem?_map, he] at hd'
  have ed := (Option.some.inj hd').symm
  dsimp only at ed
  have hz : (0 : Int).fmod (m : Int) = 0 := Int.zero_fmod _
  rw [getD_map0 hz, getD_map0 hz, Int.fmod_eq_emod_of_nonneg _ (by omega), Int.fmod_eq_emod_of_nonneg _ (by omega)] at ed
  have key : ∀ p q : Nat, 1 ≤ ns.getD q 0 - ns.getD p 0 → ns.getD q 0 - ns.getD p 0 ≤ (m : Int) - 1 → (ns.getD q 0 / (m : Int) = ns.getD p 0 / (m : Int) ∧ ns.getD p 0 % (m : Int) < ns.getD q 0 % (m : Int)) ∨ (ns.getD q 0 / (m : Int) = ns.getD p 0 / (m : Int) + 1 ∧ ns.getD q 0 % (m : Int) < ns.getD p 0 % (m : Int)) := by
    intro p q g1 g2
    generalize ns.getD p 0 = a at *
    generalize ns.getD q 0 = b at *
    have e1 := Int.mul_ediv_add_emod a (m : Int)
    have e2 := Int.mul_ediv_add_emod b (m : Int)
    have l1 : a / (m : Int) ≤ b / (m : Int) := Int.ediv_le_ediv hm' (by omega)
    have l2 : b / (m : Int) ≤ (a + 1 * (m : Int)) / (m : Int) := Int.ediv_le_ediv hm' (by omega)
    rw [Int.add_mul_ediv_right _ _ (by omega)] at l2
    by_cases z : b / (m : Int) = a / (m : Int)
    · rw [z] at e2
      exact .inl ⟨z, by omega⟩
    · have z2 : b / (m : Int) = a / (m : Int) + 1 := by omega
      rw [z2, Int.mul_add, Int.mul_one] at e2
      exact .inr ⟨z2, by omega⟩
  have hk := key _ _ h1 h2
  cases d with
  | true =>
    have e1 : ao e true = e := rfl
    rw [e1] at hk ⊢
    rcases hk with ⟨z1, z2⟩ | ⟨z1, z2⟩
    · rw [decide_eq_true z2] at ed
      rw [ed, if_pos rfl]
      omega
    · rw [decide_eq_false (by omega)] at ed
      rw [ed, if_neg (by decide)]
      omega
  | false =>
    have e1 : ao e false = (e.2, e.1) := rfl
    rw [e1] at hk ⊢
    dsimp only at hk ⊢
    rcases hk with ⟨z1, z2⟩ | ⟨z1, z2⟩
    · rw [decide_eq_false (by omega)] at ed
      rw [ed, if_pos rfl]
      omega
    · rw [decide_eq_true z2] at ed
      rw [ed, if_neg (by decide)]
      omega
theorem hued_len (T : List (Nat × Nat)) (x : List Int) : T.length = (huedM T x).length := by
  unfold huedM
  rw [List.length_map]
theorem rows_le {A : List (Nat × Nat)} {t b : Int} (hb : b ≤ t) (h0 : 0 ≤ t) {r : Row} (h : r ∈ rowsM A t b) : r.2.2 ≤ t := by
  rcases rows_mem (u := r.1) (v := r.2.1) (w := r.2.2) h with ⟨_, e⟩ | ⟨_, e⟩ <;> omega
abbrev Nshortest : List Str := ["web", "fall", "top", "bottom", "many", "numbers", "ring", "there", "number"]
theorem scshortest : FnScope Nshortest ["web", "fall"] (defScope (topS 31)) := ⟨rfl, rfl, rfl, by decide +kernel, rfl, by decide +kernel, by decide +kernel⟩
-- 0 web 1 fall 2 top 3 bottom 4 many 5 numbers 6 ring 7 there 8 number
def spShortest : Sp := fun vs H Q _ => ∃ (wv fv : V) (n : Nat) (T : List (Nat × Nat)) (f : List Bool), vs = [wv, fv] ∧ IsWeb H wv n T ∧ Tup H fv (bzs f) ∧ T.length = f.length ∧ WebOk n T ∧ Acyc (arr T f) ∧
  ∀ H' a x y (t b m : Nat), Same H H' → H' a = some (.tup [.int ((m : Int) - 1), x, y]) → WorthOk T f t b → t ≤ m * b → m * b < t + b → Q (.ref a) H'
theorem k_shortest (T : Tx K mg) : Keeps P w K mg base 6 "shortest" ["web", "fall"] spShortest := by
  have kworth := k_worth (P := P) (w := w) (base := base) T
  have kraised := k_raised (P := P) (w := w) (base := base) T
  have khued := k_hued (P := P) (w := w) (base := base) T
  have kkin := k_kin (P := P) (w := w) (base := base) T
  refine T.dshortest.keeps scshortest (fun vs H Q E h => ?_) (fun fa cdv A outer s H vs Q E hr h => ?_)
  · obtain ⟨wv, fv, n, T, f, rfl, _⟩ := h
    rfl
  obtain ⟨wv, fv, n, W, f, rfl, hw, hf, hl, hok, hac, q⟩ := h
  obtain ⟨a, t, tv, rfl, ha, ht, hi⟩ := id hw
  have h5 := hok.most
  have h8 := hok.ties
  refine ⟨_, (pss_cons (ps_asg (pe_ix ix_tup (pe_k kworth (hr.mono (by decide)) (pa_cons (pv 0) (pa_cons (pv 1) pa_nil))) pe_int (fun _ _ => rfl)) (pg_tup rfl (pgs_cons (pg_name (i := 2) scshortest.nd rfl (.inl rfl)) (pgs_cons (pg_name (i := 3) scshortest.nd rfl (.inl rfl)) pgs_nil))))
    (pss_cons (ps_set (i := 4) scshortest.nd rfl (.inr rfl) (pe_op op_sub pe_int (pe_op op_fdivN (pe_op op_sub pe_int (pv 2)) (pv 3))))
    (pss_cons (ps_if (pt_cmpR (op_eqD hr.units) (pe_ix ix_tup (pv 0) pe_int (fun _ _ => rfl)) (pe_tup pa_nil) (by rfl)) (pss_one (ps_ret (pe_tup (pa_cons pe_int (pa_cons (pv 1) (pa_cons (pe_lst pa_nil) pa_nil)))))) pss_nil)
    (pss_cons (ps_asg (pe_k kraised (hr.mono (by decide)) (pa_cons (pv 0) (pa_cons (pv 1) (pa_cons (pv 4) (pa_cons pe_int pa_nil))))) (pg_tup rfl (pgs_cons (pg_name (i := 5) scshortest.nd rfl (.inl rfl)) (pgs_cons (pg_name (i := 6) scshortest.nd rfl (.inl rfl)) pgs_nil))))
    (pss_cons (ps_set (i := 7) scshortest.nd rfl (.inl rfl) (pe_k khued (hr.mono (by decide)) (pa_cons (pv 0) (pa_cons (pe_callTy call_tuple_of (by rfl) T.ztuple (by decide +kernel) (pa_cons (pe_lc (own := [("number", 8)]) (g := (gName 8)) (tt := tYes) rfl scshortest.nd (pi_tup (pv 5)) (blkOk_by (N := Nshortest) (sc := defScope (topS 31)) (by decide +kernel)) (fun _ _ _ _ _ => (pg_name (i := 8) scshortest.nd rfl (.inl rfl))) (fun _ _ _ _ _ => pts_nil) (fun _ _ _ _ _ => (pe_op op_modN (pv 8) (pv 4)))) pa_nil)) pa_nil))))
    (pss_one (ps_ret (pe_tup (pa_cons (pe_op op_sub (pv 4) pe_int) (pa_cons (pv 7) (pa_cons (pe_ix ix_tup (pe_k kkin (hr.mono (by decide)) (pa_cons (pv 0) (pa_cons (pv 1) (pa_cons (pv 7) pa_nil)))) pe_int (fun _ _ => rfl)) pa_nil))))))))))), ?_⟩
  refine ⟨.ref a, rfl, fv, rfl, .ref a, fv, n, W, f, rfl, hw, hf, hl, hok, hac, fun H1 a1 ta x y tt bb s1 ha1 hta hW => ?_⟩
  refine ⟨a1, _, 0, .ref ta, rfl, rfl, SqT.of ha1, rfl, ta, [.int (tt : Nat), .int (bb : Nat)], rfl, SqT.of hta, rfl, .int (tt : Nat), [.int (bb : Nat)], rfl, .int (bb : Nat), [], rfl, rfl, ?_⟩
  obtain ⟨m, em, hm1, hm2⟩ := ceil_nat tt bb hW.pos
  have hbb : bb ≤ 5 := by
    by_cases z : W = []
    · have := hW.nil z
      omega
    · have := hW.half z
      have := hW.le
      omega
  refine ⟨.int (tt : Nat), rfl, _, _, rfl, rfl, .int (bb : Nat), rfl, _, _, rfl, rfl, ⟨by have := hW.pos; omega, by omega⟩, _, _, rfl, rfl, ?_⟩
  dsimp only
  rw [em]
  have em : True := trivial
  refine ⟨.ref a, rfl, a, _, 1, .ref t, rfl, rfl, SqT.of (s1 _ _ ha), rfl, Nat.zero_le _, fun em nem => ?_⟩
  have s2 : Same H (upd H1 em (.tup [])) := same_step s1 nem
  refine ⟨.tuple ((W.map pz).map dT), .tuple [], .tup (SqT.of (s2 _ _ ht)) (dp_items (hi.mono (.of s2))), .tup (SqT.of upd_same) .nil, lay_ties _, lay_ties [], _, rfl, ?_⟩
  rw [eqv_nil]
  generalize (upd H1 em (.tup [])) = H2 at *
  refine ite2 (fun e => ?_) (fun e => ?_)
  · have eW : W = [] := of_decide_eq_true e
    obtain ⟨rfl, rfl⟩ := hW.nil eW
    have em1 : m = 1 := by omega
    subst em1
    refine ⟨fv, rfl, Nat.zero_le _, fun l nl => ⟨le3, fun d nd => ?_⟩⟩
    exact q _ d fv (.ref l) 1 1 1 (same_step (same_step s2 nl) nd) upd_same hW (by decide) (by decide)
  · have eW : W ≠ [] := fun z => e (decide_eq_true z)
    have hm5 : m ≤ 5 := by
      have h1 := hW.le
      have h2 := hW.pos
      by_cases z : m ≤ 5
      · exact z
      · have : 6 * bb ≤ m * bb := Nat.mul_le_mul_right _ (by omega)
        omega
    have hm0 : 0 < m := by
      by_cases z : m = 0
      · subst z
        have h1 := hW.half eW
        have h2 := hW.pos
        omega
      · omega
    have hfe := feas_floor hW.feas hW.pos hm1
    obtain ⟨x0, hx0⟩ := id hfe
    refine ⟨.ref a, rfl, fv, rfl, .int (m : Nat), rfl, .ref a, fv, (m : Nat), ((1 : Nat) : Int), n, W, f, rfl, hw.mono (.of s2), hf.mono (.of s2), hl, by omega, by omega, (fun r hr => ⟨(rows_ok hok r hr).1, (rows_ok hok r hr).2.1⟩), (fun i hi hn H4 a4 xv s4 ha4 hx => ?_), (fun l k C _ hlate hC k1 k2 k3 k4 H4 a4 rv s4 ha4 hr => (not_late hok hl (by omega) hx0 hlate hC k1 k3 k4).elim)⟩
    have s24 := s2.trans s4
    refine ⟨a4, [xv, .non], rfl, SqT.of ha4, rfl, xv, [.non], rfl, .non, [], rfl, rfl, ?_⟩
    have hkeep := keep_of_none hn
    have hlen := pass_len (rowsM (arr W f) (m : Nat) ((1 : Nat) : Int)) n i
    have hbound := bf_bound (t := (m : Int)) (n := n) (rows := rowsM (arr W f) (m : Nat) ((1 : Nat) : Int)) (by omega) (fun r hr => ⟨⟨(rows_ok hok r hr).1, (rows_ok hok r hr).2.1⟩, rows_le (by omega) (by omega) hr⟩) (i + 1)
    have hbound : ∀ v, 0 ≤ (bfPass (rowsM (arr W f) (m : Nat) ((1 : Nat) : Int)) (bfAt (rowsM (arr W f) (m : Nat) ((1 : Nat) : Int)) n i)).1.getD v 0 ∧ (bfPass (rowsM (arr W f) (m : Nat) ((1 : Nat) : Int)) (bfAt (rowsM (arr W f) (m : Nat) ((1 : Nat) : Int)) n i)).1.getD v 0 ≤ 480 := by
      intro v
      obtain ⟨b1, b2⟩ := hbound v
      refine ⟨b1, Int.le_trans b2 ?_⟩
      rw [rows_len, arr_len hl]
      have e1 : ((2 * W.length : Nat) : Int) * (m : Int) ≤ 80 := by
        rw [← Int.natCast_mul]
        have : 2 * W.length * m ≤ 16 * 5 := Nat.mul_le_mul (by omega) hm5
        omega
      have e2 : ((i + 1 : Nat) : Int) * (((2 * W.length : Nat) : Int) * (m : Int)) ≤ 6 * 80 := by
        refine Int.mul_le_mul (by omega) e1 ?_ (by omega)
        rw [← Int.natCast_mul]
        omega
      omega
    generalize (bfPass (rowsM (arr W f) (m : Nat) ((1 : Nat) : Int)) (bfAt (rowsM (arr W f) (m : Nat) ((1 : Nat) : Int)) n i)).1 = ns at *
    obtain ⟨an, rfl, han⟩ := hx
    refine ⟨.ref a, rfl, .ref an, rfl, an, rfl, ⟨_, SqT.of han⟩, fun D hD => ?_⟩
    refine lc_it (walk_tup (xs := ns.map V.int)) (fun j H5 => Same H4 H5 ∧ H5 D = some (.lst (((ns.map fun z => z.fmod (m : Int)).take j).map V.int))) ⟨same_new hD, upd_same⟩
      (fun j H5 hj pp => SqT.of (pp.1 _ _ han)) (fun j y H3 H5 hj pp yy => ?_) (fun H5 pp => ?_)
    · obtain ⟨sm3, hD3⟩ := pp
      obtain ⟨rfl, ey⟩ := yy
      obtain ⟨z, hz, rfl⟩ := Option.map_eq_some_iff.mp (show (ns[j]?).map V.int = some y by rw [← List.getElem?_map]; exact ey)
      rw [List.length_map] at hj
      have e1 : (ns.map fun z => z.fmod (m : Int))[j]? = some (z.fmod (m : Int)) := by rw [List.getElem?_map, hz]; rfl
      refine ⟨rfl, .int z, rfl, .int (m : Nat), rfl, _, _, rfl, rfl, (by omega), _, hD3, szlt _ (by simp; omega), same_mut sm3 hD, ?_⟩
      rw [take_snoc e1, List.map_append]
      exact upd_same
    · obtain ⟨sm3, hD3⟩ := pp
      rw [List.take_of_length_le (by simp)] at hD3
      refine ⟨D, _, rfl, .inl ⟨SqL.of hD3, fun lt nlt => ?_⟩⟩
      have s5 : Same H4 (upd H5 lt (.tup ((ns.map fun z => z.fmod (m : Int)).map V.int))) := same_step sm3 nlt
      have hlt : (upd H5 lt (.tup ((ns.map fun z => z.fmod (m : Int)).map V.int))) lt = some (.tup ((ns.map fun z => z.fmod (m : Int)).map V.int)) := upd_same
      generalize (upd H5 lt (.tup ((ns.map fun z => z.fmod (m : Int)).map V.int))) = H6 at *
      have s26 := s24.trans s5
      refine ⟨.ref a, .ref lt, n, W, ns.map fun z => z.fmod (m : Int), rfl, hw.mono (.of s26), ⟨lt, rfl, hlt⟩, (fun e he => ?_), by omega, fun H7 gv s7 hgv => ?_⟩
      · have := hok.low e he
        rw [List.length_map, hlen]
        omega
      have s27 := s26.trans s7
      refine ⟨.int (m : Nat), rfl, _, _, rfl, rfl, gv, rfl, .ref a, rfl, fv, rfl, gv, rfl, .ref a, fv, gv, n, W, f, huedM W (ns.map fun z => z.fmod (m : Int)), (fun p => 500 - ns.getD p 0 / (m : Int)), rfl, hw.mono (.of s27), hf.mono (.of s27), hgv, hl, hued_len _ _, by omega, hok.pos, by omega, hok.low, hued_pot hm0 hkeep, (fun p hp => ?_), hac, fun H8 a8 x8 y8 s8 ha8 => ?_⟩
      · obtain ⟨b1, b2⟩ := hbound p
        have hmi : (0 : Int) < (m : Int) := by omega
        have c1 : 0 / (m : Int) ≤ ns.getD p 0 / (m : Int) := Int.ediv_le_ediv hmi b1
        have c2 : ns.getD p 0 / (m : Int) ≤ ns.getD p 0 := Int.ediv_le_self _ b1
        rw [Int.zero_ediv] at c1
        show 0 ≤ 500 - ns.getD p 0 / (m : Int) ∧ 500 - ns.getD p 0 / (m : Int) ≤ 1000
        generalize ns.getD p 0 / (m : Int) = z at *
        omega
      · refine ⟨a8, _, 1, y8, rfl, rfl, SqT.of ha8, rfl, le3, fun d nd => ?_⟩
        exact q _ d gv y8 tt bb m (same_step (s27.trans s8) nd) upd_same hW hm1 hm2
end
end K40

set_option Elab.async false
set_option linter.all false
set_option maxRecDepth 100000
set_option maxHeartbeats 4000000
namespace K40
open PySem PySem.Spec PyProof.Rows L2
section
variable {P : Program} {w : World} {K : PySem.W.Frag} {mg : Str → Option Value} {base : Heap}
/-! ### draws -/
/-- what draws hold -/
def PoolOk (H : Hp) (pa : Addr) : Prop := ∃ p0 p1 p2 : Int, H pa = some (.lst [.int p0, .int p1, .int p2]) ∧ 0 ≤ p0
/-- all but one thing stays -/
def Fr (H H' : Hp) (pa : Addr) : Prop := ∀ c o, c ≠ pa → H c = some o → H' c = some o
theorem Fr.trans {H H1 H2 : Hp} {pa : Addr} (a : Fr H H1 pa) (b : Fr H1 H2 pa) : Fr H H2 pa := fun c o h e => b c o h (a c o h e)
theorem Fr.refl (H : Hp) (pa : Addr) : Fr H H pa := fun _ _ _ h => h
theorem Fr.of {H H' : Hp} (pa : Addr) (e : Same H H') : Fr H H' pa := fun c o _ h => e c o h
theorem Fr.new {H H' : Hp} {pa p : Addr} {o : HO} (e : Fr H H' pa) (h : H' p = none) : Fr H (upd H' p o) pa := e.trans (.of pa (same_new h))
theorem Fr.mut {H H' : Hp} {pa p : Addr} {o : HO} (e : Fr H H' pa) (h : H p = none) : Fr H (upd H' p o) pa := fun c x hc q => by
  rw [upd_ne (ne_of_none q h)]
  exact e c x hc q
theorem Fr.pool {H H' : Hp} {pa : Addr} {o : HO} (e : Fr H H' pa) : Fr H (upd H' pa o) pa := fun c x hc q => by
  rw [upd_ne hc]
  exact e c x hc q
theorem PoolOk.ne {H : Hp} {pa b : Addr} (h : PoolOk H pa) (n : H b = none) : pa ≠ b := by
  obtain ⟨_, _, _, h1, _⟩ := h
  exact ne_of_none h1 n
theorem PoolOk.at {H H' : Hp} {pa : Addr} (h : PoolOk H pa) (e : H' pa = H pa) : PoolOk H' pa := by
  obtain ⟨a, b, c, h1, h2⟩ := h
  exact ⟨a, b, c, e.trans h1, h2⟩
theorem Fr.tup {H H' : Hp} {pa : Addr} (e : Fr H H' pa) (h : PoolOk H pa) : TupSame H H' := fun a vs q => e a _ (fun z => by
  obtain ⟨_, _, _, h1, _⟩ := h
  rw [z, h1] at q
  cases q) q
abbrev Nlawleft : List Str := ["cell"]
theorem sclawleft : FnScope Nlawleft ["cell"] (defScope (topS 33)) := ⟨rfl, rfl, rfl, by decide +kernel, rfl, by decide +kernel, by decide +kernel⟩
-- 0 cell
def spLeft : Sp := fun vs H Q _ => ∃ z : Int, vs = [.int z] ∧ ∀ H' l, Same H H' → H l = none → PoolOk H' l → Q (.ref l) H'
theorem big_ne : (10 ^ Int.toNat 64 * 10 ^ Int.toNat 64 * 10 ^ Int.toNat 64 * 10 ^ Int.toNat 64 : Int) ≠ 0 := by decide +kernel
theorem k_lawleft (T : Tx K mg) : Keeps P w K mg base 1 "_law_left" ["cell"] spLeft := by
  refine T.dlawleft.keeps sclawleft (fun vs H Q E h => ?_) (fun fa cdv A outer s H vs Q E hr h => ?_)
  · obtain ⟨z, rfl, _⟩ := h
    rfl
  obtain ⟨z, rfl, q⟩ := h
  refine ⟨_, (pss_cons (ps_set (i := 0) sclawleft.nd rfl (.inl rfl) (pe_op op_modN (pv 0) (pe_op op_mulW (pe_op op_mulW (pe_op op_mulW (pe_op op_pow pe_int pe_int) (pe_op op_pow pe_int pe_int)) (pe_op op_pow pe_int pe_int)) (pe_op op_pow pe_int pe_int))))
    (pss_one (ps_ret (pe_lst (pa_cons (pe_callB (call_max2 rfl) (by rfl) T.zmax (by decide +kernel) (pa_cons pe_int (pa_cons (pe_op op_sub (pv 0) (pe_op op_pow pe_int pe_int)) pa_nil))) (pa_cons (pe_op op_modN (pv 0) (pe_op op_pow pe_int pe_int)) (pa_cons pe_int pa_nil))))))), ?_⟩
  have cp : CPow 10 64 := ⟨by decide, by decide, by decide⟩
  refine ⟨.int z, rfl, 10, 64, rfl, rfl, cp, 10, 64, rfl, rfl, cp, _, _, rfl, rfl, (by unfold CMulW; decide +kernel), 10, 64, rfl, rfl, cp, _, _, rfl, rfl, (by unfold CMulW; decide +kernel), 10, 64, rfl, rfl, cp, _, _, rfl, rfl, (by unfold CMulW; decide +kernel), _, _, rfl, rfl, big_ne, ?_⟩
  obtain ⟨y, ey⟩ : ∃ y, y = z.fmod (10 ^ Int.toNat 64 * 10 ^ Int.toNat 64 * 10 ^ Int.toNat 64 * 10 ^ Int.toNat 64) := ⟨_, rfl⟩
  dsimp only
  rw [← ey]
  have cp2 : CPow 10 18 := ⟨by decide, by decide, by decide⟩
  refine ⟨.int y, rfl, 10, 18, rfl, rfl, cp2, _, _, rfl, rfl, 0, _, rfl, .int y, rfl, 10, 18, rfl, rfl, cp2, _, _, rfl, rfl, (show (10 ^ Int.toNat 18 : Int) ≠ 0 by decide +kernel), le3, fun l nl => ?_⟩
  refine q _ l (same_new nl) nl ⟨_, _, _, upd_same, ?_⟩
  split <;> omega
abbrev Nlawnext : List Str := ["pool", "base", "digit", "close", "stir"]
theorem sclawnext : FnScope Nlawnext ["pool", "base"] (defScope (topS 34)) := ⟨rfl, rfl, rfl, by decide +kernel, rfl, by decide +kernel, by decide +kernel⟩
-- 0 pool 1 base 2 digit 3 close 4 stir
def spNext : Sp := fun vs H Q _ => ∃ (pa : Addr) (bs : Nat), vs = [.ref pa, .int (bs : Nat)] ∧ PoolOk H pa ∧ 0 < bs ∧ bs < 1000 ∧ ∀ H' (r : Nat), Fr H H' pa → PoolOk H' pa → r < bs → Q (.int (r : Nat)) H'
theorem fmod_nat (z : Int) (bs : Nat) (h : 0 < bs) : ∃ r : Nat, r < bs ∧ z.fmod (bs : Int) = (r : Int) := by
  rw [Int.fmod_eq_emod_of_nonneg _ (by omega)]
  have h1 := Int.emod_nonneg z (show (bs : Int) ≠ 0 by omega)
  have h2 := Int.emod_lt_of_pos z (show (0 : Int) < (bs : Int) by omega)
  exact ⟨(z % (bs : Int)).toNat, by omega, by omega⟩
theorem k_lawnext (T : Tx K mg) : Keeps P w K mg base 1 "_law_next" ["pool", "base"] spNext := by
  refine T.dlawnext.keeps sclawnext (fun vs H Q E h => ?_) (fun fa cdv A outer s H vs Q E hr h => ?_)
  · obtain ⟨pa, bs, rfl, _⟩ := h
    rfl
  obtain ⟨pa, bs, rfl, hp, hb0, hb1, q⟩ := h
  obtain ⟨p0, p1, p2, hpa, hp0⟩ := id hp
  refine ⟨_, (pss_cons (ps_if (pt_cmpR op_gt (pe_ix ix_list (pv 0) pe_int (fun _ _ => rfl)) pe_int (nomark _)) (pss_cons (ps_set (i := 2) sclawnext.nd rfl (.inl rfl) (pe_op op_modN (pe_ix ix_list (pv 0) pe_int (fun _ _ => rfl)) (pv 1)))
    (pss_cons (ps_asg (pe_op op_fdivN (pe_ix ix_list (pv 0) pe_int (fun _ _ => rfl)) (pv 1)) (pg_sub (pv 0) pe_int set_list))
    (pss_one (ps_ret (pv 2))))) pss_nil)
    (pss_cons (ps_asg (pe_op op_add (pe_ix ix_list (pv 0) pe_int (fun _ _ => rfl)) pe_int) (pg_sub (pv 0) pe_int set_list))
    (pss_cons (ps_set (i := 3) sclawnext.nd rfl (.inl rfl) (pe_op op_modN (pe_op op_add (pe_ix ix_list (pv 0) pe_int (fun _ _ => rfl)) (pe_op op_mul pe_int (pe_ix ix_list (pv 0) pe_int (fun _ _ => rfl)))) pe_int))
    (pss_cons (ps_set (i := 4) sclawnext.nd rfl (.inl rfl) (pe_op op_modN (pe_op op_mul (pe_op op_add (pv 3) pe_int) (pe_op op_add (pv 3) pe_int)) pe_int))
    (pss_one (ps_ret (pe_op op_modN (pe_op op_fdivN (pe_op op_modN (pe_op op_mul (pv 4) (pv 4)) pe_int) pe_int) (pv 1)))))))), ?_⟩
  refine ⟨.ref pa, rfl, pa, _, 0, .int p0, rfl, rfl, SqL.of hpa, rfl, _, _, rfl, rfl, _, rfl, ?_⟩
  refine ite2 (fun e => ?_) (fun e => ?_)
  · obtain ⟨r, hr, er⟩ := fmod_nat p0 bs hb0
    refine ⟨.ref pa, rfl, pa, _, 0, .int p0, rfl, rfl, SqL.of hpa, rfl, .int (bs : Nat), rfl, _, _, rfl, rfl, (by omega), ?_⟩
    dsimp only
    rw [er]
    refine ⟨.ref pa, rfl, pa, _, 0, .int p0, rfl, rfl, SqL.of hpa, rfl, .int (bs : Nat), rfl, _, _, rfl, rfl, ⟨by omega, by omega⟩, .ref pa, rfl, pa, _, 0, 0, rfl, rfl, hpa, rfl, .int (r : Nat), rfl, ?_⟩
    refine q _ r (Fr.pool (.refl H pa)) ⟨_, p1, p2, upd_same, ?_⟩ hr
    rw [Int.fdiv_eq_ediv_of_nonneg _ (by omega)]
    exact Int.ediv_nonneg hp0 (by omega)
  · refine ⟨.ref pa, rfl, pa, _, 2, .int p2, rfl, rfl, SqL.of hpa, rfl, _, _, rfl, rfl, .ref pa, rfl, pa, _, 2, 2, rfl, rfl, hpa, rfl, ?_⟩
    have hpa2 : upd H pa (.lst [.int p0, .int p1, .int (p2 + 1)]) pa = some (.lst [.int p0, .int p1, .int (p2 + 1)]) := upd_same
    refine ⟨.ref pa, rfl, pa, _, 1, .int p1, rfl, rfl, SqL.of hpa2, rfl, .ref pa, rfl, pa, _, 2, .int (p2 + 1), rfl, rfl, SqL.of hpa2, rfl, _, _, rfl, rfl, .inl (by decide), _, _, rfl, rfl, _, _, rfl, rfl, (show (1000000007 : Int) ≠ 0 by decide), ?_⟩
    obtain ⟨c, hc, ec⟩ := fmod_nat (p1 + 7919 * (p2 + 1)) 1000000007 (by decide)
    have ec : (p1 + 7919 * (p2 + 1)).fmod 1000000007 = (c : Int) := ec
    dsimp only
    rw [ec]
    refine ⟨.int (c : Nat), rfl, _, _, rfl, rfl, .int (c : Nat), rfl, _, _, rfl, rfl, _, _, rfl, rfl, .inl (by omega), _, _, rfl, rfl, (show (998244353 : Int) ≠ 0 by decide), ?_⟩
    dsimp only
    obtain ⟨d, hd, ed⟩ := fmod_nat (((c : Int) + 11) * ((c : Int) + 48271)) 998244353 (by decide)
    have ed : (((c : Int) + 11) * ((c : Int) + 48271)).fmod 998244353 = (d : Int) := ed
    rw [ed]
    refine ⟨.int (d : Nat), rfl, .int (d : Nat), rfl, _, _, rfl, rfl, .inl (by omega), _, _, rfl, rfl, (show (2147483647 : Int) ≠ 0 by decide), _, _, rfl, rfl, ⟨(show (8 : Int) ≠ 0 by decide), (show (8 : Int).natAbs < 1073741824 by decide)⟩, .int (bs : Nat), rfl, _, _, rfl, rfl, (by omega), ?_⟩
    dsimp only
    obtain ⟨r, hr, er⟩ := fmod_nat ((((d : Int) * (d : Int)).fmod 2147483647).fdiv 8) bs hb0
    rw [er]
    exact q _ r (Fr.pool (.refl H pa)) ⟨_, _, _, hpa2, hp0⟩ hr
end
end K40

set_option Elab.async false
set_option linter.all false
set_option maxRecDepth 100000
set_option maxHeartbeats 4000000
namespace K40
open PySem PySem.Spec PyProof.Rows L2
section
variable {P : Program} {w : World} {K : PySem.W.Frag} {mg : Str → Option Value} {base : Heap}
/-! ### _law_turned_about, _law_fall, _law_arrows -/
abbrev Nlawturnedabout : List Str := ["pool", "many", "still", "found", "k"]
theorem sclawturnedabout : FnScope Nlawturnedabout ["pool", "many"] (defScope (topS 35)) := ⟨rfl, rfl, rfl, by decide +kernel, rfl, by decide +kernel, by decide +kernel⟩
-- 0 pool 1 many 2 still 3 found 4 k
def spAbout : Sp := fun vs H Q _ => ∃ (pa : Addr) (k : Nat), vs = [.ref pa, .int (k : Nat)] ∧ PoolOk H pa ∧ k < 1000 ∧ ∀ H' l p, Fr H H' pa → PoolOk H' pa → H l = none → H' l = some (.lst ((nz p).map V.int)) → p.Perm (List.range k) → Q (.ref l) H'
theorem erase_perm {l : List Nat} {r y : Nat} (h : l[r]? = some y) : l.Perm (y :: l.eraseIdx r) := by
  induction l generalizing r with
  | nil => simp at h
  | cons x l ih =>
    cases r with
    | zero =>
      simp at h
      subst h
      exact .refl _
    | succ r =>
      have := ih (r := r) (by simpa using h)
      exact (this.cons x).trans (.swap y x _)
theorem nz_erase (l : List Nat) (r : Nat) : ((nz l).map V.int).eraseIdx r = (nz (l.eraseIdx r)).map V.int := by
  induction l generalizing r with
  | nil => rfl
  | cons x l ih =>
    cases r with
    | zero => rfl
    | succ r =>
      show V.int (x : Int) :: ((nz l).map V.int).eraseIdx r = V.int (x : Int) :: (nz (l.eraseIdx r)).map V.int
      rw [ih]
theorem seq_nat {r n : Nat} (h : r < n) : seqIndex? (r : Int) n = some r := by
  rw [seqIndex_of (by omega) (by omega)]
  simp
theorem k_lawturnedabout (T : Tx K mg) : Keeps P w K mg base 2 "_law_turned_about" ["pool", "many"] spAbout := by
  have klawnext := k_lawnext (P := P) (w := w) (base := base) T
  refine T.dlawturnedabout.keeps sclawturnedabout (fun vs H Q E h => ?_) (fun fa cdv A outer s H vs Q E hr h => ?_)
  · obtain ⟨pa, k, rfl, _⟩ := h
    rfl
  obtain ⟨pa, n, rfl, hp, hn, q⟩ := h
  refine ⟨_, (pss_cons (ps_set (i := 2) sclawturnedabout.nd rfl (.inl rfl) (pe_listRg rfl (by rfl) T.zlist (prg_1 (by rfl) T.zrange (pv 1))))
    (pss_cons (ps_set (i := 3) sclawturnedabout.nd rfl (.inl rfl) (pe_lst pa_nil))
    (pss_cons (ps_for PassesOwn.never rfl (pi_range1 (by rfl) T.zrange (pa_cons (pv 1) pa_nil)) (pg_name (i := 4) sclawturnedabout.nd rfl (.inl rfl)) (pss_one (ps_expr (pe_bm PySem.F.plainAttrs_list PySem.F.slot_list_append PySem.F.type_list_append mt_append (pv 3) (pa_cons (pe_bm PySem.F.plainAttrs_list PySem.F.slot_list_pop PySem.F.type_list_pop mt_popAt (pv 2) (pa_cons (pe_k klawnext (hr.mono (by decide)) (pa_cons (pv 0) (pa_cons (pe_callB call_len_seq (by rfl) T.zlen (by decide +kernel) (pa_cons (pv 2) pa_nil)) pa_nil))) pa_nil)) pa_nil)))))
    (pss_one (ps_ret (pv 3)))))), ?_⟩
  refine ⟨.int (n : Nat), rfl, (n : Nat), rfl, RgOk.of_le (by omega) (by omega) (by omega) (by omega), fun st nst => ?_⟩
  rw [rg_nz]
  refine ⟨Nat.zero_le _, fun fo nfo => ?_⟩
  have s0 : Same H (upd (upd H st (.lst ((nz (List.range n)).map V.int))) fo (.lst [])) := same_step (same_new nst) nfo
  have ffo : H fo = none := Same.free (same_new nst) nfo
  have stfo : st ≠ fo := ne_of_none upd_same nfo
  have past := hp.ne nst
  have pafo := hp.ne ffo
  refine ⟨.int (n : Nat), rfl, (n : Nat), rfl, (big62 n (by omega)).1, (big62 n (by omega)).2, ?_⟩
  refine for_it walk_r (fun i σ H' => ∃ y4 S F, σ = [some (.ref pa), some (.int (n : Nat)), some (.ref st), some (.ref fo), y4] ∧ Fr H H' pa ∧ PoolOk H' pa ∧ H' st = some (.lst ((nz S).map V.int)) ∧ H' fo = some (.lst ((nz F).map V.int)) ∧ (S ++ F).Perm (List.range n) ∧ S.length + i = n ∧ F.length = i)
    ⟨none, List.range n, [], rfl, .of pa s0, hp.at (by rw [upd_ne pafo, upd_ne past]), at_new upd_same nfo, upd_same, by rw [List.append_nil], by simp, rfl⟩ (fun _ _ _ _ _ => trivial) (fun i x σ H0 H1 hi' pp y => ?_) (fun σ H' pp => ?_)
  · obtain ⟨y4, S, F, rfl, fr, po, hst, hfo, hperm, lS, lF⟩ := pp
    obtain ⟨rfl, rfl⟩ := y
    have lS' : ((nz S).map V.int).length = S.length := by simp [nz]
    refine ⟨.ref fo, rfl, .inl ⟨rfl, _, SqL.of hfo⟩, .ref st, rfl, .inl ⟨rfl, _, SqL.of hst⟩, .ref pa, rfl, .ref st, rfl, st, _, rfl, .inl (SqL.of hst), pa, ((nz S).map V.int).length, rfl, po, by rw [lS']; omega, by rw [lS']; omega, fun H2 r fr2 po2 hr => ?_⟩
    rw [lS'] at hr
    have hst2 := fr2 _ _ past.symm hst
    have hfo2 := fr2 _ _ pafo.symm hfo
    have hy : S[r]? = some S[r] := List.getElem?_eq_getElem hr
    refine ⟨st, _, (r : Nat), r, .int (S[r] : Nat), rfl, rfl, hst2, by omega, by omega, seq_nat (by rw [lS']; exact hr), by rw [List.getElem?_map, nz_at hy]; rfl, ?_⟩
    rw [nz_erase]
    have hfo3 : upd H2 st (.lst ((nz (S.eraseIdx r)).map V.int)) fo = some (.lst ((nz F).map V.int)) := by
      rw [upd_ne stfo.symm]
      exact hfo2
    refine ⟨fo, _, .int (S[r] : Nat), rfl, rfl, hfo3, szlt _ (by simp [nz]; omega), ?_⟩
    rw [← nz_snoc]
    refine ⟨_, S.eraseIdx r, F ++ [S[r]], rfl, Fr.mut (Fr.mut (fr.trans fr2) nst) ffo, po2.at (by rw [upd_ne pafo, upd_ne past]), ?_, upd_same, ?_, ?_, by rw [List.length_append, lF]; rfl⟩
    · rw [upd_ne stfo]
      exact upd_same
    · refine List.Perm.trans ?_ hperm
      have h1 := erase_perm hy
      have h2 : (S.eraseIdx r ++ (F ++ [S[r]])).Perm (S[r] :: (S.eraseIdx r ++ F)) := by
        rw [← List.append_assoc]
        exact List.perm_append_comm
      exact h2.trans ((h1.append_right F).symm)
    · rw [List.length_eraseIdx_of_lt hr]
      omega
  · obtain ⟨y4, S, F, rfl, fr, po, hst, hfo, hperm, lS, lF⟩ := pp
    have : S = [] := List.eq_nil_of_length_eq_zero (by omega)
    subst this
    exact ⟨.ref fo, rfl, q _ fo F fr po ffo hfo hperm⟩
abbrev Nlawfall : List Str := ["pool", "web", "order", "a", "b"]
theorem sclawfall : FnScope Nlawfall ["pool", "web"] (defScope (topS 37)) := ⟨rfl, rfl, rfl, by decide +kernel, rfl, by decide +kernel, by decide +kernel⟩
-- 0 pool 1 web 2 order 3 a 4 b
def spFall : Sp := fun vs H Q _ => ∃ (pa : Addr) (wv : V) (n : Nat) (T : List (Nat × Nat)), vs = [.ref pa, wv] ∧ PoolOk H pa ∧ IsWeb H wv n T ∧ WebOk n T ∧ ∀ H' v (f : List Bool), Fr H H' pa → PoolOk H' pa → Tup H' v (bzs f) → T.length = f.length → Acyc (arr T f) → Q v H'
theorem order_acyc {n : Nat} {T : List (Nat × Nat)} {ord : List Nat} (hw : WebOk n T) (h : ord.Perm (List.range n)) : Acyc (arr T (huedM T (nz ord))) := by
  have nd : ord.Nodup := h.nodup_iff.mpr List.nodup_range
  have hl : ord.length = n := by
    rw [h.length_eq]
    simp
  refine ⟨fun p => (nz ord).getD p 0, fun x hx => ?_⟩
  obtain ⟨k, hk⟩ := List.mem_iff_getElem?.mp hx
  obtain ⟨e, d, he, hd, rfl⟩ := arr_of hk
  have hlow := hw.low e (List.mem_of_getElem? he)
  unfold huedM at hd
  rw [List.getElem?_map, he] at hd
  have ed := (Option.some.inj hd).symm
  dsimp only at ed
  have g : ∀ (p : Nat) (hp : p < n), (nz ord).getD p 0 = (ord[p] : Nat) := fun p hp => by
    rw [List.getD_eq_getElem?_getD, nz_at (List.getElem?_eq_getElem (by omega))]
    rfl
  have ne : ord[e.1] ≠ ord[e.2] := by
    rw [List.nodup_iff_pairwise_ne, List.pairwise_iff_getElem] at nd
    exact nd e.1 e.2 (by omega) (by omega) hlow.1
  rw [g e.1 (by omega), g e.2 hlow.2] at ed
  cases d with
  | true =>
    have := of_decide_eq_true ed.symm
    show (nz ord).getD e.1 0 < (nz ord).getD e.2 0
    rw [g e.1 (by omega), g e.2 hlow.2]
    exact this
  | false =>
    have := of_decide_eq_false ed.symm
    show (nz ord).getD e.2 0 < (nz ord).getD e.1 0
    rw [g e.1 (by omega), g e.2 hlow.2]
    omega
theorem lt_dec (i j : Int) : (if decide (i < j) = true then (1 : Int) else 0) = bz (decide (i < j)) := rfl
theorem k_lawfall (T : Tx K mg) : Keeps P w K mg base 3 "_law_fall" ["pool", "web"] spFall := by
  have klawturnedabout := k_lawturnedabout (P := P) (w := w) (base := base) T
  refine T.dlawfall.keeps sclawfall (fun vs H Q E h => ?_) (fun fa cdv A outer s H vs Q E hr h => ?_)
  · obtain ⟨pa, wv, n, T, rfl, _⟩ := h
    rfl
  obtain ⟨pa, wv, n, W, rfl, hp, hw, hok, q⟩ := h
  obtain ⟨a, t, tv, rfl, ha, ht, hi⟩ := id hw
  have h5 := hok.most
  have h8 := hok.ties
  have hlen := paired_len hi
  rw [List.length_map] at hlen
  refine ⟨_, (pss_cons (ps_set (i := 2) sclawfall.nd rfl (.inr rfl) (pe_k klawturnedabout (hr.mono (by decide)) (pa_cons (pv 0) (pa_cons (pe_ix ix_tup (pv 1) pe_int (fun _ _ => rfl)) pa_nil))))
    (pss_one (ps_ret (pe_callTy call_tuple_of (by rfl) T.ztuple (by decide +kernel) (pa_cons (pe_lc (own := [("a", 3), ("b", 4)]) (g := (gTup K 2 (gCons (gName 3) (gCons (gName 4) gNil)))) (tt := tYes) rfl sclawfall.nd (pi_tup (pe_ix ix_tup (pv 1) pe_int (fun _ _ => rfl))) (blkOk_by (N := Nlawfall) (sc := defScope (topS 37)) (by decide +kernel)) (fun _ _ _ _ _ => (pg_tup rfl (pgs_cons (pg_name (i := 3) sclawfall.nd rfl (.inl rfl)) (pgs_cons (pg_name (i := 4) sclawfall.nd rfl (.inl rfl)) pgs_nil)))) (fun _ _ _ _ _ => pts_nil) (fun _ _ _ _ _ => (pe_callTy call_int1 (by rfl) T.zint (by decide +kernel) (pa_cons (pe_cmpR op_lt (pe_ix (r := rIxL K) ix_list (pv 2) (pv 3) (fun _ _ => rfl)) (pe_ix (r := rIxL K) ix_list (pv 2) (pv 4) (fun _ _ => rfl)) (nomark _)) pa_nil)))) pa_nil))))), ?_⟩
  refine ⟨.ref pa, rfl, .ref a, rfl, a, _, 0, .int n, rfl, rfl, SqT.of ha, rfl, pa, n, rfl, hp, by omega, fun H1 lo ord fr po nlo hlo hperm => ?_⟩
  have ts := fr.tup hp
  have hlo2 : ord.length = n := by
    rw [hperm.length_eq]
    simp
  refine ⟨.ref a, rfl, a, _, 1, .ref t, rfl, rfl, SqT.of (ts _ _ ha), rfl, t, rfl, ⟨tv, SqT.of (ts _ _ ht)⟩, fun D hD => ?_⟩
  refine lc_it (walk_tup (xs := tv)) (fun j H5 => Same H1 H5 ∧ H5 D = some (.lst (((bzs (huedM W (nz ord))).take j).map V.int))) ⟨same_new hD, upd_same⟩
      (fun j H5 hj pp => SqT.of (pp.1 _ _ (ts _ _ ht))) (fun j y H3 H5 hj pp yy => ?_) (fun H5 pp => ?_)
  · obtain ⟨sm3, hD3⟩ := pp
    obtain ⟨rfl, ey⟩ := yy
    obtain ⟨e1, e2, tp, h1, rfl, hp2⟩ := tie_at hi ey
    obtain ⟨b1, b2⟩ := hok.low _ (List.mem_of_getElem? h1)
    have b1 : e1 < e2 := b1
    have b2 : e2 < n := b2
    have g : ∀ (p : Nat) (hp : p < n), (nz ord)[p]? = some ((nz ord).getD p 0) := fun p hp => by
      rw [List.getD_eq_getElem?_getD, List.getElem?_eq_getElem (by simp [nz]; omega)]
      rfl
    have hlo5 := sm3 _ _ hlo
    refine ⟨tp, [.int (e1 : Nat), .int (e2 : Nat)], rfl, SqT.of (sm3 _ _ (ts _ _ hp2)), rfl, .int (e1 : Nat), [.int (e2 : Nat)], rfl, .int (e2 : Nat), [], rfl, rfl, rfl, .ref lo, rfl, .int (e1 : Nat), rfl, lo, _, (e1 : Nat), _, rfl, rfl, SqL.of hlo5, at_int (g e1 (by omega)), .ref lo, rfl, .int (e2 : Nat), rfl, lo, _, (e2 : Nat), _, rfl, rfl, SqL.of hlo5, at_int (g e2 b2), _, _, rfl, rfl, .inr ⟨_, rfl, ?_⟩⟩
    rw [lt_dec]
    refine ⟨_, hD3, szlt _ (by simp [bzs, huedM]; omega), same_mut sm3 hD, ?_⟩
    rw [take_snoc (hued_at h1), List.map_append]
    exact upd_same
  · obtain ⟨sm3, hD3⟩ := pp
    rw [List.take_of_length_le (by simp [bzs, huedM]; omega)] at hD3
    refine ⟨D, _, rfl, .inl ⟨SqL.of hD3, fun lt nlt => ?_⟩⟩
    have s5 := same_step (o := .tup ((bzs (huedM W (nz ord))).map V.int)) sm3 nlt
    have hpa := po
    refine q _ (.ref lt) (huedM W (nz ord)) (fr.trans (.of pa s5)) ?_ ⟨lt, rfl, upd_same⟩ (hued_len _ _) (order_acyc hok hperm)
    obtain ⟨p0, p1, p2, g1, g2⟩ := po
    exact ⟨p0, p1, p2, s5 _ _ g1, g2⟩
abbrev Nlawarrows : List Str := ["web", "fall", "found", "tie", "way"]
theorem sclawarrows : FnScope Nlawarrows ["web", "fall"] (defScope (topS 38)) := ⟨rfl, rfl, rfl, by decide +kernel, rfl, by decide +kernel, by decide +kernel⟩
-- 0 web 1 fall 2 found 3 tie 4 way
theorem k_lawarrows (T : Tx K mg) : Keeps P w K mg base 1 "_law_arrows" ["web", "fall"] spArrows := by
  refine T.dlawarrows.keeps sclawarrows (fun vs H Q E h => ?_) (fun fa cdv A outer s H vs Q E hr h => ?_)
  · obtain ⟨wv, fv, n, T, f, rfl, _⟩ := h
    rfl
  obtain ⟨wv, fv, n, W, f, rfl, hw, hf, hl, hm, q⟩ := h
  obtain ⟨a, t, tv, rfl, ha, ht, hi⟩ := id hw
  obtain ⟨af, rfl, haf⟩ := id hf
  have hlen := paired_len hi
  rw [List.length_map] at hlen
  refine ⟨_, (pss_cons (ps_set (i := 2) sclawarrows.nd rfl (.inl rfl) (pe_lst pa_nil))
    (pss_cons (ps_for PassesOwn.never rfl (RZ.pi_zipA (by rfl) T.zzip (pa_cons (pe_ix ix_tup (pv 0) pe_int (fun _ _ => rfl)) (pa_cons (pv 1) pa_nil))) (pg_tup rfl (pgs_cons (pg_name (i := 3) sclawarrows.nd rfl (.inl rfl)) (pgs_cons (pg_name (i := 4) sclawarrows.nd rfl (.inl rfl)) pgs_nil))) (pss_one (ps_expr (pe_bm PySem.F.plainAttrs_list PySem.F.slot_list_append PySem.F.type_list_append mt_append (pv 2) (pa_cons (pe_ix ix_list (pe_lst (pa_cons (pe_revT (pv 3)) (pa_cons (pv 3) pa_nil))) (pv 4) (fun _ _ => rfl)) pa_nil)))))
    (pss_one (ps_ret (pv 2))))), ?_⟩
  have hn : W.length = min tv.length ((bzs f).map V.int).length := by
    rw [List.length_map, hlen]
    simp [bzs, hl]
  refine ⟨Nat.zero_le _, fun fo nfo => ?_⟩
  have s0 : Same H (upd H fo (.lst [])) := same_new nfo
  refine ⟨.ref a, rfl, a, _, 1, .ref t, rfl, rfl, SqT.of (s0 _ _ ha), rfl, .ref af, rfl, t, af, tv, (bzs f).map V.int, rfl, .inr ⟨SqT.of (s0 _ _ ht), SqT.of (s0 _ _ haf), ?_⟩⟩
  refine for_it (walk_zipT hn) (fun i σ H' => ∃ y3 y4 us, σ = [some (.ref a), some (.ref af), some (.ref fo), y3, y4] ∧ Same H H' ∧ H' fo = some (.lst us) ∧ Items H' us (((arr W f).map pz).take i))
    ⟨none, none, [], rfl, s0, upd_same, .nil⟩ (fun i σ H' hi' p => ?_) (fun i x σ H0 H1 hi' p y => ?_) (fun σ H' p => ?_)
  · obtain ⟨_, _, _, _, s1, _⟩ := p
    exact ⟨SqT.of (s1 _ _ ht), SqT.of (s1 _ _ haf)⟩
  · obtain ⟨y3, y4, us, rfl, sm, hfo, hus⟩ := p
    obtain ⟨Tt, x, z, rfl, nT, rfl, ex, ez⟩ := y
    obtain ⟨e1, e2, p, h1, rfl, hp⟩ := tie_at hi ex
    have ez' : (bzs f)[i]?.map V.int = some z := by
      rw [← List.getElem?_map]
      exact ez
    obtain ⟨zi, hzi, rfl⟩ := Option.map_eq_some_iff.mp ez'
    have hzi' : f[i]?.map bz = some zi := by
      rw [← List.getElem?_map]
      exact hzi
    obtain ⟨d, hd, rfl⟩ := Option.map_eq_some_iff.mp hzi'
    have sT : Same H (upd H0 Tt (.tup [.ref p, .int (bz d)])) := same_step sm nT
    have hfoT := at_new (o := .tup [.ref p, .int (bz d)]) hfo nT
    have husT := hus.mono (TupSame.new (o := .tup [.ref p, .int (bz d)]) nT)
    have hTt : (upd H0 Tt (.tup [.ref p, .int (bz d)])) Tt = some (.tup [.ref p, .int (bz d)]) := upd_same
    generalize (upd H0 Tt (.tup [.ref p, .int (bz d)])) = H2 at *
    refine ⟨Tt, [.ref p, .int (bz d)], rfl, SqT.of hTt, rfl, .ref p, [.int (bz d)], rfl, .int (bz d), [], rfl, rfl, ?_⟩
    refine ⟨.ref fo, rfl, .inl ⟨rfl, _, SqL.of hfoT⟩, .ref p, rfl, p, _, rfl, SqT.of (sT _ _ hp), (fun z => nomatch z), fun rv nrv => ⟨.ref p, rfl, le2, fun lp nlp => ?_⟩⟩
    have s3 : Same H2 (upd (upd H2 rv (.tup [.int (e2 : Nat), .int (e1 : Nat)])) lp (.lst [.ref rv, .ref p])) := same_step (same_new nrv) nlp
    have hrv : (upd (upd H2 rv (.tup [.int (e2 : Nat), .int (e1 : Nat)])) lp (.lst [.ref rv, .ref p])) rv = some (.tup [.int (e2 : Nat), .int (e1 : Nat)]) := at_new upd_same nlp
    have hlp : (upd (upd H2 rv (.tup [.int (e2 : Nat), .int (e1 : Nat)])) lp (.lst [.ref rv, .ref p])) lp = some (.lst [.ref rv, .ref p]) := upd_same
    have erv : [V.int (e1 : Nat), V.int (e2 : Nat)].reverse = [.int (e2 : Nat), .int (e1 : Nat)] := rfl
    rw [erv]
    generalize (upd (upd H2 rv (.tup [.int (e2 : Nat), .int (e1 : Nat)])) lp (.lst [.ref rv, .ref p])) = H3 at *
    have hul := paired_len hus
    rw [List.length_take, List.length_map] at hul
    have hfo3 := s3 _ _ hfoT
    have go : ∀ (u : Addr) (xs : List Int), atI [V.ref rv, V.ref p] (bz d) = some (.ref u) → Tup H3 (.ref u) xs → xs = pz (if d = true then (e1, e2) else (e2, e1)) → ∃ v, atI [V.ref rv, V.ref p] (bz d) = some v ∧ Items (upd H3 fo (.lst (us ++ [v]))) (us ++ [v]) (((arr W f).map pz).take (i + 1)) := by
      intro u xs h1' h2' h3'
      refine ⟨.ref u, h1', ?_⟩
      have e : ((arr W f).map pz)[i]? = some (pz (if d = true then (e1, e2) else (e2, e1))) := by
        rw [List.getElem?_map, arr_at h1 hd]
        rfl
      rw [take_snoc e]
      refine paired_snoc ?_ ((husT.mono (.of s3)).mono (.lst hfo3))
      rw [← h3']
      exact h2'.mono (.lst hfo3)
    have hp3 : H3 p = some (.tup [.int (e1 : Nat), .int (e2 : Nat)]) := s3 _ _ (sT _ _ hp)
    obtain ⟨v, hv1, hv2⟩ : ∃ v, atI [V.ref rv, V.ref p] (bz d) = some v ∧ Items (upd H3 fo (.lst (us ++ [v]))) (us ++ [v]) (((arr W f).map pz).take (i + 1)) := by
      cases d with
      | true => exact go p [(e1 : Int), (e2 : Int)] rfl ⟨p, rfl, hp3⟩ rfl
      | false => exact go rv [(e2 : Int), (e1 : Int)] rfl ⟨rv, rfl, hrv⟩ rfl
    refine ⟨.int (bz d), rfl, lp, _, bz d, v, rfl, rfl, SqL.of hlp, hv1, fo, us, v, rfl, rfl, hfo3, szlt _ (by omega), ?_⟩
    exact ⟨_, _, us ++ [v], rfl, same_mut (sT.trans s3) nfo, upd_same, hv2⟩
  · obtain ⟨y3, y4, us, rfl, sm, hfo, hus⟩ := p
    rw [List.take_of_length_le (by rw [List.length_map, arr_len hl]; exact Nat.le_refl _)] at hus
    exact ⟨.ref fo, rfl, q H' fo sm nfo ⟨us, hfo, hus⟩⟩
end
end K40

set_option Elab.async false
set_option linter.all false
set_option maxRecDepth 100000
set_option maxHeartbeats 4000000
namespace K40
open PySem PySem.Spec PyProof.Rows L2
section
variable {P : Program} {w : World} {K : PySem.W.Frag} {mg : Str → Option Value} {base : Heap}
/-! ### _law_web -/
def AnyT (t : TT) (σ : L2.St) (H : Hp) : Prop := ∀ Q : Bool → Hp → Prop, (∀ c, Q c H) → t σ H Q
theorem and_any {t u : TT} {σ : L2.St} {H : Hp} (h1 : AnyT t σ H) (h2 : AnyT u σ H) : AnyT (tAnd t u) σ H := fun Q h => h1 _ fun c => ite2 (fun _ => h2 Q h) (fun _ => h false)
theorem or3 {t1 t2 t3 : TT} {σ : L2.St} {H : Hp} {pa : Addr} {Q : Bool → Hp → Prop} (po : PoolOk H pa) (h1 : AnyT t1 σ H) (h2 : AnyT t2 σ H) (h3 : ∀ Q' : Bool → Hp → Prop, (∀ c H2, Fr H H2 pa → PoolOk H2 pa → Q' c H2) → t3 σ H Q')
    (hQ : ∀ c H2, Fr H H2 pa → PoolOk H2 pa → Q c H2) : tOr t1 (tOr t2 t3) σ H Q :=
  h1 _ fun _ => ite2 (fun _ => hQ _ _ (.refl _ _) po) (fun _ => h2 _ fun _ => ite2 (fun _ => hQ _ _ (.refl _ _) po) (fun _ => h3 Q hQ))
theorem paired_erase {α β : Type} {R : α → β → Prop} : ∀ {l : List α} {m : List β} (r : Nat), Paired R l m → Paired R (l.eraseIdx r) (m.eraseIdx r)
  | _, _, _, .nil => .nil
  | _, _, 0, .cons _ t => t
  | _, _, r + 1, .cons h t => .cons h (paired_erase r t)
theorem map_erase {α β : Type} (g : α → β) : ∀ (l : List α) (r : Nat), (l.map g).eraseIdx r = (l.eraseIdx r).map g
  | [], _ => rfl
  | x :: l, 0 => rfl
  | x :: l, r + 1 => by
    show g x :: (l.map g).eraseIdx r = g x :: (l.eraseIdx r).map g
    rw [map_erase g l r]
theorem pairs_short {PL : List (Nat × Nat)} {n : Nat} (hn : n ≤ 5) (nd : PL.Nodup) (h : ∀ p ∈ PL, p.1 < p.2 ∧ p.2 < n) : PL.length ≤ 10 := by
  have := nodup_len (m := pairsOf 5) nd fun p hp => pairs_mem (by have := h p hp; omega)
  rw [show (pairsOf 5).length = 10 by decide] at this
  exact this
theorem pair_snoc_nodup {PL : List (Nat × Nat)} {p : Nat × Nat} (nd : PL.Nodup) (h : p ∉ PL) : (PL ++ [p]).Nodup := by
  refine List.nodup_append.mpr ⟨nd, by simp, fun a ha b hb => ?_⟩
  rw [List.mem_singleton] at hb
  subst hb
  exact fun z => h (z ▸ ha)
/-- a pair under new names -/
def renM (nm : List Nat) (p : Nat × Nat) : Nat × Nat := (min (nm.getD p.1 0) (nm.getD p.2 0), max (nm.getD p.1 0) (nm.getD p.2 0))
theorem ren_ok {nm : List Nat} {n : Nat} (h : nm.Perm (List.range n)) {PL : List (Nat × Nat)} (nd : PL.Nodup) (hp : ∀ p ∈ PL, p.1 < p.2 ∧ p.2 < n) : (PL.map (renM nm)).Nodup ∧ ∀ q ∈ PL.map (renM nm), q.1 < q.2 ∧ q.2 < n := by
  have hl : nm.length = n := by
    rw [h.length_eq]
    simp
  have ndm : nm.Nodup := h.nodup_iff.mpr List.nodup_range
  have inj : ∀ a b : Nat, a < n → b < n → nm.getD a 0 = nm.getD b 0 → a = b := by
    intro a b ha hb e
    rw [List.getD_eq_getElem?_getD, List.getD_eq_getElem?_getD, List.getElem?_eq_getElem (by omega), List.getElem?_eq_getElem (by omega)] at e
    have e : nm[a] = nm[b] := e
    rw [List.nodup_iff_pairwise_ne, List.pairwise_iff_getElem] at ndm
    rcases Nat.lt_trichotomy a b with g | g | g
    · exact absurd e (ndm a b (by omega) (by omega) g)
    · exact g
    · exact absurd e.symm (ndm b a (by omega) (by omega) g)
  have lt : ∀ a : Nat, a < n → nm.getD a 0 < n := by
    intro a ha
    rw [List.getD_eq_getElem?_getD, List.getElem?_eq_getElem (by omega)]
    have : nm[a] ∈ List.range n := h.mem_iff.mp (List.getElem_mem _)
    exact List.mem_range.mp this
  constructor
  · rw [List.nodup_iff_pairwise_ne, List.pairwise_map]
    rw [List.nodup_iff_pairwise_ne] at nd
    refine nd.imp_of_mem fun {p q} hpm hqm hne e => hne ?_
    have h1 := hp p hpm
    have h2 := hp q hqm
    have e1 : min (nm.getD p.1 0) (nm.getD p.2 0) = min (nm.getD q.1 0) (nm.getD q.2 0) := congrArg Prod.fst e
    have e2 : max (nm.getD p.1 0) (nm.getD p.2 0) = max (nm.getD q.1 0) (nm.getD q.2 0) := congrArg Prod.snd e
    have c : (nm.getD p.1 0 = nm.getD q.1 0 ∧ nm.getD p.2 0 = nm.getD q.2 0) ∨ (nm.getD p.1 0 = nm.getD q.2 0 ∧ nm.getD p.2 0 = nm.getD q.1 0) := by omega
    rcases c with ⟨c1, c2⟩ | ⟨c1, c2⟩
    · exact Prod.ext (inj _ _ (by omega) (by omega) c1) (inj _ _ (by omega) (by omega) c2)
    · have := inj _ _ (by omega) (by omega) c1
      have := inj _ _ (by omega) (by omega) c2
      omega
  · intro q hq
    obtain ⟨p, hpm, rfl⟩ := List.mem_map.mp hq
    have h1 := hp p hpm
    have l1 := lt p.1 (by omega)
    have l2 := lt p.2 h1.2
    have ne : nm.getD p.1 0 ≠ nm.getD p.2 0 := fun e => by
      have := inj _ _ (by omega) h1.2 e
      omega
    unfold renM
    dsimp only
    omega
/-- pairs read in a heap -/
def kOf (H : Hp) : V → Int × Int
  | .ref t => match H t with
    | some (.tup [.int i, .int j]) => (i, j)
    | _ => (0, 0)
  | _ => (0, 0)
theorem kOf_at {H : Hp} {t : Addr} {i j : Int} (h : H t = some (.tup [.int i, .int j])) : kOf H (.ref t) = (i, j) := by
  simp only [kOf, h]
theorem sorted_items {H : Hp} {us ys : List V} {FL : List (Nat × Nat)} (hu : Items H us (FL.map pz)) (hperm : ys.Perm us) (hs : SrtO.Srtd (ltP (kOf H)) ys) (nd : FL.Nodup) (low : ∀ q ∈ FL, q.1 < q.2) :
    ∃ TL : List (Nat × Nat), Items H ys (TL.map pz) ∧ TL.Perm FL ∧ TL.Pairwise lexlt := by
  -- read back
  have back : ∀ y ∈ us, ∃ q : Nat × Nat, q ∈ FL ∧ Tup H y (pz q) ∧ kOf H y = ((q.1 : Int), (q.2 : Int)) := by
    intro y hy
    obtain ⟨i, hi⟩ := List.mem_iff_getElem?.mp hy
    obtain ⟨a, b, p, h1, rfl, h2⟩ := tie_at hu hi
    exact ⟨(a, b), List.mem_of_getElem? h1, ⟨p, rfl, h2⟩, kOf_at h2⟩
  have toL : ∀ l : List V, (∀ y ∈ l, y ∈ us) → Items H l ((l.map fun y => ((kOf H y).1.toNat, (kOf H y).2.toNat)).map pz) := by
    intro l
    induction l with
    | nil => exact fun _ => .nil
    | cons y l ih =>
      intro h
      obtain ⟨q, hq, ht, hk⟩ := back y (h y (List.mem_cons_self ..))
      refine .cons ?_ (ih fun z hz => h z (List.mem_cons_of_mem _ hz))
      dsimp only
      rw [hk]
      simpa using ht
  have eF : ∀ (l : List V) (F : List (Nat × Nat)), Items H l (F.map pz) → (l.map fun y => ((kOf H y).1.toNat, (kOf H y).2.toNat)) = F := by
    intro l F
    induction F generalizing l with
    | nil =>
      intro h
      cases h
      rfl
    | cons q F ih =>
      intro h
      cases h with
      | cons r t =>
        obtain ⟨a, rfl, ha⟩ := r
        rw [List.map_cons, ih _ t, kOf_at (i := (q.1 : Int)) (j := (q.2 : Int)) ha]
        simp
  have hTL := toL ys fun y hy => hperm.mem_iff.mp hy
  have hpm : (ys.map fun y => ((kOf H y).1.toNat, (kOf H y).2.toNat)).Perm FL := by
    have := hperm.map fun y => ((kOf H y).1.toNat, (kOf H y).2.toNat)
    rw [eF us FL hu] at this
    exact this
  refine ⟨_, hTL, hpm, ?_⟩
  have ndT : (ys.map fun y => ((kOf H y).1.toNat, (kOf H y).2.toNat)).Nodup := hpm.nodup_iff.mpr nd
  rw [List.nodup_iff_pairwise_ne, List.pairwise_map] at ndT
  rw [List.pairwise_map]
  refine (hs.and ndT).imp_of_mem fun {x y} hx hy h => ?_
  obtain ⟨h1, h2⟩ := h
  obtain ⟨q1, _, _, k1⟩ := back x (hperm.mem_iff.mp hx)
  obtain ⟨q2, _, _, k2⟩ := back y (hperm.mem_iff.mp hy)
  have h3 := SrtO.lexB_no.mp h1
  rw [k1, k2] at h3 h2 ⊢
  simp only [Int.toNat_natCast] at h2 ⊢
  have : ¬ (q1.1 = q2.1 ∧ q1.2 = q2.2) := fun z => h2 (by rw [z.1, z.2])
  unfold lexlt
  dsimp only at h3 ⊢
  omega
end
end K40

set_option Elab.async false
set_option linter.all false
set_option maxRecDepth 100000
set_option maxHeartbeats 4000000
namespace K40
open PySem PySem.Spec PyProof.Rows L2
section
variable {P : Program} {w : World} {K : PySem.W.Frag} {mg : Str → Option Value} {base : Heap}
abbrev Nlawweb : List Str := ["pool", "most", "ties", "many", "way", "pairs", "b", "at", "a", "name", "found"]
theorem sclawweb : FnScope Nlawweb ["pool", "most", "ties"] (defScope (topS 36)) := ⟨rfl, rfl, rfl, by decide +kernel, rfl, by decide +kernel, by decide +kernel⟩
-- 0 pool 1 most 2 ties 3 many 4 way 5 pairs 6 b 7 at 8 a 9 name 10 found
def spLawWeb : Sp := fun vs H Q _ => ∃ pa : Addr, vs = [.ref pa, .int 5, .int 8] ∧ PoolOk H pa ∧ ∀ H' v (n : Nat) (T : List (Nat × Nat)), Fr H H' pa → PoolOk H' pa → IsWeb H' v n T → WebOk n T → Q v H'
theorem at_five (k : Nat) (h : k < 5) : ∃ v : Int, atI [V.int 2, .int 4, .int 1, .int 0, .int 0] (k : Int) = some (.int v) := by
  match k, h with
  | 0, _ => exact ⟨_, rfl⟩
  | 1, _ => exact ⟨_, rfl⟩
  | 2, _ => exact ⟨_, rfl⟩
  | 3, _ => exact ⟨_, rfl⟩
  | 4, _ => exact ⟨_, rfl⟩
  | k + 5, h => omega
theorem k_lawweb (T : Tx K mg) : Keeps P w K mg base 3 "_law_web" ["pool", "most", "ties"] spLawWeb := by
  have klawnext := k_lawnext (P := P) (w := w) (base := base) T
  have klawturnedabout := k_lawturnedabout (P := P) (w := w) (base := base) T
  refine T.dlawweb.keeps sclawweb (fun vs H Q E h => ?_) (fun fa cdv A outer s H vs Q E hr h => ?_)
  · obtain ⟨pa, rfl, _⟩ := h
    rfl
  obtain ⟨pa, rfl, hp, q⟩ := h
  refine ⟨_, (pss_cons (ps_set (i := 3) sclawweb.nd rfl (.inl rfl) (pe_op op_add pe_int (pe_k klawnext (hr.mono (by decide)) (pa_cons (pv 0) (pa_cons (pv 1) pa_nil)))))
    (pss_cons (ps_set (i := 4) sclawweb.nd rfl (.inl rfl) (pe_k klawnext (hr.mono (by decide)) (pa_cons (pv 0) (pa_cons pe_int pa_nil))))
    (pss_cons (ps_set (i := 5) sclawweb.nd rfl (.inl rfl) (pe_lst pa_nil))
    (pss_cons (ps_for PassesOwn.never rfl (pi_range1 (by rfl) T.zrange (pa_cons (pv 3) pa_nil)) (pg_name (i := 6) sclawweb.nd rfl (.inl rfl)) (pss_cons (ps_set (i := 7) sclawweb.nd rfl (.inl rfl) (pe_k klawnext (hr.mono (by decide)) (pa_cons (pv 0) (pa_cons (pe_callB (call_max2 rfl) (by rfl) T.zmax (by decide +kernel) (pa_cons pe_int (pa_cons (pv 6) pa_nil))) pa_nil))))
    (pss_one (ps_for PassesOwn.never rfl (pi_range1 (by rfl) T.zrange (pa_cons (pv 6) pa_nil)) (pg_name (i := 8) sclawweb.nd rfl (.inl rfl)) (pss_one (ps_if (PW.pt (pw_or (pt_cmpR op_eq (pv 4) pe_int (nomark _)) (pw_or (PW.pt (pw_and (pt_cmpR op_gt (pv 4) pe_int (nomark _)) (pw_and1 (pt_cmpR op_eq (pv 8) (pv 7) (nomark _))))) (pw_or1 (pt_cmpR op_lt (pe_k klawnext (hr.mono (by decide)) (pa_cons (pv 0) (pa_cons pe_int pa_nil))) (pe_ix ix_list (pe_lst (pa_cons pe_int (pa_cons pe_int (pa_cons pe_int (pa_cons pe_int (pa_cons pe_int pa_nil)))))) (pv 4) (fun _ _ => rfl)) (nomark _)))))) (pss_one (ps_expr (pe_bm PySem.F.plainAttrs_list PySem.F.slot_list_append PySem.F.type_list_append mt_append (pv 5) (pa_cons (pe_tup (pa_cons (pv 8) (pa_cons (pv 6) pa_nil))) pa_nil)))) pss_nil))))))
    (pss_cons (ps_set (i := 9) sclawweb.nd rfl (.inl rfl) (pe_k klawturnedabout (hr.mono (by decide)) (pa_cons (pv 0) (pa_cons (pv 3) pa_nil))))
    (pss_cons (ps_while PassesOwn.never (pt_cmpR op_gt (pe_callB call_len_seq (by rfl) T.zlen (by decide +kernel) (pa_cons (pv 5) pa_nil)) (pv 2) (nomark _)) (pss_one (ps_expr (pe_bm PySem.F.plainAttrs_list PySem.F.slot_list_pop PySem.F.type_list_pop mt_popAt (pv 5) (pa_cons (pe_k klawnext (hr.mono (by decide)) (pa_cons (pv 0) (pa_cons (pe_callB call_len_seq (by rfl) T.zlen (by decide +kernel) (pa_cons (pv 5) pa_nil)) pa_nil))) pa_nil)))))
    (pss_cons (ps_set (i := 10) sclawweb.nd rfl (.inl rfl) (pe_lst pa_nil))
    (pss_cons (ps_for PassesOwn.never rfl (pi_list (pv 5)) (pg_tup rfl (pgs_cons (pg_name (i := 8) sclawweb.nd rfl (.inl rfl)) (pgs_cons (pg_name (i := 6) sclawweb.nd rfl (.inl rfl)) pgs_nil))) (pss_one (ps_expr (pe_bm PySem.F.plainAttrs_list PySem.F.slot_list_append PySem.F.type_list_append mt_append (pv 10) (pa_cons (pe_tup (pa_cons (pe_callB (call_min2 rfl) (by rfl) T.zmin (by decide +kernel) (pa_cons (pe_ix ix_list (pv 9) (pv 8) (fun _ _ => rfl)) (pa_cons (pe_ix ix_list (pv 9) (pv 6) (fun _ _ => rfl)) pa_nil))) (pa_cons (pe_callB (call_max2 rfl) (by rfl) T.zmax (by decide +kernel) (pa_cons (pe_ix ix_list (pv 9) (pv 8) (fun _ _ => rfl)) (pa_cons (pe_ix ix_list (pv 9) (pv 6) (fun _ _ => rfl)) pa_nil))) pa_nil))) pa_nil)))))
    (pss_one (ps_ret (pe_tup (pa_cons (pv 3) (pa_cons (pe_callTy call_tuple_of (by rfl) T.ztuple (by decide +kernel) (pa_cons (pe_callB cr_sortedPO (by rfl) T.zsorted (by decide +kernel) (pa_cons (pv 10) pa_nil)) pa_nil)) pa_nil))))))))))))), ?_⟩
  refine ⟨.ref pa, rfl, .int 5, rfl, pa, 5, rfl, hp, by decide, by decide, fun H1 r1 fr1 po1 hr1 => ⟨_, _, rfl, rfl, ?_⟩⟩
  obtain ⟨n, en, hn1, hn5⟩ : ∃ n : Nat, (1 : Int) + (r1 : Int) = (n : Int) ∧ 1 ≤ n ∧ n ≤ 5 := ⟨1 + r1, by omega, by omega, by omega⟩
  dsimp only
  rw [en]
  refine ⟨.ref pa, rfl, pa, 5, rfl, po1, by decide, by decide, fun H2 wy fr2 po2 hwy => ⟨Nat.zero_le _, fun pr npr => ?_⟩⟩
  have papr := po2.ne npr
  have fpr : pr ≠ pa := papr.symm
  have fr02 := (fr1.trans fr2).new (o := .lst []) npr
  have hprH : ∀ c o, c ≠ pa → H c = some o → c ≠ pr := fun c o hc ho => ne_of_none ((fr1.trans fr2) c o hc ho) npr
  refine ⟨.int (n : Nat), rfl, (n : Nat), rfl, (big62 n (by omega)).1, (big62 n (by omega)).2, ?_⟩
  refine for_it walk_r (fun i σ H' => ∃ y6 y7 y8 PL us, σ = [some (.ref pa), some (.int 5), some (.int 8), some (.int (n : Nat)), some (.int (wy : Nat)), some (.ref pr), y6, y7, y8, none, none] ∧ Fr H H' pa ∧ PoolOk H' pa ∧ H' pr = some (.lst us) ∧ Items H' us (List.map pz PL) ∧ PL.Nodup ∧ ∀ p ∈ PL, p.1 < p.2 ∧ p.2 < i)
    ⟨none, none, none, [], [], rfl, fr02, po2.at (by rw [upd_ne papr]), upd_same, .nil, .nil, fun p hp => nomatch hp⟩ (fun _ _ _ _ _ => trivial) (fun i x σ H0 H3 hi' pp y => ?_) (fun σ H' pp => ?_)
  · obtain ⟨y6, y7, y8, PL, us, rfl, fr, po, hpr, hus, nd, hPL⟩ := pp
    obtain ⟨rfl, rfl⟩ := y
    have emax : (if (i : Int) > 1 then (i : Int) else 1) = ((max 1 i : Nat) : Int) := by split <;> omega
    refine ⟨.ref pa, rfl, .int (i : Nat), rfl, 1, (i : Nat), rfl, pa, max 1 i, (by rw [← emax]; rfl), po, by omega, by omega, fun H4 tt fr4 po4 htt => ?_⟩
    refine ⟨.int (i : Nat), rfl, (i : Nat), rfl, (big62 i (by omega)).1, (big62 i (by omega)).2, ?_⟩
    refine for_it walk_r (fun j σ H' => ∃ y8 PL us, σ = [some (.ref pa), some (.int 5), some (.int 8), some (.int (n : Nat)), some (.int (wy : Nat)), some (.ref pr), some (.int (i : Nat)), some (.int (tt : Nat)), y8, none, none] ∧ Fr H H' pa ∧ PoolOk H' pa ∧ H' pr = some (.lst us) ∧ Items H' us (List.map pz PL) ∧ PL.Nodup ∧ ∀ p ∈ PL, p.1 < p.2 ∧ (p.2 < i ∨ (p.2 = i ∧ p.1 < j)))
      ⟨y8, PL, us, rfl, fr.trans fr4, po4, fr4 _ _ fpr hpr, hus.mono (fr4.tup po), nd, fun p hp => ⟨(hPL p hp).1, .inl (hPL p hp).2⟩⟩ (fun _ _ _ _ _ => trivial) (fun j x σ H0 H5 hj pp y => ?_) (fun σ H' pp => ?_)
    · obtain ⟨y8, PL, us, rfl, fr, po, hpr, hus, nd, hPL⟩ := pp
      obtain ⟨rfl, rfl⟩ := y
      have lPL := pairs_short (n := 5) (by decide) nd fun p hp => ⟨(hPL p hp).1, by have := hPL p hp; omega⟩
      have lus := paired_len hus
      rw [List.length_map] at lus
      refine or3 po (fun Q h => ⟨.int (wy : Nat), rfl, rfl, _, rfl, h _⟩) (and_any (fun Q h => ⟨.int (wy : Nat), rfl, _, _, rfl, rfl, _, rfl, h _⟩) (fun Q h => ⟨.int (j : Nat), rfl, .int (tt : Nat), rfl, rfl, _, rfl, h _⟩))
        (fun Q h => ⟨.ref pa, rfl, pa, 6, rfl, po, by decide, by decide, fun H6 r fr6 po6 hr6 => ?_⟩) (fun c H6 fr6 po6 => ite2 (fun _ => ?_) (fun _ => ?_))
      · obtain ⟨v, hv⟩ := at_five wy hwy
        refine ⟨sz 5 (by omega), fun l nl => ⟨.int (wy : Nat), rfl, l, _, (wy : Nat), .int v, rfl, rfl, SqL.of upd_same, hv, _, _, rfl, rfl, _, rfl, h _ _ (fr6.new nl) (po6.at (upd_ne (po6.ne nl)))⟩⟩
      · have hpr6 := fr6 _ _ fpr hpr
        have hus6 := hus.mono (fr6.tup po)
        refine ⟨.ref pr, rfl, .inl ⟨rfl, _, SqL.of hpr6⟩, .int (j : Nat), rfl, .int (i : Nat), rfl, le2, fun c nc => ⟨pr, us, .ref c, rfl, rfl, at_new hpr6 nc, szlt _ (by omega), ?_⟩⟩
        have hpr7 := at_new (o := .tup [.int (j : Nat), .int (i : Nat)]) hpr6 nc
        have hus7 := hus6.mono (TupSame.new (o := .tup [.int (j : Nat), .int (i : Nat)]) nc)
        have po7 : PoolOk (upd H6 c (.tup [.int (j : Nat), .int (i : Nat)])) pa := po6.at (upd_ne (po6.ne nc))
        have fr7 : Fr H (upd H6 c (.tup [.int (j : Nat), .int (i : Nat)])) pa := (fr.trans fr6).new nc
        have hc : (upd H6 c (.tup [.int (j : Nat), .int (i : Nat)])) c = some (.tup [.int (j : Nat), .int (i : Nat)]) := upd_same
        generalize (upd H6 c (.tup [.int (j : Nat), .int (i : Nat)])) = H7 at *
        refine ⟨_, PL ++ [(j, i)], us ++ [.ref c], rfl, fun c' o hc' ho => ?_, po7.at (upd_ne papr), upd_same, ?_, pair_snoc_nodup nd (fun z => by have := hPL _ z; dsimp only at this; omega), fun p hp => ?_⟩
        · rw [upd_ne (hprH c' o hc' ho)]
          exact fr7 c' o hc' ho
        · rw [List.map_append]
          exact paired_snoc ⟨c, rfl, (TupSame.lst hpr7) _ _ hc⟩ (hus7.mono (.lst hpr7))
        · rcases List.mem_append.mp hp with hp | hp
          · have := hPL p hp
            omega
          · rw [List.mem_singleton.mp hp]
            dsimp only
            omega
      · exact ⟨_, PL, us, rfl, fr.trans fr6, po6, fr6 _ _ fpr hpr, hus.mono (fr6.tup po), nd, fun p hp => by have := hPL p hp; omega⟩
    · obtain ⟨y8, PL, us, rfl, fr, po, hpr, hus, nd, hPL⟩ := pp
      exact ⟨_, _, _, PL, us, rfl, fr, po, hpr, hus, nd, fun p hp => by have := hPL p hp; omega⟩
  · obtain ⟨y6, y7, y8, PL, us, rfl, fr, po, hpr, hus, nd, hPL⟩ := pp
    refine ⟨.ref pa, rfl, .int (n : Nat), rfl, pa, n, rfl, po, by omega, fun H3 na nm fr3 po3 nna hna hperm => ?_⟩
    have hprH2 : ∀ c o, c ≠ pa → H c = some o → c ≠ pr := hprH
    have napr : na ≠ pr := fun z => by
      rw [z, hpr] at nna
      cases nna
    have fna : na ≠ pa := fun z => by
      obtain ⟨_, _, _, g1, _⟩ := po
      rw [z, g1] at nna
      cases nna
    have hlm : nm.length = n := by
      rw [hperm.length_eq]
      simp
    refine ⟨fun m σ H' => ∃ PL us, σ = [some (.ref pa), some (.int 5), some (.int 8), some (.int (n : Nat)), some (.int (wy : Nat)), some (.ref pr), y6, y7, y8, some (.ref na), none] ∧ Fr H H' pa ∧ PoolOk H' pa ∧ H' pr = some (.lst us) ∧ H' na = some (.lst ((nz nm).map V.int)) ∧ Items H' us (List.map pz PL) ∧ PL.Nodup ∧ (∀ p ∈ PL, p.1 < p.2 ∧ p.2 < n) ∧ PL.length = m,
      ⟨PL.length, PL, us, rfl, fr.trans fr3, po3, fr3 _ _ fpr hpr, hna, hus.mono (fr3.tup po), nd, hPL, rfl⟩, fun m σ H' hW => ?_⟩
    obtain ⟨PL, us, rfl, fr, po, hpr, hna, hus, nd, hPL, hm⟩ := hW
    have lPL := pairs_short hn5 nd hPL
    have lus := paired_len hus
    rw [List.length_map] at lus
    refine ⟨.ref pr, rfl, pr, us, rfl, .inl (SqL.of hpr), .int 8, rfl, _, _, rfl, rfl, _, rfl, ?_⟩
    refine ite2 (fun e => ?_) (fun e => ?_)
    · have h8 : 8 < us.length := by
        have := of_decide_eq_true e
        omega
      refine ⟨fun σ' H2 => ∃ m', m' < m ∧ ∃ PL us, σ' = [some (.ref pa), some (.int 5), some (.int 8), some (.int (n : Nat)), some (.int (wy : Nat)), some (.ref pr), y6, y7, y8, some (.ref na), none] ∧ Fr H H2 pa ∧ PoolOk H2 pa ∧ H2 pr = some (.lst us) ∧ H2 na = some (.lst ((nz nm).map V.int)) ∧ Items H2 us (List.map pz PL) ∧ PL.Nodup ∧ (∀ p ∈ PL, p.1 < p.2 ∧ p.2 < n) ∧ PL.length = m', fun σ' H2 hN => hN, ?_⟩
      refine ⟨.ref pr, rfl, .inl ⟨rfl, _, SqL.of hpr⟩, .ref pa, rfl, .ref pr, rfl, pr, us, rfl, .inl (SqL.of hpr), pa, us.length, rfl, po, by omega, by omega, fun H4 r fr4 po4 hr => ?_⟩
      have hpr4 := fr4 _ _ fpr hpr
      refine ⟨pr, us, (r : Nat), r, us[r], rfl, rfl, hpr4, by omega, by omega, seq_nat hr, List.getElem?_eq_getElem hr, ?_⟩
      refine ⟨(PL.eraseIdx r).length, by rw [List.length_eraseIdx_of_lt (by omega)]; omega, PL.eraseIdx r, us.eraseIdx r, rfl, fun c' o hc' ho => ?_, po4.at (upd_ne papr), upd_same, ?_, ?_, nd.sublist (List.eraseIdx_sublist _ _), fun p hp => hPL p ((List.eraseIdx_sublist _ _).mem hp), rfl⟩
      · rw [upd_ne (hprH c' o hc' ho)]
        exact fr4 c' o hc' (fr c' o hc' ho)
      · rw [upd_ne napr]
        exact fr4 _ _ fna hna
      · rw [← map_erase]
        exact paired_erase r ((hus.mono (fr4.tup po)).mono (.lst hpr4))
    · have h8 : us.length ≤ 8 := by
        have : ¬ ((8 : Int) < (us.length : Int)) := fun z => e (decide_eq_true z)
        omega
      refine ⟨Nat.zero_le _, fun fo nfo => ?_⟩
      have frf := fr.new (o := .lst []) nfo
      have pof : PoolOk (upd H' fo (.lst [])) pa := po.at (upd_ne (po.ne nfo))
      have hprf := at_new (o := .lst []) hpr nfo
      have hnaf := at_new (o := .lst []) hna nfo
      have husf := hus.mono (TupSame.new (o := .lst []) nfo)
      have fop : fo ≠ pa := (po.ne nfo).symm
      have fopr : fo ≠ pr := (ne_of_none hpr nfo).symm
      have fona : fo ≠ na := (ne_of_none hna nfo).symm
      have hfoH : ∀ c o, c ≠ pa → H c = some o → c ≠ fo := fun c o hc ho => ne_of_none (fr c o hc ho) nfo
      refine ⟨.ref pr, rfl, pr, rfl, ⟨us, SqL.of hprf⟩, ?_⟩
      refine for_it (walk_list (xs := us)) (fun i σ H2 => ∃ z6 z8 vs, σ = [some (.ref pa), some (.int 5), some (.int 8), some (.int (n : Nat)), some (.int (wy : Nat)), some (.ref pr), z6, y7, z8, some (.ref na), some (.ref fo)] ∧ Fr H H2 pa ∧ PoolOk H2 pa ∧ H2 pr = some (.lst us) ∧ H2 na = some (.lst ((nz nm).map V.int)) ∧ Items H2 us (List.map pz PL) ∧ H2 fo = some (.lst vs) ∧ Items H2 vs (List.map pz ((PL.map (renM nm)).take i)))
        ⟨y6, y8, [], rfl, frf, pof, hprf, hnaf, husf, upd_same, .nil⟩ (fun i σ H2 hi2 pp => ?_) (fun i x σ H0 H4 hi2 pp y => ?_) (fun σ H4 pp => ?_)
      · obtain ⟨_, _, _, _, _, _, h1, _⟩ := pp
        exact SqL.of h1
      · obtain ⟨z6, z8, vs, rfl, fr, po, hpr, hna, hus, hfo, hvs⟩ := pp
        obtain ⟨rfl, ey⟩ := y
        obtain ⟨e1, e2, tp, h1, rfl, hp2⟩ := tie_at hus ey
        obtain ⟨b1, b2⟩ := hPL _ (List.mem_of_getElem? h1)
        have b1 : e1 < e2 := b1
        have b2 : e2 < n := b2
        have g : ∀ (p : Nat) (hp : p < n), (nz nm)[p]? = some ((nm.getD p 0 : Nat) : Int) := fun p hp => by
          rw [nz_at (List.getElem?_eq_getElem (show p < nm.length by omega)), List.getD_eq_getElem?_getD, List.getElem?_eq_getElem (show p < nm.length by omega)]
          rfl
        have lvs := paired_len hvs
        rw [List.length_map, List.length_take, List.length_map] at lvs
        refine ⟨tp, [.int (e1 : Nat), .int (e2 : Nat)], rfl, SqT.of hp2, rfl, .int (e1 : Nat), [.int (e2 : Nat)], rfl, .int (e2 : Nat), [], rfl, rfl, ?_⟩
        have rd := fun (p : Nat) (hp : p < n) => at_int (g p hp)
        have emin : (if ((nm.getD e2 0 : Nat) : Int) < ((nm.getD e1 0 : Nat) : Int) then ((nm.getD e2 0 : Nat) : Int) else ((nm.getD e1 0 : Nat) : Int)) = ((min (nm.getD e1 0) (nm.getD e2 0) : Nat) : Int) := by split <;> omega
        have emax : (if ((nm.getD e2 0 : Nat) : Int) > ((nm.getD e1 0 : Nat) : Int) then ((nm.getD e2 0 : Nat) : Int) else ((nm.getD e1 0 : Nat) : Int)) = ((max (nm.getD e1 0) (nm.getD e2 0) : Nat) : Int) := by split <;> omega
        refine ⟨.ref fo, rfl, .inl ⟨rfl, _, SqL.of hfo⟩, .ref na, rfl, .int (e1 : Nat), rfl, na, _, (e1 : Nat), _, rfl, rfl, SqL.of hna, rd e1 (by omega), .ref na, rfl, .int (e2 : Nat), rfl, na, _, (e2 : Nat), _, rfl, rfl, SqL.of hna, rd e2 b2, _, _, rfl,
          .ref na, rfl, .int (e1 : Nat), rfl, na, _, (e1 : Nat), _, rfl, rfl, SqL.of hna, rd e1 (by omega), .ref na, rfl, .int (e2 : Nat), rfl, na, _, (e2 : Nat), _, rfl, rfl, SqL.of hna, rd e2 b2, _, _, rfl, le2, fun c nc => ?_⟩
        rw [emin, emax]
        have hfo7 := at_new (o := .tup [.int ((min (nm.getD e1 0) (nm.getD e2 0) : Nat) : Int), .int ((max (nm.getD e1 0) (nm.getD e2 0) : Nat) : Int)]) hfo nc
        have hpr7 := at_new (o := .tup [.int ((min (nm.getD e1 0) (nm.getD e2 0) : Nat) : Int), .int ((max (nm.getD e1 0) (nm.getD e2 0) : Nat) : Int)]) hpr nc
        have hna7 := at_new (o := .tup [.int ((min (nm.getD e1 0) (nm.getD e2 0) : Nat) : Int), .int ((max (nm.getD e1 0) (nm.getD e2 0) : Nat) : Int)]) hna nc
        have ts7 := TupSame.new (o := .tup [.int ((min (nm.getD e1 0) (nm.getD e2 0) : Nat) : Int), .int ((max (nm.getD e1 0) (nm.getD e2 0) : Nat) : Int)]) nc
        have po7 : PoolOk (upd H4 c (.tup [.int ((min (nm.getD e1 0) (nm.getD e2 0) : Nat) : Int), .int ((max (nm.getD e1 0) (nm.getD e2 0) : Nat) : Int)])) pa := po.at (upd_ne (po.ne nc))
        have fr7 : Fr H (upd H4 c (.tup [.int ((min (nm.getD e1 0) (nm.getD e2 0) : Nat) : Int), .int ((max (nm.getD e1 0) (nm.getD e2 0) : Nat) : Int)])) pa := fr.new nc
        have hc : (upd H4 c (.tup [.int ((min (nm.getD e1 0) (nm.getD e2 0) : Nat) : Int), .int ((max (nm.getD e1 0) (nm.getD e2 0) : Nat) : Int)])) c = some (.tup [.int ((min (nm.getD e1 0) (nm.getD e2 0) : Nat) : Int), .int ((max (nm.getD e1 0) (nm.getD e2 0) : Nat) : Int)]) := upd_same
        generalize (upd H4 c (.tup [.int ((min (nm.getD e1 0) (nm.getD e2 0) : Nat) : Int), .int ((max (nm.getD e1 0) (nm.getD e2 0) : Nat) : Int)])) = H7 at *
        refine ⟨fo, vs, .ref c, rfl, rfl, hfo7, szlt _ (by omega), ?_⟩
        have ets := TupSame.lst (o := .lst (vs ++ [.ref c])) hfo7
        refine ⟨_, _, vs ++ [.ref c], rfl, fun c' o hc' ho => ?_, po7.at (upd_ne fop.symm), ?_, ?_, (hus.mono ts7).mono ets, upd_same, ?_⟩
        · rw [upd_ne (hfoH c' o hc' ho)]
          exact fr7 c' o hc' ho
        · rw [upd_ne fopr.symm]
          exact hpr7
        · rw [upd_ne fona.symm]
          exact hna7
        · have er : (PL.map (renM nm))[i]? = some (renM nm (e1, e2)) := by
            rw [List.getElem?_map, h1]
            rfl
          rw [take_snoc er, List.map_append]
          exact paired_snoc ⟨c, rfl, ets _ _ hc⟩ ((hvs.mono ts7).mono ets)
      · obtain ⟨z6, z8, vs, rfl, fr, po, hpr, hna, hus, hfo, hvs⟩ := pp
        rw [List.take_of_length_le (by rw [List.length_map]; omega)] at hvs
        obtain ⟨ndr, lowr⟩ := ren_ok hperm nd hPL
        refine ⟨.int (n : Nat), rfl, .ref fo, rfl, fo, vs, kOf H4, rfl, SqL.of hfo, (fun x hx => ?_), fun ys p hs hstb np => ?_⟩
        · obtain ⟨i, hi⟩ := List.mem_iff_getElem?.mp hx
          obtain ⟨a, b, p, g1, rfl, g2⟩ := tie_at hvs hi
          refine ⟨p, rfl, ?_⟩
          rw [kOf_at g2]
          exact g2
        · obtain ⟨TL, t1, t2, t3⟩ := sorted_items hvs hstb.perm hs ndr fun q hq => (lowr q hq).1
          refine ⟨p, ys, rfl, .inl ⟨SqL.of upd_same, fun lt nlt => ⟨le2, fun d nd' => ?_⟩⟩⟩
          have s5 : Same H4 (upd (upd (upd H4 p (.lst ys)) lt (.tup ys)) d (.tup [.int (n : Nat), .ref lt])) := same_step (same_step (same_new np) nlt) nd'
          obtain ⟨p0, p1, p2, g1, g2⟩ := po
          refine q _ (.ref d) n TL (fr.trans (.of pa s5)) ⟨p0, p1, p2, s5 _ _ g1, g2⟩ ⟨d, lt, ys, rfl, upd_same, at_new upd_same nd', t1.mono (.of s5)⟩ ⟨hn1, hn5, ?_, fun p hp => lowr p (t2.mem_iff.mp hp), t3⟩
          rw [t2.length_eq, List.length_map]
          omega
end
end K40

set_option Elab.async false
set_option linter.all false
set_option maxRecDepth 100000
set_option maxHeartbeats 4000000
namespace K40
open PySem PySem.Spec PyProof.Rows L2
section
variable {P : Program} {w : World} {K : PySem.W.Frag} {mg : Str → Option Value} {base : Heap}
/-! ### kin, in plain Lean -/
theorem turn_at1 {T : List (Nat × Nat)} {f : List Bool} {p k : Nat} {e : Nat × Nat} {d0 : Bool} (h1 : T[k]? = some e) (h2 : f[k]? = some d0) : (turnAt T f p)[k]? = some (d0 != (p == e.1 || p == e.2)) := by
  simp [turnAt, List.getElem?_zipWith, h1, h2]
theorem keep_turn {T : List (Nat × Nat)} {f : List Bool} {p : Nat} {x : Nat → Int} {t b : Int} (hs : isSpring (arr T f) p = true) (h : Keep (arr T f) x t b) : Keep (arr T (turnAt T f p)) (fun q => if q = p then x q + t else x q) t b := by
  intro y hy
  obtain ⟨k, hk⟩ := List.mem_iff_getElem?.mp hy
  obtain ⟨e, d, he, hd, rfl⟩ := arr_of hk
  obtain ⟨d0, hd0, ed⟩ := turn_at0 he hd
  have h0 := h _ (List.mem_of_getElem? (arr_at2 he hd0))
  have n2 := spring_out hs he hd0
  dsimp only
  by_cases g : (p == e.1 || p == e.2) = true
  · rw [g] at ed
    have ed2 : d = !d0 := by rw [ed]; cases d0 <;> rfl
    have e1 : (ao e d0).1 = p := by
      rcases (ao_ends e d0 p).mp g with z | z
      · exact z.symm
      · exact absurd z.symm n2
    rw [ed2, ao_swap]
    dsimp only
    rw [if_neg n2, if_pos e1]
    omega
  · have g' : (p == e.1 || p == e.2) = false := by simpa using g
    rw [g'] at ed
    have ed2 : d = d0 := by rw [ed]; cases d0 <;> rfl
    have g3 : ¬ (p = (ao e d0).1 ∨ p = (ao e d0).2) := fun z => g ((ao_ends e d0 p).mpr z)
    rw [ed2, if_neg (fun z => g3 (.inr z.symm)), if_neg (fun z => g3 (.inl z.symm))]
    exact h0
theorem keep_back {T : List (Nat × Nat)} {f : List Bool} {p : Nat} {x : Nat → Int} {t b : Int} (hs : isSpring (arr T f) p = true) (h : Keep (arr T (turnAt T f p)) x t b) : Keep (arr T f) (fun q => if q = p then x q - t else x q) t b := by
  intro y hy
  obtain ⟨k, hk⟩ := List.mem_iff_getElem?.mp hy
  obtain ⟨e, d0, he, hd0, rfl⟩ := arr_of hk
  have hd := turn_at1 (p := p) he hd0
  have h0 := h _ (List.mem_of_getElem? (arr_at2 he hd))
  have n2 := spring_out hs he hd0
  dsimp only
  by_cases g : (p == e.1 || p == e.2) = true
  · rw [g] at h0
    have ed2 : (d0 != true) = !d0 := by cases d0 <;> rfl
    rw [ed2, ao_swap] at h0
    have e1 : (ao e d0).1 = p := by
      rcases (ao_ends e d0 p).mp g with z | z
      · exact z.symm
      · exact absurd z.symm n2
    dsimp only at h0
    rw [if_neg n2, if_pos e1]
    omega
  · have g' : (p == e.1 || p == e.2) = false := by simpa using g
    rw [g'] at h0
    have ed2 : (d0 != false) = d0 := by cases d0 <;> rfl
    rw [ed2] at h0
    have g3 : ¬ (p = (ao e d0).1 ∨ p = (ao e d0).2) := fun z => g ((ao_ends e d0 p).mpr z)
    rw [if_neg (fun z => g3 (.inr z.symm)), if_neg (fun z => g3 (.inl z.symm))]
    exact h0
theorem feas_turn {T : List (Nat × Nat)} {f : List Bool} {p : Nat} (hs : isSpring (arr T f) p = true) (t b : Int) : Feas (arr T f) t b ↔ Feas (arr T (turnAt T f p)) t b :=
  ⟨fun ⟨_, h⟩ => ⟨_, keep_turn hs h⟩, fun ⟨_, h⟩ => ⟨_, keep_back hs h⟩⟩
/-- what all kin have -/
structure KinOk (T : List (Nat × Nat)) (f g : List Bool) : Prop where
  len : T.length = g.length
  acyc : Acyc (arr T g)
  same : ∀ t b : Int, Feas (arr T f) t b ↔ Feas (arr T g) t b
theorem KinOk.turn {T : List (Nat × Nat)} {f g : List Bool} {p : Nat} (h : KinOk T f g) (hs : isSpring (arr T g) p = true) : KinOk T f (turnAt T g p) :=
  ⟨turn_len p h.len, acyc_turn h.acyc hs, fun t b => (h.same t b).trans (feas_turn hs t b)⟩
def tot (M : Int) (x : Nat → Int) : Nat → Nat
  | 0 => 0
  | k + 1 => (M - x k).toNat + tot M x k
theorem tot_upd {M : Int} {x : Nat → Int} {p : Nat} {z : Int} : ∀ k, (p < k → tot M (fun q => if q = p then z else x q) k + (M - x p).toNat = tot M x k + (M - z).toNat) ∧ (k ≤ p → tot M (fun q => if q = p then z else x q) k = tot M x k)
  | 0 => ⟨fun h => absurd h (Nat.not_lt_zero p), fun _ => rfl⟩
  | k + 1 => by
    obtain ⟨i1, i2⟩ := tot_upd (M := M) (x := x) (p := p) (z := z) k
    show (p < k + 1 → (M - (if k = p then z else x k)).toNat + tot M (fun q => if q = p then z else x q) k + (M - x p).toNat = (M - x k).toNat + tot M x k + (M - z).toNat) ∧ (k + 1 ≤ p → (M - (if k = p then z else x k)).toNat + tot M (fun q => if q = p then z else x q) k = (M - x k).toNat + tot M x k)
    by_cases e : k = p
    · subst e
      rw [if_pos rfl]
      have := i2 (Nat.le_refl _)
      exact ⟨fun _ => by omega, fun h => by omega⟩
    · rw [if_neg e]
      exact ⟨fun h => by have := i1 (by omega); omega, fun h => by have := i2 (by omega); omega⟩
theorem arr_lt {n : Nat} {T : List (Nat × Nat)} {f : List Bool} (hok : WebOk n T) {p : Nat × Nat} (h : p ∈ arr T f) : p.1 < n ∧ p.2 < n := by
  obtain ⟨k, hk⟩ := List.mem_iff_getElem?.mp h
  obtain ⟨e, d, he, hd, rfl⟩ := arr_of hk
  exact ao_lt hok.low he
theorem low_kin {n : Nat} {T : List (Nat × Nat)} (hok : WebOk n T) {KS : List (List Bool)} (hc : ∀ g ∈ KS, ∀ p, p < n → isSpring (arr T g) p = true → turnAt T g p ∈ KS) {m : Nat} (hm : 1 ≤ m) (M : Int) :
    ∀ (k : Nat) (x : Nat → Int) (g : List Bool), g ∈ KS → Keep (arr T g) x m 1 → (∀ p, p < n → x p ≤ M) → tot M x n ≤ k → ∃ g' ∈ KS, ∃ x', Keep (arr T g') x' m 1 ∧ ∀ p q, p < n → q < n → x' p - x' q ≤ (m : Int) - 1 := by
  intro k
  induction k with
  | zero =>
    intro x g hg hk hM ht
    refine ⟨g, hg, x, hk, fun p q hp hq => ?_⟩
    have eq : ∀ j, j ≤ n → tot M x j = 0 → ∀ q, q < j → M ≤ x q := by
      intro j
      induction j with
      | zero => intro _ _ q hq; omega
      | succ j ih =>
        intro hj h0 q hq
        have h0' : (M - x j).toNat + tot M x j = 0 := h0
        by_cases e : q = j
        · subst e
          omega
        · exact ih (by omega) (by omega) q (by omega)
    have := eq n (Nat.le_refl _) (by omega) q hq
    have := hM p hp
    omega
  | succ k ih =>
    intro x g hg hk hM ht
    obtain ⟨p, hp, _, hmin⟩ := least_rank x (fun _ => True) n ⟨0, hok.pos, trivial⟩
    by_cases hd : M - x p ≤ (m : Int) - 1
    · refine ⟨g, hg, x, hk, fun a b ha hb => ?_⟩
      have h1 := hM a ha
      have h2 := hmin b hb trivial
      omega
    · have hs : isSpring (arr T g) p = true := by
        unfold isSpring
        rw [Bool.not_eq_true']
        cases z : ((arr T g).any fun e => e.2 == p) with
        | false => rfl
        | true =>
          exfalso
          obtain ⟨y, hy, hy2⟩ := List.any_eq_true.mp z
          have hy2 : y.2 = p := by simpa using hy2
          have h1 := hk y hy
          have h2 := hmin y.1 (arr_lt hok hy).1 trivial
          rw [hy2] at h1
          omega
      have hk2 := keep_turn hs hk
      have hx : (fun q => if q = p then x q + (m : Int) else x q) = fun q => if q = p then x p + (m : Int) else x q := by
        funext q
        by_cases e : q = p
        · rw [if_pos e, if_pos e, e]
        · rw [if_neg e, if_neg e]
      rw [hx] at hk2
      have hu := (tot_upd (M := M) (x := x) (p := p) (z := x p + (m : Int)) n).1 hp
      refine ih _ _ (hc g hg p hp hs) hk2 (fun q hq => ?_) (by omega)
      split
      · omega
      · exact hM q hq
/-! ### heights -/
def hrows (A : List (Nat × Nat)) : List Row := A.map fun e => (e.1, e.2, (1 : Int))
theorem hrows_ok {n : Nat} {T : List (Nat × Nat)} {f : List Bool} (hok : WebOk n T) : RowsOk (hrows (arr T f)) n := by
  intro r hr
  obtain ⟨e, he, rfl⟩ := List.mem_map.mp hr
  obtain ⟨h1, h2⟩ := arr_lt hok he
  refine ⟨h1, h2, fun z => ?_⟩
  dsimp only at z
  rcases arr_tie he with g | g
  · have := hok.low _ g
    omega
  · have := hok.low _ g
    dsimp only at this
    omega
theorem heights_up {n : Nat} {T : List (Nat × Nat)} {f : List Bool} (hok : WebOk n T) (hac : Acyc (arr T f)) : ∀ e ∈ arr T f, (bfAt (hrows (arr T f)) n n).1.getD e.1 0 + 1 ≤ (bfAt (hrows (arr T f)) n n).1.getD e.2 0 := by
  obtain ⟨r, hr⟩ := hac
  cases hl : bfLate (hrows (arr T f)) n n with
  | none =>
    obtain ⟨_, h2⟩ := fold_none (hrows (arr T f)) ((bfAt (hrows (arr T f)) n n).1, (bfAt (hrows (arr T f)) n n).2, none) hl rfl
    intro e he
    exact h2 (e.1, e.2, 1) (List.mem_map.mpr ⟨e, he, rfl⟩)
  | some l =>
    exfalso
    have hrw : ∀ q ∈ hrows (arr T f), q.1 < n ∧ q.2.1 < n := fun q hq => ⟨(hrows_ok hok q hq).1, (hrows_ok hok q hq).2.1⟩
    have lC : (bfAt (hrows (arr T f)) n (n + 1)).2.length = n := (bf_len _ n (n + 1)).2
    have ltC : ∀ v ∈ (bfAt (hrows (arr T f)) n (n + 1)).2, v < (bfAt (hrows (arr T f)) n (n + 1)).2.length := by
      rw [lC]
      exact bf_came hrw (n + 1)
    obtain ⟨k, k1, _, k3, _⟩ := period ltC (p := l) (by rw [lC]; exact bf_late hrw n l hl)
    rw [lC] at k3
    obtain ⟨N, last, hst⟩ := reach (hrows_ok hok) hl rfl k1 k3
    generalize iterC (bfAt (hrows (arr T f)) n (n + 1)).2 n l = v at *
    generalize (bfAt (hrows (arr T f)) n (n + 1)).2 = C at *
    have down : ∀ j, j ≤ k → r (iterC C j v) + j ≤ r v := by
      intro j
      induction j with
      | zero => intro _; exact Int.le_of_eq (Int.add_zero _)
      | succ j ih =>
        intro hj
        have h1 := ih (by omega)
        obtain ⟨w, h2, _⟩ := hst j (by omega)
        obtain ⟨e, he, e2⟩ := List.mem_map.mp h2
        have a1 : e.1 = iterC C (j + 1) v := congrArg Prod.fst e2
        have a2 : e.2 = iterC C j v := congrArg (fun z => z.2.1) e2
        have h3 := hr e he
        rw [a1, a2] at h3
        omega
    have := down k (Nat.le_refl _)
    rw [k3] at this
    omega
theorem heights_below {n : Nat} {A : List (Nat × Nat)} {x : Nat → Int} (h0 : ∀ p, 0 ≤ x p) (hx : ∀ e ∈ A, x e.1 + 1 ≤ x e.2) : ∀ i p, (bfAt (hrows A) n i).1.getD p 0 ≤ x p := by
  have step : ∀ (rows : List Row) (st : St3), (∀ r ∈ rows, x r.1 + r.2.2 ≤ x r.2.1) → (∀ p, st.1.getD p 0 ≤ x p) → ∀ p, (rows.foldl relax st).1.getD p 0 ≤ x p := by
    intro rows
    induction rows with
    | nil => exact fun st _ h => h
    | cons r rows ih =>
      intro st hr h
      refine ih (relax st r) (fun q hq => hr q (List.mem_cons_of_mem _ hq)) fun p => ?_
      unfold relax
      split
      · show (st.1.set r.2.1 (st.1.getD r.1 0 + r.2.2)).getD p 0 ≤ x p
        by_cases hlt : r.2.1 < st.1.length
        · rw [getD_set0 hlt]
          split
          · rename_i e
            rw [e]
            have := hr r (List.mem_cons_self ..)
            have := h r.1
            omega
          · exact h p
        · rw [List.set_eq_of_length_le (by omega)]
          exact h p
      · exact h p
  intro i
  induction i with
  | zero =>
    intro p
    have : (bfAt (hrows A) n 0).1.getD p 0 = 0 := by
      show (List.replicate n (0 : Int)).getD p 0 = 0
      rw [List.getD_eq_getElem?_getD, List.getElem?_replicate]
      split <;> rfl
    rw [this]
    exact h0 p
  | succ i ih =>
    refine step (hrows A) ((bfAt (hrows A) n i).1, (bfAt (hrows A) n i).2, none) (fun r hr => ?_) ih
    obtain ⟨e, he, rfl⟩ := List.mem_map.mp hr
    exact hx e he
theorem heights_nonneg {n : Nat} {T : List (Nat × Nat)} {f : List Bool} (hok : WebOk n T) (i p : Nat) : 0 ≤ (bfAt (hrows (arr T f)) n i).1.getD p 0 := by
  refine (bf_bound (t := 1) (n := n) (rows := hrows (arr T f)) (by decide) (fun r hr => ⟨⟨(hrows_ok hok r hr).1, (hrows_ok hok r hr).2.1⟩, ?_⟩) i p).1
  obtain ⟨e, he, rfl⟩ := List.mem_map.mp hr
  exact Int.le_refl _
/-- the heights of a fall -/
def hts (n : Nat) (T : List (Nat × Nat)) (g : List Bool) : List Int := (bfAt (hrows (arr T g)) n n).1
theorem hts_len (n : Nat) (T : List (Nat × Nat)) (g : List Bool) : (hts n T g).length = n := (bf_len _ n n).1
theorem hts_at {n : Nat} {T : List (Nat × Nat)} {g : List Bool} {z : Int} (h : z ∈ hts n T g) : ∃ p, p < n ∧ (hts n T g).getD p 0 = z := by
  obtain ⟨i, hi⟩ := List.mem_iff_getElem?.mp h
  have := (List.getElem?_eq_some_iff.mp hi).1
  rw [hts_len] at this
  refine ⟨i, this, ?_⟩
  rw [List.getD_eq_getElem?_getD, hi]
  rfl
theorem hts_in {n : Nat} {T : List (Nat × Nat)} {g : List Bool} {p : Nat} (h : p < n) : (hts n T g).getD p 0 ∈ hts n T g := by
  rw [List.getD_eq_getElem?_getD, List.getElem?_eq_getElem (by rw [hts_len]; exact h)]
  exact List.getElem_mem _
/-- no kin is lower than the worth tells -/
theorem hts_least {n : Nat} {T : List (Nat × Nat)} {f g : List Bool} {t b m : Nat} {s : Int} (hok : WebOk n T) (hW : WorthOk T f t b) (hm2 : m * b < t + b) (hk : KinOk T f g) (hs : s ∈ hts n T g) (hmax : ∀ z ∈ hts n T g, z ≤ s) : (m : Int) - 1 ≤ s := by
  have h0 : 0 ≤ s := by
    obtain ⟨p, hp, e⟩ := hts_at hs
    rw [← e]
    exact heights_nonneg hok n p
  by_cases hT : T = []
  · obtain ⟨rfl, rfl⟩ := hW.nil hT
    omega
  · have hf : Feas (arr T g) (s + 1) 1 := by
      refine ⟨fun p => (hts n T g).getD p 0, fun e he => ?_⟩
      have h1 := heights_up hok hk.acyc e he
      obtain ⟨l1, l2⟩ := arr_lt hok he
      have h2 := hmax _ (hts_in (T := T) (g := g) l2)
      have h3 := heights_nonneg (f := g) hok n e.1
      have h1 : (hts n T g).getD e.1 0 + 1 ≤ (hts n T g).getD e.2 0 := h1
      have h3 : 0 ≤ (hts n T g).getD e.1 0 := h3
      dsimp only
      omega
    have hl := hW.least hT (s + 1) 1 (by decide) ((hk.same _ _).mpr hf)
    by_cases z : (m : Int) - 1 ≤ s
    · exact z
    · exfalso
      have hb := hW.pos
      have e1 : (s + 1) * (b : Int) ≤ ((m : Int) - 1) * (b : Int) := Int.mul_le_mul_of_nonneg_right (by omega) (by omega)
      rw [Int.sub_mul, Int.one_mul, ← Int.natCast_mul] at e1
      omega
/-- some kin is as low -/
theorem hts_low {n : Nat} {T : List (Nat × Nat)} {f : List Bool} {t b m : Nat} (hok : WebOk n T) (hW : WorthOk T f t b) (hm1 : t ≤ m * b) {KS : List (List Bool)} (hf : f ∈ KS) (hc : ∀ g ∈ KS, ∀ p, p < n → isSpring (arr T g) p = true → turnAt T g p ∈ KS) :
    ∃ g ∈ KS, ∀ z ∈ hts n T g, z ≤ (m : Int) - 1 := by
  obtain ⟨x, hx⟩ := feas_floor hW.feas hW.pos hm1
  have hm0 : 1 ≤ m := by
    by_cases z : m = 0
    · subst z
      have hb := hW.pos
      by_cases hT : T = []
      · have := hW.nil hT
        omega
      · have := hW.half hT
        omega
    · omega
  have hM : ∃ M : Int, ∀ p, p < n → x p ≤ M := by
    clear hx hok
    induction n with
    | zero => exact ⟨0, fun p hp => absurd hp (Nat.not_lt_zero p)⟩
    | succ n ih =>
      obtain ⟨M, h⟩ := ih (fun g hg p hp => hc g hg p (by omega))
      refine ⟨max M (x n), fun p hp => ?_⟩
      by_cases e : p = n
      · subst e
        omega
      · have := h p (by omega)
        omega
  obtain ⟨M, hM⟩ := hM
  obtain ⟨g, hg, y, hy, hsp⟩ := low_kin hok hc hm0 M (tot M x n) x f hf hx hM (Nat.le_refl _)
  obtain ⟨p0, hp0, _, hmin⟩ := least_rank y (fun _ => True) n ⟨0, hok.pos, trivial⟩
  refine ⟨g, hg, fun z hz => ?_⟩
  obtain ⟨p, hp, rfl⟩ := hts_at hz
  have hb := heights_below (n := n) (A := arr T g) (x := fun q => if q < n then y q - y p0 else 0) (fun q => by
    split
    · rename_i h
      have := hmin q h trivial
      omega
    · exact Int.le_refl _) (fun e he => by
    obtain ⟨l1, l2⟩ := arr_lt hok he
    have := hy e he
    rw [if_pos l1, if_pos l2]
    omega) n p
  rw [if_pos hp] at hb
  have := hsp p p0 hp hp0
  have hb : (hts n T g).getD p 0 ≤ y p - y p0 := hb
  omega
end
end K40

set_option Elab.async false
set_option linter.all false
set_option maxRecDepth 100000
set_option maxHeartbeats 4000000
namespace K40
open PySem PySem.Spec PyProof.Rows L2
section
variable {P : Program} {w : World} {K : PySem.W.Frag} {mg : Str → Option Value} {base : Heap}
/-! ### _law_heights, _law_spring_turned, _law_springs -/
abbrev Nlawheights : List Str := ["web", "fall", "found", "turn", "start", "end"]
theorem sclawheights : FnScope Nlawheights ["web", "fall"] (defScope (topS 39)) := ⟨rfl, rfl, rfl, by decide +kernel, rfl, by decide +kernel, by decide +kernel⟩
-- 0 web 1 fall 2 found 3 turn 4 start 5 end
def spHeights : Sp := fun vs H Q _ => ∃ (wv fv : V) (n : Nat) (T : List (Nat × Nat)) (f : List Bool), vs = [wv, fv] ∧ IsWeb H wv n T ∧ Tup H fv (bzs f) ∧ T.length = f.length ∧ WebOk n T ∧
  ∀ H' l, Same H H' → H l = none → H' l = some (.lst ((hts n T f).map V.int)) → Q (.ref l) H'
theorem set_self (xs : List Int) (p : Nat) : xs.set p (xs.getD p 0) = xs := by
  refine List.ext_getElem? fun i => ?_
  rw [List.getElem?_set]
  by_cases h : p = i
  · subst h
    rw [if_pos rfl]
    by_cases g : p < xs.length
    · rw [if_pos g, List.getD_eq_getElem?_getD, List.getElem?_eq_getElem g]
      rfl
    · rw [if_neg g, List.getElem?_eq_none (by omega)]
  · rw [if_neg h]
theorem k_lawheights (T : Tx K mg) : Keeps P w K mg base 2 "_law_heights" ["web", "fall"] spHeights := by
  have klawarrows := k_lawarrows (P := P) (w := w) (base := base) T
  refine T.dlawheights.keeps sclawheights (fun vs H Q E h => ?_) (fun fa cdv A outer s H vs Q E hr h => ?_)
  · obtain ⟨wv, fv, n, T, f, rfl, _⟩ := h
    rfl
  obtain ⟨wv, fv, n, W, f, rfl, hw, hf, hl, hok, q⟩ := h
  obtain ⟨a, t, tv, rfl, ha, ht, hi⟩ := id hw
  have h5 := hok.most
  have h8 := hok.ties
  refine ⟨_, (pss_cons (ps_set (i := 2) sclawheights.nd rfl (.inl rfl) (pe_op op_rep (pe_lst (pa_cons pe_int pa_nil)) (pe_ix ix_tup (pv 0) pe_int (fun _ _ => rfl))))
    (pss_cons (ps_for PassesOwn.never rfl (pi_range1 (by rfl) T.zrange (pa_cons (pe_ix ix_tup (pv 0) pe_int (fun _ _ => rfl)) pa_nil)) (pg_name (i := 3) sclawheights.nd rfl (.inl rfl)) (pss_one (ps_for PassesOwn.never rfl (pi_list (pe_k klawarrows (hr.mono (by decide)) (pa_cons (pv 0) (pa_cons (pv 1) pa_nil)))) (pg_tup rfl (pgs_cons (pg_name (i := 4) sclawheights.nd rfl (.inl rfl)) (pgs_cons (pg_name (i := 5) sclawheights.nd rfl (.inl rfl)) pgs_nil))) (pss_one (ps_asg (pe_callB (call_max2 rfl) (by rfl) T.zmax (by decide +kernel) (pa_cons (pe_ix ix_list (pv 2) (pv 5) (fun _ _ => rfl)) (pa_cons (pe_op op_add (pe_ix ix_list (pv 2) (pv 4) (fun _ _ => rfl)) pe_int) pa_nil))) (pg_sub (pv 2) (pv 5) set_list))))))
    (pss_one (ps_ret (pv 2))))), ?_⟩
  refine ⟨le1, fun o0 n0 => ?_⟩
  refine ⟨.ref a, rfl, a, _, 0, .int n, rfl, rfl, SqT.of (at_new ha n0), rfl, o0, (n : Nat), _, rfl, rfl, upd_same, by omega, by omega, ?_, fun nu nnu => ?_⟩
  · rw [sizeLine_eq]
    simp
    omega
  have e0 : (List.replicate ((n : Nat) : Int).toNat [V.int 0]).flatten = ((bfAt (hrows (arr W f)) n 0).1).map V.int := by
    rw [rep_flat, Int.toNat_natCast]
    simp [bfAt]
  rw [e0]
  have s0 : Same H (upd (upd H o0 (.lst [.int 0])) nu (.lst (((bfAt (hrows (arr W f)) n 0).1).map V.int))) := same_step (same_new n0) nnu
  have fnu : H nu = none := Same.free (same_new n0) nnu
  have hrow := hrows_ok (f := f) hok
  refine ⟨.ref a, rfl, a, _, 0, .int n, rfl, rfl, SqT.of (s0 _ _ ha), rfl, (n : Nat), rfl, (big62 n (by omega)).1, (big62 n (by omega)).2, ?_⟩
  refine for_it walk_r (fun i σ H' => ∃ y3 y4 y5, σ = [some (.ref a), some fv, some (.ref nu), y3, y4, y5] ∧ Same H H' ∧ H' nu = some (.lst (((bfAt (hrows (arr W f)) n i).1).map V.int)))
    ⟨none, none, none, rfl, s0, upd_same⟩ (fun _ _ _ _ _ => trivial) (fun i x σ H0 H1 hi' pp y => ?_) (fun σ H' pp => ?_)
  · obtain ⟨y3, y4, y5, rfl, sm, hnu⟩ := pp
    obtain ⟨rfl, rfl⟩ := y
    obtain ⟨len1, len2⟩ := bf_len (hrows (arr W f)) n i
    refine ⟨.ref a, rfl, fv, rfl, .ref a, fv, n, W, f, rfl, hw.mono (.of sm), hf.mono (.of sm), hl, by omega, fun H2 l s2 nl ⟨us, hlu, hus⟩ => ⟨l, rfl, ⟨us, SqL.of hlu⟩, ?_⟩⟩
    have lnu : l ≠ nu := (ne_of_none hnu nl).symm
    have hul := paired_len hus
    rw [List.length_map] at hul
    refine for_it (walk_list (xs := us)) (fun j σ H' => ∃ y4 y5, σ = [some (.ref a), some fv, some (.ref nu), some (.int (i : Nat)), y4, y5] ∧ Same H H' ∧ TupSame H2 H' ∧ H' l = some (.lst us) ∧
        H' nu = some (.lst (((((hrows (arr W f)).take j).foldl relax ((bfAt (hrows (arr W f)) n i).1, (bfAt (hrows (arr W f)) n i).2, none)).1).map V.int)))
      ⟨y4, y5, rfl, sm.trans s2, .refl _, hlu, s2 _ _ hnu⟩ (fun j σ H' hj pp => ?_) (fun j x σ H3 H4 hj pp y => ?_) (fun σ H' pp => ?_)
    · obtain ⟨_, _, _, _, _, h1, _⟩ := pp
      exact SqL.of h1
    · obtain ⟨y4, y5, rfl, sm3, ts3, hl3, hnu3⟩ := pp
      obtain ⟨rfl, ey⟩ := y
      obtain ⟨e1, e2, p, h1, rfl, hp⟩ := tie_at hus ey
      have hrj : (hrows (arr W f))[j]? = some (e1, e2, 1) := by
        unfold hrows
        rw [List.getElem?_map, h1]
        rfl
      obtain ⟨lt1, lt2, _⟩ := hrow _ (List.mem_of_getElem? hrj)
      have lt1 : e1 < n := lt1
      have lt2 : e2 < n := lt2
      have etake : ((hrows (arr W f)).take (j + 1)).foldl relax ((bfAt (hrows (arr W f)) n i).1, (bfAt (hrows (arr W f)) n i).2, none) = relax (((hrows (arr W f)).take j).foldl relax ((bfAt (hrows (arr W f)) n i).1, (bfAt (hrows (arr W f)) n i).2, none)) (e1, e2, 1) := by
        rw [take_snoc hrj, List.foldl_append]
        rfl
      obtain ⟨flen1, flen2⟩ := fold_len ((hrows (arr W f)).take j) ((bfAt (hrows (arr W f)) n i).1, (bfAt (hrows (arr W f)) n i).2, none)
      generalize hS : ((hrows (arr W f)).take j).foldl relax ((bfAt (hrows (arr W f)) n i).1, (bfAt (hrows (arr W f)) n i).2, none) = S at *
      have l1 : S.1.length = n := flen1.trans len1
      have g1 : S.1[e1]? = some (S.1.getD e1 0) := by simp [l1, lt1]
      have g2 : S.1[e2]? = some (S.1.getD e2 0) := by simp [l1, lt2]
      have eset : S.1.set e2 (if S.1.getD e1 0 + 1 > S.1.getD e2 0 then S.1.getD e1 0 + 1 else S.1.getD e2 0) = (relax S (e1, e2, 1)).1 := by
        unfold relax
        dsimp only
        by_cases c : S.1.getD e2 0 < S.1.getD e1 0 + 1
        · rw [if_pos c, if_pos c]
        · rw [if_neg c, if_neg c, set_self]
      refine ⟨p, [.int (e1 : Nat), .int (e2 : Nat)], rfl, SqT.of (ts3 _ _ hp), rfl, .int (e1 : Nat), [.int (e2 : Nat)], rfl, .int (e2 : Nat), [], rfl, rfl, ?_⟩
      refine ⟨.ref nu, rfl, .int (e2 : Nat), rfl, nu, _, (e2 : Nat), _, rfl, rfl, SqL.of hnu3, at_int g2, .ref nu, rfl, .int (e1 : Nat), rfl, nu, _, (e1 : Nat), _, rfl, rfl, SqL.of hnu3, at_int g1, _, _, rfl, rfl, _, _, rfl, .ref nu, rfl, .int (e2 : Nat), rfl, nu, _, (e2 : Nat), e2, rfl, rfl, hnu3, ixN_nat (by rw [List.length_map, l1]; exact lt2), ?_⟩
      refine ⟨_, _, rfl, same_mut sm3 fnu, ts3.trans (.lst hnu3), ?_, ?_⟩
      · rw [upd_ne lnu]
        exact hl3
      · rw [etake, ← eset, set_int]
        exact upd_same
    · obtain ⟨y4, y5, rfl, sm3, ts3, hl3, hnu3⟩ := pp
      rw [List.take_of_length_le (by simp [hrows]; omega)] at hnu3
      exact ⟨_, _, _, rfl, sm3, hnu3⟩
  · obtain ⟨y3, y4, y5, rfl, sm, hnu⟩ := pp
    exact ⟨.ref nu, rfl, q _ nu sm fnu hnu⟩
abbrev Nlawspringturned : List Str := ["web", "fall", "place", "found", "k", "tie"]
theorem sclawspringturned : FnScope Nlawspringturned ["web", "fall", "place"] (defScope (topS 40)) := ⟨rfl, rfl, rfl, by decide +kernel, rfl, by decide +kernel, by decide +kernel⟩
-- 0 web 1 fall 2 place 3 found 4 k 5 tie
def spTurnL : Sp := fun vs H Q _ => ∃ (wv fv : V) (p n : Nat) (T : List (Nat × Nat)) (f : List Bool), vs = [wv, fv, .int (p : Nat)] ∧ IsWeb H wv n T ∧ Tup H fv (bzs f) ∧ T.length = f.length ∧ WebOk n T ∧ isSpring (arr T f) p = true ∧
  ∀ H' v, Same H H' → Tup H' v (bzs (turnAt T f p)) → Q v H'
theorem mix_set {f g : List Bool} {i : Nat} {d : Bool} (hl : f.length = g.length) (h : g[i]? = some d) : (g.take i ++ f.drop i).set i d = g.take (i + 1) ++ f.drop (i + 1) := by
  have hi := (List.getElem?_eq_some_iff.mp h).1
  have e1 : (g.take i).length = i := by
    rw [List.length_take]
    omega
  rw [List.set_append_right _ _ (by omega), e1, Nat.sub_self, List.drop_eq_getElem_cons (show i < f.length by omega), List.set_cons_zero, take_snoc h, List.append_assoc]
  rfl
theorem k_lawspringturned (T : Tx K mg) : Keeps P w K mg base 1 "_law_spring_turned" ["web", "fall", "place"] spTurnL := by
  refine T.dlawspringturned.keeps sclawspringturned (fun vs H Q E h => ?_) (fun fa cdv A outer s H vs Q E hr h => ?_)
  · obtain ⟨wv, fv, p, n, T, f, rfl, _⟩ := h
    rfl
  obtain ⟨wv, fv, p, n, W, f, rfl, hw, hf, hl, hok, hs, q⟩ := h
  obtain ⟨a, t, tv, rfl, ha, ht, hi⟩ := id hw
  obtain ⟨af, rfl, haf⟩ := id hf
  have h8 := hok.ties
  have hlen := paired_len hi
  rw [List.length_map] at hlen
  have htl : f.length = (turnAt W f p).length := hl.symm.trans (turn_len p hl)
  refine ⟨_, (pss_cons (ps_set (i := 3) sclawspringturned.nd rfl (.inl rfl) (pe_callTy call_list_of (by rfl) T.zlist (by decide +kernel) (pa_cons (pv 1) pa_nil)))
    (pss_cons (ps_for PassesOwn.never rfl (pi_enumT (by rfl) T.zenumerate (pa_cons (pe_ix ix_tup (pv 0) pe_int (fun _ _ => rfl)) pa_nil)) (pg_tup rfl (pgs_cons (pg_name (i := 4) sclawspringturned.nd rfl (.inl rfl)) (pgs_cons (pg_name (i := 5) sclawspringturned.nd rfl (.inl rfl)) pgs_nil))) (pss_one (ps_if (pt_cmpR op_in_seq (pv 2) (pv 5) (by rfl)) (pss_cons (ps_if (pt_cmpR op_ne (pe_ix ix_tup (pv 1) (pv 4) (fun _ _ => rfl)) (pe_callTy call_int1 (by rfl) T.zint (by decide +kernel) (pa_cons (pe_cmpR op_eq (pv 2) (pe_ix ix_tup (pv 5) pe_int (fun _ _ => rfl)) (nomark _)) pa_nil)) (nomark _)) (pss_one (ps_ret pe_non)) pss_nil)
    (pss_one (ps_asg (pe_op op_sub pe_int (pe_ix ix_tup (pv 1) (pv 4) (fun _ _ => rfl))) (pg_sub (pv 3) (pv 4) set_list)))) pss_nil)))
    (pss_one (ps_ret (pe_callTy call_tuple_of (by rfl) T.ztuple (by decide +kernel) (pa_cons (pv 3) pa_nil)))))), ?_⟩
  refine ⟨.ref af, rfl, af, _, rfl, .inr (SqT.of haf), fun fo nfo => ?_⟩
  have s0 : Same H (upd H fo (.lst ((bzs f).map V.int))) := same_new nfo
  refine ⟨.ref a, rfl, a, _, 1, .ref t, rfl, rfl, SqT.of (s0 _ _ ha), rfl, t, tv, rfl, SqT.of (s0 _ _ ht), ?_⟩
  refine for_it (walk_enumT (xs := tv)) (fun i σ H' => ∃ y4 y5, σ = [some (.ref a), some (.ref af), some (.int (p : Nat)), some (.ref fo), y4, y5] ∧ Same H H' ∧ H' fo = some (.lst ((bzs ((turnAt W f p).take i ++ f.drop i)).map V.int)))
    ⟨none, none, rfl, s0, upd_same⟩ (fun i σ H' hi' pp => ?_) (fun i x σ H0 H1 hi' pp y => ?_) (fun σ H' pp => ?_)
  · obtain ⟨_, _, _, s1, _⟩ := pp
    exact SqT.of (s1 _ _ ht)
  · obtain ⟨y4, y5, rfl, sm, hfo⟩ := pp
    obtain ⟨Tt, x1, z, rfl, nT, rfl, ex, ez⟩ := y
    cases ex
    have ez : tv[i]? = some z := ez
    obtain ⟨e1, e2, tp, h1, rfl, hp⟩ := tie_at hi ez
    obtain ⟨b1, b2⟩ := hok.low _ (List.mem_of_getElem? h1)
    have b1 : e1 < e2 := b1
    have hd : f[i]? = some f[i] := List.getElem?_eq_getElem (by omega)
    have hd2 := turn_at1 (p := p) h1 hd
    have n2 := spring_out hs h1 hd
    have sT : Same H (upd H0 Tt (.tup [.int (i : Nat), .ref tp])) := same_step sm nT
    have hfoT := at_new (o := .tup [.int (i : Nat), .ref tp]) hfo nT
    have hTt : (upd H0 Tt (.tup [.int (i : Nat), .ref tp])) Tt = some (.tup [.int (i : Nat), .ref tp]) := upd_same
    generalize (upd H0 Tt (.tup [.int (i : Nat), .ref tp])) = H2 at *
    have hp2 := sT _ _ hp
    refine ⟨Tt, [.int (i : Nat), .ref tp], rfl, SqT.of hTt, rfl, .int (i : Nat), [.ref tp], rfl, .ref tp, [], rfl, rfl, ?_⟩
    refine ⟨.int (p : Nat), rfl, .ref tp, rfl, tp, _, rfl, .inr (SqT.of hp2), rfl, rfl, _, rfl, ?_⟩
    rw [if_neg Bool.false_ne_true, in_pair]
    dsimp only at hd2
    refine ite2 (fun e => ?_) (fun e => ?_)
    · rw [e] at hd2
      refine ⟨.ref af, rfl, .int (i : Nat), rfl, af, _, (i : Nat), _, rfl, rfl, SqT.of (sT _ _ haf), at_int (bzs_at hd), .int (p : Nat), rfl, .ref tp, rfl, tp, _, 0, .int (e1 : Nat), rfl, rfl, SqT.of hp2, rfl, rfl, .inr ⟨_, rfl, rfl, _, rfl, ?_⟩⟩
      have hp1 : p = e1 ∨ p = e2 := by simpa using e
      have edd : (!decide (V.int (bz f[i]) = V.int (if decide (V.int (p : Nat) = V.int (e1 : Nat)) = true then 1 else 0))) = false := by
        cases hfi : f[i] with
        | true =>
          rw [hfi] at n2
          have n2 : e2 ≠ p := n2
          have : p = e1 := hp1.resolve_right fun z => n2 z.symm
          subst this
          simp [bz]
        | false =>
          rw [hfi] at n2
          have n2 : e1 ≠ p := n2
          have : ¬ ((p : Int) = (e1 : Int)) := by omega
          simp [bz, this]
      rw [edd]
      refine ite2 (fun z => absurd z Bool.false_ne_true) (fun _ => ?_)
      refine ⟨.ref af, rfl, .int (i : Nat), rfl, af, _, (i : Nat), _, rfl, rfl, SqT.of (sT _ _ haf), at_int (bzs_at hd), _, _, rfl, rfl, .ref fo, rfl, .int (i : Nat), rfl, fo, _, (i : Nat), i, rfl, rfl, hfoT, ixN_nat (by simp [bzs]; omega), ?_⟩
      refine ⟨_, _, rfl, same_mut sT nfo, ?_⟩
      have e3 : (1 : Int) - bz f[i] = bz (f[i] != true) := by cases f[i] <;> rfl
      have e4 : ((bzs ((turnAt W f p).take i ++ f.drop i)).map V.int).set i (.int (1 - bz f[i])) = (bzs ((turnAt W f p).take (i + 1) ++ f.drop (i + 1))).map V.int := by
        rw [e3, set_int, ← mix_set htl hd2]
        unfold bzs
        rw [List.map_set, List.map_set, List.map_set]
      rw [← e4]
      exact upd_same
    · have e' : (p == e1 || p == e2) = false := by simpa using e
      rw [e'] at hd2
      have e3 : (f[i] != false) = f[i] := by cases f[i] <;> rfl
      rw [e3] at hd2
      refine ⟨_, _, rfl, sT, ?_⟩
      have e4 : (turnAt W f p).take (i + 1) ++ f.drop (i + 1) = (turnAt W f p).take i ++ f.drop i := by
        rw [take_snoc hd2, List.drop_eq_getElem_cons (show i < f.length by omega), List.append_assoc]
        rfl
      rw [e4]
      exact hfoT
  · obtain ⟨y4, y5, rfl, sm, hfo⟩ := pp
    have e4 : (turnAt W f p).take tv.length ++ f.drop tv.length = turnAt W f p := by
      rw [List.drop_of_length_le (by omega), List.append_nil, List.take_of_length_le (by omega)]
    rw [e4] at hfo
    exact ⟨.ref fo, rfl, fo, _, rfl, .inl ⟨SqL.of hfo, fun c nc => q _ _ (same_step sm nc) ⟨c, rfl, upd_same⟩⟩⟩
abbrev Nlawsprings : List Str := ["web", "fall", "place", "start", "end"]
theorem sclawsprings : FnScope Nlawsprings ["web", "fall"] (defScope (topS 41)) := ⟨rfl, rfl, rfl, by decide +kernel, rfl, by decide +kernel, by decide +kernel⟩
-- 0 web 1 fall 2 place 3 start 4 end
def spSprL : Sp := fun vs H Q _ => ∃ (wv fv : V) (n : Nat) (T : List (Nat × Nat)) (f : List Bool), vs = [wv, fv] ∧ IsWeb H wv n T ∧ Tup H fv (bzs f) ∧ T.length = f.length ∧ T.length ≤ 1000 ∧ n ≤ 1000 ∧
  ∀ H' l, Same H H' → H l = none → H' l = some (.lst ((nz ((List.range n).filter (isSpring (arr T f)))).map V.int)) → Q (.ref l) H'
theorem k_lawsprings (T : Tx K mg) : Keeps P w K mg base 2 "_law_springs" ["web", "fall"] spSprL := by
  have klawarrows := k_lawarrows (P := P) (w := w) (base := base) T
  refine T.dlawsprings.keeps sclawsprings (fun vs H Q E h => ?_) (fun fa cdv A outer s H vs Q E hr h => ?_)
  · obtain ⟨wv, fv, n, T, x, rfl, _⟩ := h
    rfl
  obtain ⟨wv, fv, n, W, f, rfl, hw, hf, hl, hm, hnm, q⟩ := h
  obtain ⟨a, t, tv, rfl, ha, ht, hi⟩ := id hw
  refine ⟨_, (pss_one (ps_ret (pe_lc (own := [("place", 2)]) (g := (gName 2)) rfl sclawsprings.nd (pi_range1 (by rfl) T.zrange (pa_cons (pe_ix ix_tup (pv 0) pe_int (fun _ _ => rfl)) pa_nil)) (blkOk_by (N := Nlawsprings) (sc := defScope (topS 41)) (by decide +kernel)) (fun _ _ _ _ _ => (pg_name (i := 2) sclawsprings.nd rfl (.inl rfl))) (fun _ _ _ _ _ => pts_one (pt_cmpR (r := rIn K true) op_notIn_seq (pv 2) (pe_lc (own := [("start", 3), ("end", 4)]) (g := (gTup K 2 (gCons (gName 3) (gCons (gName 4) gNil)))) (tt := tYes) rfl sclawsprings.nd (pi_list (pe_k klawarrows (hr.mono (by decide)) (pa_cons (pv 0) (pa_cons (pv 1) pa_nil))) : PI _ _ _ (iList K _)) (blkOk_by (N := Nlawsprings) (by kernel_rfl)) (fun _ _ _ _ _ => (pg_tup rfl (pgs_cons (pg_name (i := 3) sclawsprings.nd rfl (.inl rfl)) (pgs_cons (pg_name (i := 4) sclawsprings.nd rfl (.inl rfl)) pgs_nil)))) (fun _ _ _ _ _ => pts_nil) (fun _ _ _ _ _ => (pv 4))) (by rfl))) (fun _ _ _ _ _ => (pv 2))))), ?_⟩
  refine ⟨.ref a, rfl, a, _, 0, .int n, rfl, rfl, SqT.of ha, rfl, n, rfl, (big62 n (by omega)).1, (big62 n (by omega)).2, fun D2 hD2 => ?_⟩
  refine lc_it walk_r (fun i H' => Same H H' ∧ H' D2 = some (.lst ((nz ((List.range i).filter (isSpring (arr W f)))).map V.int))) ⟨same_new hD2, upd_same⟩
      (fun _ _ _ _ => trivial) (fun i y H0 H1 hi' p yy => ?_) (fun H3 p => ?_)
  · obtain ⟨sm2, hE⟩ := p
    obtain ⟨rfl, rfl⟩ := yy
    refine ⟨rfl, .int (i : Nat), rfl, .ref a, rfl, fv, rfl, .ref a, fv, n, W, f, rfl, hw.mono (.of sm2), hf.mono (.of sm2), hl, hm, fun H2 l s1 nl ⟨us, hus, hit⟩ => ⟨l, rfl, ⟨us, SqL.of hus⟩, fun D hD => ?_⟩⟩
    have hul := paired_len hit
    rw [List.length_map, arr_len hl] at hul
    refine lc_it walk_list (fun i H' => Same H2 H' ∧ H' D = some (.lst ((((arr W f).map fun e => (e.2 : Int)).take i).map V.int))) ⟨same_new hD, upd_same⟩
      (fun i H' hi' p => SqL.of (p.1 _ _ hus)) (fun j y H3 H4 hj p yy => ?_) (fun H4 p => ?_)
    · obtain ⟨sm, hD'⟩ := p
      obtain ⟨rfl, ey⟩ := yy
      obtain ⟨e1, e2, p, h1, rfl, hp⟩ := tie_at hit ey
      refine ⟨p, [.int (e1 : Nat), .int (e2 : Nat)], rfl, SqT.of (sm _ _ hp), rfl, .int (e1 : Nat), [.int (e2 : Nat)], rfl, .int (e2 : Nat), [], rfl, rfl, rfl, ?_⟩
      refine ⟨.int (e2 : Nat), rfl, _, hD', ?_, same_mut sm hD, ?_⟩
      · exact szlt _ (by rw [List.length_map, List.length_take]; simp [arr_len hl]; omega)
      · have e : ((arr W f).map fun e => (e.2 : Int))[j]? = some (e2 : Int) := by
          rw [List.getElem?_map, h1]
          rfl
        rw [take_snoc e, List.map_append]
        exact upd_same
    · obtain ⟨sm, hD'⟩ := p
      rw [List.take_of_length_le (by simp [arr_len hl, hul])] at hD'
      have hE4 := sm _ _ (s1 _ _ hE)
      refine ⟨D, _, rfl, .inl (SqL.of hD'), rfl, flat_ints _, _, rfl, ?_⟩
      rw [in_ints, if_pos rfl, ← spring_iff]
      refine ite2 (fun e => ?_) (fun e => ?_)
      · refine ⟨.int (i : Nat), rfl, _, hE4, ?_, same_mut ((sm2.trans s1).trans sm) hD2, ?_⟩
        · refine szlt _ ?_
          have := List.length_filter_le (isSpring (arr W f)) (List.range i)
          simp [nz] at this ⊢
          omega
        · rw [filter_succ, if_pos e]
          simp only [nz, List.map_append]
          exact upd_same
      · refine ⟨(sm2.trans s1).trans sm, ?_⟩
        rw [filter_succ, if_neg e]
        exact hE4
  · obtain ⟨sm2, hE⟩ := p
    exact q _ _ sm2 hD2 hE
end
end K40

set_option Elab.async false
set_option linter.all false
set_option maxRecDepth 100000
set_option maxHeartbeats 4000000
namespace K40
open PySem PySem.Spec PyProof.Rows L2
section
variable {P : Program} {w : World} {K : PySem.W.Frag} {mg : Str → Option Value} {base : Heap}
/-! ### _law_kins -/
def keyT (f : List Bool) : List L2.Key := (bzs f).map fun z => (Sum.inl z : L2.Key)
theorem keyT_tup (f : List Bool) : (keyT f).map kV = (bzs f).map V.int := by
  unfold keyT
  rw [List.map_map]
  rfl
theorem bz_inj {a b : Bool} (h : bz a = bz b) : a = b := by
  cases a <;> cases b <;> simp [bz] at h ⊢
theorem keyT_inj : ∀ {f g : List Bool}, keyT f = keyT g → f = g
  | [], [], _ => rfl
  | [], _ :: _, h => by simp [keyT, bzs] at h
  | _ :: _, [], h => by simp [keyT, bzs] at h
  | a :: f, b :: g, h => by
    have h' : (Sum.inl (bz a) : L2.Key) :: keyT f = (Sum.inl (bz b) : L2.Key) :: keyT g := h
    injection h' with h1 h2
    rw [bz_inj (Sum.inl.inj h1), keyT_inj h2]
theorem valT_none {k : List L2.Key} : ∀ {kvs : List (List L2.Key × V)}, valV kvs k = none ↔ k ∉ kvs.map (·.1)
  | [] => by simp [valV]
  | p :: r => by
    have ih := valT_none (k := k) (kvs := r)
    by_cases g : p.1 = k
    · rw [valV_pos g]
      simp [g]
    · rw [valV_neg g, ih, List.map_cons, List.mem_cons]
      constructor
      · intro h z
        rcases z with z | z
        · exact g z.symm
        · exact h z
      · intro h z
        exact h (.inr z)
theorem putT_new {k : List L2.Key} {v : V} {kvs : List (List L2.Key × V)} (h : k ∉ kvs.map (·.1)) : putK kvs k v = kvs ++ [(k, v)] := by
  have q : (kvs.any fun kv => decide (kv.1 = k)) = false := by
    cases e : (kvs.any fun kv => decide (kv.1 = k)) with
    | false => rfl
    | true =>
      obtain ⟨p, hp, hk⟩ := List.any_eq_true.mp e
      exact absurd (List.mem_map.mpr ⟨p, hp, of_decide_eq_true hk⟩) h
  unfold putK
  rw [q]
  exact if_neg Bool.false_ne_true
def allB : Nat → List (List Bool)
  | 0 => [[]]
  | m + 1 => (allB m).map (false :: ·) ++ (allB m).map (true :: ·)
theorem allB_len : ∀ m, (allB m).length = 2 ^ m
  | 0 => rfl
  | m + 1 => by
    unfold allB
    rw [List.length_append, List.length_map, List.length_map, allB_len m, Nat.pow_succ]
    omega
theorem allB_mem : ∀ {m : Nat} {f : List Bool}, f.length = m → f ∈ allB m
  | 0, f, h => by
    rw [List.eq_nil_of_length_eq_zero h]
    exact List.mem_cons_self ..
  | m + 1, [], h => by simp at h
  | m + 1, b :: f, h => by
    have ih := allB_mem (m := m) (f := f) (by simpa using h)
    unfold allB
    cases b
    · exact List.mem_append_left _ (List.mem_map.mpr ⟨f, ih, rfl⟩)
    · exact List.mem_append_right _ (List.mem_map.mpr ⟨f, ih, rfl⟩)
theorem kins_short {KS : List (List Bool)} {m : Nat} (nd : KS.Nodup) (h : ∀ g ∈ KS, m = g.length) (hm : m ≤ 8) : KS.length ≤ 256 := by
  have h1 := nodup_len (m := allB m) nd fun g hg => allB_mem (h g hg).symm
  rw [allB_len] at h1
  have h2 : 2 ^ m ≤ 2 ^ 8 := Nat.pow_le_pow_right (by decide) hm
  have h3 : 2 ^ 8 = 256 := by decide
  omega
theorem kin_snoc_nodup {KS : List (List Bool)} {p : List Bool} (nd : KS.Nodup) (h : p ∉ KS) : (KS ++ [p]).Nodup := by
  refine List.nodup_append.mpr ⟨nd, by simp, fun a ha b hb => ?_⟩
  rw [List.mem_singleton] at hb
  subst hb
  exact fun z => h (z ▸ ha)
abbrev Nlawkins : List Str := ["web", "fall", "found", "known", "at", "place", "there"]
theorem sclawkins : FnScope Nlawkins ["web", "fall"] (defScope (topS 42)) := ⟨rfl, rfl, rfl, by decide +kernel, rfl, by decide +kernel, by decide +kernel⟩
-- 0 web 1 fall 2 found 3 known 4 at 5 place 6 there
def spKins : Sp := fun vs H Q _ => ∃ (wv fv : V) (n : Nat) (T : List (Nat × Nat)) (f : List Bool), vs = [wv, fv] ∧ IsWeb H wv n T ∧ Tup H fv (bzs f) ∧ T.length = f.length ∧ WebOk n T ∧ Acyc (arr T f) ∧
  ∀ H' l us (KS : List (List Bool)), Same H H' → H' l = some (.lst us) → Items H' us (KS.map bzs) → f ∈ KS → (∀ g ∈ KS, KinOk T f g) → (∀ g ∈ KS, ∀ p, p < n → isSpring (arr T g) p = true → turnAt T g p ∈ KS) → KS.length ≤ 256 → Q (.ref l) H'
/-- what _law_kins holds in its loop -/
structure KinsAt (H : Hp) (fo kn : Addr) (n : Nat) (T : List (Nat × Nat)) (f : List Bool) (H' : Hp) (us : List V) (kvs : List (List L2.Key × V)) (KS : List (List Bool)) : Prop where
  sm : Same H H'
  hfo : H' fo = some (.lst us)
  hkn : H' kn = some (.dT kvs)
  hus : Items H' us (KS.map bzs)
  keys : kvs.map (·.1) = KS.map keyT
  nd : KS.Nodup
  has : f ∈ KS
  ok : ∀ g ∈ KS, KinOk T f g
theorem kin_at {H' : Hp} {us : List V} {KS : List (List Bool)} {i : Nat} {g : List Bool} (h : Items H' us (KS.map bzs)) (e : KS[i]? = some g) : ∃ u, us[i]? = some u ∧ Tup H' u (bzs g) := by
  have e' : (KS.map bzs)[i]? = some (bzs g) := by
    rw [List.getElem?_map, e]
    rfl
  exact paired_at' h e'
theorem k_lawkins (T : Tx K mg) : Keeps P w K mg base 3 "_law_kins" ["web", "fall"] spKins := by
  have klawsprings := k_lawsprings (P := P) (w := w) (base := base) T
  have klawspringturned := k_lawspringturned (P := P) (w := w) (base := base) T
  refine T.dlawkins.keeps sclawkins (fun vs H Q E h => ?_) (fun fa cdv A outer s H vs Q E hr h => ?_)
  · obtain ⟨wv, fv, n, T, x, rfl, _⟩ := h
    rfl
  obtain ⟨wv, fv, n, W, f, rfl, hw, hf, hl, hok, hac, q⟩ := h
  obtain ⟨af, rfl, haf⟩ := id hf
  have h5 := hok.most
  have h8 := hok.ties
  have hu := hu_of hr
  refine ⟨_, (pss_cons (ps_set (i := 2) sclawkins.nd rfl (.inl rfl) (pe_lst (pa_cons (pv 1) pa_nil)))
    (pss_cons (ps_set (i := 3) sclawkins.nd rfl (.inl rfl) (pe_dispT hu (pv 1) pe_bl))
    (pss_cons (ps_set (i := 4) sclawkins.nd rfl (.inl rfl) pe_int)
    (pss_cons (ps_while PassesOwn.never (pt_cmpR op_lt (pv 4) (pe_callB call_len_seq (by rfl) T.zlen (by decide +kernel) (pa_cons (pv 2) pa_nil)) (nomark _)) (pss_cons (ps_for PassesOwn.never rfl (pi_list (pe_k klawsprings (hr.mono (by decide)) (pa_cons (pv 0) (pa_cons (pe_ix ix_list (pv 2) (pv 4) (fun _ _ => rfl)) pa_nil)))) (pg_name (i := 5) sclawkins.nd rfl (.inl rfl)) (pss_cons (ps_set (i := 6) sclawkins.nd rfl (.inl rfl) (pe_k klawspringturned (hr.mono (by decide)) (pa_cons (pv 0) (pa_cons (pe_ix ix_list (pv 2) (pv 4) (fun _ _ => rfl)) (pa_cons (pv 5) pa_nil)))))
    (pss_one (ps_if (pt_cmp (pc_dnotin hu (pv 6) (pv 3))) (pss_cons (ps_dput hu (pv 3) (pv 6) pe_bl rfl)
    (pss_one (ps_expr (pe_bm PySem.F.plainAttrs_list PySem.F.slot_list_append PySem.F.type_list_append mt_append (pv 2) (pa_cons (pv 6) pa_nil))))) pss_nil))))
    (pss_one (ps_set (i := 4) sclawkins.nd rfl (.inl rfl) (pe_op op_add (pv 4) pe_int)))))
    (pss_one (ps_ret (pv 2))))))), ?_⟩
  refine ⟨.ref af, rfl, le1, fun fo nfo => ?_⟩
  refine fun kn nkn => ⟨.ref af, rfl, .ref af, .bl true, rfl, upd_same, keyT f, af, rfl, (by rw [keyT_tup]; exact at_new (at_new haf nfo) nkn), ?_⟩
  have s0 : Same H (upd (upd (upd H fo (.lst [.ref af])) kn (.dT [])) kn (.dT [(keyT f, .bl true)])) := same_mut (same_step (same_new nfo) nkn) (Same.free (same_new nfo) nkn)
  have fkn : H kn = none := Same.free (same_new nfo) nkn
  have fokn : fo ≠ kn := ne_of_none upd_same nkn
  have k0 : KinsAt H fo kn n W f (upd (upd (upd H fo (.lst [.ref af])) kn (.dT [])) kn (.dT [(keyT f, .bl true)])) [.ref af] [(keyT f, .bl true)] [f] := by
    refine ⟨s0, ?_, upd_same, .cons ⟨af, rfl, s0 _ _ haf⟩ .nil, rfl, by simp, by simp, fun g hg => ?_⟩
    · rw [upd_ne fokn, upd_ne fokn]
      exact upd_same
    · rw [List.mem_singleton.mp hg]
      exact ⟨hl, hac, fun _ _ => Iff.rfl⟩
  refine ⟨fun m σ H' => ∃ (i : Nat) (y5 y6 : Option V) (us : List V) (kvs : List (List L2.Key × V)) (KS : List (List Bool)), σ = [some wv, some (.ref af), some (.ref fo), some (.ref kn), some (.int (i : Nat)), y5, y6] ∧ i ≤ KS.length ∧ m + i = 256 ∧ KinsAt H fo kn n W f H' us kvs KS ∧
      (∀ (j : Nat) (g : List Bool), j < i → KS[j]? = some g → ∀ p, p < n → isSpring (arr W g) p = true → turnAt W g p ∈ KS),
    ⟨256, 0, none, none, [.ref af], [(keyT f, .bl true)], [f], rfl, by simp, rfl, k0, fun j g hj => absurd hj (Nat.not_lt_zero j)⟩, fun m σ H' hW => ?_⟩
  obtain ⟨i, y5, y6, us, kvs, KS, rfl, hi, hmi, kA, hdone⟩ := hW
  have lus := paired_len kA.hus
  rw [List.length_map] at lus
  have short := kins_short kA.nd (fun g hg => (kA.ok g hg).len) h8
  refine ⟨.int (i : Nat), rfl, .ref fo, rfl, fo, us, rfl, .inl (SqL.of kA.hfo), _, _, rfl, rfl, _, rfl, ?_⟩
  refine ite2 (fun e => ?_) (fun e => ?_)
  · have hiK : i < KS.length := by
      have := of_decide_eq_true e
      omega
    obtain ⟨m, rfl⟩ : ∃ m', m = m' + 1 := ⟨m - 1, by omega⟩
    refine ⟨fun σ' H2 => ∃ (i : Nat) (y5 y6 : Option V) (us : List V) (kvs : List (List L2.Key × V)) (KS : List (List Bool)), σ' = [some wv, some (.ref af), some (.ref fo), some (.ref kn), some (.int (i : Nat)), y5, y6] ∧ i ≤ KS.length ∧ m + i = 256 ∧ KinsAt H fo kn n W f H2 us kvs KS ∧
      (∀ (j : Nat) (g : List Bool), j < i → KS[j]? = some g → ∀ p, p < n → isSpring (arr W g) p = true → turnAt W g p ∈ KS), fun σ' H2 hN => ⟨m, Nat.lt_succ_self m, hN⟩, ?_⟩
    have hg : KS[i]? = some KS[i] := List.getElem?_eq_getElem hiK
    generalize KS[i] = g at *
    have hgm : g ∈ KS := List.mem_of_getElem? hg
    have gok := kA.ok g hgm
    obtain ⟨u, hu1, hu2⟩ := kin_at kA.hus hg
    refine ⟨wv, rfl, .ref fo, rfl, .int (i : Nat), rfl, fo, us, (i : Nat), u, rfl, rfl, SqL.of kA.hfo, atI_nat hu1, wv, u, n, W, g, rfl, hw.mono (.of kA.sm), hu2, gok.len, by omega, by omega, fun H1 l s1 nl hl1 => ⟨l, rfl, ⟨_, SqL.of hl1⟩, ?_⟩⟩
    generalize hL : (List.range n).filter (isSpring (arr W g)) = L at *
    have lfo : l ≠ fo := (ne_of_none kA.hfo nl).symm
    have kA1 : KinsAt H fo kn n W f H1 us kvs KS := ⟨kA.sm.trans s1, s1 _ _ kA.hfo, s1 _ _ kA.hkn, kA.hus.mono (.of s1), kA.keys, kA.nd, kA.has, kA.ok⟩
    refine for_it (walk_list (xs := (nz L).map V.int)) (fun j σ H' => ∃ (y5 y6 : Option V) (us : List V) (kvs : List (List L2.Key × V)) (KS : List (List Bool)), σ = [some wv, some (.ref af), some (.ref fo), some (.ref kn), some (.int (i : Nat)), y5, y6] ∧ KinsAt H fo kn n W f H' us kvs KS ∧
        H' l = some (.lst ((nz L).map V.int)) ∧ KS[i]? = some g ∧ (∀ (j : Nat) (g : List Bool), j < i → KS[j]? = some g → ∀ p, p < n → isSpring (arr W g) p = true → turnAt W g p ∈ KS) ∧ ∀ x ∈ L.take j, turnAt W g x ∈ KS)
      ⟨y5, y6, us, kvs, KS, rfl, kA1, hl1, hg, hdone, fun x hx => by simp at hx⟩ (fun j σ H' hj pp => ?_) (fun j x σ H0 H2 hj pp y => ?_) (fun σ H' pp => ?_)
    · obtain ⟨_, _, _, _, _, _, _, h1, _⟩ := pp
      exact SqL.of h1
    · obtain ⟨y5, y6, us, kvs, KS, rfl, kA, hl2, hg, hdone, hall⟩ := pp
      obtain ⟨rfl, ey⟩ := y
      obtain ⟨z, hz, rfl⟩ := Option.map_eq_some_iff.mp (show ((nz L)[j]?).map V.int = some x by rw [← List.getElem?_map]; exact ey)
      obtain ⟨p, hp, rfl⟩ := Option.map_eq_some_iff.mp (show (L[j]?).map (fun (k : Nat) => (k : Int)) = some z by rw [← List.getElem?_map]; exact hz)
      have hpL := List.mem_of_getElem? hp
      rw [← hL] at hpL
      obtain ⟨hpn, hps⟩ := List.mem_filter.mp hpL
      have lus := paired_len kA.hus
      rw [List.length_map] at lus
      have short := kins_short kA.nd (fun g hg => (kA.ok g hg).len) h8
      have lkv : kvs.length = KS.length := by
        have := congrArg List.length kA.keys
        simpa using this
      obtain ⟨u, hu1, hu2⟩ := kin_at kA.hus hg
      refine ⟨wv, rfl, .ref fo, rfl, .int (i : Nat), rfl, fo, us, (i : Nat), u, rfl, rfl, SqL.of kA.hfo, atI_nat hu1, .int (p : Nat), rfl, wv, u, p, n, W, g, rfl, hw.mono (.of kA.sm), hu2, gok.len, hok, hps, fun H3 v s3 hv => ?_⟩
      obtain ⟨b, rfl, hb⟩ := hv
      have kA3 : KinsAt H fo kn n W f H3 us kvs KS := ⟨kA.sm.trans s3, s3 _ _ kA.hfo, s3 _ _ kA.hkn, kA.hus.mono (.of s3), kA.keys, kA.nd, kA.has, kA.ok⟩
      have hl3 := s3 _ _ hl2
      have hkb : H3 b = some (.tup ((keyT (turnAt W g p)).map kV)) := by
        rw [keyT_tup]
        exact hb
      refine ⟨.ref b, rfl, .ref kn, rfl, kn, _, rfl, DGet.t kA3.hkn hkb, _, rfl, ?_⟩
      have iskey : (valV kvs (keyT (turnAt W g p))).isSome = decide (turnAt W g p ∈ KS) := by
        cases hvv : valV kvs (keyT (turnAt W g p)) with
        | none =>
          have h1 := valT_none.mp hvv
          rw [kA.keys] at h1
          have : turnAt W g p ∉ KS := fun z => h1 (List.mem_map.mpr ⟨_, z, rfl⟩)
          rw [decide_eq_false this]
          rfl
        | some w =>
          have : turnAt W g p ∈ KS := by
            by_cases z : turnAt W g p ∈ KS
            · exact z
            · exfalso
              have h2 : valV kvs (keyT (turnAt W g p)) = none := valT_none.mpr (by
                rw [kA.keys]
                intro h3
                obtain ⟨g2, h4, h5⟩ := List.mem_map.mp h3
                exact z (keyT_inj h5 ▸ h4))
              rw [hvv] at h2
              cases h2
          rw [decide_eq_true this]
          rfl
      rw [iskey]
      refine ite2 (fun e => ?_) (fun e => ?_)
      · have hnot : turnAt W g p ∉ KS := fun z => by
          rw [decide_eq_true z] at e
          exact absurd e (by decide)
        have hnk : keyT (turnAt W g p) ∉ kvs.map (·.1) := by
          rw [kA.keys]
          intro h3
          obtain ⟨g2, h4, h5⟩ := List.mem_map.mp h3
          exact hnot (keyT_inj h5 ▸ h4)
        have dp := DPut.t (v := V.bl true) kA3.hkn hkb (szlt _ (by omega))
        rw [putT_new hnk] at dp
        refine ⟨.ref kn, rfl, .ref b, rfl, kn, _, rfl, dp, ?_⟩
        have hfo4 : upd H3 kn (.dT (kvs ++ [(keyT (turnAt W g p), .bl true)])) fo = some (.lst us) := by
          rw [upd_ne fokn]
          exact kA3.hfo
        refine ⟨.ref fo, rfl, .inl ⟨rfl, _, SqL.of hfo4⟩, .ref b, rfl, fo, us, .ref b, rfl, rfl, hfo4, szlt _ (by omega), ?_⟩
        have ts : TupSame H3 (upd (upd H3 kn (.dT (kvs ++ [(keyT (turnAt W g p), .bl true)]))) fo (.lst (us ++ [.ref b]))) := .trans (.dt kA3.hkn) (.lst hfo4)
        refine ⟨_, _, us ++ [.ref b], kvs ++ [(keyT (turnAt W g p), .bl true)], KS ++ [turnAt W g p], rfl, ⟨same_mut (same_mut kA3.sm fkn) nfo, upd_same, ?_, ?_, ?_, kin_snoc_nodup kA.nd hnot, List.mem_append_left _ kA.has, fun g2 hg2 => ?_⟩, ?_, ?_, fun j2 g2 hj2 hg2 p2 hp2 hs2 => ?_, fun x hx => ?_⟩
        · rw [upd_ne fokn.symm]
          exact upd_same
        · rw [List.map_append]
          exact paired_snoc ⟨b, rfl, ts _ _ hb⟩ (kA3.hus.mono ts)
        · rw [List.map_append, List.map_append, kA.keys]
          rfl
        · rcases List.mem_append.mp hg2 with h | h
          · exact kA.ok g2 h
          · rw [List.mem_singleton.mp h]
            exact gok.turn hps
        · rw [upd_ne lfo, upd_ne (ne_of hl3 kA3.hkn (fun z => nomatch z))]
          exact hl3
        · rw [List.getElem?_append_left (List.getElem?_eq_some_iff.mp hg).1]
          exact hg
        · have hil := (List.getElem?_eq_some_iff.mp hg).1
          rw [List.getElem?_append_left (by omega)] at hg2
          exact List.mem_append_left _ (hdone j2 g2 hj2 hg2 p2 hp2 hs2)
        · rw [take_snoc hp] at hx
          rcases List.mem_append.mp hx with h | h
          · exact List.mem_append_left _ (hall x h)
          · rw [List.mem_singleton.mp h]
            exact List.mem_append_right _ (List.mem_singleton.mpr rfl)
      · have hin : turnAt W g p ∈ KS := by
          by_cases z : turnAt W g p ∈ KS
          · exact z
          · rw [decide_eq_false z] at e
            exact absurd rfl e
        refine ⟨_, _, us, kvs, KS, rfl, kA3, hl3, hg, hdone, fun x hx => ?_⟩
        rw [take_snoc hp] at hx
        rcases List.mem_append.mp hx with h | h
        · exact hall x h
        · rw [List.mem_singleton.mp h]
          exact hin
    · obtain ⟨y5, y6, us, kvs, KS, rfl, kA, hl2, hg, hdone, hall⟩ := pp
      have hil := (List.getElem?_eq_some_iff.mp hg).1
      refine ⟨.int (i : Nat), rfl, _, _, rfl, rfl, i + 1, _, _, us, kvs, KS, rfl, by omega, by omega, kA, fun j2 g2 hj2 hg2 p2 hp2 hs2 => ?_⟩
      by_cases e2 : j2 = i
      · subst e2
        rw [hg] at hg2
        cases hg2
        refine hall p2 ?_
        rw [List.take_of_length_le (by simp [nz])]
        rw [← hL]
        exact List.mem_filter.mpr ⟨List.mem_range.mpr hp2, hs2⟩
      · exact hdone j2 g2 (by omega) hg2 p2 hp2 hs2
  · have hiK : i = KS.length := by
      have : ¬ ((i : Int) < (us.length : Int)) := fun z => e (decide_eq_true z)
      omega
    refine ⟨.ref fo, rfl, q _ fo us KS kA.sm kA.hfo kA.hus kA.has kA.ok (fun g hg p hp hs => ?_) short⟩
    obtain ⟨j, hj⟩ := List.mem_iff_getElem?.mp hg
    have := (List.getElem?_eq_some_iff.mp hj).1
    exact hdone j g (by omega) hj p hp hs
end
end K40

set_option Elab.async false
set_option linter.all false
set_option maxRecDepth 100000
set_option maxHeartbeats 4000000
namespace K40
open PySem PySem.Spec PyProof.Rows L2
section
variable {P : Program} {w : World} {K : PySem.W.Frag} {mg : Str → Option Value} {base : Heap}
/-! ### the law -/
def spLaw (K : PySem.W.Frag) : Sp := fun vs H Q _ => ∃ (a : Addr) (ns : List Int), vs = [.ref a] ∧ SqL K H a (ns.map V.int) ∧ ns.length ≤ 63 ∧ ∀ H', Q (.bl true) H'
theorem sql_same {K : PySem.W.Frag} {H H' : Hp} {a : Addr} {xs : List V} (h : SqL K H a xs) (e : Same H H') : SqL K H' a xs := by
  rcases h with (h | ⟨o, h⟩) | h
  · exact .inl (.inl (e _ _ h))
  · exact .inl (.inr ⟨o, e _ _ h⟩)
  · exact .inr h
/-- least of the heights' greatest -/
theorem least_is {n : Nat} {T : List (Nat × Nat)} {f : List Bool} {t b m : Nat} {KS : List (List Bool)} {ms : List Int} {s : Int} (hok : WebOk n T) (hW : WorthOk T f t b) (hm1 : t ≤ m * b) (hm2 : m * b < t + b) (hf : f ∈ KS) (hk : ∀ g ∈ KS, KinOk T f g)
    (hc : ∀ g ∈ KS, ∀ p, p < n → isSpring (arr T g) p = true → turnAt T g p ∈ KS) (hms : Paired (fun (z : Int) (g : List Bool) => z ∈ hts n T g ∧ ∀ y ∈ hts n T g, y ≤ z) ms KS) (hs : s ∈ ms) (hmin : ∀ y ∈ ms, s ≤ y) : s = (m : Int) - 1 := by
  refine Int.le_antisymm ?_ ?_
  · obtain ⟨g, hg, hlow⟩ := hts_low hok hW hm1 hf hc
    obtain ⟨i, hi⟩ := List.mem_iff_getElem?.mp hg
    obtain ⟨z, hz, z1, z2⟩ := paired_at' hms hi
    have h1 := hmin z (List.mem_of_getElem? hz)
    have h2 := hlow z z1
    omega
  · obtain ⟨i, hi⟩ := List.mem_iff_getElem?.mp hs
    obtain ⟨g, hg, z1, z2⟩ := paired_at hms hi
    exact hts_least hok hW hm2 (hk g (List.mem_of_getElem? hg)) z1 z2
theorem cut_mem {xs : List V} {lo hi : Option Int} {x : V} (h : x ∈ cutV xs lo hi) : x ∈ xs := by
  unfold cutV at h
  exact List.mem_of_mem_drop (List.mem_of_mem_take h)
theorem paired_take {α β : Type} {R : α → β → Prop} {m : List β} {l : List α} {i : Nat} {x : α} {y : β} (h : Paired R l (m.take i)) (e : m[i]? = some y) (r : R x y) : Paired R (l ++ [x]) (m.take (i + 1)) := by
  rw [take_snoc e]
  exact paired_snoc r h
abbrev Nlaw : List Str := ["script", "cell", "pool", "web", "fall", "due", "kins", "least", "one"]
theorem sclaw : FnScope Nlaw ["script"] (defScope (topS 43)) := ⟨rfl, rfl, rfl, by decide +kernel, rfl, by decide +kernel, by decide +kernel⟩
-- 0 script 1 cell 2 pool 3 web 4 fall 5 due 6 kins 7 least 8 one
theorem ok_law {f : Addr} {fd : FuncData} (T : Tx K mg) (F : FunD K "law" "law" (defArgs (topS 43)) (defBody (topS 43)) (defScope (topS 43)) [] [] f fd) : FnOk P w K mg base CX0 9 f fd ["script"] (spLaw K) := by
  have klawleft := k_lawleft (P := P) (w := w) (base := base) T
  have klawweb := k_lawweb (P := P) (w := w) (base := base) T
  have klawfall := k_lawfall (P := P) (w := w) (base := base) T
  have kworth := k_worth (P := P) (w := w) (base := base) T
  have klawkins := k_lawkins (P := P) (w := w) (base := base) T
  have klawheights := k_lawheights (P := P) (w := w) (base := base) T
  have kshortest := k_shortest (P := P) (w := w) (base := base) T
  refine F.ok sclaw (fun vs H Q E h => ?_) (fun cdv A outer s H vs Q E hr h => ?_)
  · obtain ⟨a, ns, rfl, _⟩ := h
    rfl
  obtain ⟨a, ns, rfl, ha, hns, q⟩ := h
  have key : ∃ t, PSs (cxOf CX0 P w K mg base Nlaw "law" (defScope (topS 43)) f cdv A outer s H E).nox (defBody (topS 43)) t ∧ t { nx := fun _ H' => Q .non H', rt := Q } (start Nlaw [.ref a]) H := by
    refine ⟨_, (pss_cons (ps_for PassesOwn.never rfl (pi_list (pe_op op_cat (pe_lst (pa_cons pe_int pa_nil)) (pe_slice sl_list (pv 0) po_none (po_some pe_int)))) (pg_name (i := 1) sclaw.nd rfl (.inl rfl)) (pss_cons (ps_set (i := 2) sclaw.nd rfl (.inl rfl) (pe_k klawleft (hr.mono (by decide)) (pa_cons (pv 1) pa_nil)))
    (pss_cons (ps_set (i := 3) sclaw.nd rfl (.inr rfl) (pe_k klawweb (hr.mono (by decide)) (pa_cons (pv 2) (pa_cons pe_int (pa_cons pe_int pa_nil)))))
    (pss_cons (ps_set (i := 4) sclaw.nd rfl (.inl rfl) (pe_k klawfall (hr.mono (by decide)) (pa_cons (pv 2) (pa_cons (pv 3) pa_nil))))
    (pss_cons (ps_set (i := 5) sclaw.nd rfl (.inr rfl) (pe_ix ix_tup (pe_k kworth (hr.mono (by decide)) (pa_cons (pv 3) (pa_cons (pv 4) pa_nil))) pe_int (fun _ _ => rfl)))
    (pss_cons (ps_set (i := 6) sclaw.nd rfl (.inl rfl) (pe_k klawkins (hr.mono (by decide)) (pa_cons (pv 3) (pa_cons (pv 4) pa_nil))))
    (pss_cons (ps_set (i := 7) sclaw.nd rfl (.inl rfl) (pe_callB (cr_min rfl) (by rfl) T.zmin (by decide +kernel) (pa_cons (pe_lc (own := [("one", 8)]) (g := (gName 8)) (tt := tYes) rfl sclaw.nd (pi_list (pv 6)) (blkOk_by (N := Nlaw) (sc := defScope (topS 43)) (by decide +kernel)) (fun _ _ _ _ _ => (pg_name (i := 8) sclaw.nd rfl (.inl rfl))) (fun _ _ _ _ _ => pts_nil) (fun _ _ _ _ _ => (pe_callB (r := rMax K) (cr_max rfl) (by rfl) T.zmax (by decide +kernel) (pa_cons (pe_k klawheights (hr.mono (by decide)) (pa_cons (pv 3) (pa_cons (pv 8) pa_nil))) pa_nil)))) pa_nil)))
    (pss_cons (ps_if (PW.pt (pw_or (pt_cmpR op_ne (pv 7) (pe_ix ix_tup (pe_k kshortest (hr.mono (by decide)) (pa_cons (pv 3) (pa_cons (pv 4) pa_nil))) pe_int (fun _ _ => rfl)) (nomark _)) (pw_or1 (pt_cmpR op_ne (pv 7) (pe_op op_sub (pe_op op_sub pe_int (pe_op op_fdivN (pe_op op_sub pe_int (pe_ix ix_tup (pv 5) pe_int (fun _ _ => rfl))) (pe_ix ix_tup (pv 5) pe_int (fun _ _ => rfl)))) pe_int) (nomark _))))) (pss_one (ps_ret pe_bl)) pss_nil)
    (pss_one (ps_if (pt_not (pt_val (pe_callB (cr_all rfl) (by rfl) T.zall (by decide +kernel) (pa_cons (pe_lc (own := [("one", 8)]) (g := (gName 8)) (tt := tYes) rfl sclaw.nd (pi_list (pv 6)) (blkOk_by (N := Nlaw) (sc := defScope (topS 43)) (by decide +kernel)) (fun _ _ _ _ _ => (pg_name (i := 8) sclaw.nd rfl (.inl rfl))) (fun _ _ _ _ _ => pts_nil) (fun _ _ _ _ _ => (pe_cmpR (r := rEqD K) (op_eqD hr.units) (pe_ix (r := rIxT K) ix_tup (pe_k kworth (hr.mono (by decide)) (pa_cons (pv 3) (pa_cons (pv 8) pa_nil))) pe_int (fun _ _ => rfl)) (pv 5) (by rfl)))) pa_nil)))) (pss_one (ps_ret pe_bl)) pss_nil))))))))))
    (pss_one (ps_ret pe_bl))), ?_⟩
    refine ⟨le1, fun o0 n0 => ⟨.ref a, rfl, 3, rfl, a, _, rfl, sql_same ha (same_new n0), fun p np => ?_⟩⟩
    have lcut : (cutV (ns.map V.int) none (some 3)).length ≤ 63 := by
      have := cutV_length (ns.map V.int) none (some 3)
      rw [List.length_map] at this
      omega
    refine ⟨o0, p, _, _, rfl, rfl, at_new upd_same np, upd_same, sz _ (by simp; omega), fun qa nqa => ⟨qa, rfl, ⟨_, SqL.of upd_same⟩, ?_⟩⟩
    have hints : ∀ x ∈ [V.int 0] ++ cutV (ns.map V.int) none (some 3), ∃ z, x = .int z := by
      intro x hx
      rcases List.mem_append.mp hx with h | h
      · exact ⟨0, List.mem_singleton.mp h⟩
      · obtain ⟨z, _, e⟩ := List.mem_map.mp (cut_mem h)
        exact ⟨z, e.symm⟩
    have hqa : (upd (upd (upd H o0 (.lst [.int 0])) p (.lst (cutV (ns.map V.int) none (some 3)))) qa (.lst ([V.int 0] ++ cutV (ns.map V.int) none (some 3)))) qa = some (.lst ([V.int 0] ++ cutV (ns.map V.int) none (some 3))) := upd_same
    generalize (upd (upd (upd H o0 (.lst [.int 0])) p (.lst (cutV (ns.map V.int) none (some 3)))) qa (.lst ([V.int 0] ++ cutV (ns.map V.int) none (some 3)))) = H1 at *
    generalize ([V.int 0] ++ cutV (ns.map V.int) none (some 3)) = ws at *
    refine for_it (walk_list (xs := ws)) (fun i σ H' => ∃ y1 y2 y3 y4 y5 y6 y7 y8, σ = [some (.ref a), y1, y2, y3, y4, y5, y6, y7, y8] ∧ H' qa = some (.lst ws))
      ⟨none, none, none, none, none, none, none, none, rfl, hqa⟩ (fun i σ H' hi pp => ?_) (fun i x σ H0 H2 hi pp y => ?_) (fun σ H' pp => ?_)
    · obtain ⟨_, _, _, _, _, _, _, _, _, h1⟩ := pp
      exact SqL.of h1
    · obtain ⟨y1, y2, y3, y4, y5, y6, y7, y8, rfl, hq0⟩ := pp
      obtain ⟨rfl, ey⟩ := y
      obtain ⟨z, rfl⟩ := hints x (List.mem_of_getElem? ey)
      refine ⟨.int z, rfl, z, rfl, fun H3 pa s3 npa po3 => ?_⟩
      have hq3 := s3 _ _ hq0
      have paq : qa ≠ pa := ne_of_none hq0 npa
      refine ⟨.ref pa, rfl, pa, rfl, po3, fun H4 wv n W fr4 po4 hw4 hok => ?_⟩
      refine ⟨.ref pa, rfl, wv, rfl, pa, wv, n, W, rfl, po4, hw4, hok, fun H5 fv fl fr5 po5 hf5 hl hac => ?_⟩
      have hw5 := hw4.mono (fr5.tup po4)
      have hq5 := fr5 _ _ paq (fr4 _ _ paq hq3)
      have h5 := hok.most
      have h8 := hok.ties
      refine ⟨wv, rfl, fv, rfl, wv, fv, n, W, fl, rfl, hw5, hf5, hl, hok, hac, fun H6 a6 ta x6 y6' t b s6 ha6 hta hW => ⟨a6, _, 0, .ref ta, rfl, rfl, SqT.of ha6, rfl, ?_⟩⟩
      refine ⟨wv, rfl, fv, rfl, wv, fv, n, W, fl, rfl, hw5.mono (.of s6), hf5.mono (.of s6), hl, hok, hac, fun H7 kl us KS s7 hkl hus hfK hKok hclosed hshort => ?_⟩
      have s57 := s6.trans s7
      have lus := paired_len hus
      rw [List.length_map] at lus
      refine ⟨.ref kl, rfl, kl, rfl, ⟨us, SqL.of hkl⟩, fun D hD => ?_⟩
      refine lc_it (walk_list (xs := us)) (fun j H' => Same H7 H' ∧ ∃ ms : List Int, H' D = some (.lst (ms.map V.int)) ∧ Paired (fun (z : Int) (g : List Bool) => z ∈ hts n W g ∧ ∀ y ∈ hts n W g, y ≤ z) ms (KS.take j))
        ⟨same_new hD, [], upd_same, .nil⟩ (fun j H' hj pp => SqL.of (pp.1 _ _ hkl)) (fun j y H8 H9 hj pp yy => ?_) (fun H8 pp => ?_)
      · obtain ⟨sm, ms, hDm, hms⟩ := pp
        obtain ⟨rfl, ey2⟩ := yy
        have hjK : j < KS.length := by
          have := hj
          omega
        have hg : KS[j]? = some KS[j] := List.getElem?_eq_getElem hjK
        generalize KS[j] = g at *
        have gok := hKok g (List.mem_of_getElem? hg)
        obtain ⟨u, hu1, hu2⟩ := kin_at hus hg
        have ey2 : us[j]? = some y := ey2
        rw [hu1] at ey2
        cases ey2
        have lms := paired_len hms
        rw [List.length_take] at lms
        refine ⟨rfl, wv, rfl, _, rfl, wv, _, n, W, g, rfl, hw5.mono (.of (s57.trans sm)), hu2.mono (.of sm), gok.len, hok, fun H10 hl10 s10 nl10 hh10 => ⟨hl10, hts n W g, rfl, SqL.of hh10, by rw [hts_len]; exact hok.pos, fun m hm hmax => ?_⟩⟩
        refine ⟨_, s10 _ _ hDm, szlt _ (by simp; omega), same_mut (sm.trans s10) hD, ms ++ [m], ?_, paired_take hms hg ⟨hm, hmax⟩⟩
        rw [List.map_append]
        exact upd_same
      · obtain ⟨sm, ms, hDm, hms⟩ := pp
        rw [List.take_of_length_le (by omega)] at hms
        have lms := paired_len hms
        have hKpos : 0 < KS.length := List.length_pos_of_mem hfK
        refine ⟨D, ms, rfl, SqL.of hDm, by omega, fun lo hlo hlmin => ?_⟩
        have s58 := s57.trans sm
        refine ⟨.int lo, rfl, wv, rfl, fv, rfl, wv, fv, n, W, fl, rfl, hw5.mono (.of s58), hf5.mono (.of s58), hl, hok, hac, fun H9 a9 x9 y9 t9 b9 m9 s9 ha9 hW9 c1 c2 => ⟨a9, _, 0, _, rfl, rfl, SqT.of ha9, rfl, rfl, _, rfl, ?_⟩⟩
        have e9 := least_is hok hW9 c1 c2 hfK hKok hclosed hms hlo hlmin
        rw [← e9, decide_eq_true rfl]
        refine ite2 (fun e => absurd e (by decide)) (fun _ => ?_)
        obtain ⟨mm, em, d1, d2⟩ := ceil_nat t b hW.pos
        have e10 := least_is hok hW d1 d2 hfK hKok hclosed hms hlo hlmin
        have hbb : b ≤ 5 := by
          by_cases z : W = []
          · have := hW.nil z
            omega
          · have := hW.half z
            have := hW.le
            omega
        have s79 := sm.trans s9
        have s69 := s7.trans s79
        have hta9 := s69 _ _ hta
        refine ⟨.int lo, rfl, .ref ta, rfl, ta, _, 0, .int (t : Nat), rfl, rfl, SqT.of hta9, rfl, _, _, rfl, rfl, .ref ta, rfl, ta, _, 1, .int (b : Nat), rfl, rfl, SqT.of hta9, rfl, _, _, rfl, rfl, ⟨by have := hW.pos; omega, by omega⟩, _, _, rfl, rfl, _, _, rfl, rfl, rfl, _, rfl, ?_⟩
        dsimp only
        have ed : decide (V.int lo = V.int ((mm : Int) - 1)) = true := decide_eq_true (by rw [← e10])
        rw [em, ed]
        refine ite2 (fun e => absurd e (by decide)) (fun _ => ?_)
        -- all kin are worth the same
        have hkl9 := s79 _ _ hkl
        have hus9 := hus.mono (.of s79)
        have s59 := s6.trans s69
        refine ⟨.ref kl, rfl, kl, rfl, ⟨us, SqL.of hkl9⟩, fun D2 hD2 => ?_⟩
        refine lc_it (walk_list (xs := us)) (fun j H' => Same H9 H' ∧ ∃ bs : List Bool, H' D2 = some (.lst (bs.map V.bl)) ∧ bs.length = j ∧ bs.all id = true)
          ⟨same_new hD2, [], upd_same, rfl, rfl⟩ (fun j H' hj pp => SqL.of (pp.1 _ _ hkl9)) (fun j y H10 H11 hj pp yy => ?_) (fun H10 pp => ?_)
        · obtain ⟨sm2, bs, hDb, lbs, hall⟩ := pp
          obtain ⟨rfl, ey2⟩ := yy
          have hjK : j < KS.length := by
            have := hj
            omega
          have hg : KS[j]? = some KS[j] := List.getElem?_eq_getElem hjK
          generalize KS[j] = g at *
          have gok := hKok g (List.mem_of_getElem? hg)
          obtain ⟨u, hu1, hu2⟩ := kin_at hus9 hg
          have ey2 : us[j]? = some y := ey2
          rw [hu1] at ey2
          cases ey2
          refine ⟨rfl, wv, rfl, _, rfl, wv, _, n, W, g, rfl, hw5.mono (.of (s59.trans sm2)), hu2.mono (.of sm2), gok.len, hok, gok.acyc, fun H12 a12 ta12 x12 y12 t12 b12 s12 ha12 hta12 hW12 => ⟨a12, _, 0, .ref ta12, rfl, rfl, SqT.of ha12, rfl, .ref ta, rfl, ?_⟩⟩
          have same : t = t12 ∧ b = b12 := by
            by_cases z : W = []
            · have h1 := hW.nil z
              have h2 := hW12.nil z
              omega
            · exact worth_one z hW hW12 gok.same
          obtain ⟨rfl, rfl⟩ := same
          have hta12' := s12 _ _ (sm2 _ _ hta9)
          refine ⟨dT [(t : Int), (b : Int)], dT [(t : Int), (b : Int)], dp_tup ⟨ta12, rfl, hta12⟩, dp_tup ⟨ta, rfl, hta12'⟩, shaped_dT _, shaped_dT _, _, s12 _ _ hDb, szlt _ (by simp; omega), same_mut (sm2.trans s12) hD2, bs ++ [true], ?_, by rw [List.length_append, lbs]; rfl, by rw [List.all_append, hall]; rfl⟩
          rw [eqv_dT, decide_eq_true rfl, List.map_append]
          exact upd_same
        · obtain ⟨sm2, bs, hDb, lbs, hall⟩ := pp
          refine ⟨D2, bs, rfl, SqL.of hDb, ?_⟩
          rw [hall]
          refine ⟨_, rfl, ?_⟩
          refine ite2 (fun e => absurd e (by decide)) (fun _ => ?_)
          exact ⟨_, _, _, _, _, _, _, _, rfl, sm2 _ _ (s9 _ _ (sm _ _ (s7 _ _ (s6 _ _ hq5))))⟩
    · exact q _
  obtain ⟨t, h1, h2⟩ := key
  exact ⟨t, h1.nox, h2⟩
end
end K40

set_option Elab.async false
set_option linter.all false
set_option maxRecDepth 100000
set_option maxHeartbeats 0
namespace K40
open PySem PySem.Spec PyProof.Rows L2
/-! ### the head: facts by names, the run -/
def hD0 : He.DefD := ⟨("near", none), "near", "near", defArgs (topS 1), defBody (topS 1), defScope (topS 1), [], []⟩
def hD1 : He.DefD := ⟨("piece_of", none), "piece_of", "piece_of", defArgs (topS 2), defBody (topS 2), defScope (topS 2), [], []⟩
def hD2 : He.DefD := ⟨("pieces", none), "pieces", "pieces", defArgs (topS 3), defBody (topS 3), defScope (topS 3), [], []⟩
def hD3 : He.DefD := ⟨("hued", none), "hued", "hued", defArgs (topS 5), defBody (topS 5), defScope (topS 5), [], []⟩
def hD4 : He.DefD := ⟨("arrows", none), "arrows", "arrows", defArgs (topS 7), defBody (topS 7), defScope (topS 7), [], []⟩
def hD5 : He.DefD := ⟨("springs", none), "springs", "springs", defArgs (topS 9), defBody (topS 9), defScope (topS 9), [], []⟩
def hD6 : He.DefD := ⟨("turned_about", none), "turned_about", "turned_about", defArgs (topS 10), defBody (topS 10), defScope (topS 10), [], []⟩
def hD7 : He.DefD := ⟨("along", none), "along", "along", defArgs (topS 12), defBody (topS 12), defScope (topS 12), [], []⟩
def hD8 : He.DefD := ⟨("laid_way", none), "laid_way", "laid_way", defArgs (topS 13), defBody (topS 13), defScope (topS 13), [], []⟩
def hD9 : He.DefD := ⟨("closed_rings", none), "closed_rings", "closed_rings", defArgs (topS 14), defBody (topS 14), defScope (topS 14), [], []⟩
def hD10 : He.DefD := ⟨("often_turned", none), "often_turned", "often_turned", defArgs (topS 15), defBody (topS 15), defScope (topS 15), [], []⟩
def hD11 : He.DefD := ⟨("counts_of_piece", none), "counts_of_piece", "counts_of_piece", defArgs (topS 16), defBody (topS 16), defScope (topS 16), [], []⟩
def hD12 : He.DefD := ⟨("row_by_counts", none), "row_by_counts", "row_by_counts", defArgs (topS 17), defBody (topS 17), defScope (topS 17), [], []⟩
def hD13 : He.DefD := ⟨("parting_ring", none), "parting_ring", "parting_ring", defArgs (topS 18), defBody (topS 18), defScope (topS 18), [], []⟩
def hD14 : He.DefD := ⟨("kin", none), "kin", "kin", defArgs (topS 19), defBody (topS 19), defScope (topS 19), [], []⟩
def hD15 : He.DefD := ⟨("common_part", none), "common_part", "common_part", defArgs (topS 21), defBody (topS 21), defScope (topS 21), [], []⟩
def hD16 : He.DefD := ⟨("lowest", none), "lowest", "lowest", defArgs (topS 22), defBody (topS 22), defScope (topS 22), [], []⟩
def hD17 : He.DefD := ⟨("has_ring", none), "has_ring", "has_ring", defArgs (topS 23), defBody (topS 23), defScope (topS 23), [], []⟩
def hD18 : He.DefD := ⟨("ring_worth", none), "ring_worth", "ring_worth", defArgs (topS 24), defBody (topS 24), defScope (topS 24), [], []⟩
def hD19 : He.DefD := ⟨("least_steps", none), "least_steps", "least_steps", defArgs (topS 25), defBody (topS 25), defScope (topS 25), [], []⟩
def hD20 : He.DefD := ⟨("ring_met", none), "ring_met", "ring_met", defArgs (topS 26), defBody (topS 26), defScope (topS 26), [], []⟩
def hD21 : He.DefD := ⟨("raised", none), "raised", "raised", defArgs (topS 27), defBody (topS 27), defScope (topS 27), [], []⟩
def hD22 : He.DefD := ⟨("worth", none), "worth", "worth", defArgs (topS 28), defBody (topS 28), defScope (topS 28), [], []⟩
def hD23 : He.DefD := ⟨("some_ring", none), "some_ring", "some_ring", defArgs (topS 29), defBody (topS 29), defScope (topS 29), [], []⟩
def hD24 : He.DefD := ⟨("joined", none), "joined", "joined", defArgs (topS 30), defBody (topS 30), defScope (topS 30), [], []⟩
def hD25 : He.DefD := ⟨("shortest", none), "shortest", "shortest", defArgs (topS 31), defBody (topS 31), defScope (topS 31), [], []⟩
def hD26 : He.DefD := ⟨("_law_left", none), "_law_left", "_law_left", defArgs (topS 33), defBody (topS 33), defScope (topS 33), [], []⟩
def hD27 : He.DefD := ⟨("_law_next", none), "_law_next", "_law_next", defArgs (topS 34), defBody (topS 34), defScope (topS 34), [], []⟩
def hD28 : He.DefD := ⟨("_law_turned_about", none), "_law_turned_about", "_law_turned_about", defArgs (topS 35), defBody (topS 35), defScope (topS 35), [], []⟩
def hD29 : He.DefD := ⟨("_law_web", none), "_law_web", "_law_web", defArgs (topS 36), defBody (topS 36), defScope (topS 36), [], []⟩
def hD30 : He.DefD := ⟨("_law_fall", none), "_law_fall", "_law_fall", defArgs (topS 37), defBody (topS 37), defScope (topS 37), [], []⟩
def hD31 : He.DefD := ⟨("_law_arrows", none), "_law_arrows", "_law_arrows", defArgs (topS 38), defBody (topS 38), defScope (topS 38), [], []⟩
def hD32 : He.DefD := ⟨("_law_heights", none), "_law_heights", "_law_heights", defArgs (topS 39), defBody (topS 39), defScope (topS 39), [], []⟩
def hD33 : He.DefD := ⟨("_law_spring_turned", none), "_law_spring_turned", "_law_spring_turned", defArgs (topS 40), defBody (topS 40), defScope (topS 40), [], []⟩
def hD34 : He.DefD := ⟨("_law_springs", none), "_law_springs", "_law_springs", defArgs (topS 41), defBody (topS 41), defScope (topS 41), [], []⟩
def hD35 : He.DefD := ⟨("_law_kins", none), "_law_kins", "_law_kins", defArgs (topS 42), defBody (topS 42), defScope (topS 42), [], []⟩
def hD36 : He.DefD := ⟨("law", none), "law", "law", defArgs (topS 43), defBody (topS 43), defScope (topS 43), [], []⟩
def fnA : List He.DefD := [hD0, hD1, hD2, hD3, hD4, hD5, hD6, hD7, hD8, hD9, hD10, hD11, hD12, hD13, hD14, hD15, hD16, hD17, hD18, hD19]
def fnB : List He.DefD := [hD20, hD21, hD22, hD23, hD24, hD25, hD26, hD27, hD28, hD29, hD30, hD31, hD32, hD33, hD34, hD35, hD36]
def fn : List He.DefD := fnA ++ fnB
def faA : List He.Fa := [.glo "near", .glo "piece_of", .glo "pieces", .glo "hued", .glo "arrows", .glo "springs", .glo "turned_about", .glo "along", .glo "laid_way", .glo "closed_rings", .glo "often_turned", .glo "counts_of_piece", .glo "row_by_counts", .glo "parting_ring", .glo "kin", .glo "common_part", .glo "lowest", .glo "has_ring", .glo "ring_worth", .glo "least_steps"]
def faB : List He.Fa := [.glo "ring_met", .glo "raised", .glo "worth", .glo "some_ring", .glo "joined", .glo "shortest", .glo "_law_left", .glo "_law_next", .glo "_law_turned_about", .glo "_law_web", .glo "_law_fall", .glo "_law_arrows", .glo "_law_heights", .glo "_law_spring_turned", .glo "_law_springs", .glo "_law_kins", .glo "law"]
def faC : List He.Fa := [.free "tuple", .free "sorted", .free "len", .free "range", .free "list", .free "zip", .free "enumerate", .free "min", .free "max", .free "int", .free "all"]
def fa : List He.Fa := faA ++ (faB ++ faC)
def loA : List Str := ["near", "piece_of", "pieces", "hued", "arrows", "springs", "turned_about", "along", "laid_way", "closed_rings", "often_turned", "counts_of_piece", "row_by_counts", "parting_ring", "kin", "common_part", "lowest", "has_ring", "ring_worth", "least_steps"]
def loB : List Str := ["ring_met", "raised", "worth", "some_ring", "joined", "shortest", "_law_left", "_law_next", "_law_turned_about", "_law_web", "_law_fall", "_law_arrows", "_law_heights", "_law_spring_turned", "_law_springs", "_law_kins"]
def lo : List Str := loA ++ loB
abbrev R : PySem.W.OpenRow := PySem.W.OpenLaw.row PySem.Challenge.rw_rillturn_k40_whole_no_kin_is_shorter
abbrev hk : PySem.W.Hook := He.hookD 4 fa fn
def ob (s : PySem.W.SharedT) : He.AlD := He.obsDG 4 fa fn (HandSHeadRun.getT s)
theorem ob_eq (s : PySem.W.SharedT) : ob s = hk.obs s.abs := He.obsDG_eq (HandSHeadRun.getT_eq s)
theorem run (w : World) : HandSHeadRun.RunEq R (PySem.W.view R.prog [43]) hk ob 2000 lo w := by
  intro os
  kernel_rfl
theorem at_of_said {K : PySem.W.Frag} {h : Heap} {mg : Str → Option Value} (X : K.In h) (G : h.Ns mainGlobals mg) (c : He.SaysD fa fn K) {j i : Nat} {x : Str} {st : Stmt} {ps : List Str} (hd : fn[j]? = some ⟨(x, none), x, x, defArgs st, defBody st, defScope st, [], []⟩) (hf : fa[j]? = some (.glo x))
    (hb : ∀ (doc pm : Value) (an : Option Addr) (cdv ct : Value) (us : List Value), us.length = ps.length → ∀ (kV : Value), bindArgs (PySem.W.fnOf x x (defArgs st) (defBody st) (defScope st) .none kV doc pm an cdv ct) ⟨us, []⟩ = pure (ps.zip us)) : At K mg x st ps := by
  obtain ⟨fd, F⟩ := c.def_ j hd
  exact ⟨_, fd, F, He.glo_ok X G (c.fact j hf), FunD.bindsN F fun _ _ _ _ _ _ us hl => hb _ _ _ _ _ us hl _⟩
theorem tx_of {K : PySem.W.Frag} {h : Heap} {mg : Str → Option Value} (X : K.In h) (G : h.Ns mainGlobals mg) (c : He.SaysD fa fn K) : Tx K mg where
  dnear := at_of_said (i := 1) X G c (j := 0) rfl rfl fun _ _ _ _ _ us hl _ => match us, hl with | [_, _], _ => rfl
  dpieceof := at_of_said (i := 2) X G c (j := 1) rfl rfl fun _ _ _ _ _ us hl _ => match us, hl with | [_, _], _ => rfl
  dpieces := at_of_said (i := 3) X G c (j := 2) rfl rfl fun _ _ _ _ _ us hl _ => match us, hl with | [_], _ => rfl
  dhued := at_of_said (i := 5) X G c (j := 3) rfl rfl fun _ _ _ _ _ us hl _ => match us, hl with | [_, _], _ => rfl
  darrows := at_of_said (i := 7) X G c (j := 4) rfl rfl fun _ _ _ _ _ us hl _ => match us, hl with | [_, _], _ => rfl
  dsprings := at_of_said (i := 9) X G c (j := 5) rfl rfl fun _ _ _ _ _ us hl _ => match us, hl with | [_, _], _ => rfl
  dturnedabout := at_of_said (i := 10) X G c (j := 6) rfl rfl fun _ _ _ _ _ us hl _ => match us, hl with | [_, _, _], _ => rfl
  dalong := at_of_said (i := 12) X G c (j := 7) rfl rfl fun _ _ _ _ _ us hl _ => match us, hl with | [_, _, _], _ => rfl
  dlaidway := at_of_said (i := 13) X G c (j := 8) rfl rfl fun _ _ _ _ _ us hl _ => match us, hl with | [_, _, _], _ => rfl
  dclosedrings := at_of_said (i := 14) X G c (j := 9) rfl rfl fun _ _ _ _ _ us hl _ => match us, hl with | [_], _ => rfl
  doftenturned := at_of_said (i := 15) X G c (j := 10) rfl rfl fun _ _ _ _ _ us hl _ => match us, hl with | [_, _, _], _ => rfl
  dcountsofpiece := at_of_said (i := 16) X G c (j := 11) rfl rfl fun _ _ _ _ _ us hl _ => match us, hl with | [_, _, _, _], _ => rfl
  drowbycounts := at_of_said (i := 17) X G c (j := 12) rfl rfl fun _ _ _ _ _ us hl _ => match us, hl with | [_, _, _], _ => rfl
  dpartingring := at_of_said (i := 18) X G c (j := 13) rfl rfl fun _ _ _ _ _ us hl _ => match us, hl with | [_, _, _], _ => rfl
  dkin := at_of_said (i := 19) X G c (j := 14) rfl rfl fun _ _ _ _ _ us hl _ => match us, hl with | [_, _, _], _ => rfl
  dcommonpart := at_of_said (i := 21) X G c (j := 15) rfl rfl fun _ _ _ _ _ us hl _ => match us, hl with | [_, _], _ => rfl
  dlowest := at_of_said (i := 22) X G c (j := 16) rfl rfl fun _ _ _ _ _ us hl _ => match us, hl with | [_, _], _ => rfl
  dhasring := at_of_said (i := 23) X G c (j := 17) rfl rfl fun _ _ _ _ _ us hl _ => match us, hl with | [_], _ => rfl
  dringworth := at_of_said (i := 24) X G c (j := 18) rfl rfl fun _ _ _ _ _ us hl _ => match us, hl with | [_, _, _], _ => rfl
  dleaststeps := at_of_said (i := 25) X G c (j := 19) rfl rfl fun _ _ _ _ _ us hl _ => match us, hl with | [_, _, _, _], _ => rfl
  dringmet := at_of_said (i := 26) X G c (j := 20) rfl rfl fun _ _ _ _ _ us hl _ => match us, hl with | [_, _, _], _ => rfl
  draised := at_of_said (i := 27) X G c (j := 21) rfl rfl fun _ _ _ _ _ us hl _ => match us, hl with | [_, _, _, _], _ => rfl
  dworth := at_of_said (i := 28) X G c (j := 22) rfl rfl fun _ _ _ _ _ us hl _ => match us, hl with | [_, _], _ => rfl
  dsomering := at_of_said (i := 29) X G c (j := 23) rfl rfl fun _ _ _ _ _ us hl _ => match us, hl with | [_], _ => rfl
  djoined := at_of_said (i := 30) X G c (j := 24) rfl rfl fun _ _ _ _ _ us hl _ => match us, hl with | [_, _, _], _ => rfl
  dshortest := at_of_said (i := 31) X G c (j := 25) rfl rfl fun _ _ _ _ _ us hl _ => match us, hl with | [_, _], _ => rfl
  dlawleft := at_of_said (i := 33) X G c (j := 26) rfl rfl fun _ _ _ _ _ us hl _ => match us, hl with | [_], _ => rfl
  dlawnext := at_of_said (i := 34) X G c (j := 27) rfl rfl fun _ _ _ _ _ us hl _ => match us, hl with | [_, _], _ => rfl
  dlawturnedabout := at_of_said (i := 35) X G c (j := 28) rfl rfl fun _ _ _ _ _ us hl _ => match us, hl with | [_, _], _ => rfl
  dlawweb := at_of_said (i := 36) X G c (j := 29) rfl rfl fun _ _ _ _ _ us hl _ => match us, hl with | [_, _, _], _ => rfl
  dlawfall := at_of_said (i := 37) X G c (j := 30) rfl rfl fun _ _ _ _ _ us hl _ => match us, hl with | [_, _], _ => rfl
  dlawarrows := at_of_said (i := 38) X G c (j := 31) rfl rfl fun _ _ _ _ _ us hl _ => match us, hl with | [_, _], _ => rfl
  dlawheights := at_of_said (i := 39) X G c (j := 32) rfl rfl fun _ _ _ _ _ us hl _ => match us, hl with | [_, _], _ => rfl
  dlawspringturned := at_of_said (i := 40) X G c (j := 33) rfl rfl fun _ _ _ _ _ us hl _ => match us, hl with | [_, _, _], _ => rfl
  dlawsprings := at_of_said (i := 41) X G c (j := 34) rfl rfl fun _ _ _ _ _ us hl _ => match us, hl with | [_, _], _ => rfl
  dlawkins := at_of_said (i := 42) X G c (j := 35) rfl rfl fun _ _ _ _ _ us hl _ => match us, hl with | [_, _], _ => rfl
  dlaw := at_of_said (i := 43) X G c (j := 36) rfl rfl fun _ _ _ _ _ us hl _ => match us, hl with | [_], _ => rfl
  ztuple := He.free_ok X G (c.fact 37 (f := .free "tuple") rfl)
  zsorted := He.free_ok X G (c.fact 38 (f := .free "sorted") rfl)
  zlen := He.free_ok X G (c.fact 39 (f := .free "len") rfl)
  zrange := He.free_ok X G (c.fact 40 (f := .free "range") rfl)
  zlist := He.free_ok X G (c.fact 41 (f := .free "list") rfl)
  zzip := He.free_ok X G (c.fact 42 (f := .free "zip") rfl)
  zenumerate := He.free_ok X G (c.fact 43 (f := .free "enumerate") rfl)
  zmin := He.free_ok X G (c.fact 44 (f := .free "min") rfl)
  zmax := He.free_ok X G (c.fact 45 (f := .free "max") rfl)
  zint := He.free_ok X G (c.fact 46 (f := .free "int") rfl)
  zall := He.free_ok X G (c.fact 47 (f := .free "all") rfl)
theorem facts {P : Program} {w : World} {K : PySem.W.Frag} {h : Heap} {mg : Str → Option Value} {f : Addr} (X : K.In h) (G : h.Ns mainGlobals mg) (hfa : mg ("law" : Str) = some (.ref f)) (c : He.SaysD fa fn K) :
    ∃ fd : FuncData, (∀ (s : Shared) (v : Value), BindsTo s fd ⟨[v], []⟩ [("script", v)]) ∧ ∀ base : Heap, K.In base → base.Ns mainGlobals mg → FnOk P w K mg base CX0 9 f fd ["script"] (spLaw K) := by
  have T := tx_of X G c
  obtain ⟨fd, F⟩ := c.def_ 36 (d := hD36) rfl
  have e := hfa.symm.trans (He.glo_ok X G (c.fact 36 (f := .glo "law") rfl))
  cases e
  have b := FunD.bindsA (ps := ["script"]) F fun _ _ _ _ _ _ us hl => match us, hl with | [_], _ => rfl
  exact ⟨fd, fun s v => b s [v] rfl, fun base _ _ => ok_law T F⟩
end K40
open PySem PySem.W PySem.Calls PyProof.Rows
set_option maxRecDepth 100000 in
set_option maxHeartbeats 0 in
theorem PySem.Challenge.cw_rillturn_k40_whole_no_kin_is_shorter_holds : PySem.Challenge.rw_rillturn_k40_whole_no_kin_is_shorter.Holds := by
  w_on; o_law
  refine HandSHeadRun.head_any (r := OpenLaw.row PySem.Challenge.rw_rillturn_k40_whole_no_kin_is_shorter) (q := view (OpenLaw.row PySem.Challenge.rw_rillturn_k40_whole_no_kin_is_shorter).prog [43]) (H := K40.hk) (ob := K40.ob) (M := 2000) (loose := K40.lo) (d := HandSHeadRun.topDef (OpenLaw.row PySem.Challenge.rw_rillturn_k40_whole_no_kin_is_shorter).prog 43) (kwd := []) K40.ob_eq
    (by kernel_rfl) (fun s => by kernel_rfl) K40.run (by kernel_rfl) (by kernel_rfl) (by kernel_rfl) (by rfl) (by first | assumption | decide +kernel) (by decide +kernel) ⟨rfl, rfl, rfl, rfl, rfl, by decide +kernel⟩ ?hw ?hc
  case hw => w_witness2
  case hc =>
    refine L2.walk_ofE (l := PySem.Challenge.rw_rillturn_k40_whole_no_kin_is_shorter) (n := 63) (k := 9) (x := "script") (CX := L2.CX0) rfl (by decide) (by kernel_rfl) ⟨rfl, by decide, by decide⟩ ?F (fun _ _ _ _ z => z)
    intro w mg fa h Y G hmg0
    obtain ⟨K, KX, c⟩ := Y
    have hmg : mg ("law" : PySem.Str) = some (.ref fa) := by
      have e : (HandSHeadRun.topDef (OpenLaw.row PySem.Challenge.rw_rillturn_k40_whole_no_kin_is_shorter).prog 43).name = ("law" : PySem.Str) := by kernel_rfl
      rw [← e]
      exact hmg0
    obtain ⟨fd, hb, hF⟩ := K40.facts (P := (PySem.Challenge.rw_rillturn_k40_whole_no_kin_is_shorter).prog) (w := w) KX G hmg c
    exact ⟨K, fd, K40.spLaw K, KX, hb, fun H a ns hl _ hS => ⟨a, ns, rfl, hS, hl, fun _ => rfl⟩, hF⟩

