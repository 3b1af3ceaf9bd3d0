import PyProof.Rows.All
import Wide.All
import OpenK.AllK
import Wide.FinOn
import HandS.Base
import HandS.Call
import HandS.List
import HandS.TupAny
import HandS.Zip
import HandS.Dict
import KE.KDictPairs
import HandS.Comp
import HandS.Iter
import HandS.Words
import HandS.Wide
import HandS.Deep
import HandS.Star
import HandS.Style
import HandS.SortInts
import HandS.ListItems
import HandS.More
import HandS.WordsDict
import HandS.Ends
import HandS.RaiseMore
import HandS.IsInst
import HandS.Gcd
import PySem.Challenge.RW_mapvalues_k56_claims_judged
set_option Elab.async false
set_option maxRecDepth 100000
set_option linter.all false
/-! DLN: tuples of which it is known that they have no attributes of their own; dict(..) of such a tuple of pairs. -/
namespace DL
open PySem PySem.Spec PyProof.Rows L2
/-- a tuple without attributes of its own, as it is newly made -/
def plT (us : List Value) : Obj := { cls := .type "tuple", data := .seq us.toArray }
section
variable {P : Program} {w : World} {H : Hp} {h : Heap} {a : Addr} {xs : List V} {us : List Value}
theorem plT_ok (z : xs.length ≤ sizeLine) (r : Vals xs us) (g : h.get? a = some (plT us)) : ObjOk P w H h a (.frz (plT us) (.tup xs)) := ⟨g, z, us, r, _, g, rfl, _, rfl⟩
end
/-- what a rule that makes a tuple gives -/
def NewT (H : Hp) (xs : List V) (Q : VK) : Prop := ∀ (p : Addr) (o : Obj), o.dict = none → H p = none → Q (.ref p) (upd H p (.frz o (.tup xs)))
section
variable {X : Cx} {pins : List (Addr × Obj)} {σ : List (Option V)} {H : Hp} {s : Shared} {Q : VK}
theorem made {xs : List V} {us : List Value} {h1 : Heap} {t1 : Nat} (J : Inv X pins σ H { s with heap := h1, toks := t1 }) (z : xs.length ≤ sizeLine) (r : Vals xs us) (q : NewT H xs Q) : EP X pins σ Q (.ref h1.objs.size) { s with heap := h1.push (plT us), toks := t1 } :=
  ⟨.ref h1.objs.size, _, J.laid (t' := t1) (o := .frz (plT us) (.tup xs)) (fun _ _ g => Heap.get?_push_of_some _ g) (Nat.le_refl _) (plT_ok z r (Heap.get?_push_size _ rfl)), rfl, q _ _ rfl (J.hok.fresh (Nat.le_refl _))⟩
end
section
variable {X : Cx}
def tTupN (t : TA) : TE := fun σ H Q => t σ H fun xs H1 => xs.length ≤ sizeLine ∧ NewT H1 xs Q
theorem pe_tupN {es : List Expr} {k} {pos : Pos} {t : TA} (pa : PA X es t) : PE X (.Tuple es k pos) (tTupN t) :=
  ⟨fun pins s σ H Q I want => wpAny_Tuple_spliced (thn (pa.run pos pins s σ H _ I want) fun us s1 ⟨xs, H1, J, r, z, q⟩ => ⟨by rw [← r.length]; exact z, made (s := s1) (h1 := s1.heap) (t1 := s1.toks) J z r q⟩)⟩
def rTupleN (K : PySem.W.Frag) : List V → Hp → VK → Prop := fun xs H Q => ∃ p ys, xs = [.ref p] ∧ ((SqL K H p ys ∧ NewT H ys Q) ∨ (SqT K H p ys ∧ Q (.ref p) H))
theorem call_tupleN : CallR X (.type "tuple") (rTupleN X.K) := by
  intro pins s σ H vs us Q I rv ⟨p, ys, ev, want⟩
  subst ev
  obtain ⟨u, eu, rx⟩ := vals1 rv
  subst eu
  cases rx
  rcases want with ⟨sq, q⟩ | ⟨sq, q⟩
  · obtain ⟨its, ri, pl, z⟩ := I.list sq
    have len := ri.length
    refine call_tuple_list pl.isList (fun h1 keep => ?_) (by rw [List.size_toArray]; omega)
    have J : Inv X pins σ H { s with heap := h1, toks := s.toks } := I.kept (t' := s.toks) keep
    exact made (s := s) (t1 := s.toks) J z ri q
  · obtain ⟨its, ri, pl, z⟩ := I.tuple sq
    exact call_tuple_same pl ⟨.ref p, H, I, rfl, q⟩
def whole (n : Nat) (lo hi : Option Int) : Prop := HT.sIx n 0 lo = 0 ∧ HT.sIx n n hi = n
def rSlN (K : PySem.W.Frag) : V → Option Int → Option Int → Hp → VK → Prop := fun x lo hi H Q => ∃ a xs, x = .ref a ∧ SqT K H a xs ∧ (whole xs.length lo hi → Q (.ref a) H) ∧ (¬ whole xs.length lo hi → NewT H (cutV xs lo hi) Q)
theorem sl_tupN : SlR X (rSlN X.K) := by
  intro pins s σ H x v vl vu lo hi sl Q I rx isl pl pu ⟨a, xs, ex, sq, q1, q2⟩
  subst ex
  by_cases hw : whole xs.length lo hi
  · exact sl_tupA pins s σ H _ v vl vu lo hi sl Q I rx isl pl pu ⟨a, xs, rfl, sq, fun _ => q1 hw, fun n => absurd hw n⟩
  · cases rx
    obtain ⟨its, ri, it, z⟩ := I.tuple sq
    have len : its.toArray.size = xs.length := by rw [List.size_toArray]; exact ri.length.symm
    refine ⟨"tuple", _, PyProof.Rows.slot_tuple_getitem.lookup, it.typeIs, HT.getItem_tuple_cut it isl pl pu (by rw [len]; exact hw) ?_ (by rw [len]; exact z)⟩
    rw [len]
    exact made (s := s) (h1 := s.heap) (t1 := s.toks) I (Nat.le_trans (cutV_length xs lo hi) z) ((ri.drop (HT.sIx xs.length 0 lo)).take (HT.sIx xs.length xs.length hi - HT.sIx xs.length 0 lo)) (q2 hw)
def rCatN (K : PySem.W.Frag) : R2 := fun x y H Q => ∃ a b xs ys, x = .ref a ∧ y = .ref b ∧ SqT K H a xs ∧ SqT K H b ys ∧ xs.length + ys.length ≤ sizeLine ∧ (xs = [] → Q (.ref b) H) ∧ (xs ≠ [] → ys = [] → Q (.ref a) H) ∧ (xs ≠ [] → ys ≠ [] → NewT H (xs ++ ys) Q)
theorem op_catN : OpR X (binaryOp .Add) (rCatN X.K) := by
  intro pins s σ H x y v u Q I rx ry ⟨a, b, xs, ys, ex, ey, sa, sb, z, q0, q1, q2⟩
  subst ex ey
  by_cases hx : xs = []
  · exact op_catA pins s σ H _ _ v u Q I rx ry ⟨a, b, xs, ys, rfl, rfl, sa, sb, z, q0, fun n => absurd hx n, fun n => absurd hx n⟩
  · cases rx
    cases ry
    obtain ⟨its, ri, p1, _⟩ := I.tuple sa
    obtain ⟨jts, rj, p2, _⟩ := I.tuple sb
    refine HT.cat_tup p1 p2 (fun n => hx (ri.nil_iff.mp n)) (fun n => ⟨.ref a, H, I, rfl, q1 hx (rj.nil_iff.mp n)⟩) (fun n => ?_) (by rw [← ri.length, ← rj.length]; exact z)
    exact made (s := s) (h1 := s.heap) (t1 := s.toks) I (by rw [List.length_append]; exact z) (ri.append rj) (q2 hx fun k => n (rj.nil_iff.mpr k))
end
end DL
/-! DLN2: zip of two tuples, with pairs of which it is known that they have no attributes; dict(..) of a tuple of pairs. -/
namespace DL
open PySem PySem.Spec PyProof.Rows L2 RZ
def ItzN (K : PySem.W.Frag) (a b : Addr) : It :=
  ⟨(ItzT K a b).go, fun i H v H' => ∃ (T : Addr) (o : Obj) (x y : V), o.dict = none ∧ v = .ref T ∧ H T = none ∧ H' = upd H T (.frz o (.tup [x, y])) ∧ (∀ l, SqT K H a l → l[i]? = some x) ∧ ∀ l, SqT K H b l → l[i]? = some y, (ItzT K a b).stop⟩
def Zst (a b z t1 t2 i1 i2 : Addr) (i : Nat) (h : Heap) : Prop := IsZip h z t1 t2 .none ∧ IsPair h t1 (.ref i1) (.ref i2) ∧ (∃ x y, IsPair h t2 x y) ∧ h.IsTupleIter i1 a i ∧ h.IsTupleIter i2 b i
theorem turnN {P : Program} {w : World} {K : PySem.W.Frag} {es : List Expr} {k : Nat} {tp : Pos} {a b z t1 t2 i1 i2 : Addr} (D : ZipApart z t1 t2 i1 i2 a b) :
    Turn P w K (.Tuple es k tp) (ItzN K a b) [z, t1, t2, i1, i2] z (Zst a b z t1 t2 i1 i2) where
  mem := (turn_zipT (P := P) (w := w) (K := K) (elts := es) (kk := k) (tpos := tp) D).mem
  obj := (turn_zipT (P := P) (w := w) (K := K) (elts := es) (kk := k) (tpos := tp) D).obj
  keep := (turn_zipT (P := P) (w := w) (K := K) (elts := es) (kk := k) (tpos := tp) D).keep
  done := (turn_zipT (P := P) (w := w) (K := K) (elts := es) (kk := k) (tpos := tp) D).done
  self := (turn_zipT (P := P) (w := w) (K := K) (elts := es) (kk := k) (tpos := tp) D).self
  item := by
    intro X e1 e2 e3 calm i pins s σ H E I free st ⟨xs, ys, x, y, sx, sy, gx, gy⟩
    subst e1 e2 e3
    obtain ⟨jz, j1, ⟨x0, y0, j2⟩, k1, k2⟩ := st
    obtain ⟨us, ru, pu, _⟩ := I.tuple sx
    obtain ⟨ws, rw', pw, _⟩ := I.tuple sy
    obtain ⟨u, gu, r1⟩ := ru.get gx
    obtain ⟨v, gv, r2⟩ := rw'.get gy
    have zl : z < s.heap.objs.size := Heap.lt_size jz
    refine pyNext_zipT_item D jz j1 j2 k1 k2 pu pw (x := u) (y := v) (by simpa using gu) (by simpa using gv) fun h1 jz' j2' k1' k2' made1 hs hk => ?_
    refine ⟨_, rfl, wpAny_letOwnedTupleGo_zip (s := { s with heap := h1 }) jz' fun h2 jz2 sb => ?_⟩
    have made2 : h2.get? s.heap.objs.size = some (plT [u, v]) := (sb.2 _ (Nat.ne_of_gt zl)).trans made1
    have new : ObjOk X.prog X.w (upd H s.heap.objs.size (.frz (plT [u, v]) (.tup [x, y]))) h2 s.heap.objs.size (.frz (plT [u, v]) (.tup [x, y])) := plT_ok (by show 2 ≤ sizeLine; decide) (.cons r1 (.cons r2 .nil)) made2
    have keeps : ∀ c o, c ∉ [z, t1, t2, i1, i2] → s.heap.get? c = some o → h2.get? c = some o := fun c o n g => by
      simp only [List.mem_cons, not_or, List.not_mem_nil, not_false_eq_true, and_true] at n
      exact (sb.2 c n.1).trans (hk c o n.1 n.2.2.1 n.2.2.2.1 n.2.2.2.2 g)
    have J : Inv X pins σ (upd H s.heap.objs.size (.frz (plT [u, v]) (.tup [x, y]))) { s with heap := h2 } := I.turnedNew (t' := s.toks) (ch := [z, t1, t2, i1, i2]) keeps free (Nat.le_refl _) new
    refine ⟨.ref s.heap.objs.size, _, J, rfl, ⟨_, plT [u, v], x, y, rfl, rfl, I.hok.fresh (Nat.le_refl _), rfl, fun l hl => by rw [I.tuple_inj hl sx]; exact gx, fun l hl => by rw [I.tuple_inj hl sy]; exact gy⟩, ⟨jz2, ?_, ⟨u, v, ?_⟩, ?_, ?_⟩, fun c hc => ?_⟩
    · exact (sb.2 _ D.TIz).trans (hk _ _ D.TIz D.TITO D.TIi1 D.TIi2 j1)
    · exact (sb.2 _ D.TOz).trans j2'
    · exact k1'.at fun _ g => (sb.2 _ D.i1z).trans g
    · exact k2'.at fun _ g => (sb.2 _ D.i2z).trans g
    · have lt : c < s.heap.objs.size := by
        obtain ⟨_, g1, _⟩ := k1
        obtain ⟨_, g2, _⟩ := k2
        have m : c = z ∨ c = t1 ∨ c = t2 ∨ c = i1 ∨ c = i2 := by simpa using hc
        rcases m with rfl | rfl | rfl | rfl | rfl
        · exact zl
        · exact Heap.lt_size j1
        · exact Heap.lt_size j2
        · exact Heap.lt_size g1
        · exact Heap.lt_size g2
      rw [upd_ne (Nat.ne_of_lt lt)]
      exact (free c hc).1
def iZipN (K : PySem.W.Frag) (ta : TA) : TI := fun σ H R => ta σ H fun vs H1 => ∃ a b xs ys, vs = [.ref a, .ref b] ∧ SqT K H1 a xs ∧ SqT K H1 b ys ∧ R (ItzN K a b) H1
theorem pi_zipN {X : Cx} {e e2 : Expr} {ta : TA} {p pos tp : Pos} {es : List Expr} {k : Nat} (hg : Gl X "zip") (hm : X.mg "zip" = none) (pa : PA X [e, e2] ta)
    (hs : starEach [e, e2] X.env = (false, eval e X.env) :: starEach [e2] X.env := by rfl) (hpl : (backTo pos (starEach [e2] X.env)).any (·.1) = false := by rfl) :
    PI X (.Tuple es k tp) (.Call (.Name "zip" p) [e, e2] [] pos) (iZipN X.K ta) := by
  refine ⟨fun pins s σ H R I want => Call_ (ld_blt I hg hm PyProof.Rows.boot_zip (PyProof.Rows.callWith_type1 (thn (pa.run pos pins s σ H _ I want) fun us s1 ⟨vs, H1, J, rv, a, b, xs, ys, ev, sx, sy, q⟩ => ?_) hs hpl))⟩
  subst ev
  obtain ⟨u, v, eu, ra, rb⟩ := vals2 rv
  cases ra
  cases rb
  cases eu
  obtain ⟨us, ru, pu, _⟩ := J.tuple sx
  obtain ⟨ws, rw', pw, _⟩ := J.tuple sy
  obtain ⟨o1, g1, _⟩ := id pu
  obtain ⟨o2, g2, _⟩ := id pw
  refine call_zipT (show s1.heap.IsTuple a us.toArray from pu) (show s1.heap.IsTuple b ws.toArray from pw) fun h1 jz j1 j2 k1 k2 hs hk => wpAny_pyIter_zip jz ?_
  have J2 : Inv X pins σ H1 { s1 with heap := h1 } := J.kept (t' := s1.toks) hk
  refine ⟨s1.heap.objs.size + 4, _, _, _, H1, rfl, J2, turnN (PySem.W.ktu_apart s1.heap.objs.size a b (Heap.lt_size g1) (Heap.lt_size g2)), ⟨jz, j1, ⟨_, _, j2⟩, k1, k2⟩, fun c hc => ?_, q⟩
  have le : s1.heap.objs.size ≤ c := by
    simp only [List.mem_cons, List.not_mem_nil, or_false] at hc
    rcases hc with rfl | rfl | rfl | rfl | rfl <;> first | exact Nat.le_add_right _ _ | exact Nat.le_refl _
  exact J.fpOk le (J.hok.fresh le)
end DL
/-! DLN3: dict(..) of a tuple of pairs. -/
namespace DL
open PySem PySem.Spec PyProof.Rows L2
def DNh (K : PySem.W.Frag) (H : Hp) (a : Addr) : Prop := (∃ (o : Obj) (xs : List V), o.dict = none ∧ H a = some (.frz o (.tup xs))) ∨ ∃ o : Obj, K.lookup a = some o ∧ o.dict = none
theorem pick_all {α : Type} {P : Nat → α → Prop} : ∀ n, (∀ j, j < n → ∃ x, P j x) → ∃ l : List α, l.length = n ∧ ∀ j, j < n → ∃ x, l[j]? = some x ∧ P j x
  | 0, _ => ⟨[], rfl, fun j h => absurd h (Nat.not_lt_zero j)⟩
  | n + 1, h => by
    obtain ⟨l, e, k⟩ := pick_all n fun j hj => h j (by omega)
    obtain ⟨x, hx⟩ := h n (by omega)
    refine ⟨l ++ [x], by simp [e], fun j hj => ?_⟩
    by_cases z : j < n
    · obtain ⟨y, e1, e2⟩ := k j z
      exact ⟨y, by rw [List.getElem?_append_left (by omega)]; exact e1, e2⟩
    · have : j = n := by omega
      subst this
      exact ⟨x, by rw [← e]; simp, hx⟩
section
variable {X : Cx} {pins : List (Addr × Obj)} {σ : List (Option V)} {H : Hp} {s : Shared}
theorem plain_of (I : Inv X pins σ H s) {a : Addr} {xs : List V} (h : SqT X.K H a xs) (n : DNh X.K H a) : ∃ its : List Value, Vals xs its ∧ PlainSeq "tuple" s.heap a its.toArray ∧ xs.length ≤ sizeLine := by
  obtain ⟨its, r, ⟨o, g, hc, m, hd⟩, z⟩ := I.tuple h
  refine ⟨its, r, ⟨o, m, g, hc, ?_, hd⟩, z⟩
  rcases n with ⟨o', ys, dn, e⟩ | ⟨o', hk, dn⟩
  · have g' : s.heap.get? a = some o' := (I.hok _ _ e).1
    rw [g] at g'
    cases g'
    exact dn
  · have g' := I.kIn a o' hk
    rw [g] at g'
    cases g'
    exact dn
def rDictN (K : PySem.W.Frag) : List V → Hp → VK → Prop := fun xs H Q => ∃ (a : Addr) (ps : List Addr) (kvs : List (Key × V)), xs = [.ref a] ∧ SqT K H a (ps.map V.ref) ∧ DNh K H a ∧ Paired (fun p kv => SqT K H p [kV kv.1, kv.2]) ps kvs ∧ ∀ p, H p = none → Q (.ref p) (upd H p (.dK (mergeK [] kvs)))
theorem call_dictN (calm : X.calm = true) : CallR X (.type "dict") (rDictN X.K) := by
  intro pins s σ H vs us Q I rv ⟨a, ps, kvs, ev, sq, dn, pd, q⟩
  subst ev
  obtain ⟨u, eu, rx⟩ := vals1 rv
  subst eu
  cases rx
  obtain ⟨its, ri, pl, z⟩ := plain_of I sq dn
  have ei := refs_at ri
  subst ei
  rw [List.length_map] at z
  obtain ⟨prs, rel, el, hp⟩ := pairs_of I pd
  obtain ⟨ws, ew, hw⟩ := pick_all (P := fun j (x : Value × Value) => ∃ (qk : Key) (b : Addr), prs[j]? = some (qk, x.2) ∧ ps[j]? = some b ∧ IsTup s.heap b #[x.1, x.2] ∧ keyIs qk x.1 = true) prs.length fun j hj => by
    obtain ⟨b, v, e1, e2, e3⟩ := hp j _ (List.getElem?_eq_getElem hj)
    exact ⟨(v, (prs[j]).2), (prs[j]).1, b, List.getElem?_eq_getElem hj, e1, e2, e3⟩
  have at_ : ∀ (j : Nat) (k v : Value), ws[j]? = some (k, v) → ∃ (qk : Key) (b : Addr), prs[j]? = some (qk, v) ∧ ps[j]? = some b ∧ IsTup s.heap b #[k, v] ∧ keyIs qk k = true := fun j k v e => by
    have hj : j < prs.length := by rw [← ew]; exact (List.getElem?_eq_some_iff.mp e).1
    obtain ⟨x, e1, e2⟩ := hw j hj
    rw [e] at e1
    cases e1
    exact e2
  refine PySem.call_dict_pairs (knd := mixKind X.prog X.w) (kvs := prs) (PairArg.tuple a (ps.map Value.ref).toArray (fun j => ps.getD j 0) ws) (I.ok.hd calm) ⟨pl, by simp [ew, el], fun j k v e => ?_⟩ ⟨ew.symm, fun j k v e => ?_⟩ (by rw [ew, el]; exact z) fun h' tk hd' keep => ?_
  · obtain ⟨qk, b, _, e2, e3, _⟩ := at_ j k v e
    have e4 : ps.getD j 0 = b := by rw [List.getD_eq_getElem?_getD, e2]; rfl
    show (ps.map Value.ref).toArray[j]? = some (.ref (ps.getD j 0)) ∧ PairAt s.heap (ps.getD j 0) k v
    rw [e4]
    exact ⟨by simp [e2], .inl e3⟩
  · obtain ⟨qk, b, e1, _, _, e4⟩ := at_ j k v e
    exact ⟨qk, e1, e4⟩
  · have hm : (s.heap.objs.size == sysModules) = false := beq_eq_false_iff_ne.mpr (Nat.ne_of_gt I.big)
    have len : (mergeK [] kvs).length ≤ sizeLine := by
      have := length_mergeK kvs []
      have e := rel.length
      simp only [List.length_nil, Nat.zero_add] at this
      omega
    exact ⟨.ref s.heap.objs.size, upd H s.heap.objs.size (.dK (mergeK [] kvs)), I.laid (t' := tk) (fun b o g => keep b o (fun z => nomatch z) g) (Nat.le_refl _) ⟨len, hm, merged [] prs, KV.merge rel .nil, hd'⟩, rfl, q _ (I.hok.fresh (Nat.le_refl _))⟩
end
end DL
/-! DL1: data over the heap, what a def's slots hold, the relation Cf. -/
namespace DL
open PySem L2
abbrev D := PyData
/-- the drawn source of a law: its cells (the last one is next), what is left, the mixed number, the turn -/
structure Src where
  cells : List Int
  left : Int
  mixed : Int
  turn : Int
/-- what a slot holds: nothing known; data; a list of its own; a dict of its own; the source; the source's cells -/
inductive SV where
  | un
  | d (x : D)
  | ol (xs : List D)
  | oK (kvs : List (Key × D))
  | oT (kvs : List (List Key × D))
  | lK (kvs : List (Key × D))
  | src
  | cells
  | scr (ns : List Int)
structure S where
  g : List SV
  s : Option Src
structure Exn where
  cls : Str
  args : List D
inductive Oc (α : Type) where
  | ok (a : α) (s : S)
  | ex (e : Exn) (s : S)
abbrev M (α : Type) := S → Option (Oc α)
def keyD : Key → D
  | .inl i => .int i
  | .inr x => .str x
/-! ### data over the heap, out of the reach of what may be written (W) -/
def SqLw (K : PySem.W.Frag) (W : Addr → Prop) (H : Hp) (a : Addr) (xs : List V) : Prop := H a = some (.lst xs) ∧ ¬ W a
/-- the script: it may be locked, or stand in the written part -/
def SqSc (K : PySem.W.Frag) (W : Addr → Prop) (H : Hp) (a : Addr) (xs : List V) : Prop := (Rd H a (.lst xs) ∧ ¬ W a) ∨ SqL K (fun _ => none) a xs
def SqTw (K : PySem.W.Frag) (W : Addr → Prop) (H : Hp) (a : Addr) (xs : List V) : Prop := (Rd H a (.tup xs) ∧ ¬ W a) ∨ SqT K (fun _ => none) a xs
/-- a row of pairs of numbers: what dict(..) is told of as a tuple -/
def rowy : List D → Bool
  | [] => false
  | d :: ds => (d :: ds).all fun d => match d with
    | .tuple [.int _, .int _] => true
    | _ => false
/-- it is known that the tuple has no attributes of its own -/
def DNw (K : PySem.W.Frag) (W : Addr → Prop) (H : Hp) (a : Addr) : Prop := (∃ (o : Obj) (xs : List V), o.dict = none ∧ H a = some (.frz o (.tup xs)) ∧ ¬ W a) ∨ ∃ o : Obj, K.lookup a = some o ∧ o.dict = none
theorem no_rd {a : Addr} {u : HO} (h : Rd (fun _ => none) a u) : False := by
  rcases h with h | ⟨_, h⟩ <;> cases h
section
variable {K : PySem.W.Frag} {W W' : Addr → Prop} {H H' : Hp}
theorem SqLw.sq {a : Addr} {xs : List V} (h : SqLw K W H a xs) : SqL K H a xs := .inl (.inl h.1)
theorem SqSc.sq {a : Addr} {xs : List V} (h : SqSc K W H a xs) : SqL K H a xs := by
  rcases h with h | h | h
  · exact .inl h.1
  · exact (no_rd h).elim
  · exact .inr h
theorem SqTw.sq {a : Addr} {xs : List V} (h : SqTw K W H a xs) : SqT K H a xs := by
  rcases h with h | h | h
  · exact .inl h.1
  · exact (no_rd h).elim
  · exact .inr h
end
/-- what isn't written in one heap stands in another one -/
def Kept (W : Addr → Prop) (H : Hp) (W' : Addr → Prop) (H' : Hp) : Prop := ∀ a o, ¬ W a → H a = some o → ¬ W' a ∧ H' a = some o
section
variable {K : PySem.W.Frag} {W W' : Addr → Prop} {H H' : Hp}
theorem Kept.rd (k : Kept W H W' H') {a : Addr} {u : HO} (h : Rd H a u ∧ ¬ W a) : Rd H' a u ∧ ¬ W' a := by
  obtain ⟨h | ⟨o, h⟩, n⟩ := h
  · obtain ⟨n', e⟩ := k a _ n h
    exact ⟨.inl e, n'⟩
  · obtain ⟨n', e⟩ := k a _ n h
    exact ⟨.inr ⟨o, e⟩, n'⟩
theorem SqLw.kept (k : Kept W H W' H') {a : Addr} {xs : List V} (h : SqLw K W H a xs) : SqLw K W' H' a xs := ⟨(k a _ h.2 h.1).2, (k a _ h.2 h.1).1⟩
theorem SqSc.kept (k : Kept W H W' H') {a : Addr} {xs : List V} (h : SqSc K W H a xs) : SqSc K W' H' a xs := h.imp k.rd id
theorem DNw.kept (k : Kept W H W' H') {a : Addr} (h : DNw K W H a) : DNw K W' H' a := by
  rcases h with ⟨o, xs, d, e, n⟩ | h
  · obtain ⟨n', e'⟩ := k a _ n e
    exact .inl ⟨o, xs, d, e', n'⟩
  · exact .inr h
theorem SqTw.kept (k : Kept W H W' H') {a : Addr} {xs : List V} (h : SqTw K W H a xs) : SqTw K W' H' a xs := h.imp k.rd id
end
mutual
inductive Rp (K : PySem.W.Frag) (W : Addr → Prop) (H : Hp) : V → D → Prop
  | non : Rp K W H .non .none
  | bl (b : Bool) : Rp K W H (.bl b) (.bool b)
  | int (i : Int) : Rp K W H (.int i) (.int i)
  | str (x : Str) : Rp K W H (.str x) (.str x)
  | lst {a : Addr} {xs : List V} {ds : List D} : SqLw K W H a xs → RpAll K W H xs ds → Rp K W H (.ref a) (.list ds)
  | tup {a : Addr} {xs : List V} {ds : List D} : SqTw K W H a xs → (rowy ds = true → DNw K W H a) → RpAll K W H xs ds → Rp K W H (.ref a) (.tuple ds)
  | dct {a : Addr} {kvs : List (Key × V)} {ds : List (D × D)} : (Rd H a (.dK kvs) ∧ ¬ W a) → RpKv K W H kvs ds → Rp K W H (.ref a) (.dict ds)
inductive RpAll (K : PySem.W.Frag) (W : Addr → Prop) (H : Hp) : List V → List D → Prop
  | nil : RpAll K W H [] []
  | cons {v : V} {vs : List V} {d : D} {ds : List D} : Rp K W H v d → RpAll K W H vs ds → RpAll K W H (v :: vs) (d :: ds)
inductive RpKv (K : PySem.W.Frag) (W : Addr → Prop) (H : Hp) : List (Key × V) → List (D × D) → Prop
  | nil : RpKv K W H [] []
  | cons {k : Key} {v : V} {vs : List (Key × V)} {d : D} {ds : List (D × D)} : Rp K W H v d → RpKv K W H vs ds → RpKv K W H ((k, v) :: vs) ((keyD k, d) :: ds)
end
section
variable {K : PySem.W.Frag} {W W' : Addr → Prop} {H H' : Hp}
mutual
theorem Rp.kept (k : Kept W H W' H') : ∀ (d : D) (v : V), Rp K W H v d → Rp K W' H' v d
  | .none, _, h => by cases h; exact .non
  | .bool b, _, h => by cases h; exact .bl b
  | .int i, _, h => by cases h; exact .int i
  | .str x, _, h => by cases h; exact .str x
  | .list ds, _, h => by
    cases h with
    | lst h1 h2 => exact .lst (h1.kept k) (RpAll.kept k ds _ h2)
  | .tuple ds, _, h => by
    cases h with
    | tup h1 h0 h2 => exact .tup (h1.kept k) (fun e => (h0 e).kept k) (RpAll.kept k ds _ h2)
  | .dict ds, _, h => by
    cases h with
    | dct h1 h2 => exact .dct (k.rd h1) (RpKv.kept k ds _ h2)
theorem RpAll.kept (k : Kept W H W' H') : ∀ (ds : List D) (vs : List V), RpAll K W H vs ds → RpAll K W' H' vs ds
  | [], _, h => by cases h; exact .nil
  | d :: ds, _, h => by
    cases h with
    | cons h1 h2 => exact .cons (Rp.kept k d _ h1) (RpAll.kept k ds _ h2)
theorem RpKv.kept (k : Kept W H W' H') : ∀ (ds : List (D × D)) (vs : List (Key × V)), RpKv K W H vs ds → RpKv K W' H' vs ds
  | [], _, h => by cases h; exact .nil
  | (_, d) :: ds, _, h => by
    cases h with
    | cons h1 h2 => exact .cons (Rp.kept k d _ h1) (RpKv.kept k ds _ h2)
end
theorem RpAll.length : ∀ {vs : List V} {ds : List D}, RpAll K W H vs ds → vs.length = ds.length
  | _, _, .nil => rfl
  | _, _, .cons _ t => congrArg (· + 1) (RpAll.length t)
theorem RpAll.get : ∀ {vs : List V} {ds : List D}, RpAll K W H vs ds → ∀ (i : Nat) (d : D), ds[i]? = some d → ∃ v, vs[i]? = some v ∧ Rp K W H v d
  | _, _, .nil, i, d, e => by simp at e
  | _, _, .cons h t, 0, d, e => by
    simp at e
    subst e
    exact ⟨_, rfl, h⟩
  | _, _, .cons h t, i + 1, d, e => by
    obtain ⟨v, e1, r⟩ := RpAll.get t i d (by simpa using e)
    exact ⟨v, by simpa using e1, r⟩
theorem RpAll.append : ∀ {vs : List V} {ds : List D} {ws : List V} {es : List D}, RpAll K W H vs ds → RpAll K W H ws es → RpAll K W H (vs ++ ws) (ds ++ es)
  | _, _, _, _, .nil, s => s
  | _, _, _, _, .cons h t, s => .cons h (RpAll.append t s)
theorem RpAll.take : ∀ {vs : List V} {ds : List D} (n : Nat), RpAll K W H vs ds → RpAll K W H (vs.take n) (ds.take n)
  | _, _, 0, _ => .nil
  | _, _, _ + 1, .nil => .nil
  | _, _, n + 1, .cons h t => .cons h (RpAll.take n t)
theorem RpAll.drop : ∀ {vs : List V} {ds : List D} (n : Nat), RpAll K W H vs ds → RpAll K W H (vs.drop n) (ds.drop n)
  | _, _, 0, h => h
  | _, _, _ + 1, .nil => .nil
  | _, _, n + 1, .cons _ t => RpAll.drop n t
theorem RpAll.reverse : ∀ {vs : List V} {ds : List D}, RpAll K W H vs ds → RpAll K W H vs.reverse ds.reverse
  | _, _, .nil => .nil
  | _, _, .cons h t => by
    rw [List.reverse_cons, List.reverse_cons]
    exact (RpAll.reverse t).append (.cons h .nil)
theorem RpAll.set : ∀ {vs : List V} {ds : List D} (i : Nat) {v : V} {d : D}, RpAll K W H vs ds → Rp K W H v d → RpAll K W H (vs.set i v) (ds.set i d)
  | _, _, _, _, _, .nil, _ => .nil
  | _, _, 0, _, _, .cons _ t, r => .cons r t
  | _, _, i + 1, _, _, .cons h t, r => .cons h (RpAll.set i t r)
theorem RpAll.ints : ∀ {vs : List V} {ns : List Int}, RpAll K W H vs (ns.map PyData.int) → vs = ns.map V.int
  | _, [], h => by cases h; rfl
  | _, n :: ns, h => by
    cases h with
    | cons h1 h2 =>
      cases h1
      rw [RpAll.ints h2]
      rfl
theorem RpAll.ofInts : ∀ (ns : List Int), RpAll K W H (ns.map V.int) (ns.map PyData.int)
  | [] => .nil
  | n :: ns => .cons (.int n) (RpAll.ofInts ns)
theorem RpAll.bls : ∀ {vs : List V} {ns : List Bool}, RpAll K W H vs (ns.map PyData.bool) → vs = ns.map V.bl
  | _, [], h => by cases h; rfl
  | _, n :: ns, h => by
    cases h with
    | cons h1 h2 =>
      cases h1
      rw [RpAll.bls h2]
      rfl
/-- as the layer's data (no dict within) -/
def noDict : D → Bool
  | .list ds => noDicts ds
  | .tuple ds => noDicts ds
  | .dict _ => false
  | _ => true
where noDicts : List D → Bool
  | [] => true
  | d :: ds => noDict d && noDicts ds
mutual
theorem Rp.dp : ∀ (d : D) (v : V), noDict d = true → Rp K W H v d → Dp K H v d
  | .none, _, _, h => by cases h; exact .non
  | .bool b, _, _, h => by cases h; exact .bl b
  | .int i, _, _, h => by cases h; exact .int i
  | .str x, _, _, h => by cases h; exact .str x
  | .list ds, _, e, h => by
    cases h with
    | lst h1 h2 => exact .lst h1.sq (RpAll.dp ds _ e h2)
  | .tuple ds, _, e, h => by
    cases h with
    | tup h1 _ h2 => exact .tup h1.sq (RpAll.dp ds _ e h2)
  | .dict ds, _, e, h => by cases e
theorem RpAll.dp : ∀ (ds : List D) (vs : List V), noDict.noDicts ds = true → RpAll K W H vs ds → DpAll K H vs ds
  | [], _, _, h => by cases h; exact .nil
  | d :: ds, _, e, h => by
    have e' : (noDict d && noDict.noDicts ds) = true := e
    rw [Bool.and_eq_true] at e'
    cases h with
    | cons h1 h2 => exact .cons (Rp.dp d _ e'.1 h1) (RpAll.dp ds _ e'.2 h2)
end
end
end DL
/-! DL2: the relation Cf between what the slots hold as data and the abstract heap; how it goes along. -/
namespace DL
open PySem L2
inductive Pin where
  | dat (v : V) (d : D)
  /-- an object in the hand, raw -/
  | obj (a : Addr) (o : HO)
  /-- an object of one's own in the hand, with what it holds -/
  | own (a : Addr) (sv : SV)
  /-- an object that nobody writes, as it stands -/
  | fix (a : Addr) (o : HO)
  /-- a list of ints that nobody writes -/
  | sq (a : Addr) (ns : List Int)
def Pin.adr : Pin → Option Addr
  | .dat _ _ => none
  | .obj a _ => some a
  | .own a _ => some a
  | .fix _ _ => none
  | .sq _ _ => none
def SV.own : SV → Bool
  | .ol _ => true
  | .oK _ => true
  | .oT _ => true
  | .lK _ => true
  | _ => false
structure Conf where
  H0 : Hp
  src0 : Option (Addr × Addr)
  /-- the caller's own objects: out of the reach of what is handed -/
  Z : Addr → Prop
  hz : ∀ a, Z a → ¬ (∃ x y, src0 = some (x, y) ∧ (a = x ∨ a = y)) ∧ ∃ o, H0 a = some o
  xr : Exn → Value → Option Addr → Hp → Prop
def SA (sa : Option (Addr × Addr)) (x : Addr) : Prop := ∃ a c, sa = some (a, c) ∧ (x = a ∨ x = c)
def Own (σ : St) (g : List SV) (i : Nat) (a : Addr) : Prop := ∃ sv, g[i]? = some sv ∧ sv.own = true ∧ σ[i]? = some (some (.ref a))
def PO (Pn : List Pin) (a : Addr) : Prop := ∃ p ∈ Pn, p.adr = some a
/-- what may be written here -/
def Wr0 (sa : Option (Addr × Addr)) (σ : St) (g : List SV) (Pn : List Pin) (a : Addr) : Prop := (∃ i, Own σ g i a) ∨ PO Pn a ∨ SA sa a
/-- what no data reaches -/
def Wr (C : Conf) (sa : Option (Addr × Addr)) (σ : St) (g : List SV) (Pn : List Pin) (a : Addr) : Prop := Wr0 sa σ g Pn a ∨ C.Z a
def KvAll (K : PySem.W.Frag) (W : Addr → Prop) (H : Hp) {κ : Type} (xs : List (κ × V)) (ds : List (κ × D)) : Prop := Paired (fun p q => p.1 = q.1 ∧ Rp K W H p.2 q.2) xs ds
def SlotOk (K : PySem.W.Frag) (W : Addr → Prop) (sa : Option (Addr × Addr)) (H : Hp) (o : Option V) : SV → Prop
  | .un => True
  | .d x => ∃ v, o = some v ∧ Rp K W H v x
  | .ol ds => ∃ a xs, o = some (.ref a) ∧ H a = some (.lst xs) ∧ RpAll K W H xs ds
  | .oK kvs => ∃ a xs, o = some (.ref a) ∧ H a = some (.dK xs) ∧ KvAll K W H xs kvs
  | .oT kvs => ∃ a xs, o = some (.ref a) ∧ H a = some (.dT xs) ∧ KvAll K W H xs kvs
  | .lK kvs => ∃ a xs ob, o = some (.ref a) ∧ H a = some (.frz ob (.dK xs)) ∧ KvAll K W H xs kvs
  | .src => ∃ a c, sa = some (a, c) ∧ o = some (.ref a)
  | .cells => ∃ a c, sa = some (a, c) ∧ o = some (.ref c)
  | .scr ns => ∃ a, o = some (.ref a) ∧ SqSc K W H a (ns.map V.int)
def PinOk (K : PySem.W.Frag) (W : Addr → Prop) (H : Hp) : Pin → Prop
  | .dat v d => Rp K W H v d
  | .obj a o => H a = some o
  | .own a sv => sv.own = true ∧ SlotOk K W none H (some (.ref a)) sv
  | .fix a o => H a = some o ∧ ¬ W a
  | .sq a ns => SqSc K W H a (ns.map V.int)
/-- the source's dict -/
def srcK (s : Src) (c : Addr) : List (Key × V) := [(.inr "cells", .ref c), (.inr "left", .int s.left), (.inr "mixed", .int s.mixed), (.inr "turn", .int s.turn)]
def SrcOk (sa : Option (Addr × Addr)) (H : Hp) : Option Src → Prop
  | none => sa = none
  | some s => ∃ a c, sa = some (a, c) ∧ a ≠ c ∧ H a = some (.dK (srcK s c)) ∧ H c = some (.lst (s.cells.map V.int))
structure Cfg (K : PySem.W.Frag) (C : Conf) (sa : Option (Addr × Addr)) (Pn : List Pin) (s : S) (σ : St) (H : Hp) : Prop where
  len : σ.length = s.g.length
  slot : ∀ (i : Nat) (sv : SV), s.g[i]? = some sv → SlotOk K (Wr C sa σ s.g Pn) sa H ((σ[i]?).getD none) sv
  pin : ∀ p ∈ Pn, PinOk K (Wr C sa σ s.g Pn) H p
  u1 : ∀ (i j : Nat) (a : Addr), Own σ s.g i a → Own σ s.g j a → i = j
  u2 : ∀ (i : Nat) (a : Addr), Own σ s.g i a → ¬ PO Pn a
  u3 : ∀ (i : Nat) (a : Addr), Own σ s.g i a → ¬ SA sa a
  u4 : ∀ a, PO Pn a → ¬ SA sa a
  u5 : (Pn.filterMap Pin.adr).Nodup
  src : SrcOk sa H s.s
  frame : ∀ b o, C.H0 b = some o → ¬ SA C.src0 b → H b = some o
  fresh : ∀ a, Wr0 sa σ s.g Pn a → C.H0 a = none ∨ SA C.src0 a
  keep : ∀ q, C.src0 = some q → sa = some q
def Cf (K : PySem.W.Frag) (C : Conf) (Pn : List Pin) (s : S) (σ : St) (H : Hp) : Prop := ∃ sa, Cfg K C sa Pn s σ H
theorem SlotOk.kept {K : PySem.W.Frag} {W W' : Addr → Prop} {sa : Option (Addr × Addr)} {H H' : Hp} {o : Option V} {sv : SV} (k : Kept W H W' H') (ho : sv.own = true → ∀ a u, o = some (.ref a) → H a = some u → H' a = some u)
    (h : SlotOk K W sa H o sv) : SlotOk K W' sa H' o sv := by
  cases sv with
  | un => trivial
  | d x => obtain ⟨v, e, r⟩ := h; exact ⟨v, e, r.kept k⟩
  | ol ds => obtain ⟨a, xs, e, q, r⟩ := h; exact ⟨a, xs, e, ho rfl a _ e q, r.kept k⟩
  | oK kvs => obtain ⟨a, xs, e, q, r⟩ := h; exact ⟨a, xs, e, ho rfl a _ e q, Paired.mapP r fun _ _ z => ⟨z.1, z.2.kept k⟩⟩
  | oT kvs => obtain ⟨a, xs, e, q, r⟩ := h; exact ⟨a, xs, e, ho rfl a _ e q, Paired.mapP r fun _ _ z => ⟨z.1, z.2.kept k⟩⟩
  | lK kvs => obtain ⟨a, xs, ob, e, q, r⟩ := h; exact ⟨a, xs, ob, e, ho rfl a _ e q, Paired.mapP r fun _ _ z => ⟨z.1, z.2.kept k⟩⟩
  | src => exact h
  | cells => exact h
  | scr ns => obtain ⟨a, e, q⟩ := h; exact ⟨a, e, q.kept k⟩
theorem PinOk.kept {K : PySem.W.Frag} {W W' : Addr → Prop} {H H' : Hp} {p : Pin} (k : Kept W H W' H') (ho : ∀ a o, p.adr = some a → H a = some o → H' a = some o) (h : PinOk K W H p) : PinOk K W' H' p := by
  cases p with
  | dat v d => exact Rp.kept k _ _ h
  | obj a o => exact ho a o rfl h
  | own a sv => exact ⟨h.1, SlotOk.kept k (fun _ b u e q => by cases e; exact ho a u rfl q) h.2⟩
  | fix a o => exact ⟨(k a o h.2 h.1).2, (k a o h.2 h.1).1⟩
  | sq a ns => exact SqSc.kept k h
/-- what is owned is there -/
theorem SlotOk.at {K : PySem.W.Frag} {W : Addr → Prop} {sa : Option (Addr × Addr)} {H : Hp} {a : Addr} {sv : SV} (o : sv.own = true) (h : SlotOk K W sa H (some (.ref a)) sv) : ∃ u, H a = some u := by
  cases sv with
  | ol ds => obtain ⟨b, xs, e1, e2, _⟩ := h; cases e1; exact ⟨_, e2⟩
  | oK ds => obtain ⟨b, xs, e1, e2, _⟩ := h; cases e1; exact ⟨_, e2⟩
  | oT ds => obtain ⟨b, xs, e1, e2, _⟩ := h; cases e1; exact ⟨_, e2⟩
  | lK ds => obtain ⟨b, xs, _, e1, e2, _⟩ := h; cases e1; exact ⟨_, e2⟩
  | un => cases o
  | d _ => cases o
  | src => cases o
  | cells => cases o
  | scr _ => cases o
theorem SlotOk.sa_ {K : PySem.W.Frag} {W : Addr → Prop} {sa sb : Option (Addr × Addr)} {H : Hp} {o : Option V} {sv : SV} (ow : sv.own = true) (h : SlotOk K W sa H o sv) : SlotOk K W sb H o sv := by
  cases sv with
  | ol ds => exact h
  | oK ds => exact h
  | oT ds => exact h
  | lK ds => exact h
  | un => cases ow
  | d _ => cases ow
  | src => cases ow
  | cells => cases ow
  | scr _ => cases ow
theorem PinOk.at {K : PySem.W.Frag} {W : Addr → Prop} {H : Hp} {p : Pin} {a : Addr} (e : p.adr = some a) (h : PinOk K W H p) : ∃ u, H a = some u := by
  cases p with
  | dat => cases e
  | obj b o => cases e; exact ⟨_, h⟩
  | own b sv => cases e; exact h.2.at h.1
  | fix => cases e
  | sq => cases e
theorem KvAll.kept {K : PySem.W.Frag} {W W' : Addr → Prop} {H H' : Hp} (k : Kept W H W' H') {κ : Type} {xs : List (κ × V)} {ds : List (κ × D)} (h : KvAll K W H xs ds) : KvAll K W' H' xs ds :=
  Paired.mapP h fun _ _ z => ⟨z.1, z.2.kept k⟩
theorem SrcOk.kept {sa : Option (Addr × Addr)} {H H' : Hp} {s : Option Src} (k : ∀ a o, SA sa a → H a = some o → H' a = some o) (h : SrcOk sa H s) : SrcOk sa H' s := by
  cases s with
  | none => exact h
  | some s =>
    obtain ⟨a, c, e, n, h1, h2⟩ := h
    exact ⟨a, c, e, n, k a _ ⟨a, c, e, .inl rfl⟩ h1, k c _ ⟨a, c, e, .inr rfl⟩ h2⟩
section
variable {K : PySem.W.Frag} {C : Conf} {sa : Option (Addr × Addr)} {Pn : List Pin} {s : S} {σ : St} {H : Hp}
/-- what may be written is there -/
theorem Cfg.there (c : Cfg K C sa Pn s σ H) {a : Addr} (w : Wr C sa σ s.g Pn a) : ∃ o, H a = some o := by
  rcases w with (⟨i, sv, e, o, q⟩ | ⟨p, hp, e⟩ | ⟨x, y, e, z⟩) | w
  · have z := c.slot i sv e
    rw [q] at z
    exact z.at o
  · exact (c.pin p hp).at e
  · have q := c.src
    cases hs : s.s with
    | none => rw [hs, e] at q; cases q
    | some u =>
      rw [hs] at q
      obtain ⟨a', c', e', n, h1, h2⟩ := q
      rw [e] at e'; cases e'
      rcases z with rfl | rfl
      · exact ⟨_, h1⟩
      · exact ⟨_, h2⟩
  · obtain ⟨n, o, e⟩ := C.hz a w
    exact ⟨o, c.frame a o e n⟩
/-- what may be written is none of the caller's own -/
theorem Cfg.notZ (c : Cfg K C sa Pn s σ H) {a : Addr} (w : Wr0 sa σ s.g Pn a) : ¬ C.Z a := fun z => by
  obtain ⟨n, o, e⟩ := C.hz a z
  rcases c.fresh a w with q | q
  · rw [e] at q; cases q
  · exact n q
theorem Cfg.notW (c : Cfg K C sa Pn s σ H) {p : Addr} (h : H p = none) : ¬ Wr C sa σ s.g Pn p := fun w => by
  obtain ⟨o, e⟩ := c.there w
  rw [h] at e; cases e
theorem Cfg.h0 (c : Cfg K C sa Pn s σ H) {p : Addr} (h : H p = none) : C.H0 p = none := by
  cases q : C.H0 p with
  | none => rfl
  | some o =>
    have n : ¬ SA C.src0 p := fun ⟨a, b, e, z⟩ => c.notW h (.inl (.inr (.inr ⟨a, b, c.keep _ e, z⟩)))
    rw [c.frame p o q n] at h; cases h
/-- the general step: another heap, other slots (σ', s'), other pins; sa stays -/
theorem Cfg.step {Pn' : List Pin} {s' : S} {σ' : St} {H' : Hp} (c : Cfg K C sa Pn s σ H) (len : σ'.length = s'.g.length)
    (slot : Kept (Wr C sa σ s.g Pn) H (Wr C sa σ' s'.g Pn') H' → ∀ (i : Nat) (sv : SV), s'.g[i]? = some sv → SlotOk K (Wr C sa σ' s'.g Pn') sa H' ((σ'[i]?).getD none) sv)
    (pin : Kept (Wr C sa σ s.g Pn) H (Wr C sa σ' s'.g Pn') H' → ∀ p ∈ Pn', PinOk K (Wr C sa σ' s'.g Pn') H' p)
    (own : ∀ a, (∃ i, Own σ' s'.g i a) → Wr0 sa σ s.g Pn a ∧ ¬ SA sa a ∨ H a = none) (po : ∀ a, PO Pn' a → Wr0 sa σ s.g Pn a ∧ ¬ SA sa a ∨ H a = none)
    (hk : ∀ a o, ¬ Wr0 sa σ s.g Pn a → H a = some o → H' a = some o)
    (u1 : ∀ (i j : Nat) (a : Addr), Own σ' s'.g i a → Own σ' s'.g j a → i = j) (u2 : ∀ (i : Nat) (a : Addr), Own σ' s'.g i a → ¬ PO Pn' a) (u5 : (Pn'.filterMap Pin.adr).Nodup)
    (src : SrcOk sa H' s'.s) : Cfg K C sa Pn' s' σ' H' := by
  have nsa : ∀ a, H a = none → ¬ SA sa a := fun a h z => c.notW h (.inl (.inr (.inr z)))
  have wsub : ∀ a, Wr0 sa σ' s'.g Pn' a → Wr0 sa σ s.g Pn a ∨ H a = none := fun a w => by
    rcases w with w | w | w
    · exact (own a w).imp (·.1) id
    · exact (po a w).imp (·.1) id
    · exact .inl (.inr (.inr w))
  have k : Kept (Wr C sa σ s.g Pn) H (Wr C sa σ' s'.g Pn') H' := fun a o n e => by
    refine ⟨fun w => ?_, hk a o (fun z => n (.inl z)) e⟩
    rcases w with w | w
    · rcases wsub a w with w | w
      · exact n (.inl w)
      · rw [e] at w; cases w
    · exact n (.inr w)
  refine ⟨len, slot k, pin k, u1, u2, fun i a o => (own a ⟨i, o⟩).elim (·.2) (nsa a), fun a o => (po a o).elim (·.2) (nsa a), u5, src, fun b o e n => ?_, fun a w => ?_, c.keep⟩
  · have e1 := c.frame b o e n
    refine hk b o (fun w => ?_) e1
    rcases c.fresh b w with z | z
    · rw [e] at z; cases z
    · exact n z
  · rcases wsub a w with w | w
    · exact c.fresh a w
    · exact .inl (c.h0 w)
theorem PO.cons {p : Pin} {a : Addr} : PO (p :: Pn) a ↔ p.adr = some a ∨ PO Pn a := by
  constructor
  · rintro ⟨o, h, e⟩
    rcases List.mem_cons.mp h with z | z
    · rw [z] at e; exact .inl e
    · exact .inr ⟨o, z, e⟩
  · rintro (e | ⟨o, h, e⟩)
    · exact ⟨p, List.mem_cons_self, e⟩
    · exact ⟨o, List.mem_cons_of_mem _ h, e⟩
theorem PO.cons_dat {v : V} {d : D} {a : Addr} : PO (.dat v d :: Pn) a ↔ PO Pn a := PO.cons.trans ⟨fun h => h.elim (fun z => nomatch z) id, .inr⟩
theorem PO.cons_obj {b : Addr} {u : HO} {a : Addr} : PO (.obj b u :: Pn) a ↔ a = b ∨ PO Pn a := PO.cons.trans ⟨fun h => h.imp (fun z => by cases z; rfl) id, fun h => h.imp (fun z => by cases z; rfl) id⟩
theorem PO.adr {a : Addr} : PO Pn a ↔ a ∈ Pn.filterMap Pin.adr := by
  constructor
  · rintro ⟨p, h, e⟩
    exact List.mem_filterMap.mpr ⟨_, h, e⟩
  · intro h
    obtain ⟨p, hp, e⟩ := List.mem_filterMap.mp h
    exact ⟨p, hp, e⟩
theorem PO.sub {Pn' : List Pin} (h : ∀ p ∈ Pn', p ∈ Pn) {a : Addr} : PO Pn' a → PO Pn a := fun ⟨p, m, e⟩ => ⟨p, h p m, e⟩
theorem wr0_dat {v : V} {d : D} {g : List SV} : Wr0 sa σ g (.dat v d :: Pn) = Wr0 sa σ g Pn := funext fun _ => propext (by unfold Wr0; rw [PO.cons_dat])
theorem wr_dat {v : V} {d : D} {g : List SV} : Wr C sa σ g (.dat v d :: Pn) = Wr C sa σ g Pn := by unfold Wr; rw [wr0_dat]
/-- pins fewer, in any sequence -/
theorem Cfg.mem {Pn' : List Pin} (c : Cfg K C sa Pn s σ H) (hm : ∀ p ∈ Pn', p ∈ Pn) (nd : (Pn'.filterMap Pin.adr).Nodup) : Cfg K C sa Pn' s σ H := by
  refine c.step c.len (fun k i sv e => (c.slot i sv e).kept k fun _ _ _ _ q => q) (fun k p hp => (c.pin p (hm p hp)).kept k fun _ _ _ e => e)
    (fun a ⟨i, o⟩ => .inl ⟨.inl ⟨i, o⟩, c.u3 i a o⟩) (fun a z => .inl ⟨.inr (.inl (PO.sub hm z)), c.u4 a (PO.sub hm z)⟩) (fun _ _ _ e => e) c.u1 (fun i a o z => c.u2 i a o (PO.sub hm z)) nd c.src
theorem Cfg.sub {Pn' : List Pin} (c : Cfg K C sa Pn s σ H) (h : Pn'.Sublist Pn) : Cfg K C sa Pn' s σ H := c.mem (fun p hp => h.subset hp) (c.u5.sublist (h.filterMap _))
theorem Cfg.perm {Pn' : List Pin} (c : Cfg K C sa Pn s σ H) (h : Pn'.Perm Pn) : Cfg K C sa Pn' s σ H := c.mem (fun p hp => h.subset hp) ((h.filterMap Pin.adr).nodup_iff.mpr c.u5)
theorem Cf.perm {Pn' : List Pin} (c : Cf K C Pn s σ H) (h : Pn'.Perm Pn) : Cf K C Pn' s σ H := let ⟨sa, c⟩ := c; ⟨sa, c.perm h⟩
theorem Cf.sub {Pn' : List Pin} (c : Cf K C Pn s σ H) (h : Pn'.Sublist Pn) : Cf K C Pn' s σ H := let ⟨sa, c⟩ := c; ⟨sa, c.sub h⟩
/-- a datum pinned -/
theorem Cfg.pinD (c : Cfg K C sa Pn s σ H) {v : V} {d : D} (r : Rp K (Wr C sa σ s.g Pn) H v d) : Cfg K C sa (.dat v d :: Pn) s σ H := by
  refine ⟨c.len, ?_, ?_, c.u1, fun i a o z => c.u2 i a o (PO.cons_dat.mp z), c.u3, fun a z => c.u4 a (PO.cons_dat.mp z), c.u5, c.src, c.frame, ?_, c.keep⟩
  · rw [wr_dat]; exact c.slot
  · rw [wr_dat]
    intro p hp
    rcases List.mem_cons.mp hp with rfl | hp
    · exact r
    · exact c.pin p hp
  · rw [wr0_dat]; exact c.fresh
theorem Cfg.dat (c : Cfg K C sa Pn s σ H) {v : V} {d : D} (h : Pin.dat v d ∈ Pn) : Rp K (Wr C sa σ s.g Pn) H v d := c.pin _ h
theorem Cf.scal (c : Cf K C Pn s σ H) {v : V} {d : D} (r : ∀ W H, Rp K W H v d) : Cf K C (.dat v d :: Pn) s σ H := let ⟨sa, c⟩ := c; ⟨sa, c.pinD (r _ _)⟩
/-- a new object laid, pinned raw -/
theorem Cfg.lay (c : Cfg K C sa Pn s σ H) {p : Addr} (h : H p = none) (o : HO) : Cfg K C sa (.obj p o :: Pn) s σ (upd H p o) := by
  have ne : ∀ a u, H a = some u → a ≠ p := fun a u e z => by rw [z, h] at e; cases e
  have up : ∀ a u, H a = some u → upd H p o a = some u := fun a u e => by rw [upd_ne (ne a u e)]; exact e
  refine c.step c.len (fun k i sv e => (c.slot i sv e).kept k fun _ a u _ q => up a u q) (fun k q hq => ?_) (fun a ⟨i, o⟩ => .inl ⟨.inl ⟨i, o⟩, c.u3 i a o⟩) (fun a z => ?_) (fun a u _ e => up a u e) c.u1 (fun i a w z => ?_) ?_ (c.src.kept fun a u _ e => up a u e)
  · rcases List.mem_cons.mp hq with rfl | hq
    · exact upd_same
    · exact (c.pin q hq).kept k fun a u _ e => up a u e
  · rcases PO.cons_obj.mp z with rfl | z
    · exact .inr h
    · exact .inl ⟨.inr (.inl z), c.u4 a z⟩
  · rcases PO.cons_obj.mp z with rfl | z
    · exact c.notW h (.inl (.inl ⟨i, w⟩))
    · exact c.u2 i a w z
  · show (p :: Pn.filterMap Pin.adr).Nodup
    exact List.nodup_cons.mpr ⟨fun z => c.notW h (.inl (.inr (.inl (PO.adr.mpr z)))), c.u5⟩
/-- a pinned object written -/
theorem Cfg.put (c : Cfg K C sa (.obj p o :: Pn) s σ H) (o' : HO) : Cfg K C sa (.obj p o' :: Pn) s σ (upd H p o') := by
  have hp : PO (.obj p o :: Pn) p := PO.cons_obj.mpr (.inl rfl)
  have hn : ¬ PO Pn p := fun z => (List.nodup_cons.mp (show (p :: Pn.filterMap Pin.adr).Nodup from c.u5)).1 (PO.adr.mp z)
  have up : ∀ a u, a ≠ p → H a = some u → upd H p o' a = some u := fun a u n e => by rw [upd_ne n]; exact e
  have poe : ∀ a, PO (.obj p o' :: Pn) a → PO (.obj p o :: Pn) a := fun a z => PO.cons_obj.mpr (PO.cons_obj.mp z)
  refine c.step c.len (fun k i sv e => (c.slot i sv e).kept k fun ho a u e1 q => up a u (fun z => ?_) q) (fun k q hq => ?_) (fun a ⟨i, o⟩ => .inl ⟨.inl ⟨i, o⟩, c.u3 i a o⟩) (fun a z => .inl ⟨.inr (.inl (poe a z)), c.u4 a (poe a z)⟩)
    (fun a u n e => up a u (fun z => n (by rw [z]; exact .inr (.inl hp))) e) c.u1 (fun i a w z => c.u2 i a w (poe a z)) c.u5 (c.src.kept fun a u z e => up a u (fun y => c.u4 p hp (y ▸ z)) e)
  · subst z
    refine c.u2 i a ⟨sv, e, ho, ?_⟩ hp
    cases hσ : σ[i]? with
    | none => rw [hσ] at e1; cases e1
    | some x => rw [hσ] at e1; simp at e1; rw [e1]
  · rcases List.mem_cons.mp hq with rfl | hq
    · exact upd_same
    · exact (c.pin q (List.mem_cons_of_mem _ hq)).kept k fun a u e1 e => up a u (fun z => hn ⟨q, hq, by rw [e1, z]⟩) e
/-- a pinned list, tuple becomes data -/
theorem Cfg.seal {p : Addr} {o : HO} {d : D} (c : Cfg K C sa (.obj p o :: Pn) s σ H) (r : ∀ W, (∀ a, W a → Wr C sa σ s.g (.obj p o :: Pn) a) → ¬ W p → Kept (Wr C sa σ s.g (.obj p o :: Pn)) H W H → Rp K W H (.ref p) d) :
    Cfg K C sa (.dat (.ref p) d :: Pn) s σ H := by
  have hp : PO (.obj p o :: Pn) p := PO.cons_obj.mpr (.inl rfl)
  have hn : ¬ PO Pn p := fun z => (List.nodup_cons.mp (show (p :: Pn.filterMap Pin.adr).Nodup from c.u5)).1 (PO.adr.mp z)
  have c' := c.sub (List.sublist_cons_self (.obj p o) Pn)
  have sub : ∀ a, Wr C sa σ s.g Pn a → Wr C sa σ s.g (.obj p o :: Pn) a := fun a w => by
    rcases w with (w | w | w) | w
    · exact .inl (.inl w)
    · exact .inl (.inr (.inl (PO.cons_obj.mpr (.inr w))))
    · exact .inl (.inr (.inr w))
    · exact .inr w
  refine c'.pinD (r _ sub (fun w => ?_) fun a u n e => ⟨fun w => n (sub a w), e⟩)
  rcases w with (⟨i, w⟩ | w | w) | w
  · exact c.u2 i p w hp
  · exact hn w
  · exact c.u4 p hp w
  · exact c.notZ (.inr (.inl hp)) w
end
end DL
/-! DL3: slots set, taken, given back. -/
namespace DL
open PySem L2
def S.set (s : S) (i : Nat) (sv : SV) : S := ⟨s.g.set i sv, s.s⟩
section
variable {K : PySem.W.Frag} {C : Conf} {sa : Option (Addr × Addr)} {Pn : List Pin} {s : S} {σ : St} {H : Hp}
theorem own_ne {g : List SV} {i j : Nat} {x : Option V} {sv : SV} {a : Addr} (h : j ≠ i) : Own (σ.set i x) (g.set i sv) j a ↔ Own σ g j a := by
  unfold Own
  rw [List.getElem?_set_ne (Ne.symm h), List.getElem?_set_ne (Ne.symm h)]
theorem own_eq {g : List SV} {i : Nat} {x : Option V} {sv : SV} {a : Addr} (h : Own (σ.set i x) (g.set i sv) i a) : sv.own = true ∧ x = some (.ref a) := by
  obtain ⟨sv', e, o, q⟩ := h
  rw [List.getElem?_set] at e q
  simp only [if_true] at e q
  split at e
  · split at q
    · cases e; cases q; exact ⟨o, rfl⟩
    · cases q
  · cases e
theorem slot_of_getD {i : Nat} {v : V} (h : (σ[i]?).getD none = some v) : σ[i]? = some (some v) := by
  cases q : σ[i]? with
  | none => rw [q] at h; cases h
  | some x => rw [q] at h; simp at h; rw [h]
theorem getD_slot {i : Nat} {v : Option V} (h : σ[i]? = some v) : (σ[i]?).getD none = v := by rw [h]; rfl
/-- a slot set to something that isn't owned -/
theorem Cfg.setN (c : Cfg K C sa Pn s σ H) {i : Nat} {v : Option V} {sv : SV} {Pn' : List Pin} (hs : Pn'.Sublist Pn) (hn : sv.own = false)
    (hv : ∀ W, (∀ a, W a → Wr C sa σ s.g Pn a) → Kept (Wr C sa σ s.g Pn) H W H → SlotOk K W sa H v sv) : Cfg K C sa Pn' (s.set i sv) (σ.set i v) H := by
  have hm : ∀ p ∈ Pn', p ∈ Pn := fun p hp => hs.subset hp
  have own' : ∀ {j a}, Own (σ.set i v) (s.g.set i sv) j a → Own σ s.g j a := fun {j a} o => by
    by_cases h : j = i
    · subst h
      obtain ⟨z, _⟩ := own_eq o
      rw [hn] at z; cases z
    · exact (own_ne h).mp o
  refine c.step (s' := s.set i sv) (by show (σ.set i v).length = (s.g.set i sv).length; rw [List.length_set, List.length_set]; exact c.len) (fun k j sw e => ?_) (fun k p hp => (c.pin p (hm p hp)).kept k fun _ _ _ e => e)
    (fun a ⟨j, o⟩ => .inl ⟨.inl ⟨j, own' o⟩, c.u3 j a (own' o)⟩) (fun a z => .inl ⟨.inr (.inl (PO.sub hm z)), c.u4 a (PO.sub hm z)⟩) (fun _ _ _ e => e) (fun j l a o1 o2 => c.u1 j l a (own' o1) (own' o2))
    (fun j a o z => c.u2 j a (own' o) (PO.sub hm z)) (c.u5.sublist (hs.filterMap _)) c.src
  have e : (s.g.set i sv)[j]? = some sw := e
  by_cases h : j = i
  · subst h
    rw [List.getElem?_set] at e
    simp only [if_true] at e
    split at e
    · cases e
      rename_i hl
      rw [List.getElem?_set_self (by rw [c.len]; exact hl)]
      exact hv _ (fun a w => by
        rcases w with (⟨j', o⟩ | z | w) | w
        · exact .inl (.inl ⟨j', own' o⟩)
        · exact .inl (.inr (.inl (PO.sub hm z)))
        · exact .inl (.inr (.inr w))
        · exact .inr w) k
    · cases e
  · rw [List.getElem?_set_ne (Ne.symm h)] at e
    rw [List.getElem?_set_ne (Ne.symm h)]
    exact (c.slot j sw e).kept k fun _ _ _ _ q => q
theorem Cfg.setD {v : V} {d : D} (c : Cfg K C sa (.dat v d :: Pn) s σ H) (i : Nat) : Cfg K C sa Pn (s.set i (.d d)) (σ.set i (some v)) H :=
  c.setN (List.sublist_cons_self _ _) rfl fun W hw k => ⟨v, rfl, (c.dat List.mem_cons_self).kept k⟩
theorem Cf.setD {v : V} {d : D} (c : Cf K C (.dat v d :: Pn) s σ H) (i : Nat) : Cf K C Pn (s.set i (.d d)) (σ.set i (some v)) H := let ⟨sa, c⟩ := c; ⟨sa, c.setD i⟩
theorem Cfg.setU (c : Cfg K C sa Pn s σ H) (i : Nat) (v : Option V) : Cfg K C sa Pn (s.set i .un) (σ.set i v) H := c.setN (List.Sublist.refl _) rfl fun _ _ _ => trivial
/-- the head pin told otherwise -/
theorem Cfg.repin {p q : Pin} (c : Cfg K C sa (p :: Pn) s σ H) (e : q.adr = p.adr) (h : PinOk K (Wr C sa σ s.g (p :: Pn)) H q) : Cfg K C sa (q :: Pn) s σ H := by
  have po : ∀ a, PO (q :: Pn) a → PO (p :: Pn) a := fun a z => PO.cons.mpr ((PO.cons.mp z).imp (fun w => by rw [← e]; exact w) id)
  refine c.step c.len (fun k i sv e => (c.slot i sv e).kept k fun _ _ _ _ q => q) (fun k r hr => ?_) (fun a ⟨i, o⟩ => .inl ⟨.inl ⟨i, o⟩, c.u3 i a o⟩) (fun a z => .inl ⟨.inr (.inl (po a z)), c.u4 a (po a z)⟩) (fun _ _ _ e => e) c.u1 (fun i a o z => c.u2 i a o (po a z)) ?_ c.src
  · rcases List.mem_cons.mp hr with rfl | hr
    · exact h.kept k fun _ _ _ e => e
    · exact (c.pin r (List.mem_cons_of_mem _ hr)).kept k fun _ _ _ e => e
  · have u := c.u5
    rw [List.filterMap_cons] at u ⊢
    rw [e]
    exact u
/-- what is owned in the hand becomes the slot's own -/
theorem Cfg.setO {p : Addr} {sv : SV} (c : Cfg K C sa (.own p sv :: Pn) s σ H) (i : Nat) : Cfg K C sa Pn (s.set i sv) (σ.set i (some (.ref p))) H := by
  have hq : sv.own = true ∧ SlotOk K (Wr C sa σ s.g (.own p sv :: Pn)) none H (some (.ref p)) sv := c.pin _ List.mem_cons_self
  have hp : PO (.own p sv :: Pn) p := PO.cons.mpr (.inl rfl)
  have hn : ¬ PO Pn p := fun z => (List.nodup_cons.mp (show (p :: Pn.filterMap Pin.adr).Nodup from c.u5)).1 (PO.adr.mp z)
  have pm : ∀ {a}, PO Pn a → PO (.own p sv :: Pn) a := fun z => PO.cons.mpr (.inr z)
  have own' : ∀ {j a}, Own (σ.set i (some (.ref p))) (s.g.set i sv) j a → (j = i ∧ a = p) ∨ (j ≠ i ∧ Own σ s.g j a) := fun {j a} w => by
    by_cases h : j = i
    · subst h
      obtain ⟨_, z⟩ := own_eq w
      cases z
      exact .inl ⟨rfl, rfl⟩
    · exact .inr ⟨h, (own_ne h).mp w⟩
  have wr' : ∀ {j a}, Own (σ.set i (some (.ref p))) (s.g.set i sv) j a → Wr0 sa σ s.g (.own p sv :: Pn) a ∧ ¬ SA sa a := fun {j a} w => by
    rcases own' w with ⟨_, rfl⟩ | ⟨_, w⟩
    · exact ⟨.inr (.inl hp), c.u4 _ hp⟩
    · exact ⟨.inl ⟨j, w⟩, c.u3 j a w⟩
  refine c.step (s' := s.set i sv) (by show (σ.set i _).length = (s.g.set i sv).length; rw [List.length_set, List.length_set]; exact c.len) (fun k j sw e => ?_) (fun k q hq => (c.pin q (List.mem_cons_of_mem _ hq)).kept k fun _ _ _ e => e)
    (fun a ⟨j, w⟩ => .inl (wr' w)) (fun a z => .inl ⟨.inr (.inl (pm z)), c.u4 a (pm z)⟩) (fun _ _ _ e => e) (fun j l a o1 o2 => ?_) (fun j a w z => ?_) (List.nodup_cons.mp (show (p :: Pn.filterMap Pin.adr).Nodup from c.u5)).2 c.src
  · have e : (s.g.set i sv)[j]? = some sw := e
    by_cases h : j = i
    · subst h
      rw [List.getElem?_set] at e
      simp only [if_true] at e
      split at e
      · cases e
        rename_i hl
        rw [List.getElem?_set_self (by rw [c.len]; exact hl)]
        exact (hq.2.kept k fun _ _ _ _ e => e).sa_ hq.1
      · cases e
    · rw [List.getElem?_set_ne (Ne.symm h)] at e
      rw [List.getElem?_set_ne (Ne.symm h)]
      exact (c.slot j sw e).kept k fun _ _ _ _ q => q
  · rcases own' o1 with ⟨rfl, rfl⟩ | ⟨n1, w1⟩
    · rcases own' o2 with ⟨rfl, _⟩ | ⟨n2, w2⟩
      · rfl
      · exact absurd hp (c.u2 l _ w2)
    · rcases own' o2 with ⟨rfl, rfl⟩ | ⟨n2, w2⟩
      · exact absurd hp (c.u2 j _ w1)
      · exact c.u1 j l a w1 w2
  · rcases own' w with ⟨rfl, rfl⟩ | ⟨_, w⟩
    · exact hn z
    · exact c.u2 j a w (pm z)
/-- a slot's own object is taken into the hand -/
theorem Cfg.take (c : Cfg K C sa Pn s σ H) {i : Nat} {sv : SV} (hi : s.g[i]? = some sv) (ho : sv.own = true) : ∃ p, σ[i]? = some (some (.ref p)) ∧ Cfg K C sa (.own p sv :: Pn) (s.set i .un) σ H := by
  have z := c.slot i sv hi
  obtain ⟨p, hp⟩ : ∃ p, (σ[i]?).getD none = some (.ref p) := by
    cases sv with
    | ol ds => obtain ⟨b, xs, e1, _⟩ := z; exact ⟨b, e1⟩
    | oK ds => obtain ⟨b, xs, e1, _⟩ := z; exact ⟨b, e1⟩
    | oT ds => obtain ⟨b, xs, e1, _⟩ := z; exact ⟨b, e1⟩
    | lK ds => obtain ⟨b, xs, _, e1, _⟩ := z; exact ⟨b, e1⟩
    | un => cases ho
    | d _ => cases ho
    | src => cases ho
    | cells => cases ho
    | scr _ => cases ho
  rw [hp] at z
  have hp := slot_of_getD hp
  refine ⟨p, hp, ?_⟩
  have op : Own σ s.g i p := ⟨sv, hi, ho, hp⟩
  have own' : ∀ {j a}, Own σ (s.g.set i .un) j a → j ≠ i ∧ Own σ s.g j a := fun {j a} ⟨sw, e, o, q⟩ => by
    by_cases h : j = i
    · subst h
      rw [List.getElem?_set] at e
      simp only [if_true] at e
      split at e
      · cases e; cases o
      · cases e
    · rw [List.getElem?_set_ne (Ne.symm h)] at e
      exact ⟨h, sw, e, o, q⟩
  refine c.step (s' := s.set i .un) (by show σ.length = (s.g.set i .un).length; rw [List.length_set]; exact c.len) (fun k j sw e => ?_) (fun k q hq => ?_) (fun a ⟨j, w⟩ => .inl ⟨.inl ⟨j, (own' w).2⟩, c.u3 j a (own' w).2⟩) (fun a z => ?_) (fun _ _ _ e => e)
    (fun j l a o1 o2 => c.u1 j l a (own' o1).2 (own' o2).2) (fun j a w z => ?_) ?_ c.src
  · have e : (s.g.set i .un)[j]? = some sw := e
    by_cases h : j = i
    · subst h
      rw [List.getElem?_set] at e
      simp only [if_true] at e
      split at e
      · cases e; trivial
      · cases e
    · rw [List.getElem?_set_ne (Ne.symm h)] at e
      exact (c.slot j sw e).kept k fun _ _ _ _ q => q
  · rcases List.mem_cons.mp hq with rfl | hq
    · exact ⟨ho, (z.kept k fun _ _ _ _ e => e).sa_ ho⟩
    · exact (c.pin q hq).kept k fun _ _ _ e => e
  · rcases PO.cons.mp z with e | z
    · cases e; exact .inl ⟨.inl ⟨i, op⟩, c.u3 i _ op⟩
    · exact .inl ⟨.inr (.inl z), c.u4 a z⟩
  · obtain ⟨n, w⟩ := own' w
    rcases PO.cons.mp z with e | z
    · cases e; exact n (c.u1 j i _ w op)
    · exact c.u2 j a w z
  · show (p :: Pn.filterMap Pin.adr).Nodup
    exact List.nodup_cons.mpr ⟨fun z => c.u2 i p op (PO.adr.mpr z), c.u5⟩
theorem kept_sub {W W' : Addr → Prop} (h : ∀ a, W' a → W a) : Kept W H W' H := fun a o n e => ⟨fun w => n (h a w), e⟩
theorem set_same {i : Nat} {x : Option V} (h : σ[i]? = some x) : σ.set i x = σ := by
  apply List.ext_getElem?
  intro j
  by_cases e : i = j
  · subst e
    rw [List.getElem?_set_self (List.getElem?_eq_some_iff.mp h).1, h]
  · rw [List.getElem?_set_ne e]
theorem S.set_set {i : Nat} {a b : SV} : (s.set i a).set i b = s.set i b := by
  unfold S.set
  simp only [List.set_set]
/-- what a slot holds, pinned -/
theorem Cfg.slotD (c : Cfg K C sa Pn s σ H) {i : Nat} {d : D} (hi : s.g[i]? = some (.d d)) : ∃ v, σ[i]? = some (some v) ∧ Cfg K C sa (.dat v d :: Pn) s σ H := by
  obtain ⟨v, e, r⟩ := c.slot i _ hi
  exact ⟨v, slot_of_getD e, c.pinD r⟩
/-- a list in the hand is sealed: data from now on -/
theorem Cfg.sealL {p : Addr} {ds : List D} (c : Cfg K C sa (.own p (.ol ds) :: Pn) s σ H) : Cfg K C sa (.dat (.ref p) (.list ds) :: Pn) s σ H := by
  obtain ⟨_, a, xs, e, q, r⟩ : true = true ∧ SlotOk K (Wr C sa σ s.g (.own p (.ol ds) :: Pn)) none H (some (.ref p)) (.ol ds) := c.pin _ List.mem_cons_self
  cases e
  have c1 : Cfg K C sa (.obj p (.lst xs) :: Pn) s σ H := c.repin rfl q
  have we : ∀ b, Wr C sa σ s.g (.obj p (.lst xs) :: Pn) b → Wr C sa σ s.g (.own p (.ol ds) :: Pn) b := fun b w => by
    rcases w with (w | w | w) | w
    · exact .inl (.inl w)
    · exact .inl (.inr (.inl (PO.cons.mpr ((PO.cons.mp w).imp (fun (z : some p = some b) => (z : some p = some b)) id))))
    · exact .inl (.inr (.inr w))
    · exact .inr w
  exact c1.seal fun W hw hn k => .lst ⟨q, hn⟩ (RpAll.kept (kept_sub fun b w => we b (hw b w)) _ _ r)
/-- a slot's own list is sealed -/
theorem Cfg.freeze (c : Cfg K C sa Pn s σ H) {i : Nat} {ds : List D} (hi : s.g[i]? = some (.ol ds)) : ∃ a, σ[i]? = some (some (.ref a)) ∧ Cfg K C sa (.dat (.ref a) (.list ds) :: Pn) (s.set i (.d (.list ds))) σ H := by
  obtain ⟨a, e, c1⟩ := c.take hi rfl
  refine ⟨a, e, ?_⟩
  have c2 := c1.sealL
  have c3 := (c2.pinD (c2.dat List.mem_cons_self)).setD i
  rw [S.set_set, set_same e] at c3
  exact c3
end
end DL
/-! DL4: expressions: their meaning on data, and the rules. -/
namespace DL
open PySem L2
/-! ### meanings -/
def M.bind {α β : Type} (f : M α) (k : α → M β) : M β := fun s => match f s with
  | none => none
  | some (.ok a s') => k a s'
  | some (.ex e s') => some (.ex e s')
def M.ret {α : Type} (a : α) : M α := fun s => some (.ok a s)
def M.opt {α : Type} (o : Option α) : M α := fun s => match o with
  | none => none
  | some a => some (.ok a s)
def mVar (i : Nat) : M D := fun s => match s.g[i]? with
  | some (.d x) => some (.ok x s)
  | some (.ol ds) => some (.ok (.list ds) (s.set i (.d (.list ds))))
  | _ => none
def mOp1 (g : D → Option D) (fa : M D) : M D := fa.bind fun x => M.opt (g x)
def mOp2 (g : D → D → Option D) (fa fb : M D) : M D := fa.bind fun x => fb.bind fun y => M.opt (g x y)
def mNil : M (List D) := M.ret []
def mCons (fa : M D) (fs : M (List D)) : M (List D) := fa.bind fun x => fs.bind fun xs => M.ret (x :: xs)
def mArgs (g : List D → Option D) (fs : M (List D)) : M D := fs.bind fun xs => M.opt (g xs)
def asB : D → Option Bool
  | .bool b => some b
  | _ => none
def mB (f : M D) : M Bool := f.bind fun x => M.opt (asB x)
def mIf {α : Type} (t : M Bool) (fa fb : M α) : M α := t.bind fun b => if b = true then fa else fb
def mAnd (t u : M Bool) : M Bool := t.bind fun b => if b = true then u else M.ret false
def mOr (t u : M Bool) : M Bool := t.bind fun b => if b = true then M.ret true else u
def mNot (t : M Bool) : M Bool := t.bind fun b => M.ret (!b)
def mBd (t : M Bool) : M D := t.bind fun b => M.ret (.bool b)
/-! ### readings -/
section
variable (K : PySem.W.Frag) (C : Conf) (E : XK)
def WE (σ : St) (Pn : List Pin) (Q : VK) : Option (Oc D) → Prop
  | none => False
  | some (.ok d s') => ∀ v H', Cf K C (.dat v d :: Pn) s' σ H' → Q v H'
  | some (.ex e s') => ∀ c dc H', Cf K C Pn s' σ H' → C.xr e c dc H' → E c dc H'
def WT (σ : St) (Pn : List Pin) (Q : Bool → Hp → Prop) : Option (Oc Bool) → Prop
  | none => False
  | some (.ok b s') => ∀ H', Cf K C Pn s' σ H' → Q b H'
  | some (.ex e s') => ∀ c dc H', Cf K C Pn s' σ H' → C.xr e c dc H' → E c dc H'
def pinsL : List V → List D → List Pin
  | v :: vs, d :: ds => .dat v d :: pinsL vs ds
  | _, _ => []
def WA (σ : St) (Pn : List Pin) (Q : List V → Hp → Prop) : Option (Oc (List D)) → Prop
  | none => False
  | some (.ok ds s') => ∀ vs H', vs.length = ds.length → Cf K C (pinsL vs ds ++ Pn) s' σ H' → Q vs H'
  | some (.ex e s') => ∀ c dc H', Cf K C Pn s' σ H' → C.xr e c dc H' → E c dc H'
def rd (f : M D) : TE := fun σ H Q => ∃ Pn s, Cf K C Pn s σ H ∧ WE K C E σ Pn Q (f s)
def rdT (f : M Bool) : TT := fun σ H Q => ∃ Pn s, Cf K C Pn s σ H ∧ WT K C E σ Pn Q (f s)
def rdA (f : M (List D)) : TA := fun σ H Q => ∃ Pn s, Cf K C Pn s σ H ∧ WA K C E σ Pn Q (f s)
end
def DE (C : Conf) (E : XK) (X : Cx) (e : Expr) (f : M D) : Prop := PE X e (rd X.K C E f)
def DT (C : Conf) (E : XK) (X : Cx) (e : Expr) (f : M Bool) : Prop := PT X e (rdT X.K C E f)
def DW (C : Conf) (E : XK) (X : Cx) (e : Expr) (f : M Bool) : Prop := PW X e (rdT X.K C E f)
def DA (C : Conf) (E : XK) (X : Cx) (es : List Expr) (f : M (List D)) : Prop := PA X es (rdA X.K C E f)
section
variable {X : Cx} {C : Conf} {E : XK} {K : PySem.W.Frag}
theorem pe_weak {e : Expr} {t t' : TE} (h : PE X e t) (w : ∀ σ H Q, t' σ H Q → t σ H Q) : PE X e t' := ⟨fun pins s σ H Q I q => h.run pins s σ H Q I (w σ H Q q)⟩
theorem pt_weak {e : Expr} {t t' : TT} (h : PT X e t) (w : ∀ σ H Q, t' σ H Q → t σ H Q) : PT X e t' := ⟨fun pins s σ H Q I q => h.run pins s σ H Q I (w σ H Q q)⟩
theorem pw_weak {e : Expr} {t t' : TT} (h : PW X e t) (w : ∀ σ H Q, t' σ H Q → t σ H Q) : PW X e t' := ⟨fun wh pins s σ H Q I q => h.run wh pins s σ H Q I (w σ H Q q)⟩
theorem pa_weak {es : List Expr} {t t' : TA} (h : PA X es t) (w : ∀ σ H Q, t' σ H Q → t σ H Q) : PA X es t' := ⟨fun pos pins s σ H Q I q => h.run pos pins s σ H Q I (w σ H Q q)⟩
variable {σ : St} {Pn : List Pin} {s : S} {H : Hp}
/-- an expression evaluated, then more -/
theorem rd_then {f : M D} {Q : VK} (c : Cf K C Pn s σ H)
    (h : match f s with | none => False | some (.ok d s') => ∀ v H', Cf K C (.dat v d :: Pn) s' σ H' → Q v H' | some (.ex e s') => ∀ c dc H', Cf K C Pn s' σ H' → C.xr e c dc H' → E c dc H') : rd K C E f σ H Q := by
  refine ⟨Pn, s, c, ?_⟩
  cases q : f s with
  | none => rw [q] at h; exact h
  | some o =>
    rw [q] at h
    cases o with
    | ok d s' => exact h
    | ex e s' => exact h
theorem WE.bind_rd {α : Type} {f : M D} {k : D → M α} {Q : VK} (c : Cf K C Pn s σ H) {R : Option (Oc α) → Prop} (hn : ¬ R none) (hx : ∀ e s', R (some (.ex e s')) → ∀ c dc H', Cf K C Pn s' σ H' → C.xr e c dc H' → E c dc H') (h : R ((f.bind k) s))
    (hk : ∀ d s' v H', Cf K C (.dat v d :: Pn) s' σ H' → R (k d s') → Q v H') : rd K C E f σ H Q := by
  refine rd_then c ?_
  unfold M.bind at h
  cases q : f s with
  | none => rw [q] at h; exact hn h
  | some o =>
    rw [q] at h
    cases o with
    | ok d s' => exact fun v H' c' => hk d s' v H' c' h
    | ex e s' => exact hx e s' h
theorem rdT.bind_rd {α : Type} {f : M Bool} {k : Bool → M α} {Q : Bool → Hp → Prop} (c : Cf K C Pn s σ H) {R : Option (Oc α) → Prop} (hn : ¬ R none) (hx : ∀ e s', R (some (.ex e s')) → ∀ c dc H', Cf K C Pn s' σ H' → C.xr e c dc H' → E c dc H') (h : R ((f.bind k) s))
    (hk : ∀ b s' H', Cf K C Pn s' σ H' → R (k b s') → Q b H') : rdT K C E f σ H Q := by
  refine ⟨Pn, s, c, ?_⟩
  unfold M.bind at h
  cases q : f s with
  | none => rw [q] at h; exact hn h
  | some o =>
    rw [q] at h
    cases o with
    | ok d s' => exact fun H' c' => hk d s' H' c' h
    | ex e s' => exact hx e s' h
theorem rdA.bind_rd {α : Type} {f : M (List D)} {k : List D → M α} {Q : List V → Hp → Prop} (c : Cf K C Pn s σ H) {R : Option (Oc α) → Prop} (hn : ¬ R none) (hx : ∀ e s', R (some (.ex e s')) → ∀ c dc H', Cf K C Pn s' σ H' → C.xr e c dc H' → E c dc H') (h : R ((f.bind k) s))
    (hk : ∀ ds s' vs H', vs.length = ds.length → Cf K C (pinsL vs ds ++ Pn) s' σ H' → R (k ds s') → Q vs H') : rdA K C E f σ H Q := by
  refine ⟨Pn, s, c, ?_⟩
  unfold M.bind at h
  cases q : f s with
  | none => rw [q] at h; exact hn h
  | some o =>
    rw [q] at h
    cases o with
    | ok d s' => exact fun vs H' hl c' => hk d s' vs H' hl c' h
    | ex e s' => exact hx e s' h
theorem WE.opt {o : Option D} {Q : VK} (h : WE K C E σ Pn Q (M.opt o s)) : ∃ d, o = some d ∧ ∀ v H', Cf K C (.dat v d :: Pn) s σ H' → Q v H' := by
  cases o with
  | none => exact h.elim
  | some d => exact ⟨d, rfl, h⟩
theorem WT.opt {o : Option Bool} {Q : Bool → Hp → Prop} (h : WT K C E σ Pn Q (M.opt o s)) : ∃ d, o = some d ∧ ∀ H', Cf K C Pn s σ H' → Q d H' := by
  cases o with
  | none => exact h.elim
  | some d => exact ⟨d, rfl, h⟩
/-- pins more than wanted -/
theorem WE.more {A : List Pin} {Q : VK} {o : Option (Oc D)} (h : WE K C E σ Pn Q o) : WE K C E σ (A ++ Pn) Q o := by
  cases o with
  | none => exact h
  | some o =>
    cases o with
    | ok d s' => exact fun v H' c => h v H' (c.sub (List.Sublist.cons_cons _ (List.sublist_append_right A Pn)))
    | ex e s' => exact fun c dc H' c' => h c dc H' (c'.sub (List.sublist_append_right A Pn))
theorem WT.more {A : List Pin} {Q : Bool → Hp → Prop} {o : Option (Oc Bool)} (h : WT K C E σ Pn Q o) : WT K C E σ (A ++ Pn) Q o := by
  cases o with
  | none => exact h
  | some o =>
    cases o with
    | ok d s' => exact fun H' c => h H' (c.sub (List.sublist_append_right A Pn))
    | ex e s' => exact fun c dc H' c' => h c dc H' (c'.sub (List.sublist_append_right A Pn))
theorem WA.more1 {v : V} {d : D} {Q : List V → Hp → Prop} {o : Option (Oc (List D))} (h : WA K C E σ Pn Q o) : WA K C E σ (.dat v d :: Pn) Q o := by
  cases o with
  | none => exact h
  | some o =>
    cases o with
    | ok ds s' => exact fun vs H' hl c => h vs H' hl (c.sub (List.Sublist.append (List.Sublist.refl _) (List.sublist_cons_self _ _)))
    | ex e s' => exact fun c dc H' c' => h c dc H' (c'.sub (List.sublist_cons_self _ _))
theorem xWEs {A : List Pin} {Q : VK} (e : Exn) (s' : S) (h : WE K C E σ Pn Q (some (.ex e s'))) : ∀ c dc H', Cf K C (A ++ Pn) s' σ H' → C.xr e c dc H' → E c dc H' := fun c dc H' c' => h c dc H' (c'.sub (List.sublist_append_right A Pn))
theorem xWE {Q : VK} (e : Exn) (s' : S) (h : WE K C E σ Pn Q (some (.ex e s'))) : ∀ c dc H', Cf K C Pn s' σ H' → C.xr e c dc H' → E c dc H' := h
theorem xWT {Q : Bool → Hp → Prop} (e : Exn) (s' : S) (h : WT K C E σ Pn Q (some (.ex e s'))) : ∀ c dc H', Cf K C Pn s' σ H' → C.xr e c dc H' → E c dc H' := h
theorem xWA {Q : List V → Hp → Prop} (e : Exn) (s' : S) (h : WA K C E σ Pn Q (some (.ex e s'))) : ∀ c dc H', Cf K C Pn s' σ H' → C.xr e c dc H' → E c dc H' := h
/-! ### the heap's side -/
theorem Cf.res {A : List Pin} (c : Cf K C (A ++ Pn) s σ H) {v : V} {d : D} (r : ∀ W H, Rp K W H v d) : Cf K C (.dat v d :: Pn) s σ H := (c.sub (List.sublist_append_right A Pn)).scal r
theorem pinsL_mem {vs : List V} {ds : List D} {v : V} {d : D} : ∀ (i : Nat), vs[i]? = some v → ds[i]? = some d → Pin.dat v d ∈ pinsL vs ds := by
  induction vs generalizing ds with
  | nil => intro i h; simp at h
  | cons x xs ih =>
    intro i h1 h2
    cases ds with
    | nil => simp at h2
    | cons y ys =>
      cases i with
      | zero => simp at h1 h2; subst h1; subst h2; exact List.mem_cons_self
      | succ i => exact List.mem_cons_of_mem _ (ih i (by simpa using h1) (by simpa using h2))
theorem Cfg.all {sa : Option (Addr × Addr)} : ∀ {vs : List V} {ds : List D}, Cfg K C sa Pn s σ H → (∀ p ∈ pinsL vs ds, p ∈ Pn) → vs.length = ds.length → RpAll K (Wr C sa σ s.g Pn) H vs ds
  | [], [], _, _, _ => .nil
  | [], _ :: _, _, _, h => by cases h
  | _ :: _, [], _, _, h => by cases h
  | v :: vs, d :: ds, c, m, h => .cons (c.dat (m _ List.mem_cons_self)) (Cfg.all c (fun p hp => m p (List.mem_cons_of_mem _ hp)) (by simpa using h))
theorem Kept.refl {W : Addr → Prop} {H : Hp} : Kept W H W H := fun _ _ n e => ⟨n, e⟩
/-- behind a new object what was data is data -/
theorem kept_lay {sa : Option (Addr × Addr)} {Qn : List Pin} {p : Addr} {o : HO} (h : H p = none) : Kept (Wr C sa σ s.g Qn) H (Wr C sa σ s.g (.obj p o :: Qn)) (upd H p o) := fun a u n e => by
  have ne : a ≠ p := fun z => by rw [z, h] at e; cases e
  refine ⟨fun w => ?_, by rw [upd_ne ne]; exact e⟩
  rcases w with (z | z | z) | z
  · exact n (.inl (.inl z))
  · rcases PO.cons_obj.mp z with z | z
    · exact ne z
    · exact n (.inl (.inr (.inl z)))
  · exact n (.inl (.inr (.inr z)))
  · exact n (.inr z)
/-- a new list, tuple of data that is there -/
theorem Cfg.newL {sa : Option (Addr × Addr)} {A : List Pin} {vs : List V} {ds : List D} (c : Cfg K C sa (A ++ Pn) s σ H) (r : RpAll K (Wr C sa σ s.g (A ++ Pn)) H vs ds) {p : Addr} (h : H p = none) :
    Cfg K C sa (.dat (.ref p) (.list ds) :: Pn) s σ (upd H p (.lst vs)) :=
  ((c.lay h (.lst vs)).seal fun W hw hn k => .lst ⟨upd_same, hn⟩ (RpAll.kept (fun a o n e => ⟨fun w => (kept_lay (C := C) (s := s) (o := .lst vs) h a o n e).1 (hw a w), (kept_lay (C := C) (s := s) (σ := σ) (sa := sa) (Qn := A ++ Pn) h a o n e).2⟩) _ _ r)).sub (List.Sublist.cons_cons _ (List.sublist_append_right A Pn))
theorem Cfg.newT {sa : Option (Addr × Addr)} {A : List Pin} {vs : List V} {ds : List D} (c : Cfg K C sa (A ++ Pn) s σ H) (r : RpAll K (Wr C sa σ s.g (A ++ Pn)) H vs ds) {p : Addr} {ob : Obj} (ho : ob.dict = none) (h : H p = none) :
    Cfg K C sa (.dat (.ref p) (.tuple ds) :: Pn) s σ (upd H p (.frz ob (.tup vs))) :=
  ((c.lay h (.frz ob (.tup vs))).seal fun W hw hn k => .tup (.inl ⟨.inr ⟨ob, upd_same⟩, hn⟩) (fun _ => .inl ⟨ob, vs, ho, upd_same, hn⟩) (RpAll.kept (fun a o n e => ⟨fun w => (kept_lay (C := C) (s := s) (o := .frz ob (.tup vs)) h a o n e).1 (hw a w), (kept_lay (C := C) (s := s) (σ := σ) (sa := sa) (Qn := A ++ Pn) h a o n e).2⟩) _ _ r)).sub (List.Sublist.cons_cons _ (List.sublist_append_right A Pn))
theorem Cf.newL {A : List Pin} {vs : List V} {ds : List D} (c : Cf K C (A ++ Pn) s σ H) (r : ∀ sa, Cfg K C sa (A ++ Pn) s σ H → RpAll K (Wr C sa σ s.g (A ++ Pn)) H vs ds) {p : Addr} (h : H p = none) :
    Cf K C (.dat (.ref p) (.list ds) :: Pn) s σ (upd H p (.lst vs)) := let ⟨sa, c⟩ := c; ⟨sa, c.newL (r sa c) h⟩
theorem Cf.newT {A : List Pin} {vs : List V} {ds : List D} (c : Cf K C (A ++ Pn) s σ H) (r : ∀ sa, Cfg K C sa (A ++ Pn) s σ H → RpAll K (Wr C sa σ s.g (A ++ Pn)) H vs ds) {p : Addr} {ob : Obj} (ho : ob.dict = none) (h : H p = none) :
    Cf K C (.dat (.ref p) (.tuple ds) :: Pn) s σ (upd H p (.frz ob (.tup vs))) := let ⟨sa, c⟩ := c; ⟨sa, c.newT (r sa c) ho h⟩
/-- something among what is pinned -/
theorem Cf.pick {A : List Pin} (c : Cf K C (A ++ Pn) s σ H) {v : V} {d : D} (r : ∀ sa, Cfg K C sa (A ++ Pn) s σ H → Rp K (Wr C sa σ s.g (A ++ Pn)) H v d) : Cf K C (.dat v d :: Pn) s σ H := by
  obtain ⟨sa, c⟩ := c
  exact ⟨sa, (c.pinD (r sa c)).sub (List.Sublist.cons_cons _ (List.sublist_append_right A Pn))⟩
/-! ### names, constants -/
theorem de_var (i : Nat) {x : Str} {pos : Pos} (hN : X.N[i]? = some x := by rfl) (hv : Vis X.env.scope x := by first | exact Or.inl rfl | exact Or.inr (Or.inl rfl) | exact Or.inr (Or.inr rfl)) (hd : (x == ("__debug__" : Str)) = false := by decide)
    (hcd : (x == ("__classdict__" : Str)) = false := by decide) : DE C E X (.Name x pos) (mVar i) := by
  refine pe_weak (pe_var hN hv hd hcd) fun σ H Q ⟨Pn, s, ⟨sa, c⟩, h⟩ => ?_
  unfold mVar at h
  cases q : s.g[i]? with
  | none => rw [q] at h; exact h.elim
  | some sv =>
    rw [q] at h
    cases sv with
    | d x =>
      obtain ⟨v, e, c'⟩ := c.slotD q
      exact ⟨v, e, h v H ⟨sa, c'⟩⟩
    | ol ds =>
      obtain ⟨a, e, c'⟩ := c.freeze q
      exact ⟨_, e, h _ H ⟨sa, c'⟩⟩
    | un => exact h.elim
    | oK _ => exact h.elim
    | oT _ => exact h.elim
    | lK _ => exact h.elim
    | src => exact h.elim
    | cells => exact h.elim
    | scr _ => exact h.elim
theorem de_c {e : Expr} {v : V} {d : D} (h : PE X e (tC v)) (r : ∀ W H, Rp X.K W H v d) : DE C E X e (M.ret d) :=
  pe_weak h fun σ H Q ⟨Pn, s, c, h⟩ => h v H (c.scal r)
theorem de_int {i j pos} : DE C E X (.Constant (.int i) j pos) (M.ret (.int i)) := de_c pe_int fun _ _ => .int i
theorem de_bl {b j pos} : DE C E X (.Constant (.bool b) j pos) (M.ret (.bool b)) := de_c pe_bl fun _ _ => .bl b
theorem de_non {j pos} : DE C E X (.Constant .none j pos) (M.ret .none) := de_c pe_non fun _ _ => .non
theorem de_str {x j pos} : DE C E X (.Constant (.str x) j pos) (M.ret (.str x)) := de_c pe_str fun _ _ => .str x
/-! ### operators -/
def Op1R (K : PySem.W.Frag) (r : V → Hp → VK → Prop) (g : D → Option D) : Prop := ∀ (C : Conf) (Pn : List Pin) (s : S) (σ : St) (H : Hp) (x : V) (dx dz : D) (Q : VK),
  Cf K C ([.dat x dx] ++ Pn) s σ H → g dx = some dz → (∀ v H', Cf K C (.dat v dz :: Pn) s σ H' → Q v H') → r x H Q
def Op2R (K : PySem.W.Frag) (r : R2) (g : D → D → Option D) : Prop := ∀ (C : Conf) (Pn : List Pin) (s : S) (σ : St) (H : Hp) (x y : V) (dx dy dz : D) (Q : VK),
  Cf K C ([.dat y dy, .dat x dx] ++ Pn) s σ H → g dx dy = some dz → (∀ v H', Cf K C (.dat v dz :: Pn) s σ H' → Q v H') → r x y H Q
def OpNR (K : PySem.W.Frag) (r : List V → Hp → VK → Prop) (g : List D → Option D) : Prop := ∀ (C : Conf) (Pn : List Pin) (s : S) (σ : St) (H : Hp) (vs : List V) (ds : List D) (dz : D) (Q : VK),
  Cf K C (pinsL vs ds ++ Pn) s σ H → vs.length = ds.length → g ds = some dz → (∀ v H', Cf K C (.dat v dz :: Pn) s σ H' → Q v H') → r vs H Q
theorem rd_op2 {r : R2} {g : D → D → Option D} {fa fb : M D} (hg : Op2R K r g) : ∀ σ H Q, rd K C E (mOp2 g fa fb) σ H Q → tOp r (rd K C E fa) (rd K C E fb) σ H Q := by
  rintro σ H Q ⟨Pn, s, c, h⟩
  refine WE.bind_rd c (R := WE K C E σ Pn Q) (fun z => z) xWE h fun dx s1 x H1 c1 h1 => ?_
  refine WE.bind_rd c1 (R := WE K C E σ Pn Q) (fun z => z) (xWEs (A := [.dat x dx])) h1 fun dy s2 y H2 c2 h2 => ?_
  obtain ⟨dz, e, q⟩ := h2.opt
  exact hg C Pn s2 σ H2 x y dx dy dz Q c2 e q
theorem rd_op1 {r : V → Hp → VK → Prop} {g : D → Option D} {fa : M D} (hg : Op1R K r g) : ∀ σ H Q, rd K C E (mOp1 g fa) σ H Q → tUn r (rd K C E fa) σ H Q := by
  rintro σ H Q ⟨Pn, s, c, h⟩
  refine WE.bind_rd c (R := WE K C E σ Pn Q) (fun z => z) xWE h fun dx s1 x H1 c1 h1 => ?_
  obtain ⟨dz, e, q⟩ := h1.opt
  exact hg C Pn s1 σ H1 x dx dz Q c1 e q
theorem rd_args {r : List V → Hp → VK → Prop} {g : List D → Option D} {fs : M (List D)} (hg : OpNR K r g) : ∀ σ H Q, rd K C E (mArgs g fs) σ H Q → tCB r (rdA K C E fs) σ H Q := by
  rintro σ H Q ⟨Pn, s, c, h⟩
  refine rdA.bind_rd c (R := WE K C E σ Pn Q) (fun z => z) xWE h fun ds s1 vs H1 hl c1 h1 => ?_
  obtain ⟨dz, e, q⟩ := h1.opt
  exact hg C Pn s1 σ H1 vs ds dz Q c1 hl e q
theorem de_op {op : Operator} {r : R2} {g : D → D → Option D} {a b : Expr} {fa fb : M D} {pos : Pos} (ho : OpR X (binaryOp op) r) (hg : Op2R X.K r g) (ha : DE C E X a fa) (hb : DE C E X b fb) : DE C E X (.BinOp a op b pos) (mOp2 g fa fb) :=
  pe_weak (pe_op ho ha hb) (rd_op2 hg)
theorem de_un {op : UnaryOp} {r : V → Hp → VK → Prop} {g : D → Option D} {a : Expr} {fa : M D} {pos : Pos} (ho : UnR X (unaryOp op) r) (hg : Op1R X.K r g) (ha : DE C E X a fa) : DE C E X (.UnaryOp op a pos) (mOp1 g fa) :=
  pe_weak (pe_un ho ha) (rd_op1 hg)
theorem de_cmp {op : CmpOp} {r : R2} {g : D → D → Option D} {a b : Expr} {fa fb : M D} {pos : Pos} (ho : OpR X (compareOp op) r) (hg : Op2R X.K r g) (ha : DE C E X a fa) (hb : DE C E X b fb) (hm : behindInMarks op b = false) : DE C E X (.Compare a [op] [b] pos) (mOp2 g fa fb) :=
  pe_weak (pe_cmpR ho ha hb hm) (rd_op2 hg)
theorem rd_test {f : M D} : ∀ σ H Q, rdT K C E (mB f) σ H Q → rd K C E f σ H fun x H' => ∃ k, x = .bl k ∧ Q k H' := by
  rintro σ H Q ⟨Pn, s, c, h⟩
  refine WE.bind_rd c (R := WT K C E σ Pn Q) (fun z => z) xWT h fun d s1 v H1 c1 h1 => ?_
  obtain ⟨b, e, q⟩ := h1.opt
  cases d with
  | bool b' =>
    cases e
    obtain ⟨sa, c1⟩ := c1
    have r := c1.dat List.mem_cons_self
    cases r
    exact ⟨_, rfl, q H1 ⟨sa, c1.sub (List.sublist_cons_self _ _)⟩⟩
  | _ => cases e
theorem dt_cmp {op : CmpOp} {r : R2} {g : D → D → Option D} {a b : Expr} {fa fb : M D} {pos : Pos} (ho : OpR X (compareOp op) r) (hg : Op2R X.K r g) (ha : DE C E X a fa) (hb : DE C E X b fb) (hm : behindInMarks op b = false) : DT C E X (.Compare a [op] [b] pos) (mB (mOp2 g fa fb)) :=
  pt_weak (pt_cmpR ho ha hb hm) fun σ H Q h => rd_op2 hg σ H _ (rd_test σ H Q h)
/-- an expression (no comparison, no and, or, not) that is a bool -/
theorem dt_val {e : Expr} {f : M D} (h : DE C E X e f) (he : ∀ whole, isTrue e X.env whole = (do let v ← whole; standAt e.pos; holding [v] (truthy v)) := by intro _; rfl) : DT C E X e (mB f) :=
  pt_weak (pt_val h he) rd_test
theorem rdT_bind {α : Type} {t : M Bool} {k : Bool → M α} {Q : Bool → Hp → Prop} {R : Option (Oc α) → Prop} (c : Cf K C Pn s σ H) (hn : ¬ R none) (hx : ∀ e s', R (some (.ex e s')) → ∀ c dc H', Cf K C Pn s' σ H' → C.xr e c dc H' → E c dc H')
    (h : R ((t.bind k) s)) (hk : ∀ b s' H', Cf K C Pn s' σ H' → R (k b s') → Q b H') : rdT K C E t σ H Q := rdT.bind_rd c hn hx h hk
theorem dw_and1 {a : Expr} {t : M Bool} {pos : Pos} (ha : DT C E X a t) : DW C E X (.BoolOp .And [a] pos) t := pw_and1 ha
theorem dw_or1 {a : Expr} {t : M Bool} {pos : Pos} (ha : DT C E X a t) : DW C E X (.BoolOp .Or [a] pos) t := pw_or1 ha
theorem dw_and {a b : Expr} {rest : List Expr} {t u : M Bool} {pos : Pos} (ha : DT C E X a t) (hb : DW C E X (.BoolOp .And (b :: rest) pos) u) : DW C E X (.BoolOp .And (a :: b :: rest) pos) (mAnd t u) := by
  refine pw_weak (pw_and ha hb) fun σ H Q ⟨Pn, s, c, h⟩ => ?_
  refine rdT.bind_rd c (R := WT X.K C E σ Pn Q) (fun z => z) xWT h fun b s1 H1 c1 h1 => ?_
  cases b with
  | true => rw [if_pos rfl] at h1 ⊢; exact ⟨Pn, s1, c1, h1⟩
  | false => rw [if_neg Bool.false_ne_true] at h1 ⊢; exact h1 H1 c1
theorem dw_or {a b : Expr} {rest : List Expr} {t u : M Bool} {pos : Pos} (ha : DT C E X a t) (hb : DW C E X (.BoolOp .Or (b :: rest) pos) u) : DW C E X (.BoolOp .Or (a :: b :: rest) pos) (mOr t u) := by
  refine pw_weak (pw_or ha hb) fun σ H Q ⟨Pn, s, c, h⟩ => ?_
  refine rdT.bind_rd c (R := WT X.K C E σ Pn Q) (fun z => z) xWT h fun b s1 H1 c1 h1 => ?_
  cases b with
  | true => rw [if_pos rfl] at h1 ⊢; exact h1 H1 c1
  | false => rw [if_neg Bool.false_ne_true] at h1 ⊢; exact ⟨Pn, s1, c1, h1⟩
theorem dt_w {e : Expr} {t : M Bool} (h : DW C E X e t) : DT C E X e t := PW.pt h
theorem dt_not {a : Expr} {t : M Bool} {pos : Pos} (ha : DT C E X a t) : DT C E X (.UnaryOp .Not a pos) (mNot t) := by
  refine pt_weak (pt_not ha) fun σ H Q ⟨Pn, s, c, h⟩ => ?_
  exact rdT.bind_rd c (R := WT X.K C E σ Pn Q) (fun z => z) xWT h fun b s1 H1 c1 h1 => h1 H1 c1
theorem rd_if {t : M Bool} {fa fb : M D} : ∀ σ H Q, rd K C E (mIf t fa fb) σ H Q → tIf (rdT K C E t) (rd K C E fa) (rd K C E fb) σ H Q := by
  rintro σ H Q ⟨Pn, s, c, h⟩
  refine rdT.bind_rd c (R := WE K C E σ Pn Q) (fun z => z) xWE h fun b s1 H1 c1 h1 => ?_
  cases b with
  | true => rw [if_pos rfl] at h1 ⊢; exact ⟨Pn, s1, c1, h1⟩
  | false => rw [if_neg Bool.false_ne_true] at h1 ⊢; exact ⟨Pn, s1, c1, h1⟩
theorem de_ifExp {c a b : Expr} {t : M Bool} {fa fb : M D} {pos : Pos} (hc : DT C E X c t) (ha : DE C E X a fa) (hb : DE C E X b fb) : DE C E X (.IfExp c a b pos) (mIf t fa fb) := pe_weak (pe_ifExp hc ha hb) rd_if
end
end DL
/-! DL5: operators on data. -/
namespace DL
open PySem L2
section
variable {K : PySem.W.Frag} {C : Conf} {Pn : List Pin} {s : S} {σ : St} {H : Hp} {x y : V}
theorem Cf.two {dx dy : D} (c : Cf K C ([.dat y dy, .dat x dx] ++ Pn) s σ H) : ∃ W, Rp K W H x dx ∧ Rp K W H y dy := by
  obtain ⟨sa, c⟩ := c
  exact ⟨_, c.dat (List.mem_cons_of_mem _ List.mem_cons_self), c.dat List.mem_cons_self⟩
theorem Cf.one {dx : D} {A : List Pin} (c : Cf K C (.dat x dx :: A) s σ H) : ∃ W, Rp K W H x dx := by
  obtain ⟨sa, c⟩ := c
  exact ⟨_, c.dat List.mem_cons_self⟩
theorem Rp.inti {W : Addr → Prop} {i : Int} (r : Rp K W H x (.int i)) : x = .int i := by cases r; rfl
theorem Rp.bli {W : Addr → Prop} {i : Bool} (r : Rp K W H x (.bool i)) : x = .bl i := by cases r; rfl
theorem Rp.stri {W : Addr → Prop} {i : Str} (r : Rp K W H x (.str i)) : x = .str i := by cases r; rfl
theorem Rp.noni {W : Addr → Prop} (r : Rp K W H x .none) : x = .non := by cases r; rfl
theorem Rp.lsti {W : Addr → Prop} {ds : List D} (r : Rp K W H x (.list ds)) : ∃ a xs, x = .ref a ∧ SqLw K W H a xs ∧ RpAll K W H xs ds := by cases r; exact ⟨_, _, rfl, by assumption, by assumption⟩
theorem Rp.tupi {W : Addr → Prop} {ds : List D} (r : Rp K W H x (.tuple ds)) : ∃ a xs, x = .ref a ∧ SqTw K W H a xs ∧ RpAll K W H xs ds := by cases r; exact ⟨_, _, rfl, by assumption, by assumption⟩
theorem DNw.h {W : Addr → Prop} {a : Addr} (h : DNw K W H a) : DNh K H a := h.imp (fun ⟨o, xs, d, e, _⟩ => ⟨o, xs, d, e⟩) id
theorem Rp.tupn {W : Addr → Prop} {a : Addr} {ds : List D} (r : Rp K W H (.ref a) (.tuple ds)) (h : rowy ds = true) : DNh K H a := by
  cases r with
  | tup _ h0 _ => exact (h0 h).h
end
theorem Op2R.or {K : PySem.W.Frag} {r r' : R2} {g g' : D → D → Option D} (h : Op2R K r g) (h' : Op2R K r' g') : Op2R K (fun x y H Q => r x y H Q ∨ r' x y H Q) (fun x y => (g x y).orElse fun _ => g' x y) := by
  intro C Pn s σ H x y dx dy dz Q c e q
  dsimp only at e
  cases z : g dx dy with
  | none => rw [z] at e; exact .inr (h' C Pn s σ H x y dx dy dz Q c e q)
  | some d => rw [z] at e; exact .inl (h C Pn s σ H x y dx dy dz Q c (z.trans e) q)
theorem OpNR.or {K : PySem.W.Frag} {r r' : List V → Hp → VK → Prop} {g g' : List D → Option D} (h : OpNR K r g) (h' : OpNR K r' g') : OpNR K (fun x H Q => r x H Q ∨ r' x H Q) (fun x => (g x).orElse fun _ => g' x) := by
  intro C Pn s σ H vs ds dz Q c l e q
  dsimp only at e
  cases z : g ds with
  | none => rw [z] at e; exact .inr (h' C Pn s σ H vs ds dz Q c l e q)
  | some d => rw [z] at e; exact .inl (h C Pn s σ H vs ds dz Q c l (z.trans e) q)
/-! ### ints -/
def gI (f : Int → Int → D) : D → D → Option D
  | .int i, .int j => some (f i j)
  | _, _ => none
def gIc (ok : Int → Int → Bool) (f : Int → Int → D) : D → D → Option D
  | .int i, .int j => if ok i j = true then some (f i j) else none
  | _, _ => none
theorem gI_is {f : Int → Int → D} {a b d : D} (h : gI f a b = some d) : ∃ i j, a = .int i ∧ b = .int j ∧ d = f i j := by
  unfold gI at h
  split at h
  · exact ⟨_, _, rfl, rfl, (Option.some.inj h).symm⟩
  · cases h
theorem gIc_is {ok : Int → Int → Bool} {f : Int → Int → D} {a b d : D} (h : gIc ok f a b = some d) : ∃ i j, a = .int i ∧ b = .int j ∧ ok i j = true ∧ d = f i j := by
  unfold gIc at h
  split at h
  · split at h
    · exact ⟨_, _, rfl, rfl, by assumption, (Option.some.inj h).symm⟩
    · cases h
  · cases h
section
variable {K : PySem.W.Frag}
theorem r_int {f : Int → Int → V} {g : Int → Int → D} (h : ∀ i j W H, Rp K W H (f i j) (g i j)) : Op2R K (rI0 f) (gI g) := by
  intro C Pn s σ H x y dx dy dz Q c e q
  obtain ⟨i, j, rfl, rfl, rfl⟩ := gI_is e
  obtain ⟨W, r1, r2⟩ := c.two
  exact ⟨i, j, r1.inti, r2.inti, q _ _ (c.res (h i j))⟩
theorem r_intc {ok : Int → Int → Bool} {P : Int → Int → Prop} {f : Int → Int → V} {g : Int → Int → D} (hp : ∀ i j, ok i j = true → P i j) (h : ∀ i j W H, Rp K W H (f i j) (g i j)) : Op2R K (rI P f) (gIc ok g) := by
  intro C Pn s σ H x y dx dy dz Q c e q
  obtain ⟨i, j, rfl, rfl, o, rfl⟩ := gIc_is e
  obtain ⟨W, r1, r2⟩ := c.two
  exact ⟨i, j, r1.inti, r2.inti, hp i j o, q _ _ (c.res (h i j))⟩
def mulOk (i j : Int) : Bool := decide ((-(2 ^ 64) < i ∧ i < 2 ^ 64) ∨ (-(2 ^ 64) < j ∧ j < 2 ^ 64) ∨ i.natAbs.log2 + j.natAbs.log2 < 1000000)
def divOk (_ j : Int) : Bool := decide (0 < j ∧ j.natAbs.log2 < 9000)
def modOk (_ j : Int) : Bool := decide (0 < j)
def powOk (i j : Int) : Bool := decide (0 ≤ j ∧ j ≤ 1000000 ∧ i.natAbs < 2 ^ 64)
def gSub := gI fun i j => .int (i - j)
def gMulI := gIc mulOk fun i j => .int (i * j)
def gDiv := gIc divOk fun i j => .int (i / j)
def gMod := gIc modOk fun i j => .int (i % j)
def gPow := gIc powOk fun i j => .int (i ^ j.toNat)
def gLt := gI fun i j => .bool (decide (i < j))
def gLe := gI fun i j => .bool (decide (i ≤ j))
def gGt := gI fun i j => .bool (decide (j < i))
def gGe := gI fun i j => .bool (decide (j ≤ i))
theorem r_sub : Op2R K (rI0 fun i j => .int (i - j)) gSub := r_int fun _ _ _ _ => .int _
theorem r_div : Op2R K (rI CDivW fun i j => .int (i / j)) gDiv := r_intc (fun i j h => (of_decide_eq_true h : 0 < j ∧ j.natAbs.log2 < 9000)) fun _ _ _ _ => .int _
theorem r_mod : Op2R K (rI (fun _ j => 0 < j) fun i j => .int (i % j)) gMod := r_intc (fun i j h => of_decide_eq_true h) fun _ _ _ _ => .int _
theorem r_pow : Op2R K (rI CPow fun i j => .int (i ^ j.toNat)) gPow := r_intc (fun i j h => (of_decide_eq_true h : 0 ≤ j ∧ j ≤ 1000000 ∧ i.natAbs < 2 ^ 64)) fun _ _ _ _ => .int _
theorem r_lt : Op2R K (rI0 fun i j => .bl (decide (i < j))) gLt := r_int fun _ _ _ _ => .bl _
theorem r_le : Op2R K (rI0 fun i j => .bl (decide (i ≤ j))) gLe := r_int fun _ _ _ _ => .bl _
theorem r_gt : Op2R K (rI0 fun i j => .bl (decide (j < i))) gGt := r_int fun _ _ _ _ => .bl _
theorem r_ge : Op2R K (rI0 fun i j => .bl (decide (j ≤ i))) gGe := r_int fun _ _ _ _ => .bl _
abbrev rMulI : R2 := fun x y H Q => rI CMul (fun i j => .int (i * j)) x y H Q ∨ rI CMulW (fun i j => .int (i * j)) x y H Q
theorem r_mulI : Op2R K rMulI gMulI := by
  intro C Pn s σ H x y dx dy dz Q c e q
  obtain ⟨i, j, rfl, rfl, o, rfl⟩ := gIc_is e
  obtain ⟨W, r1, r2⟩ := c.two
  have o' : (-(2 ^ 64) < i ∧ i < 2 ^ 64) ∨ (-(2 ^ 64) < j ∧ j < 2 ^ 64) ∨ i.natAbs.log2 + j.natAbs.log2 < 1000000 := of_decide_eq_true o
  rcases o' with o | o | o
  · exact .inl ⟨i, j, r1.inti, r2.inti, .inl o, q _ _ (c.res fun _ _ => .int _)⟩
  · exact .inl ⟨i, j, r1.inti, r2.inti, .inr o, q _ _ (c.res fun _ _ => .int _)⟩
  · exact .inr ⟨i, j, r1.inti, r2.inti, o, q _ _ (c.res fun _ _ => .int _)⟩
/-! ### + of texts, lists, tuples; * of lists -/
def gCatS : D → D → Option D
  | .str x, .str y => if x.length + y.length ≤ sizeLine then some (.str (x ++ y)) else none
  | _, _ => none
def gCatL : D → D → Option D
  | .list x, .list y => if x.length + y.length ≤ sizeLine then some (.list (x ++ y)) else none
  | _, _ => none
def gCatT : D → D → Option D
  | .tuple x, .tuple y => if x.length + y.length ≤ sizeLine then some (.tuple (x ++ y)) else none
  | _, _ => none
theorem r_catS : Op2R K (fun x y H Q => ∃ i j, x = .str i ∧ y = .str j ∧ i.length + j.length ≤ sizeLine ∧ Q (.str (i ++ j)) H) gCatS := by
  intro C Pn s σ H x y dx dy dz Q c e q
  unfold gCatS at e
  split at e
  · split at e
    · rename_i hl
      cases e
      obtain ⟨W, r1, r2⟩ := c.two
      exact ⟨_, _, r1.stri, r2.stri, hl, q _ _ (c.res fun _ _ => .str _)⟩
    · cases e
  · cases e
theorem r_catL : Op2R K rCat gCatL := by
  intro C Pn s σ H x y dx dy dz Q c e q
  unfold gCatL at e
  split at e
  · split at e
    · rename_i d1 d2 hl
      cases e
      obtain ⟨W, r1, r2⟩ := c.two
      obtain ⟨a, xs, rfl, h1, p1⟩ := r1.lsti
      obtain ⟨b, ys, rfl, h2, p2⟩ := r2.lsti
      refine ⟨a, b, xs, ys, rfl, rfl, h1.1, h2.1, by rw [p1.length, p2.length]; exact hl, fun p hp => q _ _ (c.newL (fun sa c' => ?_) hp)⟩
      have q1 := c'.dat (v := .ref a) (d := .list d1) (List.mem_cons_of_mem _ List.mem_cons_self)
      have q2 := c'.dat (v := .ref b) (d := .list d2) List.mem_cons_self
      obtain ⟨_, _, e1, z1, w1⟩ := q1.lsti
      obtain ⟨_, _, e2, z2, w2⟩ := q2.lsti
      cases e1; cases e2
      have y1 := z1.1.symm.trans h1.1
      have y2 := z2.1.symm.trans h2.1
      cases y1; cases y2
      exact w1.append w2
    · cases e
  · cases e
theorem r_catT : Op2R K (rCatN K) gCatT := by
  intro C Pn s σ H x y dx dy dz Q c e q
  unfold gCatT at e
  split at e
  · split at e
    · rename_i d1 d2 hl
      cases e
      obtain ⟨sa, c⟩ := c
      have r2 := c.dat (v := y) (d := .tuple d2) List.mem_cons_self
      have r1 := c.dat (v := x) (d := .tuple d1) (List.mem_cons_of_mem _ List.mem_cons_self)
      obtain ⟨a, xs, rfl, h1, p1⟩ := r1.tupi
      obtain ⟨b, ys, rfl, h2, p2⟩ := r2.tupi
      refine ⟨a, b, xs, ys, rfl, rfl, h1.sq, h2.sq, by rw [p1.length, p2.length]; exact hl, fun z => ?_, fun _ z => ?_, fun _ _ p ob hd hp => q _ _ ⟨sa, Cfg.newT (A := [.dat (.ref b) (.tuple d2), .dat (.ref a) (.tuple d1)]) c (p1.append p2) hd hp⟩⟩
      · subst z
        cases p1
        refine q _ H ⟨sa, ?_⟩
        rw [List.nil_append]
        exact c.sub (List.Sublist.cons_cons _ (List.sublist_cons_self _ _))
      · subst z
        cases p2
        refine q _ H ⟨sa, ?_⟩
        rw [List.append_nil]
        exact c.sub (List.sublist_cons_self _ _)
    · cases e
  · cases e
theorem SqTw.inj {W W' : Addr → Prop} {H : Hp} {a : Addr} {xs ys : List V} (h : SqTw K W H a xs) (h' : SqTw K W' H a ys) (i : ∀ {xs ys : List V}, SqT K H a xs → SqT K H a ys → xs = ys) : xs = ys := i h.sq h'.sq
def gRepL : D → D → Option D
  | .list x, .int k => if -(2 ^ 63) ≤ k ∧ k < 2 ^ 63 ∧ x.length * k.toNat ≤ sizeLine then some (.list (List.replicate k.toNat x).flatten) else none
  | _, _ => none
theorem RpAll.rep {W : Addr → Prop} {H : Hp} {vs : List V} {ds : List D} (h : RpAll K W H vs ds) : ∀ n : Nat, RpAll K W H (List.replicate n vs).flatten (List.replicate n ds).flatten
  | 0 => .nil
  | n + 1 => by
    rw [List.replicate_succ, List.replicate_succ, List.flatten_cons, List.flatten_cons]
    exact h.append (RpAll.rep h n)
theorem r_repL : Op2R K rRep gRepL := by
  intro C Pn s σ H x y dx dy dz Q c e q
  unfold gRepL at e
  split at e
  · split at e
    · rename_i d1 k hl
      cases e
      obtain ⟨W, r1, r2⟩ := c.two
      obtain ⟨a, xs, rfl, h1, p1⟩ := r1.lsti
      refine ⟨a, k, xs, rfl, r2.inti, h1.1, hl.1, hl.2.1, by rw [p1.length]; exact hl.2.2, fun p hp => q _ _ (c.newL (fun sa c' => ?_) hp)⟩
      obtain ⟨_, _, e1, z1, w1⟩ := (c'.dat (v := .ref a) (d := .list d1) (List.mem_cons_of_mem _ List.mem_cons_self)).lsti
      cases e1
      have y1 := z1.1.symm.trans h1.1
      cases y1
      exact w1.rep _
    · cases e
  · cases e
/-! ### == and != -/
def gEqD (x y : D) : Option D := if (SeqAt.shaped x && SeqAt.shaped y && noDict x && noDict y) = true then some (.bool (PyData.eqv x y)) else none
def gNeD (x y : D) : Option D := if (SeqAt.shaped x && SeqAt.shaped y && noDict x && noDict y) = true then some (.bool (!PyData.eqv x y)) else none
def gEq : D → D → Option D
  | .str a, .str b => some (.bool (decide (a = b)))
  | x, y => gEqD x y
def gNe : D → D → Option D
  | .str a, .str b => some (.bool (!decide (a = b)))
  | x, y => gNeD x y
abbrev rEqX (K : PySem.W.Frag) : R2 := fun x y H Q => rEqD K x y H Q ∨ rEq x y H Q
abbrev rNeX (K : PySem.W.Frag) : R2 := fun x y H Q => rNeD K x y H Q ∨ rNe x y H Q
theorem dec_str {a b : Str} : decide (V.str a = V.str b) = decide (a = b) := by
  by_cases h : a = b
  · subst h; simp
  · have : ¬ V.str a = V.str b := fun e => h (by cases e; rfl)
    simp [h, this]
theorem r_eq : Op2R K (rEqX K) gEq := by
  intro C Pn s σ H x y dx dy dz Q c e q
  unfold gEq at e
  split at e
  · rename_i a b
    cases e
    obtain ⟨W, r1, r2⟩ := c.two
    refine .inr ?_
    rw [r1.stri, r2.stri]
    refine ⟨rfl, ?_⟩
    rw [dec_str]
    exact q _ _ (c.res fun _ _ => .bl _)
  · unfold gEqD at e
    split at e
    · rename_i h
      cases e
      simp only [Bool.and_eq_true] at h
      obtain ⟨W, r1, r2⟩ := c.two
      exact .inl ⟨dx, dy, r1.dp _ _ h.1.2, r2.dp _ _ h.2, h.1.1.1, h.1.1.2, q _ _ (c.res fun _ _ => .bl _)⟩
    · cases e
theorem r_ne : Op2R K (rNeX K) gNe := by
  intro C Pn s σ H x y dx dy dz Q c e q
  unfold gNe at e
  split at e
  · rename_i a b
    cases e
    obtain ⟨W, r1, r2⟩ := c.two
    refine .inr ?_
    rw [r1.stri, r2.stri]
    refine ⟨rfl, ?_⟩
    rw [dec_str]
    exact q _ _ (c.res fun _ _ => .bl _)
  · unfold gNeD at e
    split at e
    · rename_i h
      cases e
      simp only [Bool.and_eq_true] at h
      obtain ⟨W, r1, r2⟩ := c.two
      exact .inl ⟨dx, dy, r1.dp _ _ h.1.2, r2.dp _ _ h.2, h.1.1.1, h.1.1.2, q _ _ (c.res fun _ _ => .bl _)⟩
    · cases e
def gIn : D → D → Option D
  | x, .list ys => if (SeqAt.shaped x && SeqAt.shaped (.list ys) && noDict x && noDict (.list ys)) = true then some (.bool (ys.any fun z => PyData.eqv z x)) else none
  | _, _ => none
theorem r_in : Op2R K (rInD K) gIn := by
  intro C Pn s σ H x y dx dy dz Q c e q
  unfold gIn at e
  split at e
  · split at e
    · rename_i ys h
      cases e
      simp only [Bool.and_eq_true] at h
      obtain ⟨W, r1, r2⟩ := c.two
      exact ⟨dx, ys, r1.dp _ _ h.1.2, r2.dp _ _ h.2, h.1.1.1, h.1.1.2, q _ _ (c.res fun _ _ => .bl _)⟩
    · cases e
  · cases e
/-! ### one operand -/
def gNeg : D → Option D
  | .int i => some (.int (-i))
  | _ => none
theorem r_neg : Op1R K (rU fun i => .int (-i)) gNeg := by
  intro C Pn s σ H x dx dz Q c e q
  unfold gNeg at e
  split at e
  · cases e
    obtain ⟨W, r1⟩ := c.one
    exact ⟨_, r1.inti, q _ _ (c.res fun _ _ => .int _)⟩
  · cases e
/-! ### the sum as the text has it -/
def gAdd : D → D → Option D
  | .int i, .int j => some (.int (i + j))
  | .list x, .list y => gCatL (.list x) (.list y)
  | .str x, .str y => gCatS (.str x) (.str y)
  | .tuple x, .tuple y => gCatT (.tuple x) (.tuple y)
  | _, _ => none
abbrev rAdd (K : PySem.W.Frag) : R2 := fun x y H Q => rI0 (fun i j => .int (i + j)) x y H Q ∨ (rCat x y H Q ∨ ((∃ i j, x = .str i ∧ y = .str j ∧ i.length + j.length ≤ sizeLine ∧ Q (.str (i ++ j)) H) ∨ rCatN K x y H Q))
theorem r_add : Op2R K (rAdd K) gAdd := by
  intro C Pn s σ H x y dx dy dz Q c e q
  unfold gAdd at e
  split at e
  · exact .inl (r_int (fun _ _ _ _ => .int _) C Pn s σ H x y _ _ dz Q c e q)
  · exact .inr (.inl (r_catL C Pn s σ H x y _ _ dz Q c e q))
  · exact .inr (.inr (.inl (r_catS C Pn s σ H x y _ _ dz Q c e q)))
  · exact .inr (.inr (.inr (r_catT C Pn s σ H x y _ _ dz Q c e q)))
  · cases e
def gMul : D → D → Option D
  | .list x, .int k => gRepL (.list x) (.int k)
  | .int i, .int j => gMulI (.int i) (.int j)
  | _, _ => none
abbrev rMul : R2 := fun x y H Q => rMulI x y H Q ∨ rRep x y H Q
theorem r_mul : Op2R K rMul gMul := by
  intro C Pn s σ H x y dx dy dz Q c e q
  unfold gMul at e
  split at e
  · exact .inr (r_repL C Pn s σ H x y _ _ dz Q c e q)
  · exact .inl (r_mulI C Pn s σ H x y _ _ dz Q c e q)
  · cases e
end
section
variable {X : Cx} {C : Conf} {E : XK} {a b : Expr} {fa fb : M D} {pos : Pos}
theorem op_addD : OpR X (binaryOp .Add) (rAdd X.K) := op_add.or (op_cat.or (op_add_str.or op_catN))
theorem op_mulD : OpR X (binaryOp .Mult) rMul := (op_mul.or op_mulW).or op_rep
theorem de_add (ha : DE C E X a fa) (hb : DE C E X b fb) : DE C E X (.BinOp a .Add b pos) (mOp2 gAdd fa fb) := de_op op_addD r_add ha hb
theorem de_sub (ha : DE C E X a fa) (hb : DE C E X b fb) : DE C E X (.BinOp a .Sub b pos) (mOp2 gSub fa fb) := de_op op_sub r_sub ha hb
theorem de_mul (ha : DE C E X a fa) (hb : DE C E X b fb) : DE C E X (.BinOp a .Mult b pos) (mOp2 gMul fa fb) := de_op op_mulD r_mul ha hb
theorem de_fdiv (ha : DE C E X a fa) (hb : DE C E X b fb) : DE C E X (.BinOp a .FloorDiv b pos) (mOp2 gDiv fa fb) := de_op op_fdivW r_div ha hb
theorem de_mod (ha : DE C E X a fa) (hb : DE C E X b fb) : DE C E X (.BinOp a .Mod b pos) (mOp2 gMod fa fb) := de_op op_mod r_mod ha hb
theorem de_pow (ha : DE C E X a fa) (hb : DE C E X b fb) : DE C E X (.BinOp a .Pow b pos) (mOp2 gPow fa fb) := de_op op_pow r_pow ha hb
theorem de_neg (ha : DE C E X a fa) : DE C E X (.UnaryOp .USub a pos) (mOp1 gNeg fa) := de_un un_neg r_neg ha
theorem de_lt (ha : DE C E X a fa) (hb : DE C E X b fb) : DE C E X (.Compare a [.Lt] [b] pos) (mOp2 gLt fa fb) := de_cmp op_lt r_lt ha hb (nomark _)
theorem de_le (ha : DE C E X a fa) (hb : DE C E X b fb) : DE C E X (.Compare a [.LtE] [b] pos) (mOp2 gLe fa fb) := de_cmp op_le r_le ha hb (nomark _)
theorem de_gt (ha : DE C E X a fa) (hb : DE C E X b fb) : DE C E X (.Compare a [.Gt] [b] pos) (mOp2 gGt fa fb) := de_cmp op_gt r_gt ha hb (nomark _)
theorem de_ge (ha : DE C E X a fa) (hb : DE C E X b fb) : DE C E X (.Compare a [.GtE] [b] pos) (mOp2 gGe fa fb) := de_cmp op_ge r_ge ha hb (nomark _)
theorem dt_lt (ha : DE C E X a fa) (hb : DE C E X b fb) : DT C E X (.Compare a [.Lt] [b] pos) (mB (mOp2 gLt fa fb)) := dt_cmp op_lt r_lt ha hb (nomark _)
theorem dt_le (ha : DE C E X a fa) (hb : DE C E X b fb) : DT C E X (.Compare a [.LtE] [b] pos) (mB (mOp2 gLe fa fb)) := dt_cmp op_le r_le ha hb (nomark _)
theorem dt_gt (ha : DE C E X a fa) (hb : DE C E X b fb) : DT C E X (.Compare a [.Gt] [b] pos) (mB (mOp2 gGt fa fb)) := dt_cmp op_gt r_gt ha hb (nomark _)
theorem dt_ge (ha : DE C E X a fa) (hb : DE C E X b fb) : DT C E X (.Compare a [.GtE] [b] pos) (mB (mOp2 gGe fa fb)) := dt_cmp op_ge r_ge ha hb (nomark _)
theorem de_eq (hu : X.A.units + 64 < cLine) (ha : DE C E X a fa) (hb : DE C E X b fb) : DE C E X (.Compare a [.Eq] [b] pos) (mOp2 gEq fa fb) := de_cmp ((op_eqD hu).or op_eq) r_eq ha hb (nomark _)
theorem de_ne (hu : X.A.units + 64 < cLine) (ha : DE C E X a fa) (hb : DE C E X b fb) : DE C E X (.Compare a [.NotEq] [b] pos) (mOp2 gNe fa fb) := de_cmp ((op_neD hu).or op_ne) r_ne ha hb (nomark _)
theorem dt_eq (hu : X.A.units + 64 < cLine) (ha : DE C E X a fa) (hb : DE C E X b fb) : DT C E X (.Compare a [.Eq] [b] pos) (mB (mOp2 gEq fa fb)) := dt_cmp ((op_eqD hu).or op_eq) r_eq ha hb (nomark _)
theorem dt_ne (hu : X.A.units + 64 < cLine) (ha : DE C E X a fa) (hb : DE C E X b fb) : DT C E X (.Compare a [.NotEq] [b] pos) (mB (mOp2 gNe fa fb)) := dt_cmp ((op_neD hu).or op_ne) r_ne ha hb (nomark _)
theorem de_in (hu : X.A.units + 65 < cLine) (ha : DE C E X a fa) (hb : DE C E X b fb) (hm : behindInMarks .In b = false := by rfl) : DE C E X (.Compare a [.In] [b] pos) (mOp2 gIn fa fb) := de_cmp (op_inD hu) r_in ha hb hm
theorem dt_in (hu : X.A.units + 65 < cLine) (ha : DE C E X a fa) (hb : DE C E X b fb) (hm : behindInMarks .In b = false := by rfl) : DT C E X (.Compare a [.In] [b] pos) (mB (mOp2 gIn fa fb)) := dt_cmp (op_inD hu) r_in ha hb hm
end
end DL
/-! DL6: arguments, displays, items, slices, new lists of one's own. -/
namespace DL
open PySem L2
/-! ### a new object of one's own -/
def mSeal (f : M SV) : M D := f.bind fun sv => match sv with
  | .ol ds => M.ret (.list ds)
  | _ => fun _ => none
def pinV (v : V) : SV → Pin
  | .d x => .dat v x
  | sv => match v with
    | .ref a => .own a sv
    | _ => .own 0 sv
def pinsV : List V → List SV → List Pin
  | v :: vs, d :: ds => pinV v d :: pinsV vs ds
  | _, _ => []
def vOk (v : V) : SV → Prop
  | .d _ => True
  | sv => sv.own = true ∧ ∃ a, v = .ref a
abbrev VOk : List V → List SV → Prop := Paired vOk
section
variable (K : PySem.W.Frag) (C : Conf) (E : XK)
def WF (σ : St) (Pn : List Pin) (Q : VK) : Option (Oc SV) → Prop
  | none => False
  | some (.ok sv s') => ∀ a H', Cf K C (.own a sv :: Pn) s' σ H' → Q (.ref a) H'
  | some (.ex e s') => ∀ c dc H', Cf K C Pn s' σ H' → C.xr e c dc H' → E c dc H'
def WV (σ : St) (Pn : List Pin) (Q : List V → Hp → Prop) : Option (Oc (List SV)) → Prop
  | none => False
  | some (.ok svs s') => ∀ vs H', VOk vs svs → Cf K C (pinsV vs svs ++ Pn) s' σ H' → Q vs H'
  | some (.ex e s') => ∀ c dc H', Cf K C Pn s' σ H' → C.xr e c dc H' → E c dc H'
def rdF (f : M SV) : TE := fun σ H Q => ∃ Pn s, Cf K C Pn s σ H ∧ WF K C E σ Pn Q (f s)
def rdV (f : M (List SV)) : TA := fun σ H Q => ∃ Pn s, Cf K C Pn s σ H ∧ WV K C E σ Pn Q (f s)
end
def DF (C : Conf) (E : XK) (X : Cx) (e : Expr) (f : M SV) : Prop := PE X e (rdF X.K C E f)
def DV (C : Conf) (E : XK) (X : Cx) (es : List Expr) (f : M (List SV)) : Prop := PA X es (rdV X.K C E f)
def mNilV : M (List SV) := M.ret []
def mConsD (fa : M D) (fs : M (List SV)) : M (List SV) := fa.bind fun x => fs.bind fun xs => M.ret (.d x :: xs)
def mConsF (fa : M SV) (fs : M (List SV)) : M (List SV) := fa.bind fun x => fs.bind fun xs => M.ret (x :: xs)
section
variable {X : Cx} {C : Conf} {E : XK} {K : PySem.W.Frag} {σ : St} {Pn : List Pin} {s : S} {H : Hp}
theorem xWAs {A : List Pin} {Q : List V → Hp → Prop} (e : Exn) (s' : S) (h : WA K C E σ Pn Q (some (.ex e s'))) : ∀ c dc H', Cf K C (A ++ Pn) s' σ H' → C.xr e c dc H' → E c dc H' := fun c dc H' c' => h c dc H' (c'.sub (List.sublist_append_right A Pn))
theorem xWVs {A : List Pin} {Q : List V → Hp → Prop} (e : Exn) (s' : S) (h : WV K C E σ Pn Q (some (.ex e s'))) : ∀ c dc H', Cf K C (A ++ Pn) s' σ H' → C.xr e c dc H' → E c dc H' := fun c dc H' c' => h c dc H' (c'.sub (List.sublist_append_right A Pn))
theorem xWFs {A : List Pin} {Q : VK} (e : Exn) (s' : S) (h : WF K C E σ Pn Q (some (.ex e s'))) : ∀ c dc H', Cf K C (A ++ Pn) s' σ H' → C.xr e c dc H' → E c dc H' := fun c dc H' c' => h c dc H' (c'.sub (List.sublist_append_right A Pn))
theorem rdF.bind_rd {α : Type} {f : M SV} {k : SV → M α} {Q : VK} (c : Cf K C Pn s σ H) {R : Option (Oc α) → Prop} (hn : ¬ R none) (hx : ∀ e s', R (some (.ex e s')) → ∀ c dc H', Cf K C Pn s' σ H' → C.xr e c dc H' → E c dc H') (h : R ((f.bind k) s))
    (hk : ∀ d s' a H', Cf K C (.own a d :: Pn) s' σ H' → R (k d s') → Q (.ref a) H') : rdF K C E f σ H Q := by
  refine ⟨Pn, s, c, ?_⟩
  unfold M.bind at h
  cases q : f s with
  | none => rw [q] at h; exact hn h
  | some o =>
    rw [q] at h
    cases o with
    | ok d s' => exact fun v H' c' => hk d s' v H' c' h
    | ex e s' => exact hx e s' h
theorem rdV.bind_rd {α : Type} {f : M (List SV)} {k : List SV → M α} {Q : List V → Hp → Prop} (c : Cf K C Pn s σ H) {R : Option (Oc α) → Prop} (hn : ¬ R none) (hx : ∀ e s', R (some (.ex e s')) → ∀ c dc H', Cf K C Pn s' σ H' → C.xr e c dc H' → E c dc H') (h : R ((f.bind k) s))
    (hk : ∀ ds s' vs H', VOk vs ds → Cf K C (pinsV vs ds ++ Pn) s' σ H' → R (k ds s') → Q vs H') : rdV K C E f σ H Q := by
  refine ⟨Pn, s, c, ?_⟩
  unfold M.bind at h
  cases q : f s with
  | none => rw [q] at h; exact hn h
  | some o =>
    rw [q] at h
    cases o with
    | ok d s' => exact fun vs H' hl c' => hk d s' vs H' hl c' h
    | ex e s' => exact hx e s' h
/-- a new list of one's own, taken as data -/
theorem de_ofF {e : Expr} {f : M SV} (h : DF C E X e f) : DE C E X e (mSeal f) := by
  refine pe_weak h fun σ H Q ⟨Pn, s, c, h⟩ => ?_
  refine rdF.bind_rd c (R := WE X.K C E σ Pn Q) (fun z => z) xWE h fun sv s1 a H1 c1 h1 => ?_
  cases sv with
  | ol ds => obtain ⟨sa, c1⟩ := c1; exact h1 _ _ ⟨sa, c1.sealL⟩
  | _ => exact h1.elim
/-! ### arguments -/
theorem da_nil : DA C E X [] mNil := pa_weak pa_nil fun σ H Q ⟨Pn, s, c, h⟩ => h [] H rfl c
theorem perm_pins {v : V} {d : D} {vs : List V} {ds : List D} : (pinsL (v :: vs) (d :: ds) ++ Pn).Perm (pinsL vs ds ++ (.dat v d :: Pn)) := (List.perm_middle (a := Pin.dat v d) (l₁ := pinsL vs ds) (l₂ := Pn)).symm
theorem perm_pinsV {v : V} {d : SV} {vs : List V} {ds : List SV} : (pinsV (v :: vs) (d :: ds) ++ Pn).Perm (pinsV vs ds ++ (pinV v d :: Pn)) := (List.perm_middle (a := pinV v d) (l₁ := pinsV vs ds) (l₂ := Pn)).symm
theorem da_cons {e : Expr} {es : List Expr} {fa : M D} {fs : M (List D)} (ha : DE C E X e fa) (hr : DA C E X es fs) (hs : starEach (e :: es) X.env = (false, eval e X.env) :: starEach es X.env := by rfl) : DA C E X (e :: es) (mCons fa fs) := by
  refine pa_weak (pa_cons ha hr hs) fun σ H Q ⟨Pn, s, c, h⟩ => ?_
  refine WE.bind_rd c (R := WA X.K C E σ Pn Q) (fun z => z) xWA h fun d s1 v H1 c1 h1 => ?_
  refine rdA.bind_rd c1 (R := WA X.K C E σ Pn Q) (fun z => z) (xWAs (A := [.dat v d])) h1 fun ds s2 vs H2 hl c2 h2 => ?_
  exact h2 (v :: vs) H2 (by simp [hl]) (c2.perm perm_pins)
theorem dv_nil : DV C E X [] mNilV := pa_weak pa_nil fun σ H Q ⟨Pn, s, c, h⟩ => h [] H .nil c
theorem dv_d {e : Expr} {es : List Expr} {fa : M D} {fs : M (List SV)} (ha : DE C E X e fa) (hr : DV C E X es fs) (hs : starEach (e :: es) X.env = (false, eval e X.env) :: starEach es X.env := by rfl) : DV C E X (e :: es) (mConsD fa fs) := by
  refine pa_weak (pa_cons ha hr hs) fun σ H Q ⟨Pn, s, c, h⟩ => ?_
  refine WE.bind_rd c (R := WV X.K C E σ Pn Q) (fun z => z) (fun e s' h => h) h fun d s1 v H1 c1 h1 => ?_
  refine rdV.bind_rd c1 (R := WV X.K C E σ Pn Q) (fun z => z) (xWVs (A := [.dat v d])) h1 fun ds s2 vs H2 hl c2 h2 => ?_
  exact h2 (v :: vs) H2 (.cons trivial hl) (c2.perm perm_pinsV)
theorem pinV_own {a : Addr} {sv : SV} (h : sv.own = true) : pinV (.ref a) sv = .own a sv := by
  cases sv <;> first | rfl | cases h
theorem vOk_own {a : Addr} {sv : SV} (h : sv.own = true) : vOk (.ref a) sv := by
  cases sv <;> first | trivial | exact ⟨h, a, rfl⟩
theorem Cf.owned {a : Addr} {sv : SV} {A : List Pin} (c : Cf K C (.own a sv :: A) s σ H) : sv.own = true := by
  obtain ⟨sa, c⟩ := c
  have z : sv.own = true ∧ _ := c.pin _ List.mem_cons_self
  exact z.1
theorem dv_f {e : Expr} {es : List Expr} {fa : M SV} {fs : M (List SV)} (ha : DF C E X e fa) (hr : DV C E X es fs) (hs : starEach (e :: es) X.env = (false, eval e X.env) :: starEach es X.env := by rfl) : DV C E X (e :: es) (mConsF fa fs) := by
  refine pa_weak (pa_cons ha hr hs) fun σ H Q ⟨Pn, s, c, h⟩ => ?_
  refine rdF.bind_rd c (R := WV X.K C E σ Pn Q) (fun z => z) (fun e s' h => h) h fun d s1 a H1 c1 h1 => ?_
  refine rdV.bind_rd c1 (R := WV X.K C E σ Pn Q) (fun z => z) (xWVs (A := [.own a d])) h1 fun ds s2 vs H2 hl c2 h2 => ?_
  have e1 := pinV_own (a := a) c1.owned
  refine h2 (.ref a :: vs) H2 (.cons (vOk_own c1.owned) hl) (c2.perm ?_)
  have := perm_pinsV (Pn := Pn) (v := .ref a) (d := d) (vs := vs) (ds := ds)
  rw [e1] at this
  exact this
/-! ### displays -/
def mTup (fs : M (List D)) : M D := mArgs (fun ds => if ds.length ≤ sizeLine then some (.tuple ds) else none) fs
def mLst (fs : M (List D)) : M SV := fs.bind fun ds => M.opt (if ds.length ≤ sizeLine then some (.ol ds) else none)
theorem pinsL_all {sa : Option (Addr × Addr)} {vs : List V} {ds : List D} (c : Cfg K C sa (pinsL vs ds ++ Pn) s σ H) (hl : vs.length = ds.length) : RpAll K (Wr C sa σ s.g (pinsL vs ds ++ Pn)) H vs ds := Cfg.all c (fun p hp => List.mem_append_left _ hp) hl
theorem de_tup {es : List Expr} {x1} {pos : Pos} {fs : M (List D)} (h : DA C E X es fs) : DE C E X (.Tuple es x1 pos) (mTup fs) := by
  refine pe_weak (pe_tupN h) fun σ H Q h => ?_
  refine rd_args (r := fun xs H1 Q => xs.length ≤ sizeLine ∧ NewT H1 xs Q) (fun C Pn s σ H vs ds dz Q c hl e q => ?_) σ H Q h
  split at e
  · rename_i hz
    cases e
    exact ⟨by rw [hl]; exact hz, fun p ob hd hp => q _ _ (c.newT (fun sa c' => pinsL_all c' hl) hd hp)⟩
  · cases e
theorem Cfg.newO {sa : Option (Addr × Addr)} {A : List Pin} {vs : List V} {ds : List D} (c : Cfg K C sa (A ++ Pn) s σ H) (r : RpAll K (Wr C sa σ s.g (A ++ Pn)) H vs ds) {p : Addr} (h : H p = none) :
    Cfg K C sa (.own p (.ol ds) :: Pn) s σ (upd H p (.lst vs)) :=
  ((c.lay h (.lst vs)).repin (q := .own p (.ol ds)) rfl ⟨rfl, p, vs, rfl, upd_same, RpAll.kept (kept_lay h) _ _ r⟩).sub (List.Sublist.cons_cons _ (List.sublist_append_right A Pn))
theorem Cf.newO {A : List Pin} {vs : List V} {ds : List D} (c : Cf K C (A ++ Pn) s σ H) (r : ∀ sa, Cfg K C sa (A ++ Pn) s σ H → RpAll K (Wr C sa σ s.g (A ++ Pn)) H vs ds) {p : Addr} (h : H p = none) :
    Cf K C (.own p (.ol ds) :: Pn) s σ (upd H p (.lst vs)) := let ⟨sa, c⟩ := c; ⟨sa, c.newO (r sa c) h⟩
theorem df_lst {es : List Expr} {pos : Pos} {fs : M (List D)} (h : DA C E X es fs) : DF C E X (.List es pos) (mLst fs) := by
  refine pe_weak (pe_lst h) fun σ H Q ⟨Pn, s, c, h⟩ => ?_
  refine rdA.bind_rd c (R := WF X.K C E σ Pn Q) (fun z => z) (fun e s' h => h) h fun ds s1 vs H1 hl c1 h1 => ?_
  by_cases hz : ds.length ≤ sizeLine
  · rw [if_pos hz] at h1
    exact ⟨by rw [hl]; exact hz, fun p hp => h1 p _ (c1.newO (fun sa c' => pinsL_all c' hl) hp)⟩
  · rw [if_neg hz] at h1
    exact h1.elim
theorem de_lst {es : List Expr} {pos : Pos} {fs : M (List D)} (h : DA C E X es fs) : DE C E X (.List es pos) (mSeal (mLst fs)) := de_ofF (df_lst h)
/-! ### items -/
def gIx : D → D → Option D
  | .list xs, .int i => atI xs i
  | .tuple xs, .int i => atI xs i
  | .str z, .int i => if z.length ≤ sizeLine then (atI z.cps.toList i).map fun c => .str ⟨#[c]⟩ else none
  | _, _ => none
theorem RpAll.atI {W : Addr → Prop} {vs : List V} {ds : List D} (r : RpAll K W H vs ds) {i : Int} {d : D} (h : L2.atI ds i = some d) : ∃ v, L2.atI vs i = some v ∧ Rp K W H v d := by
  unfold L2.atI at h ⊢
  rw [r.length]
  cases e : ixN ds.length i with
  | none => rw [e] at h; cases h
  | some j =>
    rw [e] at h
    exact r.get j d h
theorem r_ix : Op2R K (rIx K) gIx := by
  intro C Pn s σ H x y dx dy dz Q c e q
  obtain ⟨sa, c⟩ := c
  have r1 := c.dat (v := x) (d := dx) (List.mem_cons_of_mem _ List.mem_cons_self)
  have r2 := c.dat (v := y) (d := dy) List.mem_cons_self
  unfold gIx at e
  split at e
  · obtain ⟨a, xs, rfl, h1, p1⟩ := r1.lsti
    obtain ⟨v, hv, rv⟩ := p1.atI e
    exact .inl ⟨a, xs, _, v, rfl, r2.inti, h1.sq, hv, q v H ⟨sa, (c.pinD rv).sub (List.Sublist.cons_cons _ (List.sublist_append_right _ Pn))⟩⟩
  · obtain ⟨a, xs, rfl, h1, p1⟩ := r1.tupi
    obtain ⟨v, hv, rv⟩ := p1.atI e
    exact .inr (.inl ⟨a, xs, _, v, rfl, r2.inti, h1.sq, hv, q v H ⟨sa, (c.pinD rv).sub (List.Sublist.cons_cons _ (List.sublist_append_right _ Pn))⟩⟩)
  · split at e
    · rename_i z i hz
      cases e1 : atI z.cps.toList i with
      | none => rw [e1] at e; cases e
      | some ch =>
        rw [e1] at e
        cases e
        exact .inr (.inr ⟨z, i, ch, r1.stri, r2.inti, hz, e1, q _ H (Cf.res (A := [.dat y (.int i), .dat x (.str z)]) ⟨sa, c⟩ fun _ _ => .str _)⟩)
    · cases e
  · cases e
theorem de_ix {a b : Expr} {fa fb : M D} {pos : Pos} (hs : PlainIx b) (ha : DE C E X a fa) (hb : DE C E X b fb) : DE C E X (.Subscript a b pos) (mOp2 gIx fa fb) := pe_weak (pe_ix ix_seq ha hb hs) (rd_op2 r_ix)
/-- an item of one's own list, which stays one's own -/
def mIxO (i : Nat) (fb : M D) : M D := fun s => match s.g[i]? with
  | some (.ol _) => fb.bind (fun y s => match s.g[i]? with
    | some (.ol xs) => M.opt (gIx (.list xs) y) s
    | _ => none) s
  | _ => none
theorem Cfg.ownL {sa : Option (Addr × Addr)} (c : Cfg K C sa Pn s σ H) {i : Nat} {ds : List D} (hi : s.g[i]? = some (.ol ds)) : ∃ a xs, σ[i]? = some (some (.ref a)) ∧ H a = some (.lst xs) ∧ RpAll K (Wr C sa σ s.g Pn) H xs ds := by
  obtain ⟨a, xs, e, q, r⟩ := c.slot i _ hi
  exact ⟨a, xs, slot_of_getD e, q, r⟩
theorem de_ixO (i : Nat) {x : Str} {b : Expr} {fb : M D} {p pos : Pos} (hs : PlainIx b) (hb : DE C E X b fb) (hN : X.N[i]? = some x := by rfl) (hv : Vis X.env.scope x := by first | exact Or.inl rfl | exact Or.inr (Or.inl rfl) | exact Or.inr (Or.inr rfl)) (hd : (x == ("__debug__" : Str)) = false := by decide)
    (hcd : (x == ("__classdict__" : Str)) = false := by decide) : DE C E X (.Subscript (.Name x p) b pos) (mIxO i fb) := by
  refine pe_weak (pe_ix ix_seq (pe_var hN hv hd hcd) hb hs) fun σ H Q ⟨Pn, s, c, h⟩ => ?_
  unfold mIxO at h
  split at h
  · rename_i ds0 q0
    obtain ⟨sa, c0⟩ := c
    obtain ⟨a, xs, e, hH, _⟩ := c0.ownL q0
    refine ⟨.ref a, e, ?_⟩
    refine WE.bind_rd (α := D) ⟨sa, c0⟩ (R := WE X.K C E σ Pn Q) (fun z => z) xWE h fun d s1 y H1 c1 h1 => ?_
    split at h1
    · rename_i ds1 q1
      obtain ⟨d2, e2, h2⟩ := h1.opt
      obtain ⟨sa1, c1⟩ := c1
      obtain ⟨a1, xs1, e1, hH1, r1⟩ := c1.ownL q1
      rw [e] at e1
      cases e1
      cases d with
      | int k =>
        obtain ⟨v, hv, rv⟩ := r1.atI (show atI ds1 k = some d2 from e2)
        exact .inl ⟨a, xs1, _, v, rfl, (c1.dat List.mem_cons_self).inti, .inl (.inl hH1), hv, h2 v H1 ⟨sa1, (c1.pinD rv).sub (List.Sublist.cons_cons _ (List.sublist_cons_self _ _))⟩⟩
      | _ => cases e2
    · exact h1.elim
  · exact h.elim
/-! ### slices -/
def cutD (xs : List D) (lo hi : Option Int) : List D := (xs.drop (HT.sIx xs.length 0 lo)).take (HT.sIx xs.length xs.length hi - HT.sIx xs.length 0 lo)
def gCut (lo hi : Option Int) : D → Option D
  | .list xs => some (.list (cutD xs lo hi))
  | .tuple xs => some (.tuple (cutD xs lo hi))
  | _ => none
def asI : D → Option Int
  | .int i => some i
  | _ => none
def mNo : M (Option Int) := M.ret none
def mSo (f : M D) : M (Option Int) := f.bind fun d => M.opt ((asI d).map some)
def mCut (fe : M D) (fl fh : M (Option Int)) : M D := fe.bind fun x => fl.bind fun lo => fh.bind fun hi => M.opt (gCut lo hi x)
def WO (K : PySem.W.Frag) (C : Conf) (E : XK) (σ : St) (Pn : List Pin) (Q : Option Int → Hp → Prop) : Option (Oc (Option Int)) → Prop
  | none => False
  | some (.ok b s') => ∀ H', Cf K C Pn s' σ H' → Q b H'
  | some (.ex e s') => ∀ c dc H', Cf K C Pn s' σ H' → C.xr e c dc H' → E c dc H'
def rdO (K : PySem.W.Frag) (C : Conf) (E : XK) (f : M (Option Int)) : TO := fun σ H Q => ∃ Pn s, Cf K C Pn s σ H ∧ WO K C E σ Pn Q (f s)
def DO (C : Conf) (E : XK) (X : Cx) (e : Option Expr) (f : M (Option Int)) : Prop := L2.PO X e (rdO X.K C E f)
theorem po_weak {e : Option Expr} {t t' : TO} (h : L2.PO X e t) (w : ∀ σ H Q, t' σ H Q → t σ H Q) : L2.PO X e t' := ⟨fun pins s σ H Q I q => h.run pins s σ H Q I (w σ H Q q)⟩
theorem rdO.bind_rd {α : Type} {f : M (Option Int)} {k : Option Int → M α} {Q : Option Int → Hp → Prop} (c : Cf K C Pn s σ H) {R : Option (Oc α) → Prop} (hn : ¬ R none) (hx : ∀ e s', R (some (.ex e s')) → ∀ c dc H', Cf K C Pn s' σ H' → C.xr e c dc H' → E c dc H') (h : R ((f.bind k) s))
    (hk : ∀ b s' H', Cf K C Pn s' σ H' → R (k b s') → Q b H') : rdO K C E f σ H Q := by
  refine ⟨Pn, s, c, ?_⟩
  unfold M.bind at h
  cases q : f s with
  | none => rw [q] at h; exact hn h
  | some o =>
    rw [q] at h
    cases o with
    | ok d s' => exact fun H' c' => hk d s' H' c' h
    | ex e s' => exact hx e s' h
theorem do_none : DO C E X none mNo := po_weak po_none fun σ H Q ⟨Pn, s, c, h⟩ => h H c
theorem do_some {e : Expr} {f : M D} (h : DE C E X e f) : DO C E X (some e) (mSo f) := by
  refine po_weak (po_some h) fun σ H Q ⟨Pn, s, c, h⟩ => ?_
  refine WE.bind_rd c (R := WO X.K C E σ Pn Q) (fun z => z) (fun e s' h => h) h fun d s1 v H1 c1 h1 => ?_
  cases d with
  | int i =>
    obtain ⟨W, r⟩ := c1.one
    exact ⟨i, r.inti, h1 H1 (c1.sub (List.sublist_cons_self _ _))⟩
  | _ => exact h1.elim
theorem cut_all {W : Addr → Prop} {vs : List V} {ds : List D} (r : RpAll K W H vs ds) (lo hi : Option Int) : RpAll K W H (cutV vs lo hi) (cutD ds lo hi) := by
  unfold cutV cutD
  rw [r.length]
  exact (r.drop _).take _
theorem cut_whole {ds : List D} {lo hi : Option Int} (h : HT.sIx ds.length 0 lo = 0 ∧ HT.sIx ds.length ds.length hi = ds.length) : cutD ds lo hi = ds := by
  unfold cutD
  rw [h.1, h.2, List.drop_zero, Nat.sub_zero, List.take_length]
abbrev rCut (K : PySem.W.Frag) : V → Option Int → Option Int → Hp → VK → Prop := fun x lo hi H Q => rSlL K x lo hi H Q ∨ rSlN K x lo hi H Q
theorem de_slice {e : Expr} {lo hi : Option Expr} {p2 pos : Pos} {fe : M D} {fl fh : M (Option Int)} (he : DE C E X e fe) (hl : DO C E X lo fl) (hh : DO C E X hi fh) : DE C E X (.Subscript e (.Slice lo hi none p2) pos) (mCut fe fl fh) := by
  refine pe_weak (pe_slice (sl_list.or sl_tupN) he hl hh) fun σ H Q ⟨Pn, s, c, h⟩ => ?_
  refine WE.bind_rd c (R := WE X.K C E σ Pn Q) (fun z => z) xWE h fun d s1 x H1 c1 h1 => ?_
  refine rdO.bind_rd c1 (R := WE X.K C E σ Pn Q) (fun z => z) (xWEs (A := [.dat x d])) h1 fun l s2 H2 c2 h2 => ?_
  refine rdO.bind_rd c2 (R := WE X.K C E σ Pn Q) (fun z => z) (xWEs (A := [.dat x d])) h2 fun u s3 H3 c3 h3 => ?_
  obtain ⟨dz, e1, q⟩ := h3.opt
  obtain ⟨sa, c3⟩ := c3
  have r := c3.dat List.mem_cons_self
  unfold gCut at e1
  split at e1
  · cases e1
    obtain ⟨a, xs, rfl, g1, p1⟩ := r.lsti
    exact .inl ⟨a, xs, rfl, g1.sq, fun p hp => q _ _ ⟨sa, Cfg.newL (A := [.dat (.ref a) _]) c3 (cut_all p1 l u) hp⟩⟩
  · rename_i ds
    cases e1
    obtain ⟨a, xs, rfl, g1, p1⟩ := r.tupi
    refine .inr ⟨a, xs, rfl, g1.sq, fun hw => ?_, fun hw p ob hd hp => q _ _ ⟨sa, Cfg.newT (A := [.dat (.ref a) (.tuple ds)]) c3 (cut_all p1 l u) hd hp⟩⟩
    rw [p1.length] at hw
    refine q _ H3 ⟨sa, ?_⟩
    rw [cut_whole hw]
    exact c3
  · cases e1
end
end DL
/-! DL7: statements, loops, defs, calls. -/
namespace DL
open PySem L2
inductive Fl where
  | nx | rt (d : D) | bk | ct
  /-- a new source is handed back -/
  | rs (u : Src)
abbrev MS := M Fl
section
variable (K : PySem.W.Frag) (C : Conf) (E : XK)
def WS (Pn : List Pin) (A : Ends) : Option (Oc Fl) → Prop
  | none => False
  | some (.ok .nx s') => ∀ σ' H', Cf K C Pn s' σ' H' → A.nx σ' H'
  | some (.ok (.rt d) s') => ∀ v σ' H', Cf K C (.dat v d :: Pn) s' σ' H' → A.rt v H'
  | some (.ok .bk s') => ∀ σ' H', Cf K C Pn s' σ' H' → A.bk σ' H'
  | some (.ok .ct s') => ∀ σ' H', Cf K C Pn s' σ' H' → A.ct σ' H'
  | some (.ok (.rs u) s') => ∀ p c σ' H', Cf K C (.obj p (.dK (srcK u c)) :: .obj c (.lst (u.cells.map V.int)) :: Pn) s' σ' H' → A.rt (.ref p) H'
  | some (.ex e s') => ∀ c dc σ' H', Cf K C Pn s' σ' H' → C.xr e c dc H' → E c dc H'
def rdS (f : MS) : TS := fun A σ H => ∃ Pn s, Cf K C Pn s σ H ∧ WS K C E Pn A (f s)
end
def DS (C : Conf) (E : XK) (X : Cx) (st : Stmt) (f : MS) : Prop := PS X st (rdS X.K C E f)
def DSs (C : Conf) (E : XK) (X : Cx) (st : List Stmt) (f : MS) : Prop := PSs X st (rdS X.K C E f)
def mSkip : MS := M.ret .nx
def mSeq (f g : MS) : MS := f.bind fun fl => match fl with
  | .nx => g
  | fl => M.ret fl
def mRet (f : M D) : MS := f.bind fun d => M.ret (.rt d)
def mExpr (f : M D) : MS := f.bind fun _ => M.ret .nx
def mSet (i : Nat) (f : M D) : MS := f.bind fun d s => some (.ok .nx (s.set i (.d d)))
def mSetF (i : Nat) (f : M SV) : MS := f.bind fun d s => some (.ok .nx (s.set i d))
def mPar2 (i j : Nat) (f : M (List SV)) : MS := f.bind fun vs s => match vs with
  | [a, b] => some (.ok .nx ((s.set i a).set j b))
  | _ => none
def mPar3 (i j l : Nat) (f : M (List SV)) : MS := f.bind fun vs s => match vs with
  | [a, b, c] => some (.ok .nx (((s.set i a).set j b).set l c))
  | _ => none
section
variable {X : Cx} {C : Conf} {E : XK} {K : PySem.W.Frag} {σ : St} {Pn : List Pin} {s : S} {H : Hp} {st : Stmt} {rest : List Stmt} {pos : Pos}
theorem ps_weak {t t' : TS} (h : PS X st t) (w : ∀ D σ H, t' D σ H → t D σ H) : PS X st t' := ⟨fun pins s σ H D I q => h.run pins s σ H D I (w D σ H q)⟩
theorem pss_weak {t t' : TS} (h : PSs X rest t) (w : ∀ D σ H, t' D σ H → t D σ H) : PSs X rest t' := ⟨fun pins s σ H D I q => h.run pins s σ H D I (w D σ H q)⟩
theorem xWS {A : Ends} (e : Exn) (s' : S) (h : WS K C E Pn A (some (.ex e s'))) : ∀ c dc H', Cf K C Pn s' σ H' → C.xr e c dc H' → E c dc H' := fun c dc H' c' => h c dc σ H' c'
theorem xWSs {A : Ends} {B : List Pin} (e : Exn) (s' : S) (h : WS K C E Pn A (some (.ex e s'))) : ∀ c dc H', Cf K C (B ++ Pn) s' σ H' → C.xr e c dc H' → E c dc H' := fun c dc H' c' => h c dc σ H' (c'.sub (List.sublist_append_right B Pn))
/-- a statement run, then more -/
theorem rdS.bind {f : MS} {k : Fl → MS} {A A' : Ends} (c : Cf K C Pn s σ H) (h : WS K C E Pn A ((f.bind k) s))
    (hn : ∀ s' σ' H', Cf K C Pn s' σ' H' → WS K C E Pn A (k .nx s') → A'.nx σ' H') (hr : ∀ d s' v σ' H', Cf K C (.dat v d :: Pn) s' σ' H' → WS K C E Pn A (k (.rt d) s') → A'.rt v H')
    (hb : ∀ s' σ' H', Cf K C Pn s' σ' H' → WS K C E Pn A (k .bk s') → A'.bk σ' H') (hc : ∀ s' σ' H', Cf K C Pn s' σ' H' → WS K C E Pn A (k .ct s') → A'.ct σ' H')
    (hu : ∀ u s' p c σ' H', Cf K C (.obj p (.dK (srcK u c)) :: .obj c (.lst (u.cells.map V.int)) :: Pn) s' σ' H' → WS K C E Pn A (k (.rs u) s') → A'.rt (.ref p) H') : rdS K C E f A' σ H := by
  refine ⟨Pn, s, c, ?_⟩
  unfold M.bind at h
  cases q : f s with
  | none => rw [q] at h; exact h
  | some o =>
    rw [q] at h
    cases o with
    | ok fl s' =>
      cases fl with
      | nx => exact fun σ' H' c' => hn s' σ' H' c' h
      | rt d => exact fun v σ' H' c' => hr d s' v σ' H' c' h
      | bk => exact fun σ' H' c' => hb s' σ' H' c' h
      | ct => exact fun σ' H' c' => hc s' σ' H' c' h
      | rs u => exact fun p c σ' H' c' => hu u s' p c σ' H' c' h
    | ex e s' => exact h
theorem dss_nil : DSs C E X [] mSkip := pss_weak pss_nil fun D σ H ⟨Pn, s, c, h⟩ => h σ H c
theorem dss_one {f : MS} (h : DS C E X st f) : DSs C E X [st] f := pss_one h
theorem dss_cons {f g : MS} (h1 : DS C E X st f) (h2 : DSs C E X rest g) : DSs C E X (st :: rest) (mSeq f g) := by
  refine pss_weak (pss_cons h1 h2) fun D σ H ⟨Pn, s, c, h⟩ => ?_
  refine rdS.bind c h (fun s' σ' H' c' h' => ⟨Pn, s', c', h'⟩) (fun d s' v σ' H' c' h' => h' v σ' H' c') (fun s' σ' H' c' h' => h' σ' H' c') (fun s' σ' H' c' h' => h' σ' H' c') (fun u s' p c σ' H' c' h' => h' p c σ' H' c')
theorem ds_pass : DS C E X (.Pass pos) mSkip := ps_weak ps_pass fun D σ H ⟨Pn, s, c, h⟩ => h σ H c
theorem ds_break : DS C E X (.Break pos) (M.ret .bk) := ps_weak ps_break fun D σ H ⟨Pn, s, c, h⟩ => h σ H c
theorem ds_continue : DS C E X (.Continue pos) (M.ret .ct) := ps_weak ps_continue fun D σ H ⟨Pn, s, c, h⟩ => h σ H c
theorem ds_ret {e : Expr} {f : M D} (he : DE C E X e f) : DS C E X (.Return (some e) pos) (mRet f) := by
  refine ps_weak (ps_ret he) fun D σ H ⟨Pn, s, c, h⟩ => ?_
  exact WE.bind_rd c (R := WS X.K C E Pn D) (fun z => z) xWS h fun d s1 v H1 c1 h1 => h1 v σ H1 c1
theorem ds_retN : DS C E X (.Return none pos) (M.ret (.rt .none)) := ps_weak ps_retN fun D σ H ⟨Pn, s, c, h⟩ => h .non σ H (c.scal fun _ _ => .non)
theorem ds_expr {e : Expr} {f : M D} (he : DE C E X e f) (hs : swapsWith e none pos.line X.env = pure false := by rfl) : DS C E X (.Expr e pos) (mExpr f) := by
  refine ps_weak (ps_expr he hs) fun D σ H ⟨Pn, s, c, h⟩ => ?_
  exact WE.bind_rd c (R := WS X.K C E Pn D) (fun z => z) xWS h fun d s1 v H1 c1 h1 => h1 σ H1 (c1.sub (List.sublist_cons_self _ _))
theorem ds_if {c : Expr} {a b : List Stmt} {t : M Bool} {f g : MS} (hc : DT C E X c t) (ha : DSs C E X a f) (hb : DSs C E X b g) : DS C E X (.If c a b pos) (mIf t f g) := by
  refine ps_weak (ps_if hc ha hb) fun D σ H ⟨Pn, s, c, h⟩ => ?_
  refine rdT.bind_rd c (R := WS X.K C E Pn D) (fun z => z) xWS h fun b s1 H1 c1 h1 => ?_
  cases b with
  | true => rw [if_pos rfl] at h1 ⊢; exact ⟨Pn, s1, c1, h1⟩
  | false => rw [if_neg Bool.false_ne_true] at h1 ⊢; exact ⟨Pn, s1, c1, h1⟩
theorem ds_set {i : Nat} {x : Str} {e : Expr} {f : M D} {pos' : Pos} (hN : X.N.Nodup) (hi : X.N[i]? = some x) (hx : Loc X.env.scope x) (he : DE C E X e f) (hs : swapsWith e (some (.Name x pos')) pos.line X.env = pure false := by rfl)
    (hf : X.fn x = true ∨ X.env.scope.names.lookup x = some .local := by first | exact .inl rfl | exact .inr rfl | assumption) : DS C E X (.Assign [.Name x pos'] e pos) (mSet i f) := by
  refine ps_weak (ps_set hN hi hx he hs hf) fun D σ H ⟨Pn, s, c, h⟩ => ?_
  exact WE.bind_rd c (R := WS X.K C E Pn D) (fun z => z) xWS h fun d s1 v H1 c1 h1 => h1 _ H1 (c1.setD i)
theorem ds_setF {i : Nat} {x : Str} {e : Expr} {f : M SV} {pos' : Pos} (hN : X.N.Nodup) (hi : X.N[i]? = some x) (hx : Loc X.env.scope x) (he : DF C E X e f) (hs : swapsWith e (some (.Name x pos')) pos.line X.env = pure false := by rfl)
    (hf : X.fn x = true ∨ X.env.scope.names.lookup x = some .local := by first | exact .inl rfl | exact .inr rfl | assumption) : DS C E X (.Assign [.Name x pos'] e pos) (mSetF i f) := by
  refine ps_weak (ps_set hN hi hx he hs hf) fun D σ H ⟨Pn, s, c, h⟩ => ?_
  exact rdF.bind_rd c (R := WS X.K C E Pn D) (fun z => z) xWS h fun d s1 a H1 ⟨sa, c1⟩ h1 => h1 _ H1 ⟨sa, c1.setO i⟩
/-- a value in the hand goes to a slot -/
theorem Cf.setV {v : V} {sv : SV} (k : vOk v sv) (c : Cf K C (pinV v sv :: Pn) s σ H) (i : Nat) : Cf K C Pn (s.set i sv) (σ.set i (some v)) H := by
  obtain ⟨sa, c⟩ := c
  cases sv with
  | d x => exact ⟨sa, c.setD i⟩
  | ol ds => obtain ⟨_, a, rfl⟩ := k; exact ⟨sa, c.setO i⟩
  | oK ds => obtain ⟨_, a, rfl⟩ := k; exact ⟨sa, c.setO i⟩
  | oT ds => obtain ⟨_, a, rfl⟩ := k; exact ⟨sa, c.setO i⟩
  | lK ds => obtain ⟨_, a, rfl⟩ := k; exact ⟨sa, c.setO i⟩
  | un => obtain ⟨z, _⟩ := k; cases z
  | src => obtain ⟨z, _⟩ := k; cases z
  | cells => obtain ⟨z, _⟩ := k; cases z
  | scr _ => obtain ⟨z, _⟩ := k; cases z
theorem voK_two {vs : List V} {a b : SV} (h : VOk vs [a, b]) : ∃ v w, vs = [v, w] ∧ vOk v a ∧ vOk w b := by
  cases h with
  | cons h1 h2 =>
    cases h2 with
    | cons h3 h4 => cases h4; exact ⟨_, _, rfl, h1, h3⟩
theorem voK_three {vs : List V} {a b c : SV} (h : VOk vs [a, b, c]) : ∃ v w x, vs = [v, w, x] ∧ vOk v a ∧ vOk w b ∧ vOk x c := by
  cases h with
  | cons h1 h2 =>
    cases h2 with
    | cons h3 h4 =>
      cases h4 with
      | cons h5 h6 => cases h6; exact ⟨_, _, _, rfl, h1, h3, h5⟩
/-- a, b = e1, e2 with plain local names -/
theorem ds_par2 {i j : Nat} {x y : Str} {a b : Expr} {f : M (List SV)} {px py pt : Pos} {kt k2 pt2} (hc : X.calm = true) (hN : X.N.Nodup) (hi : X.N[i]? = some x) (hj : X.N[j]? = some y) (hij : i ≠ j)
    (hx : X.env.scope.names.lookup x = some .local) (hy : X.env.scope.names.lookup y = some .local) (ha : DV C E X [a, b] f)
    (hw : swappedStores [.Tuple [.Name x px, .Name y py] kt pt] (.Tuple [a, b] k2 pt2) X.env = pure (some [x, y]))
    (hs : swapsWithSole [.Tuple [.Name x px, .Name y py] kt pt] (.Tuple [a, b] k2 pt2) pos.line X.env = pure false := by rfl) :
    DS C E X (.Assign [.Tuple [.Name x px, .Name y py] kt pt] (.Tuple [a, b] k2 pt2) pos) (mPar2 i j f) := by
  refine ps_weak (ps_par hc hN hi hj hij hx hy ha hw hs) fun D σ H ⟨Pn, s, c, h⟩ => ?_
  refine rdV.bind_rd c (R := WS X.K C E Pn D) (fun z => z) xWS h fun svs s1 vs H1 hl c1 h1 => ?_
  match svs, h1, hl, c1 with
  | [], h1, _, _ => exact h1.elim
  | [_], h1, _, _ => exact h1.elim
  | [u1, u2], h1, hl, c1 =>
    obtain ⟨v, w, rfl, k1, k2⟩ := voK_two hl
    exact ⟨v, w, rfl, h1 _ H1 (((show Cf X.K C (pinV v u1 :: pinV w u2 :: Pn) s1 σ H1 from c1).setV k1 i).setV k2 j)⟩
  | _ :: _ :: _ :: _, h1, _, _ => exact h1.elim
/-- a, b, c = e1, e2, e3 with plain local names -/
theorem ds_par3 {i j l : Nat} {x y z : Str} {a b c : Expr} {f : M (List SV)} {px py pz pt pos : Pos} {kt k2 pt2} (hc : X.calm = true) (hN : X.N.Nodup) (hi : X.N[i]? = some x) (hj : X.N[j]? = some y) (hl : X.N[l]? = some z) (hij : i ≠ j) (hil : i ≠ l) (hjl : j ≠ l)
    (hx : X.env.scope.names.lookup x = some .local) (hy : X.env.scope.names.lookup y = some .local) (hz : X.env.scope.names.lookup z = some .local) (ha : DV C E X [a, b, c] f)
    (hw : swappedStores [.Tuple [.Name x px, .Name y py, .Name z pz] kt pt] (.Tuple [a, b, c] k2 pt2) X.env = pure (some [x, y, z]))
    (hs : swapsWithSole [.Tuple [.Name x px, .Name y py, .Name z pz] kt pt] (.Tuple [a, b, c] k2 pt2) pos.line X.env = pure false := by rfl) :
    DS C E X (.Assign [.Tuple [.Name x px, .Name y py, .Name z pz] kt pt] (.Tuple [a, b, c] k2 pt2) pos) (mPar3 i j l f) := by
  refine ps_weak (ps_par3 hc hN hi hj hl hij hil hjl hx hy hz ha hw hs) fun D σ H ⟨Pn, s, c, h⟩ => ?_
  refine rdV.bind_rd c (R := WS X.K C E Pn D) (fun z => z) xWS h fun svs s1 vs H1 hl c1 h1 => ?_
  match svs, h1, hl, c1 with
  | [], h1, _, _ => exact h1.elim
  | [_], h1, _, _ => exact h1.elim
  | [_, _], h1, _, _ => exact h1.elim
  | [u1, u2, u3], h1, hl, c1 =>
    obtain ⟨v, w, x, rfl, k1, k2, k3⟩ := voK_three hl
    exact ⟨v, w, x, rfl, h1 _ H1 ((((show Cf X.K C (pinV v u1 :: pinV w u2 :: pinV x u3 :: Pn) s1 σ H1 from c1).setV k1 i).setV k2 j).setV k3 l)⟩
  | _ :: _ :: _ :: _ :: _, h1, _, _ => exact h1.elim
end
/-! ### while -/
/-- one turn: none: on; some fl: out -/
def stepW (t : M Bool) (b : MS) : M (Option Fl) := t.bind fun c => if c = true then b.bind fun fl => match fl with
    | .nx => M.ret none
    | .ct => M.ret none
    | .bk => M.ret (some .nx)
    | .rt d => M.ret (some (.rt d))
    | .rs u => M.ret (some (.rs u))
  else M.ret (some .nx)
def iterW (t : M Bool) (b : MS) : Nat → MS
  | 0 => fun _ => none
  | n + 1 => (stepW t b).bind fun o => match o with
    | none => iterW t b n
    | some fl => M.ret fl
theorem iterW_mono (t : M Bool) (b : MS) : ∀ (n : Nat) (s : S) (r : Oc Fl), iterW t b n s = some r → iterW t b (n + 1) s = some r
  | 0, s, r, h => by cases h
  | n + 1, s, r, h => by
    unfold iterW M.bind at h ⊢
    cases q : stepW t b s with
    | none => rw [q] at h; cases h
    | some o =>
      rw [q] at h
      cases o with
      | ex e s' => exact h
      | ok o s' =>
        cases o with
        | some fl => exact h
        | none => exact iterW_mono t b n s' r h
theorem iterW_le (t : M Bool) (b : MS) {n : Nat} {s : S} {r : Oc Fl} (h : iterW t b n s = some r) : ∀ k, iterW t b (n + k) s = some r
  | 0 => h
  | k + 1 => iterW_mono t b (n + k) s r (iterW_le t b h k)
theorem iterW_det (t : M Bool) (b : MS) {n m : Nat} {s : S} {r q : Oc Fl} (h : iterW t b n s = some r) (h' : iterW t b m s = some q) : r = q := by
  have h1 := iterW_le t b h m
  have h2 := iterW_le t b h' n
  rw [Nat.add_comm] at h2
  rw [h1] at h2
  exact Option.some.inj h2
open Classical in
noncomputable def mWhile (t : M Bool) (b : MS) : MS := fun s => if h : ∃ n r, iterW t b n s = some r then iterW t b h.choose s else none
theorem mWhile_of {t : M Bool} {b : MS} {n : Nat} {s : S} {r : Oc Fl} (h : iterW t b n s = some r) : mWhile t b s = some r := by
  unfold mWhile
  have hx : ∃ n r, iterW t b n s = some r := ⟨n, r, h⟩
  rw [dif_pos hx]
  obtain ⟨r', h'⟩ := hx.choose_spec
  rw [h', iterW_det t b h h']
theorem mWhile_is {t : M Bool} {b : MS} {s : S} {r : Oc Fl} (h : mWhile t b s = some r) : ∃ n, iterW t b n s = some r := by
  unfold mWhile at h
  split at h
  · exact ⟨_, h⟩
  · cases h
/-- the loop by its first turn -/
theorem mWhile_eq (t : M Bool) (b : MS) (s : S) : mWhile t b s = ((stepW t b).bind fun o => match o with | none => mWhile t b | some fl => M.ret fl) s := by
  cases q : mWhile t b s with
  | some r =>
    obtain ⟨n, h⟩ := mWhile_is q
    cases n with
    | zero => cases h
    | succ n =>
      unfold iterW M.bind at h
      unfold M.bind
      cases q2 : stepW t b s with
      | none => rw [q2] at h; cases h
      | some o =>
        rw [q2] at h
        cases o with
        | ex e s' => exact h.symm
        | ok o s' =>
          cases o with
          | some fl => exact h.symm
          | none => exact (mWhile_of h).symm
  | none =>
    cases q2 : ((stepW t b).bind fun o => match o with | none => mWhile t b | some fl => M.ret fl) s with
    | none => rfl
    | some r =>
      exfalso
      have : ∃ n, iterW t b n s = some r := by
        unfold M.bind at q2
        cases q3 : stepW t b s with
        | none => rw [q3] at q2; cases q2
        | some o =>
          rw [q3] at q2
          cases o with
          | ex e s' => exact ⟨1, by unfold iterW M.bind; rw [q3]; exact q2⟩
          | ok o s' =>
            cases o with
            | some fl => exact ⟨1, by unfold iterW M.bind; rw [q3]; exact q2⟩
            | none =>
              obtain ⟨n, hn⟩ := mWhile_is q2
              exact ⟨n + 1, by unfold iterW M.bind; rw [q3]; exact hn⟩
      obtain ⟨n, hn⟩ := this
      rw [mWhile_of hn] at q
      cases q
section
variable {X : Cx} {C : Conf} {E : XK} {K : PySem.W.Frag} {pos : Pos}
theorem ds_while {c : Expr} {body : List Stmt} {t : M Bool} {b : MS} (hp : PassesOwn (model X.prog X.w) X.A X.env X.xe) (hc : DT C E X c t) (hb : DSs C E X body b) : DS C E X (.While c body [] pos) (mWhile t b) := by
  refine ps_weak (ps_while hp hc hb) fun D σ H ⟨Pn, s, c, h⟩ => ?_
  cases q : mWhile t b s with
  | none => rw [q] at h; exact h.elim
  | some r =>
    rw [q] at h
    obtain ⟨n, hn⟩ := mWhile_is q
    refine ⟨fun m σ H => ∃ s, Cf X.K C Pn s σ H ∧ iterW t b m s = some r, ⟨n, s, c, hn⟩, ?_⟩
    rintro m σ1 H1 ⟨s1, c1, h1⟩
    cases m with
    | zero => cases h1
    | succ m =>
      have h2 : ((t.bind fun c => if c = true then b.bind fun fl => match fl with
        | .nx => M.ret none
        | .ct => M.ret none
        | .bk => M.ret (some .nx)
        | .rt d => M.ret (some (.rt d))
        | .rs u => M.ret (some (.rs u))
      else M.ret (some Fl.nx)).bind fun o => match o with
        | none => iterW t b m
        | some fl => M.ret fl) s1 = some r := h1
      have h3 : (t.bind fun c => (if c = true then b.bind fun fl => match fl with
        | .nx => M.ret none
        | .ct => M.ret none
        | .bk => M.ret (some .nx)
        | .rt d => M.ret (some (.rt d))
        | .rs u => M.ret (some (.rs u))
      else M.ret (some Fl.nx)).bind fun o => match o with
        | none => iterW t b m
        | some fl => M.ret fl) s1 = some r := by
        unfold M.bind at h2 ⊢
        cases q3 : t s1 with
        | none => rw [q3] at h2; exact h2
        | some o =>
          rw [q3] at h2
          cases o <;> exact h2
      refine rdT.bind_rd c1 (R := fun o => o = some r) (fun z => nomatch z) (fun e s' z => by cases z; exact xWS (σ := σ1) e s' h) h3 fun b1 s2 H2 c2 h4 => ?_
      cases b1 with
      | false =>
        rw [if_neg Bool.false_ne_true] at h4 ⊢
        have h5 : some (Oc.ok Fl.nx s2) = some r := h4
        cases h5
        exact h σ1 H2 c2
      | true =>
        rw [if_pos rfl] at h4 ⊢
        refine ⟨fun σ' H' => ∃ s', Cf X.K C Pn s' σ' H' ∧ iterW t b m s' = some r, fun σ' H' ⟨s', c', h'⟩ => ⟨m, Nat.lt_succ_self m, s', c', h'⟩, ?_⟩
        refine ⟨Pn, s2, c2, ?_⟩
        unfold M.bind at h4
        cases q3 : b s2 with
        | none => rw [q3] at h4; cases h4
        | some o =>
          rw [q3] at h4
          cases o with
          | ex e s' =>
            have h5 : some (Oc.ex e s') = some r := h4
            cases h5
            exact h
          | ok fl s' =>
            cases fl with
            | nx => exact fun σ' H' c' => ⟨s', c', h4⟩
            | ct => exact fun σ' H' c' => ⟨s', c', h4⟩
            | bk =>
              have h5 : some (Oc.ok Fl.nx s') = some r := h4
              cases h5
              exact h
            | rt d =>
              have h5 : some (Oc.ok (Fl.rt d) s') = some r := h4
              cases h5
              exact h
            | rs u =>
              have h5 : some (Oc.ok (Fl.rs u) s') = some r := h4
              cases h5
              exact h
end
end DL
/-! DL8: what is walked, targets, for, comprehensions. -/
namespace DL
open PySem L2
/-! ### targets -/
abbrev G := D → S → Option S
abbrev Gs := List D → S → Option S
def mName (i : Nat) : G := fun d s => some (s.set i (.d d))
def mGNil : Gs := fun ds s => match ds with
  | [] => some s
  | _ => none
def mGCons (g : G) (gs : Gs) : Gs := fun ds s => match ds with
  | [] => none
  | d :: ds => (g d s).bind fun s' => gs ds s'
def mGTup (n : Nat) (gs : Gs) : G := fun d s => match d with
  | .tuple ds => if ds.length = n then gs ds s else none
  | _ => none
def rdG (K : PySem.W.Frag) (C : Conf) (g : G) (is : List Nat) : TG := fun x σ H k => ∃ Pn s d, Cf K C (.dat x d :: Pn) s σ H ∧ ∃ s', g d s = some s' ∧ ∀ σ' H', Cf K C Pn s' σ' H' → (∀ vs, (∀ i ∈ is, i ∈ vs) → wipe σ' vs = wipe σ vs) → k σ' H'
def rdGs (K : PySem.W.Frag) (C : Conf) (g : Gs) (is : List Nat) : TGs := fun xs σ H k => ∃ Pn s ds, xs.length = ds.length ∧ Cf K C (pinsL xs ds ++ Pn) s σ H ∧ ∃ s', g ds s = some s' ∧ ∀ σ' H', Cf K C Pn s' σ' H' → (∀ vs, (∀ i ∈ is, i ∈ vs) → wipe σ' vs = wipe σ vs) → k σ' H'
def DG (C : Conf) (X : Cx) (tg : Expr) (g : G) (is : List Nat) : Prop := PG X tg (rdG X.K C g is)
def DGs (C : Conf) (X : Cx) (tg : List Expr) (g : Gs) (is : List Nat) : Prop := PGs X tg (rdGs X.K C g is)
theorem wipe_set {σ : St} {i : Nat} {x : Option V} : ∀ {vs : List Nat}, i ∈ vs → wipe (σ.set i x) vs = wipe σ vs
  | v :: vs, h => by
    unfold wipe
    by_cases e : v = i
    · subst e
      by_cases m : v ∈ vs
      · rw [wipe_set m]
      · have w : ∀ (us : List Nat), v ∉ us → wipe (σ.set v x) us = (wipe σ us).set v x := by
          intro us
          induction us with
          | nil => intro _; rfl
          | cons u us ih =>
            intro hn
            have h1 : v ≠ u := fun z => hn (by simp [z])
            have h2 : v ∉ us := fun z => hn (List.mem_cons_of_mem _ z)
            unfold wipe
            rw [ih h2, List.set_comm _ _ h1]
        rw [w vs m, List.set_set]
    · rcases List.mem_cons.mp h with z | z
      · exact absurd z.symm e
      · rw [wipe_set z]
section
variable {X : Cx} {C : Conf} {E : XK} {K : PySem.W.Frag} {σ : St} {Pn : List Pin} {s : S} {H : Hp} {pos : Pos}
theorem pg_weak {e : Expr} {t t' : TG} (h : PG X e t) (w : ∀ v σ H Q, t' v σ H Q → t v σ H Q) : PG X e t' := ⟨fun pins s σ H v u Q I r q => h.run pins s σ H v u Q I r (w v σ H Q q)⟩
theorem pgs_weak {e : List Expr} {t t' : TGs} (h : PGs X e t) (w : ∀ v σ H Q, t' v σ H Q → t v σ H Q) : PGs X e t' := ⟨fun pins s σ H v u Q I r q => h.run pins s σ H v u Q I r (w v σ H Q q)⟩
theorem dg_name {i : Nat} {x : Str} (hN : X.N.Nodup) (hi : X.N[i]? = some x) (hx : Loc X.env.scope x) (hf : X.fn x = true ∨ X.env.scope.names.lookup x = some .local := by first | exact .inl rfl | exact .inr rfl | assumption) : DG C X (.Name x pos) (mName i) [i] := by
  refine pg_weak (pg_name hN hi hx hf) fun v σ H Q ⟨Pn, s, d, c, s', e, h⟩ => ?_
  cases e
  exact h _ H (c.setD i) fun vs hv => wipe_set (hv i List.mem_cons_self)
theorem dgs_nil : DGs C X [] mGNil [] := by
  refine pgs_weak pgs_nil fun v σ H Q ⟨Pn, s, ds, hl, c, s', e, h⟩ => ?_
  cases ds with
  | nil => cases e; cases v with
    | nil => exact ⟨rfl, h σ H c fun _ _ => rfl⟩
    | cons _ _ => cases hl
  | cons _ _ => cases e
theorem dgs_cons {e : Expr} {es : List Expr} {g : G} {gs : Gs} {is js : List Nat} (h1 : DG C X e g is) (h2 : DGs C X es gs js) (hs : (assignEach (e :: es) X.env).map (·.2) = assign e X.env :: (assignEach es X.env).map (·.2) := by rfl) : DGs C X (e :: es) (mGCons g gs) (is ++ js) := by
  refine pgs_weak (pgs_cons h1 h2 hs) fun xs σ H Q ⟨Pn, s, ds, hl, c, s', eq, h⟩ => ?_
  match ds, xs, hl, c, eq with
  | [], _, _, _, eq => cases eq
  | d :: ds, x :: xs, hl, c, eq =>
    have eq : ((g d s).bind fun s' => gs ds s') = some s' := eq
    cases q : g d s with
    | none => rw [q] at eq; cases eq
    | some s1 =>
      rw [q] at eq
      refine ⟨x, xs, rfl, pinsL xs ds ++ Pn, s, d, c, s1, q, fun σ1 H1 c1 w1 => ?_⟩
      refine ⟨Pn, s1, ds, by simpa using hl, c1, s', eq, fun σ2 H2 c2 w2 => h σ2 H2 c2 fun vs hv => ?_⟩
      rw [w2 vs fun i hi => hv i (List.mem_append_right _ hi), w1 vs fun i hi => hv i (List.mem_append_left _ hi)]
theorem Cfg.pinsAll {sa : Option (Addr × Addr)} : ∀ {vs : List V} {ds : List D}, Cfg K C sa Pn s σ H → RpAll K (Wr C sa σ s.g Pn) H vs ds → Cfg K C sa (pinsL vs ds ++ Pn) s σ H
  | _, _, c, .nil => c
  | _, _, c, .cons (v := v) (vs := vs) (d := d) (ds := ds) h t => by
    have c1 := Cfg.pinsAll c t
    have w : Wr C sa σ s.g (pinsL vs ds ++ Pn) = Wr C sa σ s.g Pn := by
      have : ∀ (vs : List V) (ds : List D), Wr C sa σ s.g (pinsL vs ds ++ Pn) = Wr C sa σ s.g Pn := by
        intro vs
        induction vs with
        | nil => intro ds; rfl
        | cons v vs ih =>
          intro ds
          cases ds with
          | nil => rfl
          | cons d ds => exact (wr_dat (Pn := pinsL vs ds ++ Pn)).trans (ih ds)
      exact this vs ds
    exact c1.pinD (by rw [w]; exact h)
theorem dg_tup {es : List Expr} {k : Nat} {gs : Gs} {is : List Nat} {n : Nat} (hc : X.calm = true) (h : DGs C X es gs is) (hn : (assignEach es X.env).length = n := by rfl) (hst : (assignEach es X.env).findIdx? (·.1) = none := by rfl) : DG C X (.Tuple es k pos) (mGTup n gs) is := by
  refine pg_weak (pg_tup hc h hn hst) fun v σ H Q ⟨Pn, s, d, ⟨sa, c⟩, s', e, h⟩ => ?_
  cases d with
  | tuple ds =>
    have e : (if ds.length = n then gs ds s else none) = some s' := e
    by_cases hl : ds.length = n
    · rw [if_pos hl] at e
      obtain ⟨a, xs, rfl, q, r⟩ := (c.dat List.mem_cons_self).tupi
      refine ⟨a, xs, rfl, q.sq, by rw [r.length]; exact hl, Pn, s, ds, r.length, ⟨sa, ?_⟩, s', e, h⟩
      exact (Cfg.pinsAll c r).sub (List.Sublist.append (List.Sublist.refl _) (List.sublist_cons_self _ _))
    · rw [if_neg hl] at e
      cases e
  | _ => cases e
/-- target = value -/
def mAsg (f : M D) (g : G) : MS := f.bind fun d s => match g d s with
  | none => none
  | some s' => some (.ok .nx s')
theorem ds_asg {tg e : Expr} {f : M D} {g : G} {is : List Nat} (he : DE C E X e f) (hg : DG C X tg g is) (hs : swapsWithSole [tg] e pos.line X.env = pure false := by rfl) (hw : swappedStores [tg] e X.env = pure none := by rfl)
    (h1 : (assignEach [tg] X.env).map (·.2) = [assign tg X.env] := by rfl) : DS C E X (.Assign [tg] e pos) (mAsg f g) := by
  refine ps_weak (ps_asg he hg hs hw h1) fun D σ H ⟨Pn, s, c, h⟩ => ?_
  refine WE.bind_rd c (R := WS X.K C E Pn D) (fun z => z) xWS h fun d s1 v H1 c1 h1 => ?_
  cases q : g d s1 with
  | none => rw [q] at h1; exact h1.elim
  | some s2 =>
    rw [q] at h1
    exact ⟨Pn, s1, d, c1, s2, q, fun σ' H' c' _ => h1 σ' H' c'⟩
/-! ### what is walked -/
def ItOk (K : PySem.W.Frag) (C : Conf) (J : It) (ds : List D) (A : List Pin) : Prop := ∀ (i : Nat) (Pn : List Pin) (s : S) (σ : St) (H : Hp), (∀ p ∈ A, p ∈ Pn) → Cf K C Pn s σ H →
  (∀ d, ds[i]? = some d → J.go i H ∧ ∀ x H', J.yld i H x H' → Cf K C (.dat x d :: Pn) s σ H') ∧ (ds.length ≤ i → J.stop i H)
def WI (K : PySem.W.Frag) (C : Conf) (E : XK) (σ : St) (Pn : List Pin) (R : It → Hp → Prop) : Option (Oc (List D)) → Prop
  | none => False
  | some (.ok ds s') => ∀ J H' A, Cf K C (A ++ Pn) s' σ H' → ItOk K C J ds A → R J H'
  | some (.ex e s') => ∀ c dc H', Cf K C Pn s' σ H' → C.xr e c dc H' → E c dc H'
def rdI (K : PySem.W.Frag) (C : Conf) (E : XK) (f : M (List D)) : TI := fun σ H R => ∃ Pn s, Cf K C Pn s σ H ∧ WI K C E σ Pn R (f s)
def DI (C : Conf) (E : XK) (X : Cx) (tg iter : Expr) (f : M (List D)) : Prop := PI X tg iter (rdI X.K C E f)
theorem pi_weak {tg iter : Expr} {t t' : TI} (h : PI X tg iter t) (w : ∀ σ H R, t' σ H R → t σ H R) : PI X tg iter t' := ⟨fun pins s σ H R I q => h.run pins s σ H R I (w σ H R q)⟩
theorem pi_or {tg iter : Expr} {t t' : TI} (h : PI X tg iter t) (h' : PI X tg iter t') : PI X tg iter (fun σ H R => t σ H R ∨ t' σ H R) := ⟨fun pins s σ H R I q => q.elim (h.run pins s σ H R I) (h'.run pins s σ H R I)⟩
def seqOf : D → Option (List D)
  | .list ds => some ds
  | .tuple ds => some ds
  | _ => none
def mSeqI (f : M D) : M (List D) := f.bind fun d => M.opt (seqOf d)
theorem it_list {a : Addr} {ds : List D} : ItOk K C (Itl K a) ds [.dat (.ref a) (.list ds)] := by
  intro i Pn s σ H hm ⟨sa, c⟩
  obtain ⟨_, xs, e, q, r⟩ := (c.dat (hm _ List.mem_cons_self)).lsti
  cases e
  refine ⟨fun d hd => ?_, fun hl => ⟨xs, q.sq, by rw [r.length]; exact hl⟩⟩
  obtain ⟨v, hv, rv⟩ := r.get i d hd
  refine ⟨⟨xs, v, q.sq, hv⟩, fun x H' ⟨e, y⟩ => ?_⟩
  subst e
  have := y xs q.sq
  rw [hv] at this
  cases this
  exact ⟨sa, c.pinD rv⟩
theorem it_tup {a : Addr} {ds : List D} : ItOk K C (Itt K a) ds [.dat (.ref a) (.tuple ds)] := by
  intro i Pn s σ H hm ⟨sa, c⟩
  obtain ⟨_, xs, e, q, r⟩ := (c.dat (hm _ List.mem_cons_self)).tupi
  cases e
  refine ⟨fun d hd => ?_, fun hl => ⟨xs, q.sq, by rw [r.length]; exact hl⟩⟩
  obtain ⟨v, hv, rv⟩ := r.get i d hd
  refine ⟨⟨xs, v, q.sq, hv⟩, fun x H' ⟨e, y⟩ => ?_⟩
  subst e
  have := y xs q.sq
  rw [hv] at this
  cases this
  exact ⟨sa, c.pinD rv⟩
theorem xWI {R : It → Hp → Prop} (e : Exn) (s' : S) (h : WI K C E σ Pn R (some (.ex e s'))) : ∀ c dc H', Cf K C Pn s' σ H' → C.xr e c dc H' → E c dc H' := h
theorem WI.opt {o : Option (List D)} {R : It → Hp → Prop} (h : WI K C E σ Pn R (M.opt o s)) : ∃ ds, o = some ds ∧ ∀ J H' A, Cf K C (A ++ Pn) s σ H' → ItOk K C J ds A → R J H' := by
  cases o with
  | none => exact h.elim
  | some d => exact ⟨d, rfl, h⟩
theorem di_seq {tg e : Expr} {f : M D} (he : DE C E X e f) : DI C E X tg e (mSeqI f) := by
  refine pi_weak (pi_or (pi_list he) (pi_tup he)) fun σ H R ⟨Pn, s, c, h⟩ => ?_
  unfold mSeqI M.bind at h
  cases q : f s with
  | none => rw [q] at h; exact h.elim
  | some o =>
    rw [q] at h
    cases o with
    | ex e s' => exact .inl (rd_then c (by rw [q]; exact h))
    | ok d s' =>
      obtain ⟨ds, e1, k⟩ := WI.opt h
      cases d with
      | list xs =>
        cases e1
        refine .inl (rd_then c (by
          rw [q]
          intro v H1 c1
          obtain ⟨sa, c1⟩ := c1
          obtain ⟨a, ys, rfl, g, r⟩ := (c1.dat List.mem_cons_self).lsti
          exact ⟨a, rfl, ⟨ys, g.sq⟩, k _ H1 [.dat (.ref a) (.list ds)] ⟨sa, c1⟩ it_list⟩))
      | tuple xs =>
        cases e1
        refine .inr (rd_then c (by
          rw [q]
          intro v H1 c1
          obtain ⟨sa, c1⟩ := c1
          obtain ⟨a, ys, rfl, g, r⟩ := (c1.dat List.mem_cons_self).tupi
          exact ⟨a, rfl, ⟨ys, g.sq⟩, k _ H1 [.dat (.ref a) (.tuple ds)] ⟨sa, c1⟩ it_tup⟩))
      | _ => cases e1
/-- the ints from lo on, n of them -/
def rangeD (lo : Int) (n : Nat) : List D := (List.range n).map fun (k : Nat) => .int (lo + (k : Int))
theorem rangeD_get {lo : Int} {n i : Nat} {d : D} (h : (rangeD lo n)[i]? = some d) : i < n ∧ d = .int (lo + (i : Int)) := by
  unfold rangeD at h
  rw [List.getElem?_map] at h
  by_cases hi : i < n
  · rw [List.getElem?_range hi] at h
    exact ⟨hi, (Option.some.inj h).symm⟩
  · rw [List.getElem?_eq_none (by simpa using hi)] at h
    cases h
theorem rangeD_length {lo : Int} {n : Nat} : (rangeD lo n).length = n := by simp [rangeD]
theorem it_range {lo : Int} {n : Nat} : ItOk K C (Itr lo n) (rangeD lo n) [] := by
  intro i Pn s σ H _ c
  refine ⟨fun d hd => ?_, fun hl => by rw [rangeD_length] at hl; exact hl⟩
  obtain ⟨hi, rfl⟩ := rangeD_get hd
  refine ⟨hi, fun x H' ⟨e1, e2⟩ => ?_⟩
  subst e1 e2
  exact c.scal fun _ _ => .int _
def gRange1 : List D → Option (List D)
  | [.int j] => if -(2 ^ 62) ≤ j ∧ j < 2 ^ 62 then some (rangeD 0 j.toNat) else none
  | _ => none
def gRange2 : List D → Option (List D)
  | [.int i, .int j] => if -(2 ^ 62) ≤ i ∧ i < 2 ^ 62 ∧ -(2 ^ 62) ≤ j ∧ j < 2 ^ 62 then some (rangeD i (j - i).toNat) else none
  | _ => none
def mRange1 (f : M (List D)) : M (List D) := f.bind fun ds => M.opt (gRange1 ds)
def mRange2 (f : M (List D)) : M (List D) := f.bind fun ds => M.opt (gRange2 ds)
theorem Cf.vals1 {vs : List V} {i : Int} (c : Cf K C (pinsL vs [.int i] ++ Pn) s σ H) (hl : vs.length = 1) : vs = [.int i] := by
  obtain ⟨sa, c⟩ := c
  have r := pinsL_all c hl
  cases r with
  | cons h t =>
    cases t
    rw [h.inti]
theorem Cf.vals2 {vs : List V} {i j : Int} (c : Cf K C (pinsL vs [.int i, .int j] ++ Pn) s σ H) (hl : vs.length = 2) : vs = [.int i, .int j] := by
  obtain ⟨sa, c⟩ := c
  have r := pinsL_all c hl
  cases r with
  | cons h t =>
    cases t with
    | cons h2 t =>
      cases t
      rw [h.inti, h2.inti]
theorem di_range1 {tg a : Expr} {f : M (List D)} {p pos : Pos} (hg : Gl X "range") (hm : X.mg "range" = none) (ha : DA C E X [a] f) (hs : starEach [a] X.env = [(false, eval a X.env)] := by rfl) : DI C E X tg (.Call (.Name "range" p) [a] [] pos) (mRange1 f) := by
  refine pi_weak (pi_range1 hg hm ha hs) fun σ H R ⟨Pn, s, c, h⟩ => ?_
  refine rdA.bind_rd c (R := WI X.K C E σ Pn R) (fun z => z) xWI h fun ds s1 vs H1 hl c1 h1 => ?_
  obtain ⟨xs, e, k⟩ := h1.opt
  unfold gRange1 at e
  split at e
  · split at e
    · rename_i j hj
      cases e
      exact ⟨j, c1.vals1 hl, hj.1, hj.2, k _ H1 [] (c1.sub (List.sublist_append_right _ Pn)) it_range⟩
    · cases e
  · cases e
theorem di_range2 {tg a b : Expr} {f : M (List D)} {p pos : Pos} (hg : Gl X "range") (hm : X.mg "range" = none) (ha : DA C E X [a, b] f) (hs : starEach [a, b] X.env = [(false, eval a X.env), (false, eval b X.env)] := by rfl) (hs2 : starEach [b] X.env = [(false, eval b X.env)] := by rfl) :
    DI C E X tg (.Call (.Name "range" p) [a, b] [] pos) (mRange2 f) := by
  refine pi_weak (pi_range2 hg hm ha hs hs2) fun σ H R ⟨Pn, s, c, h⟩ => ?_
  refine rdA.bind_rd c (R := WI X.K C E σ Pn R) (fun z => z) xWI h fun ds s1 vs H1 hl c1 h1 => ?_
  obtain ⟨xs, e, k⟩ := h1.opt
  unfold gRange2 at e
  split at e
  · split at e
    · rename_i i j hj
      cases e
      exact ⟨i, j, c1.vals2 hl, hj, k _ H1 [] (c1.sub (List.sublist_append_right _ Pn)) it_range⟩
    · cases e
  · cases e
end
/-! ### for -/
def loopF (g : G) (b : MS) : List D → MS
  | [], s => some (.ok .nx s)
  | d :: ds, s => match g d s with
    | none => none
    | some s1 => (b.bind fun fl => match fl with
      | .nx => loopF g b ds
      | .ct => loopF g b ds
      | .bk => M.ret .nx
      | .rt d => M.ret (.rt d)
      | .rs u => M.ret (.rs u)) s1
def mFor (fi : M (List D)) (g : G) (b : MS) : MS := fi.bind fun ds => loopF g b ds
section
variable {X : Cx} {C : Conf} {E : XK} {K : PySem.W.Frag} {σ : St} {Pn : List Pin} {s : S} {H : Hp} {pos : Pos}
theorem ds_for {tg iter : Expr} {body : List Stmt} {fi : M (List D)} {g : G} {is : List Nat} {b : MS} (hp : PassesOwn (model X.prog X.w) X.A X.env X.xe) (hc : X.calm = true) (hi : DI C E X tg iter fi) (hg : DG C X tg g is) (hb : DSs C E X body b)
    (hs : ∀ x, foldedSetIterable iter X.env x = pure x := by intro _; rfl) : DS C E X (.For tg iter body [] pos) (mFor fi g b) := by
  refine ps_weak (ps_for hp hc hi hg hb hs) fun D σ H ⟨Pn, s, c, h⟩ => ?_
  refine ⟨Pn, s, c, ?_⟩
  unfold mFor M.bind at h
  cases q : fi s with
  | none => rw [q] at h; exact h.elim
  | some o =>
    rw [q] at h
    cases o with
    | ex e s' => exact fun c dc H' c' => h c dc σ H' c'
    | ok ds s' =>
      intro J H1 A c1 ok
      have h : WS X.K C E Pn D (loopF g b ds s') := h
      refine ⟨fun i m σ H => m = ds.length - i ∧ i ≤ ds.length ∧ ∃ s, Cf X.K C (A ++ Pn) s σ H ∧ WS X.K C E Pn D (loopF g b (ds.drop i) s), ⟨_, rfl, Nat.zero_le _, s', c1, h⟩, ?_⟩
      rintro i m σ2 H2 ⟨rfl, hi2, s2, c2, h2⟩
      obtain ⟨o1, o2⟩ := ok i (A ++ Pn) s2 σ2 H2 (fun p hp => List.mem_append_left _ hp) c2
      by_cases hlt : i < ds.length
      · have ed : ds.drop i = ds[i] :: ds.drop (i + 1) := List.drop_eq_getElem_cons hlt
        obtain ⟨go, yl⟩ := o1 ds[i] (List.getElem?_eq_getElem hlt)
        rw [ed] at h2
        refine .inr ⟨go, fun σ' H' => ∃ s, Cf X.K C (A ++ Pn) s σ' H' ∧ WS X.K C E Pn D (loopF g b (ds.drop (i + 1)) s), fun σ' H' ⟨s3, c3, h3⟩ => ⟨ds.length - (i + 1), by omega, rfl, hlt, s3, c3, h3⟩, fun x H3 y => ?_⟩
        have h2 : WS X.K C E Pn D (match g ds[i] s2 with
          | none => none
          | some s1 => (b.bind fun fl => match fl with
            | .nx => loopF g b (ds.drop (i + 1))
            | .ct => loopF g b (ds.drop (i + 1))
            | .bk => M.ret .nx
            | .rt d => M.ret (.rt d)
            | .rs u => M.ret (.rs u)) s1) := h2
        cases qg : g ds[i] s2 with
        | none => rw [qg] at h2; exact h2.elim
        | some s3 =>
          rw [qg] at h2
          refine ⟨A ++ Pn, s2, ds[i], yl x H3 y, s3, qg, fun σ4 H4 c4 _ => ?_⟩
          refine ⟨A ++ Pn, s3, c4, ?_⟩
          have h2 : WS X.K C E Pn D ((b.bind fun fl => match fl with
            | .nx => loopF g b (ds.drop (i + 1))
            | .ct => loopF g b (ds.drop (i + 1))
            | .bk => M.ret .nx
            | .rt d => M.ret (.rt d)
            | .rs u => M.ret (.rs u)) s3) := h2
          unfold M.bind at h2
          cases qb : b s3 with
          | none => rw [qb] at h2; exact h2.elim
          | some o =>
            rw [qb] at h2
            cases o with
            | ex e s5 => exact fun c dc σ' H' c' => h2 c dc σ' H' (c'.sub (List.sublist_append_right A Pn))
            | ok fl s5 =>
              cases fl with
              | nx => exact fun σ' H' c' => ⟨s5, c', h2⟩
              | ct => exact fun σ' H' c' => ⟨s5, c', h2⟩
              | bk => exact fun σ' H' c' => h2 σ' H' (c'.sub (List.sublist_append_right A Pn))
              | rt d => exact fun v σ' H' c' => h2 v σ' H' (c'.sub (List.Sublist.cons_cons _ (List.sublist_append_right A Pn)))
              | rs u => exact fun p c σ' H' c' => h2 p c σ' H' (c'.sub (List.Sublist.cons_cons _ (List.Sublist.cons_cons _ (List.sublist_append_right A Pn))))
      · have e : i = ds.length := by omega
        subst e
        rw [List.drop_length] at h2
        exact .inl ⟨o2 (Nat.le_refl _), h2 σ2 H2 (c2.sub (List.sublist_append_right A Pn))⟩
end
end DL
/-! DL9: list comprehensions. -/
namespace DL
open PySem L2
def S.wipe (s : S) : List Nat → S
  | [] => s
  | v :: vs => (s.wipe vs).set v .un
def mYes : M Bool := M.ret true
/-- the turns of a comprehension: what is made so far, the state behind -/
def loopC (own : List Nat) (g : G) (ft : M Bool) (fe : M D) : List D → List D → S → Option (List D × S)
  | [], acc, s => some (acc, s)
  | d :: ds, acc, s => match g d s with
    | none => none
    | some s1 => match ft s1 with
      | some (.ok true s2) => match fe s2 with
        | some (.ok x s3) => if acc.length < sizeLine then loopC own g ft fe ds (acc ++ [x]) (s3.wipe own) else none
        | _ => none
      | some (.ok false s2) => loopC own g ft fe ds acc (s2.wipe own)
      | _ => none
def mLc (own : List Nat) (fi : M (List D)) (g : G) (ft : M Bool) (fe : M D) : M SV := fi.bind fun ds s => match loopC own g ft fe ds [] (s.wipe own) with
  | none => none
  | some (acc, s') => some (.ok (.ol acc) s')
def rdTs (K : PySem.W.Frag) (C : Conf) (E : XK) (f : M Bool) : TT := rdT K C E f
def DTs (C : Conf) (E : XK) (X : Cx) (ifs : List Expr) (f : M Bool) : Prop := PTs X ifs (rdT X.K C E f)
section
variable {X : Cx} {C : Conf} {E : XK} {K : PySem.W.Frag} {σ : St} {Pn : List Pin} {s : S} {H : Hp} {pos : Pos}
theorem dts_nil : DTs C E X [] mYes := by
  have h : PTs X [] tYes := pts_nil
  exact ⟨fun pins s σ H Q I ⟨Pn, u, c, q⟩ => h.run pins s σ H Q I (q H c)⟩
theorem dts_one {c : Expr} {t : M Bool} (h : DT C E X c t) : DTs C E X [c] t := pts_one h
theorem Cfg.wipe {sa : Option (Addr × Addr)} (c : Cfg K C sa Pn s σ H) : ∀ vs : List Nat, Cfg K C sa Pn (s.wipe vs) (L2.wipe σ vs) H
  | [] => c
  | v :: vs => (Cfg.wipe c vs).setU v none
theorem wipe_g (s : S) : ∀ (vs : List Nat) (i : Nat) (sv : SV), (s.wipe vs).g[i]? = some sv → sv = .un ∨ i ∉ vs
  | [], i, sv, h => .inr (by simp)
  | v :: vs, i, sv, h => by
    have h : ((s.wipe vs).g.set v .un)[i]? = some sv := h
    by_cases e : v = i
    · subst e
      rw [List.getElem?_set] at h
      simp only [if_true] at h
      split at h
      · cases h; exact .inl rfl
      · cases h
    · rw [List.getElem?_set_ne e] at h
      rcases wipe_g s vs i sv h with z | z
      · exact .inl z
      · exact .inr (by simp [z]; exact fun w => e w.symm)
/-- slots of which nothing is known may hold anything -/
theorem Cfg.other {sa : Option (Addr × Addr)} {σ' : St} {vs : List Nat} (c : Cfg K C sa Pn s σ H) (hl : σ'.length = σ.length) (he : ∀ i : Nat, i ∉ vs → σ'[i]? = σ[i]?) (hu : ∀ (i : Nat) (sv : SV), s.g[i]? = some sv → sv = .un ∨ i ∉ vs) : Cfg K C sa Pn s σ' H := by
  have own' : ∀ {i a}, Own σ' s.g i a → Own σ s.g i a := fun {i a} ⟨sv, e, o, q⟩ => by
    rcases hu i sv e with z | z
    · rw [z] at o; cases o
    · exact ⟨sv, e, o, by rw [← he i z]; exact q⟩
  refine c.step (s' := s) (by rw [hl]; exact c.len) (fun k i sv e => ?_) (fun k p hp => (c.pin p hp).kept k fun _ _ _ e => e) (fun a ⟨i, o⟩ => .inl ⟨.inl ⟨i, own' o⟩, c.u3 i a (own' o)⟩) (fun a z => .inl ⟨.inr (.inl z), c.u4 a z⟩) (fun _ _ _ e => e)
    (fun i j a o1 o2 => c.u1 i j a (own' o1) (own' o2)) (fun i a o => c.u2 i a (own' o)) c.u5 c.src
  rcases hu i sv e with z | z
  · rw [z]; trivial
  · rw [he i z]
    exact (c.slot i sv e).kept k fun _ _ _ _ q => q
theorem wipe_at (σ : St) : ∀ (vs : List Nat) (i : Nat), i ∉ vs → (L2.wipe σ vs)[i]? = σ[i]?
  | [], i, _ => rfl
  | v :: vs, i, h => by
    have h1 : v ≠ i := fun z => h (by simp [z])
    have h2 : i ∉ vs := fun z => h (List.mem_cons_of_mem _ z)
    unfold L2.wipe
    rw [List.getElem?_set_ne h1, wipe_at σ vs i h2]
theorem Cf.wipe (c : Cf K C Pn s σ H) (vs : List Nat) : Cf K C Pn (s.wipe vs) (L2.wipe σ vs) H := let ⟨sa, c⟩ := c; ⟨sa, c.wipe vs⟩
/-- back out of the block -/
theorem Cf.unwipe {vs : List Nat} {u : S} (c : Cf K C Pn u (L2.wipe σ vs) H) (hu : ∀ (i : Nat) (sv : SV), u.g[i]? = some sv → sv = .un ∨ i ∉ vs) : Cf K C Pn u σ H :=
  let ⟨sa, c⟩ := c; ⟨sa, c.other (wipe_length σ vs).symm (fun i h => (wipe_at σ vs i h).symm) hu⟩
/-- one more item at the end of a list in the hand -/
theorem Cfg.push {sa : Option (Addr × Addr)} {y : V} {d : D} {p : Addr} {ds : List D} (c : Cfg K C sa (.own p (.ol ds) :: .dat y d :: Pn) s σ H) : ∃ xs, H p = some (.lst xs) ∧ xs.length = ds.length ∧ Cfg K C sa (.own p (.ol (ds ++ [d])) :: Pn) s σ (upd H p (.lst (xs ++ [y]))) := by
  obtain ⟨_, a, xs, e, q, r⟩ : true = true ∧ SlotOk K (Wr C sa σ s.g (.own p (.ol ds) :: .dat y d :: Pn)) none H (some (.ref p)) (.ol ds) := c.pin _ List.mem_cons_self
  cases e
  refine ⟨xs, q, r.length, ?_⟩
  have ry : Rp K (Wr C sa σ s.g (.own p (.ol ds) :: .dat y d :: Pn)) H y d := c.pin (.dat y d) (List.mem_cons_of_mem _ List.mem_cons_self)
  have r2 := r.append (.cons ry .nil)
  have c1 : Cfg K C sa (.obj p (.lst xs) :: .dat y d :: Pn) s σ H := c.repin rfl q
  have c2 := c1.put (.lst (xs ++ [y]))
  refine (c2.repin (q := .own p (.ol (ds ++ [d]))) rfl ⟨rfl, p, _, rfl, upd_same, RpAll.kept (fun b o n e => ?_) _ _ r2⟩).sub (List.Sublist.cons_cons _ (List.sublist_cons_self _ _))
  have hw : ∀ b, Wr C sa σ s.g (.obj p (.lst (xs ++ [y])) :: .dat y d :: Pn) b → Wr C sa σ s.g (.own p (.ol ds) :: .dat y d :: Pn) b := fun b w => by
    rcases w with (w | w | w) | w
    · exact .inl (.inl w)
    · exact .inl (.inr (.inl (PO.cons.mpr ((PO.cons.mp w).imp (fun (z : some p = some b) => (z : some p = some b)) id))))
    · exact .inl (.inr (.inr w))
    · exact .inr w
  have ne : b ≠ p := fun z => n (z ▸ .inl (.inr (.inl (PO.cons.mpr (.inl rfl)))))
  exact ⟨fun w => n (hw b w), by rw [upd_ne ne]; exact e⟩
theorem wipe_sub {σ : St} {vs : List Nat} : ∀ us : List Nat, (∀ u ∈ us, u ∈ vs) → L2.wipe (L2.wipe σ us) vs = L2.wipe σ vs
  | [], _ => rfl
  | u :: us, h => by
    show L2.wipe ((L2.wipe σ us).set u none) vs = L2.wipe σ vs
    rw [wipe_set (h u List.mem_cons_self)]
    exact wipe_sub us fun w hw => h w (List.mem_cons_of_mem _ hw)
theorem wipe_wipe {σ : St} {vs : List Nat} : L2.wipe (L2.wipe σ vs) vs = L2.wipe σ vs := wipe_sub vs fun _ h => h
/-- THE COMPREHENSION, in the words of its reading -/
theorem rd_lc {own : List Nat} {fi : M (List D)} {g : G} {is : List Nat} {ft : M Bool} {fe : M D} (ho : ∀ i ∈ is, i ∈ own) {C' : Conf} (hC : C' = { C with xr := fun _ _ _ _ => False }) {σ : St} {H : Hp} {Q : VK} (h : rdF K C E (mLc own fi g ft fe) σ H Q) :
    tLc (rdI K C E fi) (rdG K C g is) (rdT K C E ft) (rd K C E fe) own σ H Q := by
  obtain ⟨Pn, s, c, h⟩ := h
  refine ⟨Pn, s, c, ?_⟩
  unfold mLc M.bind at h
  cases q : fi s with
  | none => rw [q] at h; exact h.elim
  | some o =>
    rw [q] at h
    cases o with
    | ex e s' => exact h
    | ok ds s' =>
      intro J H1 A c1 ok D hD
      cases ql : loopC own g ft fe ds [] (s'.wipe own) with
      | none => dsimp only at h; rw [ql] at h; exact h.elim
      | some z =>
        obtain ⟨accF, sF⟩ := z
        dsimp only at h
        rw [ql] at h
        have h : ∀ a H', Cf K C (.own a (.ol accF) :: Pn) sF σ H' → Q (.ref a) H' := h
        have c2 : Cf K C (.own D (.ol []) :: (A ++ Pn)) (s'.wipe own) (wipe σ own) (upd H1 D (.lst [])) := Cf.newO (A := []) (c1.wipe own) (fun _ _ => .nil) hD
        refine ⟨fun i m H => m = ds.length - i ∧ i ≤ ds.length ∧ ∃ acc s, Cf K C (.own D (.ol acc) :: (A ++ Pn)) s (wipe σ own) H ∧ loopC own g ft fe (ds.drop i) acc s = some (accF, sF) ∧ ∀ (i : Nat) (sv : SV), s.g[i]? = some sv → sv = .un ∨ i ∉ own,
          ⟨_, rfl, Nat.zero_le _, [], _, c2, ql, wipe_g s' own⟩, ?_⟩
        rintro i m H2 ⟨rfl, hi2, acc, s2, c2, h2, u2⟩
        obtain ⟨o1, o2⟩ := ok i _ s2 _ H2 (fun p hp => List.mem_cons_of_mem _ (List.mem_append_left _ hp)) c2
        by_cases hlt : i < ds.length
        · have ed : ds.drop i = ds[i] :: ds.drop (i + 1) := List.drop_eq_getElem_cons hlt
          obtain ⟨go, yl⟩ := o1 ds[i] (List.getElem?_eq_getElem hlt)
          rw [ed] at h2
          unfold loopC at h2
          refine .inr ⟨go, fun H' => ∃ acc s, Cf K C (.own D (.ol acc) :: (A ++ Pn)) s (wipe σ own) H' ∧ loopC own g ft fe (ds.drop (i + 1)) acc s = some (accF, sF) ∧ ∀ (i : Nat) (sv : SV), s.g[i]? = some sv → sv = .un ∨ i ∉ own,
            fun H' ⟨acc, s3, c3, h3, u3⟩ => ⟨ds.length - (i + 1), by omega, rfl, hlt, acc, s3, c3, h3, u3⟩, fun x H3 y => ?_⟩
          cases qg : g ds[i] s2 with
          | none => rw [qg] at h2; cases h2
          | some s3 =>
            rw [qg] at h2
            refine ⟨_, s2, ds[i], yl x H3 y, s3, qg, fun σ4 H4 c4 w4' => ?_⟩
            have w4 : wipe σ4 own = wipe σ own := (w4' own ho).trans wipe_wipe
            refine ⟨w4, ?_⟩
            refine ⟨_, s3, c4, ?_⟩
            dsimp only at h2
            cases qt : ft s3 with
            | none => rw [qt] at h2; cases h2
            | some o =>
              rw [qt] at h2
              cases o with
              | ex e s4 => cases h2
              | ok b s4 =>
                intro H5 c5
                cases b with
                | false =>
                  rw [if_neg Bool.false_ne_true]
                  have c6 := c5.wipe own
                  rw [w4] at c6
                  exact ⟨acc, _, c6, h2, wipe_g s4 own⟩
                | true =>
                  rw [if_pos rfl]
                  refine ⟨_, s4, c5, ?_⟩
                  dsimp only at h2
                  cases qe : fe s4 with
                  | none => rw [qe] at h2; cases h2
                  | some o =>
                    rw [qe] at h2
                    cases o with
                    | ex e s5 => cases h2
                    | ok d s5 =>
                      intro v H6 c6
                      dsimp only at h2
                      by_cases hz : acc.length < sizeLine
                      · rw [if_pos hz] at h2
                        obtain ⟨sa, c6⟩ := c6
                        have c7 : Cfg K C sa (.own D (.ol acc) :: .dat v d :: (A ++ Pn)) s5 σ4 H6 := c6.perm (List.Perm.swap _ _ _)
                        obtain ⟨xs, hx, hl, c8⟩ := c7.push
                        refine ⟨xs, hx, by rw [hl]; exact hz, acc ++ [d], s5.wipe own, ⟨sa, ?_⟩, h2, wipe_g s5 own⟩
                        have c9 := c8.wipe own
                        rw [w4] at c9
                        exact c9
                      · rw [if_neg hz] at h2; cases h2
        · have e : i = ds.length := by omega
          subst e
          rw [List.drop_length] at h2
          unfold loopC at h2
          cases h2
          exact .inl ⟨o2 (Nat.le_refl _), h D H2 ((c2.unwipe u2).sub (List.Sublist.cons_cons _ (List.sublist_append_right A Pn)))⟩
theorem df_lc {elt tg iter : Expr} {ifs : List Expr} {scope : Scope} {own : List (Str × Nat)} {fi : M (List D)} {g : G} {is : List Nat} {ft : M Bool} {fe : M D} (hc : X.calm = true) (hN : X.N.Nodup) (hi : DI C E X tg iter fi) (ok : BlkOk X.N X.env.scope scope own) (ho : ∀ i ∈ is, i ∈ own.map (·.2))
    (hg : ∀ (s : Shared) (H : Hp) (A : Addr) (cl : List (Str × Addr)) (fp : List Addr), DG C (X.blk s H scope (compEnvC scope cl A X.env) fp) tg g is) (ht : ∀ (s : Shared) (H : Hp) (A : Addr) (cl : List (Str × Addr)) (fp : List Addr), DTs C E (X.blk s H scope (compEnvC scope cl A X.env) fp) ifs ft)
    (he : ∀ (s : Shared) (H : Hp) (A : Addr) (cl : List (Str × Addr)) (fp : List Addr), DE C E (X.blk s H scope (compEnvC scope cl A X.env) fp) elt fe) (hs : ∀ x, foldedSetIterable iter X.env x = pure x := by intro _; rfl) :
    DF C E X (.ListComp elt [⟨tg, iter, ifs, 0⟩] scope pos) (mLc (own.map (·.2)) fi g ft fe) :=
  pe_weak (pe_lc (g := rdG X.K C g is) (tt := rdT X.K C E ft) (te := rd X.K C E fe) hc hN hi ok hg ht he hs) fun σ H Q h => rd_lc ho rfl h
/-- name = [..] -/
theorem ds_setLc {i : Nat} {y : Str} {py : Pos} {elt tg iter : Expr} {ifs : List Expr} {scope : Scope} {own : List (Str × Nat)} {spos : Pos} {fi : M (List D)} {g : G} {is : List Nat} {ft : M Bool} {fe : M D} (hc : X.calm = true) (hN : X.N.Nodup) (hy : X.N[i]? = some y) (hyl : X.env.scope.names.lookup y = some .local)
    (hsw : swapsWith (.ListComp elt [⟨tg, iter, ifs, 0⟩] scope pos) (some (.Name y py)) spos.line X.env = pure true) (hi : DI C E X tg iter fi) (ok : BlkOk X.N X.env.scope scope own) (ho : ∀ i ∈ is, i ∈ own.map (·.2))
    (hg : ∀ (s : Shared) (H : Hp) (A : Addr) (cl : List (Str × Addr)) (fp : List Addr), DG C (X.blk s H scope (compEnvC scope cl A X.env) fp) tg g is) (ht : ∀ (s : Shared) (H : Hp) (A : Addr) (cl : List (Str × Addr)) (fp : List Addr), DTs C E (X.blk s H scope (compEnvC scope cl A X.env) fp) ifs ft)
    (he : ∀ (s : Shared) (H : Hp) (A : Addr) (cl : List (Str × Addr)) (fp : List Addr), DE C E (X.blk s H scope (compEnvC scope cl A X.env) fp) elt fe) (hs : ∀ x, foldedSetIterable iter X.env x = pure x := by intro _; rfl) :
    DS C E X (.Assign [.Name y py] (.ListComp elt [⟨tg, iter, ifs, 0⟩] scope pos) spos) (mSetF i (mLc (own.map (·.2)) fi g ft fe)) := by
  refine ps_weak (ps_setLc (g := rdG X.K C g is) (tt := rdT X.K C E ft) (te := rd X.K C E fe) hc hN hy hyl hsw hi ok hg ht he hs) fun D σ H ⟨Pn, s, c, h⟩ => ?_
  refine rd_lc (K := X.K) ho rfl (?_ : rdF X.K C E (mLc (own.map (·.2)) fi g ft fe) σ H fun x H1 => gName i x σ H1 D.nx)
  exact rdF.bind_rd c (R := WS X.K C E Pn D) (fun z => z) xWS h fun d s1 a H1 ⟨sa, c1⟩ h1 => h1 _ H1 ⟨sa, c1.setO i⟩
end
end DL
/-! DL10: a def's promise on data; calls. -/
namespace DL
open PySem L2
inductive Rt where
  | ret (d : D) (s : Option Src)
  | exc (e : Exn) (s : Option Src)
/-- what a def makes of its arguments and the source -/
abbrev Dn := List SV → Option Src → Option Rt
def rtOk (s so : Option Src) (r : Rt) : Option Rt := if so.isSome = s.isSome then some r else none
/-- a def by its body: n slots, m parameters -/
def denOf (n m : Nat) (fb : MS) : Dn := fun svs s => if svs.length = m ∧ svs.all (fun sv => !sv.own) = true then match fb ⟨svs ++ List.replicate (n - m) .un, s⟩ with
    | some (.ok .nx s') => rtOk s s'.s (.ret .none s'.s)
    | some (.ok (.rt d) s') => rtOk s s'.s (.ret d s'.s)
    | some (.ex e s') => rtOk s s'.s (.exc e s'.s)
    | _ => none
  else none
def ArgsOk (K : PySem.W.Frag) (W : Addr → Prop) (sa : Option (Addr × Addr)) (H : Hp) (vs : List V) (svs : List SV) : Prop := vs.length = svs.length ∧ ∀ (i : Nat) (sv : SV), svs[i]? = some sv → SlotOk K W sa H ((vs.map some)[i]?.getD none) sv
def WR (K : PySem.W.Frag) (xr : Exn → Value → Option Addr → Hp → Prop) (sa : Option (Addr × Addr)) (Z : Addr → Prop) (H : Hp) (Q : VK) (E : XK) : Option Rt → Prop
  | none => False
  | some (.ret d s') => ∀ v H', (∀ b o, H b = some o → ¬ SA sa b → H' b = some o) → SrcOk sa H' s' → Rp K (fun a => SA sa a ∨ Z a) H' v d → Q v H'
  | some (.exc e s') => ∀ c dc H', (∀ b o, H b = some o → ¬ SA sa b → H' b = some o) → SrcOk sa H' s' → xr e c dc H' → E c dc H'
/-- THE PROMISE -/
def spD (K : PySem.W.Frag) (xr : Exn → Value → Option Addr → Hp → Prop) (den : Dn) : Sp := fun vs H Q E => ∃ (sa : Option (Addr × Addr)) (Z : Addr → Prop) (svs : List SV) (s : Option Src),
  (∀ a, Z a → ¬ SA sa a ∧ ∃ o, H a = some o) ∧ ArgsOk K (fun a => SA sa a ∨ Z a) sa H vs svs ∧ SrcOk sa H s ∧ WR K xr sa Z H Q E (den svs s)
abbrev noX : Exn → Value → Option Addr → Hp → Prop := fun _ _ _ _ => False
theorem SlotOk.wsub {K : PySem.W.Frag} {W W' : Addr → Prop} {sa : Option (Addr × Addr)} {H : Hp} {o : Option V} {sv : SV} (h : ∀ a, W' a → W a) (k : SlotOk K W sa H o sv) : SlotOk K W' sa H o sv := k.kept (kept_sub h) fun _ _ _ _ e => e
theorem wr0_start {sa : Option (Addr × Addr)} {svs : List SV} {σ : St} {n : Nat} {a : Addr} (ho : svs.all (fun sv => !sv.own) = true) (w : Wr0 sa σ (svs ++ List.replicate n SV.un) [] a) : SA sa a := by
  rcases w with ⟨i, sv, e, o, _⟩ | ⟨p, hp, _⟩ | w
  · exfalso
    have hm : sv ∈ svs ++ List.replicate n SV.un := List.mem_of_getElem? e
    rcases List.mem_append.mp hm with z | z
    · have := List.all_eq_true.mp ho sv z
      rw [o] at this
      cases this
    · rw [List.eq_of_mem_replicate z] at o
      cases o
  · exact absurd hp (by simp)
  · exact w
/-- the state at a def's entry -/
theorem start_cfg {K : PySem.W.Frag} {C : Conf} {svs : List SV} {s : Option Src} {N : List Str} {vs : List V} (ha : ArgsOk K (fun a => SA C.src0 a ∨ C.Z a) C.src0 C.H0 vs svs) (hs : SrcOk C.src0 C.H0 s) (ho : svs.all (fun sv => !sv.own) = true) :
    Cfg K C C.src0 [] ⟨svs ++ List.replicate (N.length - svs.length) .un, s⟩ (L2.start N vs) C.H0 := by
  have hl := ha.1
  have wr : ∀ a, Wr C C.src0 (L2.start N vs) (svs ++ List.replicate (N.length - svs.length) SV.un) [] a → SA C.src0 a ∨ C.Z a := fun a w => w.imp (wr0_start ho) id
  refine ⟨?_, fun i sv e => ?_, fun p hp => absurd hp (by simp), fun i j a o => ?_, fun i a o => ?_, fun i a o => ?_, fun a z => ?_, by simp, hs, fun b o e _ => e, fun a w => .inr (wr0_start ho w), fun q e => e⟩
  · show (L2.start N vs).length = _
    unfold L2.start
    simp only [List.length_append, List.length_map, List.length_replicate]
    rw [hl]
  · by_cases hi : i < svs.length
    · have e' : svs[i]? = some sv := by
        have : (svs ++ List.replicate (N.length - svs.length) SV.un)[i]? = some sv := e
        rw [List.getElem?_append_left hi] at this
        exact this
      have k := ha.2 i sv e'
      have es : (L2.start N vs)[i]? = (vs.map some)[i]? := by
        unfold L2.start
        rw [List.getElem?_append_left (by rw [List.length_map, hl]; exact hi)]
      rw [es]
      exact k.wsub wr
    · have e' : (svs ++ List.replicate (N.length - svs.length) SV.un)[i]? = some sv := e
      rw [List.getElem?_append_right (by omega)] at e'
      have := List.eq_of_mem_replicate (List.mem_of_getElem? e')
      rw [this]
      trivial
  all_goals (try (have w := wr0_start ho (a := a) (σ := L2.start N vs) (sa := C.src0) (n := N.length - svs.length)))
  · obtain ⟨sv, e, o, _⟩ := o
    exfalso
    have hm : sv ∈ svs ++ List.replicate (N.length - svs.length) SV.un := List.mem_of_getElem? e
    rcases List.mem_append.mp hm with z | z
    · have := List.all_eq_true.mp ho sv z
      rw [o] at this
      cases this
    · rw [List.eq_of_mem_replicate z] at o
      cases o
  · intro ⟨p, hp, _⟩
    exact absurd hp (by simp)
  · obtain ⟨sv, e, o, _⟩ := o
    exfalso
    have hm : sv ∈ svs ++ List.replicate (N.length - svs.length) SV.un := List.mem_of_getElem? e
    rcases List.mem_append.mp hm with z | z
    · have := List.all_eq_true.mp ho sv z
      rw [o] at this
      cases this
    · rw [List.eq_of_mem_replicate z] at o
      cases o
  · obtain ⟨p, hp, _⟩ := z
    exact absurd hp (by simp)
section
variable {P : Program} {w : World} {K : PySem.W.Frag} {mg : Str → Option Value} {base : Heap}
/-- THE RULE for a def that raises nothing -/
theorem Fun.okD {x qual : Str} {st : Stmt} {f : Addr} {fd : FuncData} {N ps : List Str} {k : Nat} {fb : MS} (F : Fun K x qual st f fd) (Sc : FnScope N ps (defScope st))
    (hb : ∀ (cdv : Value) (A : Around) (outer : List Env) (s : Shared) (H : Hp) (E : XK) (C : Conf), C.xr = noX → Room k (A.deeper (PyProof.Rows.envOfC qual (defScope st) s.heap.objs.size f cdv)) →
      DSs C E0 (cxOf CX0 P w K mg base N qual (defScope st) f cdv A outer s H E).nox (defBody st) fb) : FnOk P w K mg base CX0 (k + 1) f fd ps (spD K noX (denOf N.length ps.length fb)) := by
  have len : ∀ vs H Q E, spD K noX (denOf N.length ps.length fb) vs H Q E → vs.length = ps.length := fun vs H Q E ⟨sa, Z, svs, s, hz, ha, hs, h⟩ => by
    unfold denOf at h
    split at h
    · rename_i hl
      rw [ha.1, hl.1]
    · exact h.elim
  refine F.ok Sc len fun cdv A outer s H vs Q E hr ⟨sa, Z, svs, so, hz, ha, hs, h⟩ => ?_
  let C : Conf := ⟨H, sa, Z, hz, noX⟩
  refine ⟨_, hb cdv A outer s H E C rfl hr, ?_⟩
  unfold denOf at h
  split at h
  · rename_i hl
    have c0 := start_cfg (C := C) (N := N) ha hs hl.2
    rw [hl.1] at c0
    refine ⟨[], _, ⟨sa, c0⟩, ?_⟩
    -- the end: the source, the frame, the value
    have fin : ∀ {s' : S} {σ' : St} {H' : Hp} {Pn : List Pin} {r : Rt}, Cf K C Pn s' σ' H' → rtOk so s'.s r ≠ none → (∀ b o, H b = some o → ¬ SA sa b → H' b = some o) ∧ SrcOk sa H' s'.s ∧ ∃ sa', sa' = sa ∧ Cfg K C sa' Pn s' σ' H' := by
      intro s' σ' H' Pn r ⟨sa', c'⟩ hn
      have e : sa' = sa := by
        cases e : sa with
        | some q => exact c'.keep q e
        | none =>
          have e1 : so = none := by
            cases so with
            | none => rfl
            | some u => obtain ⟨_, _, z, _⟩ := hs; rw [e] at z; cases z
          have e2 : s'.s = none := by
            unfold rtOk at hn
            rw [e1] at hn
            cases q : s'.s with
            | none => rfl
            | some u => rw [q] at hn; exact absurd rfl hn
          have z := c'.src
          rw [e2] at z
          exact z
      subst e
      exact ⟨c'.frame, c'.src, _, rfl, c'⟩
    cases q : fb ⟨svs ++ List.replicate (N.length - ps.length) .un, so⟩ with
    | none => rw [q] at h; exact h.elim
    | some o =>
      rw [q] at h
      have ok : ∀ {s' : S} {d : D}, WR K noX sa Z H Q E (rtOk so s'.s (.ret d s'.s)) → ∀ {v σ' H'}, Cf K C [.dat v d] s' σ' H' → Q v H' := fun {s' d} h {v σ' H'} c' => by
        have hn : rtOk so s'.s (.ret d s'.s) ≠ none := fun z => by rw [z] at h; exact h
        obtain ⟨f1, f2, _, rfl, c2⟩ := fin c' hn
        have e : rtOk so s'.s (.ret d s'.s) = some (.ret d s'.s) := by
          unfold rtOk at hn ⊢
          split at hn
          · rename_i z; rw [if_pos z]
          · exact absurd rfl hn
        rw [e] at h
        exact h v H' f1 f2 (Rp.kept (kept_sub fun a w => w.imp (fun z => .inr (.inr z)) id) _ _ (c2.dat List.mem_cons_self))
      cases o with
      | ex e s' => exact fun c dc σ' H' _ z => z.elim
      | ok fl s' =>
        cases fl with
        | nx => exact fun σ' H' c' => ok (d := .none) h (c'.scal fun _ _ => .non)
        | rt d => exact fun v σ' H' c' => ok h c'
        | bk => exact h.elim
        | ct => exact h.elim
        | rs u => exact h.elim
  · exact h.elim
end
/-! ### calls -/
def dOf : List D → List SV := List.map SV.d
/-- a call of a def that isn't handed the source -/
def mCall (den : Dn) (fs : M (List D)) : M D := fs.bind fun ds s => match den (dOf ds) none with
  | some (.ret d none) => some (.ok d s)
  | _ => none
/-- a call of a def whose first argument is the source, in slot i -/
def mCallS (den : Dn) (i : Nat) (fs : M (List D)) : M D := fun s => match s.g[i]? with
  | some .src => fs.bind (fun ds s => match s.g[i]? with
    | some .src => match den (.src :: dOf ds) s.s with
      | some (.ret d so) => some (.ok d ⟨s.g, so⟩)
      | _ => none
    | _ => none) s
  | _ => none
section
variable {X : Cx} {C : Conf} {E : XK} {K : PySem.W.Frag} {σ : St} {Pn : List Pin} {s : S} {H : Hp}
theorem args_slots {W : Addr → Prop} {sa : Option (Addr × Addr)} {vs : List V} {ds : List D} (r : RpAll K W H vs ds) : ∀ (i : Nat) (sv : SV), (dOf ds)[i]? = some sv → SlotOk K W sa H ((vs.map some)[i]?.getD none) sv := fun i sv e => by
  unfold dOf at e
  rw [List.getElem?_map] at e
  cases q : ds[i]? with
  | none => rw [q] at e; cases e
  | some d =>
    rw [q] at e
    cases e
    obtain ⟨v, hv, rv⟩ := r.get i d q
    refine ⟨v, ?_, rv⟩
    rw [List.getElem?_map, hv]
    rfl
theorem de_call {CX : CXT} {k : Nat} {f : Addr} {fd : FuncData} {ps : List Str} {den : Dn} {x : Str} {p pos : Pos} {e : Expr} {es : List Expr} {fs : M (List D)} (F : FnOk X.prog X.w X.K X.mg X.base CX k f fd ps (spD X.K noX den)) (hr : Room k X.A) (hg : Gl X x) (hm : X.mg x = some (.ref f))
    (hk : PySem.W.keepIn X.K (.ref f) = true) (hb : Binds X.K fd ps []) (hx : Passes CX X E) (h : DA C E X (e :: es) fs)
    (hdb : (x == ("__debug__" : Str)) = false := by decide) (he : starEach (e :: es) X.env = (false, eval e X.env) :: starEach es X.env := by rfl) (hpl : (backTo pos (starEach es X.env)).any (·.1) = false := by rfl) : DE C E X (.Call (.Name x p) (e :: es) [] pos) (mCall den fs) := by
  refine pe_weak (pe_call F hr hg hm hk hb .nil hx h hdb he hpl) fun σ H Q ⟨Pn, s, c, h⟩ => ?_
  refine rdA.bind_rd c (R := WE X.K C E σ Pn Q) (fun z => z) xWE h fun ds s1 vs H1 hl c1 h1 => ?_
  rw [List.append_nil]
  obtain ⟨sa, c1⟩ := c1
  have ra := pinsL_all c1 hl
  have c2 := c1.sub (List.sublist_append_right _ Pn)
  refine ⟨none, Wr C sa σ s1.g (pinsL vs ds ++ Pn), dOf ds, none, fun a z => ⟨fun ⟨_, _, e, _⟩ => (nomatch e), c1.there z⟩, ⟨by unfold dOf; rw [List.length_map]; exact hl, args_slots (RpAll.kept (kept_sub fun a (z : SA none a ∨ _) => z.elim (fun ⟨_, _, e, _⟩ => (nomatch e)) id) _ _ ra)⟩, rfl, ?_⟩
  cases q : den (dOf ds) none with
  | none => rw [q] at h1; exact h1.elim
  | some r =>
    rw [q] at h1
    cases r with
    | exc e so => exact h1.elim
    | ret d so =>
      cases so with
      | some u => exact h1.elim
      | none =>
        intro v H' fr _ rv
        refine h1 v H' ⟨sa, ?_⟩
        have up : ∀ a o, H1 a = some o → H' a = some o := fun a o e => fr a o e fun ⟨_, _, z, _⟩ => by cases z
        have c3 : Cfg X.K C sa (pinsL vs ds ++ Pn) s1 σ H' := by
          refine c1.step c1.len (fun k i sv e => (c1.slot i sv e).kept k fun _ a u _ q => up a u q) (fun k p hp => (c1.pin p hp).kept k fun a o _ e => up a o e) (fun a ⟨i, o⟩ => .inl ⟨.inl ⟨i, o⟩, c1.u3 i a o⟩) (fun a z => .inl ⟨.inr (.inl z), c1.u4 a z⟩)
            (fun a o _ e => up a o e) c1.u1 c1.u2 c1.u5 (c1.src.kept fun a o _ e => up a o e)
        exact (c3.pinD (Rp.kept (kept_sub fun a z => .inr z) _ _ rv)).sub (List.Sublist.cons_cons _ (List.sublist_append_right _ Pn))
theorem de_callS {CX : CXT} {k : Nat} {f : Addr} {fd : FuncData} {ps : List Str} {den : Dn} {x y : Str} {p p2 pos : Pos} {es : List Expr} {fs : M (List D)} (i : Nat) (F : FnOk X.prog X.w X.K X.mg X.base CX k f fd ps (spD X.K noX den)) (hr : Room k X.A) (hg : Gl X x) (hm : X.mg x = some (.ref f))
    (hk : PySem.W.keepIn X.K (.ref f) = true) (hb : Binds X.K fd ps []) (hx : Passes CX X E) (h : DA C E X es fs) (hN : X.N[i]? = some y := by rfl) (hv : Vis X.env.scope y := by first | exact Or.inl rfl | exact Or.inr (Or.inl rfl) | exact Or.inr (Or.inr rfl)) (hd : (y == ("__debug__" : Str)) = false := by decide)
    (hcd : (y == ("__classdict__" : Str)) = false := by decide) (hdb : (x == ("__debug__" : Str)) = false := by decide) (hs : starEach (.Name y p2 :: es) X.env = (false, eval (.Name y p2) X.env) :: starEach es X.env := by rfl) (hpl : (backTo pos (starEach es X.env)).any (·.1) = false := by rfl) : DE C E X (.Call (.Name x p) (.Name y p2 :: es) [] pos) (mCallS den i fs) := by
  refine pe_weak (pe_call F hr hg hm hk hb .nil hx (pa_cons (pe_var hN hv hd hcd) h hs) hdb hs hpl) fun σ H Q ⟨Pn, s, c, h⟩ => ?_
  unfold mCallS at h
  split at h
  · rename_i q0
    obtain ⟨sa0, c0⟩ := c
    obtain ⟨a0, k0, _, e0⟩ := c0.slot i _ q0
    have e0 := slot_of_getD e0
    refine ⟨.ref a0, e0, ?_⟩
    refine rdA.bind_rd (α := D) ⟨sa0, c0⟩ (R := WE X.K C E σ Pn Q) (fun z => z) xWE h fun ds s1 vs H1 hl c1 h1 => ?_
    split at h1
    · rename_i q1
      rw [List.append_nil]
      obtain ⟨sa, c1⟩ := c1
      obtain ⟨a1, k1, es, e1⟩ := c1.slot i _ q1
      have e1 := slot_of_getD e1
      rw [e0] at e1
      cases e1
      have ra := pinsL_all c1 hl
      have wsub : ∀ a, SA sa a ∨ (Wr C sa σ s1.g (pinsL vs ds ++ Pn) a ∧ ¬ SA sa a) → Wr C sa σ s1.g (pinsL vs ds ++ Pn) a := fun a z => z.elim (fun z => .inl (.inr (.inr z))) (·.1)
      refine ⟨sa, fun a => Wr C sa σ s1.g (pinsL vs ds ++ Pn) a ∧ ¬ SA sa a, .src :: dOf ds, s1.s, fun a z => ⟨z.2, c1.there z.1⟩, ⟨by unfold dOf; simp [hl], fun j sv e => ?_⟩, c1.src, ?_⟩
      · cases j with
        | zero => cases e; exact ⟨a0, k1, es, rfl⟩
        | succ j => exact args_slots (RpAll.kept (kept_sub wsub) _ _ ra) j sv e
      cases q : den (.src :: dOf ds) s1.s with
      | none => rw [q] at h1; exact h1.elim
      | some r =>
        rw [q] at h1
        cases r with
        | exc e so => exact h1.elim
        | ret d so =>
          intro v H' fr hso rv
          refine h1 v H' ⟨sa, ?_⟩
          have up : ∀ a o, ¬ SA sa a → H1 a = some o → H' a = some o := fun a o n e => fr a o e n
          have c3 : Cfg X.K C sa (pinsL vs ds ++ Pn) ⟨s1.g, so⟩ σ H' := by
            refine c1.step (s' := ⟨s1.g, so⟩) c1.len (fun k j sv e => (c1.slot j sv e).kept k fun ho a u e2 q => up a u (fun z => ?_) q) (fun k p hp => (c1.pin p hp).kept k fun a o e2 e => up a o (fun z => c1.u4 a ⟨p, hp, e2⟩ z) e) (fun a ⟨j, o⟩ => .inl ⟨.inl ⟨j, o⟩, c1.u3 j a o⟩) (fun a z => .inl ⟨.inr (.inl z), c1.u4 a z⟩)
              (fun a o n e => up a o (fun z => n (.inr (.inr z))) e) c1.u1 c1.u2 c1.u5 hso
            refine c1.u3 j a ⟨sv, e, ho, slot_of_getD e2⟩ z
          exact (c3.pinD (Rp.kept (kept_sub fun a z => (Classical.em (SA sa a)).elim .inl fun n => .inr ⟨z, n⟩) _ _ rv)).sub (List.Sublist.cons_cons _ (List.sublist_append_right _ Pn))
    · exact h1.elim
  · exact h.elim
end
end DL
/-! DL11: built-in calls on data; one's own lists and dicts. -/
namespace DL
open PySem L2
def asInts : List D → Option (List Int)
  | [] => some []
  | .int i :: ds => (asInts ds).map (i :: ·)
  | _ => none
theorem asInts_is : ∀ {ds : List D} {ns : List Int}, asInts ds = some ns → ds = ns.map .int
  | [], _, h => by cases h; rfl
  | .int i :: ds, ns, h => by
    have h : (asInts ds).map (i :: ·) = some ns := h
    cases q : asInts ds with
    | none => rw [q] at h; cases h
    | some ms => rw [q] at h; cases h; rw [asInts_is q]; rfl
  | .none :: _, _, h => by cases h
  | .bool _ :: _, _, h => by cases h
  | .str _ :: _, _, h => by cases h
  | .list _ :: _, _, h => by cases h
  | .tuple _ :: _, _, h => by cases h
  | .dict _ :: _, _, h => by cases h
theorem asInts_map (ns : List Int) : asInts (ns.map .int) = some ns := by
  induction ns with
  | nil => rfl
  | cons n ns ih => show (asInts (ns.map .int)).map (n :: ·) = _; rw [ih]; rfl
def asBools : List D → Option (List Bool)
  | [] => some []
  | .bool i :: ds => (asBools ds).map (i :: ·)
  | _ => none
theorem asBools_is : ∀ {ds : List D} {ns : List Bool}, asBools ds = some ns → ds = ns.map .bool
  | [], _, h => by cases h; rfl
  | .bool i :: ds, ns, h => by
    have h : (asBools ds).map (i :: ·) = some ns := h
    cases q : asBools ds with
    | none => rw [q] at h; cases h
    | some ms => rw [q] at h; cases h; rw [asBools_is q]; rfl
  | .none :: _, _, h => by cases h
  | .int _ :: _, _, h => by cases h
  | .str _ :: _, _, h => by cases h
  | .list _ :: _, _, h => by cases h
  | .tuple _ :: _, _, h => by cases h
  | .dict _ :: _, _, h => by cases h
theorem asBools_map (ns : List Bool) : asBools (ns.map .bool) = some ns := by
  induction ns with
  | nil => rfl
  | cons n ns ih => show (asBools (ns.map .bool)).map (n :: ·) = _; rw [ih]; rfl
/-! ### sorted ints, the one -/
def insI (x : Int) : List Int → List Int
  | [] => [x]
  | y :: ys => if x ≤ y then x :: y :: ys else y :: insI x ys
def sortI : List Int → List Int
  | [] => []
  | x :: xs => insI x (sortI xs)
theorem insI_perm (x : Int) : ∀ ys, (insI x ys).Perm (x :: ys)
  | [] => .refl _
  | y :: ys => by
    unfold insI
    split
    · exact .refl _
    · exact (List.Perm.cons y (insI_perm x ys)).trans (.swap _ _ _)
theorem sortI_perm : ∀ xs, (sortI xs).Perm xs
  | [] => .refl _
  | x :: xs => (insI_perm x _).trans (List.Perm.cons x (sortI_perm xs))
theorem insI_sorted {x : Int} : ∀ {ys : List Int}, ys.Pairwise (· ≤ ·) → (insI x ys).Pairwise (· ≤ ·)
  | [], _ => by simp [insI]
  | y :: ys, h => by
    unfold insI
    obtain ⟨h1, h2⟩ := List.pairwise_cons.mp h
    split
    · rename_i hx
      exact List.pairwise_cons.mpr ⟨fun z hz => (List.mem_cons.mp hz).elim (fun e => e ▸ hx) fun hz => Int.le_trans hx (h1 z hz), h⟩
    · rename_i hx
      refine List.pairwise_cons.mpr ⟨fun z hz => ?_, insI_sorted h2⟩
      rcases List.mem_cons.mp ((insI_perm x ys).mem_iff.mp hz) with e | hz
      · rw [e]; omega
      · exact h1 z hz
theorem sortI_sorted : ∀ xs, (sortI xs).Pairwise (· ≤ ·)
  | [] => .nil
  | x :: xs => insI_sorted (sortI_sorted xs)
theorem sorted_one : ∀ {xs ys : List Int}, xs.Perm ys → xs.Pairwise (· ≤ ·) → ys.Pairwise (· ≤ ·) → xs = ys
  | [], ys, p, _, _ => (List.nil_perm.mp p).symm
  | x :: xs, [], p, _, _ => absurd p.length_eq (by simp)
  | x :: xs, y :: ys, p, h1, h2 => by
    obtain ⟨a1, a2⟩ := List.pairwise_cons.mp h1
    obtain ⟨b1, b2⟩ := List.pairwise_cons.mp h2
    have hx : y ≤ x := by
      rcases List.mem_cons.mp (p.mem_iff.mp List.mem_cons_self) with e | e
      · omega
      · exact b1 x e
    have hy : x ≤ y := by
      rcases List.mem_cons.mp (p.mem_iff.mpr List.mem_cons_self) with e | e
      · omega
      · exact a1 y e
    have e : x = y := by omega
    subst e
    rw [sorted_one (List.Perm.cons_inv p) a2 b2]
theorem sortI_is {xs ys : List Int} (p : ys.Perm xs) (h : ys.Pairwise (· ≤ ·)) : ys = sortI xs := sorted_one (p.trans (sortI_perm xs).symm) h (sortI_sorted xs)
def minI : Int → List Int → Int
  | x, [] => x
  | x, y :: ys => minI (if y < x then y else x) ys
theorem minI_le : ∀ (ys : List Int) (x : Int), minI x ys ≤ x ∧ ∀ y ∈ ys, minI x ys ≤ y
  | [], x => ⟨Int.le_refl _, fun y h => by cases h⟩
  | z :: ys, x => by
    obtain ⟨h1, h2⟩ := minI_le ys (if z < x then z else x)
    unfold minI
    refine ⟨?_, fun y hy => ?_⟩
    · split at h1 <;> split <;> omega
    · rcases List.mem_cons.mp hy with e | hy
      · rw [e]; split at h1 <;> split <;> omega
      · exact h2 y hy
theorem minI_mem : ∀ (ys : List Int) (x : Int), minI x ys ∈ x :: ys
  | [], x => by simp [minI]
  | z :: ys, x => by
    unfold minI
    have h := minI_mem ys (if z < x then z else x)
    rcases List.mem_cons.mp h with e | h
    · rw [e]; split <;> simp
    · simp [h]
theorem minI_is {x m : Int} {xs : List Int} (hm : m ∈ x :: xs) (h : ∀ y, y ∈ x :: xs → m ≤ y) : m = minI x xs := by
  have h1 := h _ (minI_mem xs x)
  obtain ⟨h2, h3⟩ := minI_le xs x
  rcases List.mem_cons.mp hm with e | e
  · omega
  · have := h3 m e; omega
def maxI : Int → List Int → Int
  | x, [] => x
  | x, y :: ys => maxI (if x < y then y else x) ys
theorem maxI_le : ∀ (ys : List Int) (x : Int), x ≤ maxI x ys ∧ ∀ y ∈ ys, y ≤ maxI x ys
  | [], x => ⟨Int.le_refl _, fun y h => by cases h⟩
  | z :: ys, x => by
    obtain ⟨h1, h2⟩ := maxI_le ys (if x < z then z else x)
    unfold maxI
    refine ⟨?_, fun y hy => ?_⟩
    · split at h1 <;> split <;> omega
    · rcases List.mem_cons.mp hy with e | hy
      · rw [e]; split at h1 <;> split <;> omega
      · exact h2 y hy
theorem maxI_mem : ∀ (ys : List Int) (x : Int), maxI x ys ∈ x :: ys
  | [], x => by simp [maxI]
  | z :: ys, x => by
    unfold maxI
    have h := maxI_mem ys (if x < z then z else x)
    rcases List.mem_cons.mp h with e | h
    · rw [e]; split <;> simp
    · simp [h]
theorem maxI_is {x m : Int} {xs : List Int} (hm : m ∈ x :: xs) (h : ∀ y, y ∈ x :: xs → y ≤ m) : m = maxI x xs := by
  have h1 := h _ (maxI_mem xs x)
  obtain ⟨h2, h3⟩ := maxI_le xs x
  rcases List.mem_cons.mp hm with e | e
  · omega
  · have := h3 m e; omega
/-! ### built-ins by values -/
def gInt : List D → Option D
  | [.int i] => some (.int i)
  | [.bool b] => some (.int (if b then 1 else 0))
  | _ => none
def gAbs : List D → Option D
  | [.int i] => some (.int (if i < 0 then -i else i))
  | _ => none
def gLen : List D → Option D
  | [.list ds] => some (.int ds.length)
  | [.tuple ds] => some (.int ds.length)
  | [.str z] => if z.length ≤ sizeLine then some (.int z.length) else none
  | _ => none
def gSum : List D → Option D
  | [.list ds] => (asInts ds).map fun ns => .int ns.sum
  | _ => none
def gMinL : List D → Option D
  | [.list ds] => match asInts ds with
    | some (n :: ns) => some (.int (minI n ns))
    | _ => none
  | _ => none
def gMaxL : List D → Option D
  | [.list ds] => match asInts ds with
    | some (n :: ns) => some (.int (maxI n ns))
    | _ => none
  | _ => none
def gMin2 : List D → Option D
  | [.int i, .int j] => some (.int (if j < i then j else i))
  | _ => none
def gMax2 : List D → Option D
  | [.int i, .int j] => some (.int (if j > i then j else i))
  | _ => none
def gTuple : List D → Option D
  | [.list ds] => some (.tuple ds)
  | [.tuple ds] => some (.tuple ds)
  | _ => none
def gAll : List D → Option D
  | [.list ds] => (asBools ds).map fun ns => .bool (ns.all id)
  | _ => none
def gAny : List D → Option D
  | [.list ds] => (asBools ds).map fun ns => .bool (ns.any id)
  | _ => none
def gSortedI : List D → Option (List D)
  | [.list ds] => (asInts ds).map fun ns => (sortI ns).map .int
  | _ => none
def gListOf : List D → Option (List D)
  | [.list ds] => some ds
  | [.tuple ds] => some ds
  | _ => none
section
variable {K : PySem.W.Frag} {C : Conf} {Pn : List Pin} {s : S} {σ : St} {H : Hp} {X : Cx} {E : XK}
theorem Cf.arg1 {vs : List V} {d : D} (c : Cf K C (pinsL vs [d] ++ Pn) s σ H) (hl : vs.length = 1) : ∃ v sa, vs = [v] ∧ Cfg K C sa (.dat v d :: Pn) s σ H ∧ Rp K (Wr C sa σ s.g (.dat v d :: Pn)) H v d := by
  match vs, hl with
  | [v], _ =>
    obtain ⟨sa, c⟩ := c
    exact ⟨v, sa, rfl, c, Cfg.dat (v := v) (d := d) c List.mem_cons_self⟩
theorem r_int1 : OpNR K (fun xs H Q => (∃ i, xs = [.int i] ∧ Q (.int i) H) ∨ ∃ k, xs = [.bl k] ∧ Q (.int (if k then 1 else 0)) H) gInt := by
  intro C Pn s σ H vs ds dz Q c hl e q
  unfold gInt at e
  split at e
  · cases e
    exact .inl ⟨_, c.vals1 hl, q _ _ (c.res fun _ _ => .int _)⟩
  · cases e
    obtain ⟨v, sa, rfl, c', r⟩ := c.arg1 hl
    exact .inr ⟨_, by rw [r.bli], q _ _ (c.res fun _ _ => .int _)⟩
  · cases e
theorem r_abs : OpNR K (fun xs H Q => ∃ i, xs = [.int i] ∧ Q (.int (if i < 0 then -i else i)) H) gAbs := by
  intro C Pn s σ H vs ds dz Q c hl e q
  unfold gAbs at e
  split at e
  · cases e
    exact ⟨_, c.vals1 hl, q _ _ (c.res fun _ _ => .int _)⟩
  · cases e
theorem r_len : OpNR K (fun xs H Q => ∃ x n, xs = [x] ∧ LenV K x H n ∧ Q (.int n) H) gLen := by
  intro C Pn s σ H vs ds dz Q c hl e q
  unfold gLen at e
  split at e
  · cases e
    obtain ⟨v, sa, rfl, c', r⟩ := c.arg1 hl
    obtain ⟨a, xs, rfl, g, r'⟩ := r.lsti
    refine ⟨_, _, rfl, .inl ⟨xs, g.sq, r'.length.symm⟩, q _ _ (c.res fun _ _ => .int _)⟩
  · cases e
    obtain ⟨v, sa, rfl, c', r⟩ := c.arg1 hl
    obtain ⟨a, xs, rfl, g, r'⟩ := r.tupi
    refine ⟨_, _, rfl, .inr ⟨xs, g.sq, r'.length.symm⟩, q _ _ (c.res fun _ _ => .int _)⟩
  · split at e
    · rename_i z hz
      cases e
      obtain ⟨v, sa, rfl, c', r⟩ := c.arg1 hl
      rw [r.stri]
      exact ⟨_, _, rfl, ⟨hz, rfl⟩, q _ _ (c.res fun _ _ => .int _)⟩
    · cases e
  · cases e
theorem r_sum : OpNR K (rSum K) gSum := by
  intro C Pn s σ H vs ds dz Q c hl e q
  unfold gSum at e
  split at e
  · rename_i xs
    cases ei : asInts xs with
    | none => rw [ei] at e; cases e
    | some ns =>
      rw [ei] at e
      cases e
      obtain ⟨v, sa, rfl, c', r⟩ := c.arg1 hl
      obtain ⟨a, ys, rfl, g, r'⟩ := r.lsti
      rw [asInts_is ei] at r'
      rw [r'.ints] at g
      exact ⟨a, ns, rfl, g.sq, q _ _ (c.res fun _ _ => .int _)⟩
  · cases e
theorem r_minL : OpNR K (rMin K) gMinL := by
  intro C Pn s σ H vs ds dz Q c hl e q
  unfold gMinL at e
  split at e
  · rename_i xs
    split at e
    · rename_i n ns ei
      cases e
      obtain ⟨v, sa, rfl, c', r⟩ := c.arg1 hl
      obtain ⟨a, ys, rfl, g, r'⟩ := r.lsti
      rw [asInts_is ei] at r'
      rw [r'.ints] at g
      refine ⟨a, n :: ns, rfl, g.sq, Nat.zero_lt_succ _, fun m hm h => ?_⟩
      rw [minI_is hm h]
      exact q _ _ (c.res fun _ _ => .int _)
    · cases e
  · cases e
theorem r_maxL : OpNR K (rMax K) gMaxL := by
  intro C Pn s σ H vs ds dz Q c hl e q
  unfold gMaxL at e
  split at e
  · rename_i xs
    split at e
    · rename_i n ns ei
      cases e
      obtain ⟨v, sa, rfl, c', r⟩ := c.arg1 hl
      obtain ⟨a, ys, rfl, g, r'⟩ := r.lsti
      rw [asInts_is ei] at r'
      rw [r'.ints] at g
      refine ⟨a, n :: ns, rfl, g.sq, Nat.zero_lt_succ _, fun m hm h => ?_⟩
      rw [maxI_is hm h]
      exact q _ _ (c.res fun _ _ => .int _)
    · cases e
  · cases e
theorem r_min2 : OpNR K (fun xs H Q => ∃ i j, xs = [.int i, .int j] ∧ Q (.int (if j < i then j else i)) H) gMin2 := by
  intro C Pn s σ H vs ds dz Q c hl e q
  unfold gMin2 at e
  split at e
  · cases e
    exact ⟨_, _, c.vals2 hl, q _ _ (c.res fun _ _ => .int _)⟩
  · cases e
theorem r_max2 : OpNR K (fun xs H Q => ∃ i j, xs = [.int i, .int j] ∧ Q (.int (if j > i then j else i)) H) gMax2 := by
  intro C Pn s σ H vs ds dz Q c hl e q
  unfold gMax2 at e
  split at e
  · cases e
    exact ⟨_, _, c.vals2 hl, q _ _ (c.res fun _ _ => .int _)⟩
  · cases e
theorem r_tuple : OpNR K (rTupleN K) gTuple := by
  intro C Pn s σ H vs ds dz Q c hl e q
  unfold gTuple at e
  split at e
  · rename_i xs
    cases e
    obtain ⟨v, sa, rfl, c', r⟩ := c.arg1 hl
    obtain ⟨a, ys, rfl, g, r'⟩ := r.lsti
    exact ⟨a, ys, rfl, .inl ⟨g.sq, fun l ob hd hl' => q _ _ ⟨sa, Cfg.newT (A := [.dat (.ref a) (.list xs)]) c' r' hd hl'⟩⟩⟩
  · rename_i xs
    cases e
    obtain ⟨v, sa, rfl, c', r⟩ := c.arg1 hl
    obtain ⟨a, ys, rfl, g, r'⟩ := r.tupi
    exact ⟨a, ys, rfl, .inr ⟨g.sq, q _ _ ⟨sa, c'⟩⟩⟩
  · cases e
theorem r_all : OpNR K (rAll K) gAll := by
  intro C Pn s σ H vs ds dz Q c hl e q
  unfold gAll at e
  split at e
  · rename_i xs
    cases ei : asBools xs with
    | none => rw [ei] at e; cases e
    | some ns =>
      rw [ei] at e
      cases e
      obtain ⟨v, sa, rfl, c', r⟩ := c.arg1 hl
      obtain ⟨a, ys, rfl, g, r'⟩ := r.lsti
      rw [asBools_is ei] at r'
      rw [r'.bls] at g
      exact ⟨a, ns, rfl, g.sq, q _ _ (c.res fun _ _ => .bl _)⟩
  · cases e
theorem r_any : OpNR K (rAny K) gAny := by
  intro C Pn s σ H vs ds dz Q c hl e q
  unfold gAny at e
  split at e
  · rename_i xs
    cases ei : asBools xs with
    | none => rw [ei] at e; cases e
    | some ns =>
      rw [ei] at e
      cases e
      obtain ⟨v, sa, rfl, c', r⟩ := c.arg1 hl
      obtain ⟨a, ys, rfl, g, r'⟩ := r.lsti
      rw [asBools_is ei] at r'
      rw [r'.bls] at g
      exact ⟨a, ns, rfl, g.sq, q _ _ (c.res fun _ _ => .bl _)⟩
  · cases e
variable {x : Str} {p pos : Pos} {e : Expr} {es : List Expr} {fs : M (List D)} {id T : String}
theorem de_callB {r : List V → Hp → VK → Prop} {g : List D → Option D} (hc : CallR X (.builtin id) r) (hg : OpNR X.K r g) (hl : Gl X x) (hm : X.mg x = none) (hv : bootBuiltins x = some (.builtin id)) (h : DA C E X (e :: es) fs) (hn : x ≠ "__name__" := by decide) (hdb : (x == ("__debug__" : Str)) = false := by decide)
    (he : starEach (e :: es) X.env = (false, eval e X.env) :: starEach es X.env := by rfl) (hpl : (backTo pos (starEach es X.env)).any (·.1) = false := by rfl) : DE C E X (.Call (.Name x p) (e :: es) [] pos) (mArgs g fs) :=
  pe_weak (pe_callB hc hl hm hv h hn hdb he hpl) (rd_args hg)
theorem de_callTy {r : List V → Hp → VK → Prop} {g : List D → Option D} (hc : CallR X (.type T) r) (hg : OpNR X.K r g) (hl : Gl X x) (hm : X.mg x = none) (hv : bootBuiltins x = some (.type T)) (h : DA C E X (e :: es) fs) (hn : x ≠ "__name__" := by decide) (hdb : (x == ("__debug__" : Str)) = false := by decide)
    (he : starEach (e :: es) X.env = (false, eval e X.env) :: starEach es X.env := by rfl) (hpl : (backTo pos (starEach es X.env)).any (·.1) = false := by rfl) : DE C E X (.Call (.Name x p) (e :: es) [] pos) (mArgs g fs) :=
  pe_weak (pe_callTy hc hl hm hv h hn hdb he hpl) (rd_args hg)
/-- a new list of one's own out of a call -/
def mArgsF (g : List D → Option (List D)) (fs : M (List D)) : M SV := fs.bind fun xs => M.opt ((g xs).map .ol)
theorem df_listOf (hl : Gl X "list") (hm : X.mg "list" = none) (h : DA C E X (e :: es) fs) (he : starEach (e :: es) X.env = (false, eval e X.env) :: starEach es X.env := by rfl) (hpl : (backTo pos (starEach es X.env)).any (·.1) = false := by rfl) :
    DF C E X (.Call (.Name "list" p) (e :: es) [] pos) (mArgsF gListOf fs) := by
  refine pe_weak (pe_callTy call_list_of hl hm (by decide +kernel) h (by decide) (by decide) he hpl) fun σ H Q ⟨Pn, s, c, h⟩ => ?_
  refine rdA.bind_rd c (R := WF X.K C E σ Pn Q) (fun z => z) (fun e s' h => h) h fun ds s1 vs H1 hl c1 h1 => ?_
  cases q : gListOf ds with
  | none => rw [q] at h1; exact h1.elim
  | some zs =>
    rw [q] at h1
    have h1 : ∀ a H', Cf X.K C (.own a (.ol zs) :: Pn) s1 σ H' → Q (.ref a) H' := h1
    unfold gListOf at q
    split at q
    · rename_i xs
      cases q
      obtain ⟨v, sa, rfl, c', r⟩ := c1.arg1 hl
      obtain ⟨a, ys, rfl, g, r'⟩ := r.lsti
      exact ⟨a, ys, rfl, .inl g.sq, fun l hl' => h1 l _ ⟨sa, Cfg.newO (A := [.dat (.ref a) (.list _)]) c' r' hl'⟩⟩
    · rename_i xs
      cases q
      obtain ⟨v, sa, rfl, c', r⟩ := c1.arg1 hl
      obtain ⟨a, ys, rfl, g, r'⟩ := r.tupi
      exact ⟨a, ys, rfl, .inr g.sq, fun l hl' => h1 l _ ⟨sa, Cfg.newO (A := [.dat (.ref a) (.tuple _)]) c' r' hl'⟩⟩
    · cases q
theorem df_sortedI (hl : Gl X "sorted") (hm : X.mg "sorted" = none) (h : DA C E X (e :: es) fs) (he : starEach (e :: es) X.env = (false, eval e X.env) :: starEach es X.env := by rfl) (hpl : (backTo pos (starEach es X.env)).any (·.1) = false := by rfl) :
    DF C E X (.Call (.Name "sorted" p) (e :: es) [] pos) (mArgsF gSortedI fs) := by
  refine pe_weak (pe_callB cr_sortedI hl hm (by decide +kernel) h (by decide) (by decide) he hpl) fun σ H Q ⟨Pn, s, c, h⟩ => ?_
  refine rdA.bind_rd c (R := WF X.K C E σ Pn Q) (fun z => z) (fun e s' h => h) h fun ds s1 vs H1 hl c1 h1 => ?_
  unfold gSortedI at h1
  split at h1
  · rename_i xs
    cases ei : asInts xs with
    | none => rw [ei] at h1; exact h1.elim
    | some ns =>
      rw [ei] at h1
      have h1 : ∀ a H', Cf X.K C (.own a (.ol ((sortI ns).map .int)) :: Pn) s1 σ H' → Q (.ref a) H' := h1
      obtain ⟨v, sa, rfl, c', r⟩ := c1.arg1 hl
      obtain ⟨a, ys, rfl, g, r'⟩ := r.lsti
      rw [asInts_is ei] at r'
      rw [r'.ints] at g
      refine ⟨a, ns, rfl, g.sq, fun ms p hp hs hn => ?_⟩
      rw [sortI_is hp hs]
      exact h1 p _ ⟨sa, Cfg.newO (A := [.dat (.ref a) (.list _)]) c' (RpAll.ofInts _) hn⟩
  · exact h1.elim
end
end DL
/-! DL12: one's own lists and dicts: append, items stored, get, put, walked. -/
namespace DL
open PySem L2
section
variable {κ : Type} [DecidableEq κ]
def valD (kvs : List (κ × D)) (k : κ) : Option D := (kvs.find? fun kv => decide (kv.1 = k)).map (·.2)
def putD (kvs : List (κ × D)) (k : κ) (v : D) : List (κ × D) :=
  if (kvs.any fun kv => decide (kv.1 = k)) = true then kvs.map (fun kv => if kv.1 = k then (kv.1, v) else kv) else kvs ++ [(k, v)]
variable {K : PySem.W.Frag} {W : Addr → Prop} {H : Hp} {xs : List (κ × V)} {ds : List (κ × D)}
theorem KvAll.keys (h : KvAll K W H xs ds) : xs.map (·.1) = ds.map (·.1) := by
  unfold KvAll at h
  induction h with
  | nil => rfl
  | cons r t ih => rw [List.map_cons, List.map_cons, r.1, ih]
theorem KvAll.length (h : KvAll K W H xs ds) : xs.length = ds.length := Paired.length h
theorem KvAll.val (h : KvAll K W H xs ds) (k : κ) : (∀ d, valD ds k = some d → ∃ v, valV xs k = some v ∧ Rp K W H v d) ∧ (valD ds k = none → valV xs k = none) := by
  unfold KvAll at h
  induction h with
  | nil => exact ⟨fun d e => (nomatch e), fun _ => rfl⟩
  | cons r t ih =>
    rename_i p q l1 l2
    by_cases e : q.1 = k
    · have e' : p.1 = k := r.1.trans e
      refine ⟨fun d h => ⟨p.2, valV_pos e', ?_⟩, fun h => ?_⟩
      · have : valD (q :: l2) k = some q.2 := by simp [valD, List.find?_cons, e]
        rw [this] at h
        cases h
        exact r.2
      · have : valD (q :: l2) k = some q.2 := by simp [valD, List.find?_cons, e]
        rw [this] at h
        cases h
    · have e' : ¬ p.1 = k := fun z => e (r.1.symm.trans z)
      have : valD (q :: l2) k = valD l2 k := by simp [valD, List.find?_cons, e]
      rw [this, valV_neg e']
      exact ih
theorem KvAll.any (h : KvAll K W H xs ds) (k : κ) : (xs.any fun kv => decide (kv.1 = k)) = (ds.any fun kv => decide (kv.1 = k)) := by
  unfold KvAll at h
  induction h with
  | nil => rfl
  | cons r t ih => rw [List.any_cons, List.any_cons, ih, r.1]
theorem KvAll.repl (h : KvAll K W H xs ds) (k : κ) {v : V} {d : D} (r : Rp K W H v d) : KvAll K W H (xs.map fun kv => if kv.1 = k then (kv.1, v) else kv) (ds.map fun kv => if kv.1 = k then (kv.1, d) else kv) := by
  unfold KvAll at h ⊢
  induction h with
  | nil => exact .nil
  | cons q t ih =>
    rename_i a b l1 l2
    rw [List.map_cons, List.map_cons]
    refine .cons ?_ ih
    rw [q.1]
    split
    · exact ⟨rfl, r⟩
    · exact q
theorem KvAll.snoc (h : KvAll K W H xs ds) (k : κ) {v : V} {d : D} (r : Rp K W H v d) : KvAll K W H (xs ++ [(k, v)]) (ds ++ [(k, d)]) := by
  unfold KvAll at h ⊢
  induction h with
  | nil => exact .cons ⟨rfl, r⟩ .nil
  | cons q t ih => exact .cons q ih
theorem KvAll.put (h : KvAll K W H xs ds) (k : κ) {v : V} {d : D} (r : Rp K W H v d) : KvAll K W H (putK xs k v) (putD ds k d) := by
  unfold putK putD
  rw [h.any k]
  split
  · exact h.repl k r
  · exact h.snoc k r
end
def keyOf : D → Option Key
  | .int i => some (.inl i)
  | .str x => some (.inr x)
  | _ => none
theorem keyOf_is {K : PySem.W.Frag} {W : Addr → Prop} {H : Hp} {v : V} {d : D} {k : Key} (h : keyOf d = some k) (r : Rp K W H v d) : v = kV k := by
  unfold keyOf at h
  split at h
  · cases h; exact r.inti
  · cases h; exact r.stri
  · cases h
/-- a dict's pairs as data, and back -/
def kvD (kv : Key × D) : D × D := (keyD kv.1, kv.2)
def keysOf : List (D × D) → Option (List (Key × D))
  | [] => some []
  | (k, v) :: r => match keyOf k, keysOf r with
    | some k, some r => some ((k, v) :: r)
    | _, _ => none
theorem keyOf_keyD (k : Key) : keyOf (keyD k) = some k := by cases k <;> rfl
theorem keysOf_kvD : ∀ kvs : List (Key × D), keysOf (kvs.map kvD) = some kvs
  | [] => rfl
  | (k, v) :: r => by
    show (match keyOf (keyD k), keysOf (r.map kvD) with | some k, some r => some ((k, v) :: r) | _, _ => none) = _
    rw [keyOf_keyD, keysOf_kvD r]
theorem rpKv_all {K : PySem.W.Frag} {W : Addr → Prop} {H : Hp} : ∀ {xs : List (Key × V)} {ds : List (D × D)} {kvs : List (Key × D)}, RpKv K W H xs ds → keysOf ds = some kvs → KvAll K W H xs kvs
  | _, _, _, .nil, h => by cases h; exact .nil
  | _, _, kvs, .cons (k := k) (d := d) (ds := ds) r t, h => by
    have h : (match keyOf (keyD k), keysOf ds with | some k, some r => some ((k, d) :: r) | _, _ => none) = some kvs := h
    rw [keyOf_keyD] at h
    cases q : keysOf ds with
    | none => rw [q] at h; cases h
    | some r' =>
      rw [q] at h
      cases h
      exact .cons ⟨rfl, r⟩ (rpKv_all t q)
theorem all_rpKv {K : PySem.W.Frag} {W : Addr → Prop} {H : Hp} : ∀ {xs : List (Key × V)} {kvs : List (Key × D)}, KvAll K W H xs kvs → RpKv K W H xs (kvs.map kvD)
  | _, _, .nil => .nil
  | _, _, .cons (a := (k1, v)) (b := (k2, d)) r t => by
    have e : k1 = k2 := r.1
    subst e
    exact .cons r.2 (all_rpKv t)
/-- a dict in a slot, one's own or data -/
def dictAt (g : List SV) (i : Nat) : Option (List (Key × D)) := match g[i]? with
  | some (.oK kvs) => some kvs
  | some (.d (.dict ds)) => keysOf ds
  | _ => none
section
variable {X : Cx} {C : Conf} {E : XK} {K : PySem.W.Frag} {σ : St} {Pn : List Pin} {s : S} {H : Hp} {sa : Option (Addr × Addr)} {pos apos cpos : Pos}
theorem Cfg.dictAt (c : Cfg K C sa Pn s σ H) {i : Nat} {kvs : List (Key × D)} (h : DL.dictAt s.g i = some kvs) : ∃ a xs, σ[i]? = some (some (.ref a)) ∧ Rd H a (.dK xs) ∧ KvAll K (Wr C sa σ s.g Pn) H xs kvs := by
  unfold DL.dictAt at h
  split at h
  · rename_i kv q
    cases h
    obtain ⟨a, xs, e, q', r⟩ := c.slot i _ q
    exact ⟨a, xs, slot_of_getD e, .inl q', r⟩
  · rename_i ds q
    obtain ⟨v, e, r⟩ := c.slot i _ q
    cases r with
    | dct g r => exact ⟨_, _, slot_of_getD e, g.1, rpKv_all r h⟩
  · cases h
/-- d[k] -/
def mDGet (i : Nat) (fk : M D) : M D := fun s => match dictAt s.g i with
  | some _ => fk.bind (fun k s => match dictAt s.g i with
    | some kvs => M.opt ((keyOf k).bind fun k => valD kvs k) s
    | none => none) s
  | none => none
/-- d.get(k, x) -/
def mDGetOr (i : Nat) (fk fx : M D) : M D := fun s => match dictAt s.g i with
  | some _ => fk.bind (fun k => fx.bind fun x s => match dictAt s.g i with
    | some kvs => M.opt ((keyOf k).map fun k => (valD kvs k).getD x) s
    | none => none) s
  | none => none
theorem de_dget (i : Nat) {x : Str} {b : Expr} {fb : M D} {p pos : Pos} (hu : X.A.units + 1 < cLine) (hs : NoSl b) (hb : DE C E X b fb) (hN : X.N[i]? = some x := by rfl) (hv : Vis X.env.scope x := by first | exact Or.inl rfl | exact Or.inr (Or.inl rfl) | exact Or.inr (Or.inr rfl)) (hd : (x == ("__debug__" : Str)) = false := by decide)
    (hcd : (x == ("__classdict__" : Str)) = false := by decide) : DE C E X (.Subscript (.Name x p) b pos) (mDGet i fb) := by
  refine pe_weak (pe_dget hu (pe_var hN hv hd hcd) hb hs) fun σ H Q ⟨Pn, s, c, h⟩ => ?_
  unfold mDGet at h
  split at h
  · rename_i kv0 q0
    obtain ⟨sa, c0⟩ := c
    obtain ⟨a, xs, e, _, _⟩ := c0.dictAt q0
    refine ⟨.ref a, e, ?_⟩
    refine WE.bind_rd (α := D) ⟨sa, c0⟩ (R := WE X.K C E σ Pn Q) (fun z => z) xWE h fun d s1 y H1 c1 h1 => ?_
    split at h1
    · rename_i kvs q1
      obtain ⟨d2, e2, h2⟩ := h1.opt
      cases ek : keyOf d with
      | none => rw [ek] at e2; cases e2
      | some k =>
        rw [ek] at e2
        have e2 : valD kvs k = some d2 := e2
        obtain ⟨sa1, c1⟩ := c1
        obtain ⟨a1, xs1, e1, g1, r1⟩ := c1.dictAt q1
        rw [e] at e1
        cases e1
        obtain ⟨v, hv, rv⟩ := (r1.val k).1 d2 e2
        exact ⟨a, v, rfl, .inl ⟨xs1, k, g1, keyOf_is ek (c1.dat List.mem_cons_self), hv.symm⟩, h2 v H1 ⟨sa1, (c1.pinD rv).sub (List.Sublist.cons_cons _ (List.sublist_cons_self _ _))⟩⟩
    · exact h1.elim
  · exact h.elim
theorem de_dgetOr (i : Nat) {x : Str} {k e : Expr} {fk fx : M D} {p : Pos} (hu : X.A.units + 1 < cLine) (hk : DE C E X k fk) (hx : DE C E X e fx) (hm : M2 X (.Name x p) "get" apos k e cpos) (hN : X.N[i]? = some x := by rfl) (hv : Vis X.env.scope x := by first | exact Or.inl rfl | exact Or.inr (Or.inl rfl) | exact Or.inr (Or.inr rfl)) (hd : (x == ("__debug__" : Str)) = false := by decide)
    (hcd : (x == ("__classdict__" : Str)) = false := by decide) : DE C E X (.Call (.Attribute (.Name x p) "get" apos) [k, e] [] cpos) (mDGetOr i fk fx) := by
  refine pe_weak (pe_dget2 hu (pe_var hN hv hd hcd) hk hx hm) fun σ H Q ⟨Pn, s, c, h⟩ => ?_
  unfold mDGetOr at h
  split at h
  · rename_i kv0 q0
    obtain ⟨sa, c0⟩ := c
    obtain ⟨a, xs, e, g0, _⟩ := c0.dictAt q0
    refine ⟨.ref a, e, a, rfl, .inl ⟨xs, g0⟩, ?_⟩
    refine WE.bind_rd (α := D) ⟨sa, c0⟩ (R := WE X.K C E σ Pn Q) (fun z => z) xWE h fun d s1 y H1 c1 h1 => ?_
    refine WE.bind_rd c1 (R := WE X.K C E σ Pn Q) (fun z => z) (xWEs (A := [.dat y d])) h1 fun d' s2 z H2 c2 h2 => ?_
    split at h2
    · rename_i kvs q1
      obtain ⟨d2, e2, h3⟩ := h2.opt
      cases ek : keyOf d with
      | none => rw [ek] at e2; cases e2
      | some k =>
        rw [ek] at e2
        cases e2
        have h3 : ∀ v H', Cf X.K C (.dat v ((valD kvs k).getD d') :: Pn) s2 σ H' → Q v H' := h3
        obtain ⟨sa1, c2⟩ := c2
        obtain ⟨a1, xs1, e1, g1, r1⟩ := c2.dictAt q1
        rw [e] at e1
        cases e1
        have ry : Rp X.K (Wr C sa1 σ s2.g _) H2 y d := c2.dat (List.mem_cons_of_mem _ List.mem_cons_self)
        have rz : Rp X.K (Wr C sa1 σ s2.g _) H2 z d' := c2.dat List.mem_cons_self
        refine ⟨valV xs1 k, .inl ⟨xs1, k, g1, keyOf_is ek ry, rfl⟩, ?_⟩
        cases q3 : valD kvs k with
        | none =>
          rw [q3] at h3
          rw [(r1.val k).2 q3]
          exact h3 z H2 ⟨sa1, c2.sub (List.Sublist.cons_cons _ (List.sublist_cons_self _ _))⟩
        | some d2 =>
          rw [q3] at h3
          obtain ⟨v, hv, rv⟩ := (r1.val k).1 d2 q3
          rw [hv]
          exact h3 v H2 ⟨sa1, (c2.pinD rv).sub (List.Sublist.cons_cons _ (List.sublist_append_right [_, _] _))⟩
    · exact h2.elim
  · exact h.elim
/-- what is owned in the hand is written -/
theorem Cfg.write {p : Addr} {sv sv' : SV} {o o' : HO} {A : List Pin} (c : Cfg K C sa (.own p sv :: (A ++ Pn)) s σ H) (ho : sv'.own = true) (hp : H p = some o)
    (h : ∀ W' H', Kept (Wr C sa σ s.g (.own p sv :: (A ++ Pn))) H W' H' → H' p = some o' → SlotOk K W' none H' (some (.ref p)) sv') : Cfg K C sa (.own p sv' :: Pn) s σ (upd H p o') := by
  have c1 : Cfg K C sa (.obj p o :: (A ++ Pn)) s σ H := c.repin rfl hp
  have c2 := c1.put o'
  have hw : ∀ b, Wr C sa σ s.g (.obj p o' :: (A ++ Pn)) b → Wr C sa σ s.g (.own p sv :: (A ++ Pn)) b := fun b w => by
    rcases w with (w | w | w) | w
    · exact .inl (.inl w)
    · exact .inl (.inr (.inl (PO.cons.mpr ((PO.cons.mp w).imp (fun (z : some p = some b) => (z : some p = some b)) id))))
    · exact .inl (.inr (.inr w))
    · exact .inr w
  refine (c2.repin (q := .own p sv') rfl ⟨ho, h _ _ (fun b u n e => ?_) upd_same⟩).sub (List.Sublist.cons_cons _ (List.sublist_append_right A Pn))
  have ne : b ≠ p := fun z => n (z ▸ .inl (.inr (.inl (PO.cons.mpr (.inl rfl)))))
  exact ⟨fun w => n (hw b w), by rw [upd_ne ne]; exact e⟩
/-- d[k] = v -/
def mDPut (i : Nat) (fk fv : M D) : MS := fv.bind fun v s => match s.g[i]? with
  | some (.oK _) => fk.bind (fun k s => match s.g[i]? with
    | some (.oK kvs) => match keyOf k with
      | some k => if kvs.length < sizeLine then some (.ok .nx (s.set i (.oK (putD kvs k v)))) else none
      | none => none
    | _ => none) s
  | _ => none
theorem ds_dput (i : Nat) {x : Str} {k e : Expr} {fk fv : M D} {p p2 pos : Pos} (hu : X.A.units + 1 < cLine) (hk : DE C E X k fk) (he : DE C E X e fv) (hs : swapsWith e (some (.Subscript (.Name x p) k p2)) pos.line X.env = pure false := by rfl) (hN : X.N[i]? = some x := by rfl) (hv : Vis X.env.scope x := by first | exact Or.inl rfl | exact Or.inr (Or.inl rfl) | exact Or.inr (Or.inr rfl)) (hd : (x == ("__debug__" : Str)) = false := by decide)
    (hcd : (x == ("__classdict__" : Str)) = false := by decide) : DS C E X (.Assign [.Subscript (.Name x p) k p2] e pos) (mDPut i fk fv) := by
  refine ps_weak (ps_dput hu (pe_var hN hv hd hcd) hk he hs) fun D σ H ⟨Pn, s, c, h⟩ => ?_
  refine WE.bind_rd c (R := WS X.K C E Pn D) (fun z => z) xWS h fun dv s1 v H1 c1 h1 => ?_
  split at h1
  · rename_i kv0 q0
    obtain ⟨sa, c1⟩ := c1
    obtain ⟨a, xs, e, _, _⟩ := c1.slot i _ q0
    have e := slot_of_getD e
    refine ⟨.ref a, e, ?_⟩
    refine WE.bind_rd (α := Fl) ⟨sa, c1⟩ (R := WS X.K C E Pn D) (fun z => z) (xWSs (σ := σ) (B := [.dat v dv])) h1 fun dk s2 y H2 c2 h2 => ?_
    split at h2
    · rename_i kvs q1
      split at h2
      · rename_i k ek
        by_cases hz : kvs.length < sizeLine
        · rw [if_pos hz] at h2
          have h2 : ∀ σ' H', Cf X.K C Pn (s2.set i (.oK (putD kvs k dv))) σ' H' → D.nx σ' H' := h2
          obtain ⟨sa2, c2⟩ := c2
          have ry : Rp X.K (Wr C sa2 σ s2.g _) H2 y dk := c2.dat List.mem_cons_self
          obtain ⟨a2, xs2, e2, g2, r2⟩ := c2.slot i _ q1
          have e2 := slot_of_getD e2
          rw [e] at e2
          cases e2
          obtain ⟨p, ep, c3⟩ := c2.take q1 rfl
          rw [e] at ep
          cases ep
          refine ⟨a, _, rfl, .inl ⟨xs2, k, g2, keyOf_is ek ry, by rw [r2.length]; exact hz, rfl⟩, h2 _ _ ⟨sa2, ?_⟩⟩
          have rv : Rp X.K _ H2 v dv := c3.pin (.dat v dv) (List.mem_cons_of_mem _ (List.mem_cons_of_mem _ List.mem_cons_self))
          obtain ⟨_, a3, xs3, e3, g3, r3⟩ : true = true ∧ SlotOk X.K (Wr C sa2 σ (s2.set i .un).g _) none H2 (some (.ref a)) (.oK kvs) := c3.pin _ List.mem_cons_self
          cases e3
          rw [g2] at g3
          cases g3
          have c4 : Cfg X.K C sa2 (.own a (.oK (putD kvs k dv)) :: Pn) (s2.set i .un) σ (upd H2 a (.dK (putK xs2 k v))) := Cfg.write (A := [.dat y dk, .dat v dv]) c3 rfl g2 fun W' H' kp hp => ⟨a, _, rfl, hp, (r3.put k rv).kept kp⟩
          have c5 := c4.setO i
          rw [S.set_set, set_same e] at c5
          exact c5
        · rw [if_neg hz] at h2; exact h2.elim
      · exact h2.elim
    · exact h2.elim
  · exact h1.elim
/-- xs.append(e) -/
def mAppend (i : Nat) (fe : M D) : MS := fun s => match s.g[i]? with
  | some (.ol _) => fe.bind (fun d s => match s.g[i]? with
    | some (.ol xs) => if xs.length < sizeLine then some (.ok Fl.nx (s.set i (.ol (xs ++ [d])))) else none
    | _ => none) s
  | _ => none
theorem ds_append (i : Nat) {x : Str} {e : Expr} {fe : M D} {p pos : Pos} (he : DE C E X e fe) (hb : attributeBase (.Name x p) "append" X.env (eval (.Name x p) X.env) = eval (.Name x p) X.env := by rfl)
    (hfew : ((backTo cpos (starEach [e] X.env)).all (fun x => !x.1) && (backToKw cpos (keywordEach [] X.env)).all (fun x => x.1.isSome) && decide (([e] : List Expr).length + ([] : List Keyword).length + (if ([] : List Keyword).isEmpty then 0 else 1) < 30)) = true := by rfl)
    (hline : (apos.endLine == cpos.line) = true := by rfl) (hse : starEach [e] X.env = (false, eval e X.env) :: starEach [] X.env := by rfl) (hpl : (backTo cpos (starEach [] X.env)).any (·.1) = false := by rfl)
    (hs : swapsWith (.Call (.Attribute (.Name x p) "append" apos) [e] [] cpos) none pos.line X.env = pure false := by rfl) (hN : X.N[i]? = some x := by rfl) (hv : Vis X.env.scope x := by first | exact Or.inl rfl | exact Or.inr (Or.inl rfl) | exact Or.inr (Or.inr rfl)) (hd : (x == ("__debug__" : Str)) = false := by decide)
    (hcd : (x == ("__classdict__" : Str)) = false := by decide) : DS C E X (.Expr (.Call (.Attribute (.Name x p) "append" apos) [e] [] cpos) pos) (mAppend i fe) := by
  refine ps_weak (ps_expr (pe_bm PySem.F.plainAttrs_list PySem.F.slot_list_append PySem.F.type_list_append mt_append (pe_var hN hv hd hcd) (pa_cons he pa_nil hse) hb hfew hline hse hpl) hs) fun D σ H ⟨Pn, s, c, h⟩ => ?_
  unfold mAppend at h
  split at h
  · rename_i xs0 q0
    obtain ⟨sa, c0⟩ := c
    obtain ⟨a, ys, e, g0, _⟩ := c0.ownL q0
    refine ⟨.ref a, e, .inl ⟨rfl, _, SqL.of g0⟩, ?_⟩
    refine WE.bind_rd (α := Fl) ⟨sa, c0⟩ (R := WS X.K C E Pn D) (fun z => z) (fun e s' h => xWS (σ := σ) e s' h) h fun d s1 y H1 c1 h1 => ?_
    split at h1
    · rename_i xs q1
      by_cases hz : xs.length < sizeLine
      · rw [if_pos hz] at h1
        have h1 : ∀ σ' H', Cf X.K C Pn (s1.set i (.ol (xs ++ [d]))) σ' H' → D.nx σ' H' := h1
        obtain ⟨sa1, c1⟩ := c1
        obtain ⟨p, ep, c3⟩ := c1.take q1 rfl
        rw [e] at ep
        cases ep
        obtain ⟨zs, hz1, hz2, c4⟩ := c3.push
        refine ⟨a, zs, y, rfl, rfl, hz1, by rw [hz2]; exact hz, h1 _ _ ⟨sa1, ?_⟩⟩
        have c5 := c4.setO i
        rw [S.set_set, set_same e] at c5
        exact c5
      · rw [if_neg hz] at h1; exact h1.elim
    · exact h1.elim
  · exact h.elim
/-! ### new dicts -/
theorem df_dict : DF C E X (.Dict [] [] pos) (M.ret (.oK [])) := by
  refine pe_weak pe_dnewK fun σ H Q ⟨Pn, s, ⟨sa, c⟩, h⟩ p hp => h p _ ⟨sa, ?_⟩
  exact (c.lay hp (.dK [])).repin (q := .own p (.oK [])) rfl ⟨rfl, p, [], rfl, upd_same, .nil⟩
/-- {k: v} -/
def mDict1 (fk fv : M D) : M SV := fk.bind fun k => fv.bind fun v => M.opt ((keyOf k).map fun k => .oK [(k, v)])
theorem df_dict1 {k v : Expr} {fk fv : M D} (hk : DE C E X k fk) (hv : DE C E X v fv) (h0 : [some k].all (·.isSome) = true := by rfl) : DF C E X (.Dict [some k] [v] pos) (mDict1 fk fv) := by
  refine pe_weak (pe_disp (pps_cons hk hv pps_nil) h0 rfl (fun z => by cases z) (by show 1 ≤ 15; decide)) fun σ H Q ⟨Pn, s, ⟨sa, c⟩, h⟩ p hp => ?_
  have c0 : Cf X.K C (.obj p (.dK []) :: Pn) s σ (upd H p (.dK [])) := ⟨sa, c.lay hp (.dK [])⟩
  refine WE.bind_rd c0 (R := WF X.K C E σ Pn Q) (fun z => z) (xWFs (A := [.obj p (.dK [])])) h fun dk s1 y H1 c1 h1 => ?_
  refine WE.bind_rd c1 (R := WF X.K C E σ Pn Q) (fun z => z) (xWFs (A := [.dat y dk, .obj p (.dK [])])) h1 fun dv s2 w H2 c2 h2 => ?_
  cases ek : keyOf dk with
  | none => rw [ek] at h2; exact h2.elim
  | some key =>
    rw [ek] at h2
    have h2 : ∀ a H', Cf X.K C (.own a (.oK [(key, dv)]) :: Pn) s2 σ H' → Q (.ref a) H' := h2
    obtain ⟨sa2, c2⟩ := c2
    have hp2 : H2 p = some (.dK []) := c2.pin (.obj p (.dK [])) (List.mem_cons_of_mem _ (List.mem_cons_of_mem _ List.mem_cons_self))
    have ry : Rp X.K (Wr C sa2 σ s2.g _) H2 y dk := c2.dat (List.mem_cons_of_mem _ List.mem_cons_self)
    refine ⟨hp2, [(key, w)], by rw [keyOf_is ek ry]; rfl, (by show 1 ≤ 15; decide), ?_⟩
    have c3 : Cfg X.K C sa2 (.obj p (.dK []) :: ([.dat w dv, .dat y dk] ++ Pn)) s2 σ H2 := c2.perm (List.perm_middle (a := Pin.obj p (.dK [])) (l₁ := [.dat w dv, .dat y dk]) (l₂ := Pn)).symm
    refine h2 p _ ⟨sa2, ?_⟩
    have c4 : Cfg X.K C sa2 (.own p (.oK []) :: ([.dat w dv, .dat y dk] ++ Pn)) s2 σ H2 := c3.repin rfl ⟨rfl, p, [], rfl, hp2, .nil⟩
    refine Cfg.write (A := [.dat w dv, .dat y dk]) c4 rfl hp2 fun W' H' kp hp => ⟨p, _, rfl, hp, .cons ⟨rfl, ?_⟩ .nil⟩
    exact Rp.kept kp _ _ (c4.dat (v := w) (d := dv) (List.mem_cons_of_mem _ List.mem_cons_self))
end
end DL
/-! DL13: repr, where no container is being shown; the law's own def; the end of a law's row. -/
namespace DL
open PySem PySem.Spec L2 PyProof.Rows
/-- a def's promise where nothing is being shown (repr) around it -/
structure FnG (P : Program) (w : World) (K : PySem.W.Frag) (mg : Str → Option Value) (base : Heap) (k : Nat) (f : Addr) (fd : FuncData) (ps : List Str) (sp : Sp) : Prop where
  run : ∀ (A : Around) (outer : List Env) (s : Shared) (H : Hp) (args : Args) (us : List Value) (vs : List V) (Q : VK) (E : XK), A.guards = some [] → Room k A → Env0 P w K mg base A outer s H →
    BindsTo s fd args (ps.zip us) → Vals vs us → sp vs H Q E → codeAny (model P w) A (.call (.ref f) args) (CR CX0 outer P w H s Q E) s
section
variable {P : Program} {w : World} {K : PySem.W.Frag} {mg : Str → Option Value} {base : Heap}
theorem Fun.okG {x qual : Str} {st : Stmt} {f : Addr} {fd : FuncData} {N ps : List Str} {k : Nat} {sp : Sp} (F : Fun K x qual st f fd) (Sc : FnScope N ps (defScope st)) (len : ∀ vs H Q E, sp vs H Q E → vs.length = ps.length)
    (hb : ∀ (cdv : Value) (A : Around) (outer : List Env) (s : Shared) (H : Hp) (vs : List V) (Q : VK) (E : XK), (A.deeper (envOfC qual (defScope st) s.heap.objs.size f cdv)).guards = some [] →
      Room k (A.deeper (envOfC qual (defScope st) s.heap.objs.size f cdv)) → sp vs H Q E →
      ∃ t, PSs (cxOf CX0 P w K mg base N qual (defScope st) f cdv A outer s H E).nox (defBody st) t ∧ t { nx := fun _ H' => Q .non H', rt := Q } (L2.start N vs) H) : FnG P w K mg base (k + 1) f fd ps sp := by
  obtain ⟨oc, od, kV, doc, pm, an, cdv, ct, osl, rfl, look, hcd⟩ := F.ex
  refine ⟨fun A outer s H args us vs Q E hg hr e0 hbind r hsp => ?_⟩
  have hlen := len _ _ _ _ hsp
  have KX : K.In s.heap := e0.mod.kin.keeps fun b o e => (e0.bs b o e).1
  have nolim : s.heap.NoLimit := e0.mod.nolimit.keeps fun b o e => (e0.bs b o e).1
  refine codeAny_call_function hr.depth (KX _ _ look) rfl Sc.co Sc.gen rfl (PySem.W.codeRec_of KX hcd) (hbind _ _ _ _ ?_)
  refine wpAny_newFunctionEnv_cells Sc.kind (fun ⟨nm, v⟩ hy => ?_) fun env he s1 x => ?_
  · rcases Sc.par nm (List.of_mem_zip hy).1 with q | q
    · exact .inl q
    · exact .inr ⟨q, PySem.W.cellsFrom_some _ _ _ (.inl q)⟩
  subst he
  refine ⟨nolim.keeps x.toInCall.keep, codeAny_func ?_⟩
  obtain ⟨t, ht, hq⟩ := hb cdv A outer s H vs Q E hg (hr.deeper _) hsp
  have I : Inv (cxOf CX0 P w K mg base N qual (defScope st) f cdv A outer s H E) [] (L2.start N vs) H s1 := inv_start Sc hr.hd e0 hlen r x
  have fin : ∀ {σ' : L2.St} {H' : Hp} {v : V} {u : Value} {s' : Shared}, Inv (cxOf CX0 P w K mg base N qual (defScope st) f cdv A outer s H E) [] σ' H' s' → RelV v u → Q v H' → CE outer P w H s Q u s' :=
    fun {σ' H' v u s'} J rv q => ⟨v, H', J.os, J.bare, J.base, J.hok, rv, q⟩
  refine wpAny_mono (ht.nox.run [] s1 (L2.start N vs) H _ I hq) (fun fl s' hs => ?_) fun e s' hs => hs
  cases fl with
  | next =>
    obtain ⟨σ', H', J, q⟩ := hs
    exact fin (v := V.non) (u := Value.none) J rfl q
  | ret u =>
    obtain ⟨v, σ', H', J, rv, q⟩ := hs
    exact fin J rv q
  | brk => obtain ⟨_, _, _, q⟩ := hs; exact q.elim
  | cont => obtain ⟨_, _, _, q⟩ := hs; exact q.elim
/-- what a law's def promises -/
def spLaw (K : PySem.W.Frag) (n : Nat) : Sp := fun vs H Q _ => ∃ (a : Addr) (ns : List Int), vs = [.ref a] ∧ SqL K H a (ns.map V.int) ∧ ns.length ≤ n ∧ ∀ H', Q (.bl true) H'
/-- THE RULE for the law's def: for every script its body gives True -/
theorem Fun.okLaw {x qual : Str} {st : Stmt} {f : Addr} {fd : FuncData} {N : List Str} {p : Str} {k n : Nat} {fb : MS} (F : Fun K x qual st f fd) (Sc : FnScope N [p] (defScope st)) (hN : 1 ≤ N.length)
    (hb : ∀ (cdv : Value) (A : Around) (outer : List Env) (s : Shared) (H : Hp) (E : XK) (C : Conf), C.xr = noX → (A.deeper (envOfC qual (defScope st) s.heap.objs.size f cdv)).guards = some [] → Room k (A.deeper (envOfC qual (defScope st) s.heap.objs.size f cdv)) →
      DSs C E0 (cxOf CX0 P w K mg base N qual (defScope st) f cdv A outer s H E).nox (defBody st) fb)
    (law : ∀ ns : List Int, ns.length ≤ n → ∃ s', fb ⟨.scr ns :: List.replicate (N.length - 1) .un, none⟩ = some (.ok (.rt (.bool true)) s')) : FnG P w K mg base (k + 1) f fd [p] (spLaw K n) := by
  refine Fun.okG F Sc (fun vs H Q E ⟨a, ns, e, _⟩ => by rw [e]; rfl) fun cdv A outer s H vs Q E hg hr ⟨a, ns, e, hs, hn, q⟩ => ?_
  subst e
  let C : Conf := ⟨H, none, fun _ => False, fun _ h => h.elim, noX⟩
  refine ⟨_, hb cdv A outer s H E C rfl hg hr, ?_⟩
  obtain ⟨s', e'⟩ := law ns hn
  have rep : ∀ {i : Nat} {sv : SV}, (SV.scr ns :: List.replicate (N.length - 1) SV.un)[i]? = some sv → (i = 0 ∧ sv = .scr ns) ∨ sv = .un := fun {i sv} h => by
    cases i with
    | zero => cases h; exact .inl ⟨rfl, rfl⟩
    | succ i => exact .inr (List.eq_of_mem_replicate (List.mem_of_getElem? (show (List.replicate (N.length - 1) SV.un)[i]? = some sv from h)))
  have no : ∀ {i : Nat} {b : Addr}, ¬ Own (L2.start N [.ref a]) (SV.scr ns :: List.replicate (N.length - 1) SV.un) i b := fun {i b} ⟨sv, h, o, _⟩ => by
    rcases rep h with ⟨_, z⟩ | z <;> rw [z] at o <;> cases o
  have np : ∀ b, ¬ PO [] b := fun b ⟨_, h, _⟩ => (nomatch h)
  have nsa : ∀ b, ¬ SA none b := fun b ⟨_, _, h, _⟩ => (nomatch h)
  have nw : ∀ b, ¬ Wr C none (L2.start N [.ref a]) (SV.scr ns :: List.replicate (N.length - 1) SV.un) [] b := fun b h => by
    rcases h with (⟨i, o⟩ | h | h) | h
    · exact no o
    · exact np b h
    · exact nsa b h
    · exact h
  have c0 : Cfg K C none [] ⟨.scr ns :: List.replicate (N.length - 1) .un, none⟩ (L2.start N [.ref a]) H := by
    refine ⟨?_, fun i sv h => ?_, fun p hp => (nomatch hp), fun i j b o => (no o).elim, fun i b o => (no o).elim, fun i b o => (no o).elim, fun b h => (np b h).elim, by simp, rfl, fun b o e _ => e, fun b h => (nw b (.inl h)).elim, fun q e => (nomatch e)⟩
    · show (L2.start N [V.ref a]).length = _
      unfold L2.start
      simp only [List.length_append, List.length_map, List.length_replicate, List.length_cons, List.length_nil]
      omega
    · rcases rep h with ⟨rfl, rfl⟩ | rfl
      · refine ⟨a, rfl, ?_⟩
        rcases hs with hs | hs
        · exact .inl ⟨hs, nw a⟩
        · exact .inr (.inr hs)
      · trivial
  refine ⟨[], _, ⟨none, c0⟩, ?_⟩
  rw [e']
  intro v σ' H' c'
  obtain ⟨W, r⟩ := c'.one
  rw [r.bli]
  exact q H'
end
/-! ### repr -/
def gRepr : List D → Option D
  | [d] => if (SeqAt.shaped d && noDict d && d.showable && decide (d.shown.length ≤ sizeLine)) = true then some (.str d.shown) else none
  | _ => none
section
variable {X : Cx} {C : Conf} {E : XK} {K : PySem.W.Frag}
theorem hasDict_of_shaped {d : PyData} (h : SeqAt.shaped d = true) : d.hasDict = false := PyData.hasDict_of_canLay d (SeqAt.canLay_of_shaped h)
def rReprD (K : PySem.W.Frag) : List V → Hp → VK → Prop := fun vs H Q => ∃ x d, vs = [x] ∧ Dp K H x d ∧ SeqAt.shaped d = true ∧ d.showable = true ∧ d.shown.length ≤ sizeLine ∧ Q (.str d.shown) H
theorem call_reprD (hg : X.A.guards = some []) (hu : X.A.units + 66 < cLine) : CallR X (.builtin "repr") (rReprD X.K) := by
  intro pins s σ H xs us Q I r h
  obtain ⟨x, d, rfl, hd, sh, hs, hz, q⟩ := h
  obtain ⟨u, rfl, rx⟩ := vals1 r
  obtain ⟨as, rr⟩ := Dp.reads I d x u hd rx
  have dep := SeqAt.depth_of_shaped sh
  cases x with
  | ref a =>
    cases rx
    refine repr_of_reads' rr hs (fun z => by rw [hasDict_of_shaped sh] at z; cases z) hg (by omega) (fun _ _ e => e) (fun h' u tk hk => ?_) hz
    exact ⟨.str _, H, I.kept hk, ⟨_, rfl⟩, q⟩
  | non =>
    cases rx
    cases hd
    exact PySem.P.repr_of_none ⟨.str _, H, I.tok _, ⟨_, rfl⟩, by simpa only [PyData.shown] using q⟩
  | bl b =>
    cases rx
    cases hd
    exact PySem.P.repr_of_bool ⟨.str _, H, I.tok _, ⟨_, rfl⟩, by simpa only [PyData.shown] using q⟩
  | int i =>
    obtain ⟨t, rfl⟩ := rx
    cases hd
    exact PySem.P.repr_of_int (by simpa [PyData.showable] using hs) ⟨.str _, H, I.tok _, ⟨_, rfl⟩, by simpa only [PyData.shown] using q⟩
  | str z =>
    obtain ⟨t, rfl⟩ := rx
    cases hd
    exact PySem.P.repr_of_str ⟨.str _, H, I.tok _, ⟨_, rfl⟩, by simpa only [PyData.shown] using q⟩ (by simpa only [PyData.shown] using hz)
  | byt _ => cases hd
  | flt _ => cases hd
  | ty _ => cases hd
theorem r_repr : OpNR K (rReprD K) gRepr := by
  intro C Pn s σ H vs ds dz Q c hl e q
  unfold gRepr at e
  split at e
  · rename_i d
    split at e
    · rename_i h
      cases e
      simp only [Bool.and_eq_true, decide_eq_true_eq] at h
      obtain ⟨v, sa, rfl, c', r⟩ := c.arg1 hl
      exact ⟨v, d, rfl, r.dp _ _ h.1.1.2, h.1.1.1, h.1.2, h.2, q _ _ (c.res fun _ _ => .str _)⟩
    · cases e
  · cases e
end
/-! ### the end of a law's row -/
/-- nothing is tracked but the script -/
theorem law_run {P : Program} {w : World} {K : PySem.W.Frag} {mg mb : Str → Option Value} {k n : Nat} {fa a : Addr} {fd : FuncData} {x : Str} {s₁ : Shared} {vs : List Value} {ns : List Int}
    (KX : K.In s₁.heap) (hglob : s₁.heap.Ns mainGlobals mg) (hblt : s₁.heap.Ns builtinsNs mb) (hbb : ∀ x : Str, x ≠ "__name__" → mb x = bootBuiltins x) (hlim : s₁.heap.NoLimit) (hgen : s₁.gens = #[])
    (hobj : s₁.heap.get? a = some { cls := .type "list", data := .seq vs.toArray }) (hints : IntsAre vs ns) (hlen : ns.length ≤ sizeLine) (hn : ns.length ≤ n) (hroom : Room k callerA)
    (F : ∀ base : Heap, K.In base → base.Ns mainGlobals mg → FnG P w K mg base k fa fd [x] (spLaw K n)) (hbind : ∀ (s : Shared) (u : Value), BindsTo s fd ⟨[u], []⟩ [(x, u)]) :
    codeAny (model P w) callerA (.call (.ref fa) ⟨[.ref a], []⟩) (fun r s' => r = .ok (.ret (.bool true)) ∧ OldK s₁.heap s'.heap ∧ s'.os = s₁.os ∧ AllBare s'.gens) s₁ := by
  have rv := vals_ints hints
  -- the abstract heap: the script, or nothing at all where it is one of the module's own objects
  have main : ∀ H : Hp, Only H → SqL K H a (ns.map V.int) → HOk P w H s₁.heap → (∀ b, H b ≠ none → b = a) → (H a ≠ none → K.lookup a = none) →
      codeAny (model P w) callerA (.call (.ref fa) ⟨[.ref a], []⟩) (fun r s' => r = .ok (.ret (.bool true)) ∧ OldK s₁.heap s'.heap ∧ s'.os = s₁.os ∧ AllBare s'.gens) s₁ := by
    intro H only sq ok onlyA notK
    have untr : ∀ {b : Addr} {o : Obj} {es : Array DictEntry} {ep : Nat}, s₁.heap.get? b = some o → o.data = .dict es ep → H b = none := fun {b o es ep} e d => by
      by_cases q : H b = none
      · exact q
      · have z := onlyA b q
        subst z
        rw [hobj] at e
        cases e
        cases d
    have nsK : ∀ {b : Addr} {m : Str → Option Value}, s₁.heap.Ns b m → (hidT s₁.heap H).Ns b m := fun ⟨o, es, ep, e, d, r⟩ => ⟨o, es, ep, hidT_get e (untr e d), d, r⟩
    have inK : K.In (hidT s₁.heap H) := fun b o e => hidT_get (KX b o e) (by
      by_cases q : H b = none
      · exact q
      · have z := onlyA b q
        subst z
        rw [notK q] at e
        cases e)
    have hM : Mod K mg (hidT s₁.heap H) := ⟨inK, nsK hglob, ⟨mb, nsK hblt, hbb⟩, let ⟨mc, h1, h2⟩ := hlim; ⟨mc, nsK h1, h2⟩⟩
    have env0 : Env0 P w K mg (hidT s₁.heap H) callerA [] s₁ H := ⟨rfl, hM, fun b o e => of_hidT e, Nat.le_of_eq (hidT_size _ _), trivial, fun b hb => absurd (show b ∈ ([] : List Addr) from hb) (by simp), ok, .of_eq hgen⟩
    refine codeAny_mono ((F _ inK (nsK hglob)).run callerA [] s₁ H ⟨[.ref a], []⟩ [.ref a] [.ref a] (fun v _ => v = .bl true) (fun _ _ _ => False) rfl hroom env0 (hbind s₁ (.ref a)) (.cons rfl .nil) ⟨a, ns, rfl, sq, hn, fun _ => rfl⟩) fun r s' h => ?_
    match r, h with
    | .error e, h => exact h.elim
    | .ok .next, h => exact False.elim h
    | .ok .brk, h => exact False.elim h
    | .ok .cont, h => exact False.elim h
    | .ok (.ret u), ⟨v, H', os, bare, un, ok', r', q⟩ =>
      have q' : v = .bl true := q
      subst q'
      have r'' : u = Value.bool true := r'
      subst r''
      refine ⟨rfl, OldK.of_keep fun b o e => ?_, os, bare⟩
      rcases only b with z | ⟨ob, xs, z⟩
      · exact un.keep b o e z (by intro y; exact absurd (show b ∈ ([] : List Addr) from y) (by simp)) (by simp)
      · obtain ⟨e1, _⟩ := ok b _ z
        obtain ⟨e2, _⟩ := ok' b _ (un.frzs b ob _ z)
        rw [e] at e1
        cases e1
        exact e2
  cases hk : K.lookup a with
  | some o =>
    have e := KX a o hk
    rw [hobj] at e
    cases e
    exact main (fun _ => none) (fun _ => .inl rfl) (.inr ⟨_, vs.toArray, _, hk, rfl, rfl, rfl, by rw [List.size_toArray, hints.length]; exact hlen, by simpa using rv⟩) (fun b u z => (nomatch z)) (fun b z => absurd rfl z) fun z => absurd rfl z
  | none =>
    refine main (fun b => if b = a then some (.frz { cls := .type "list", data := .seq vs.toArray } (.lst (ns.map V.int))) else none) (fun b => ?_) (.inl (.inr ⟨{ cls := .type "list", data := .seq vs.toArray }, if_pos rfl⟩)) (fun b u z => ?_) (fun b z => ?_) fun _ => hk
    · by_cases h : b = a
      · exact .inr ⟨_, _, if_pos h⟩
      · exact .inl (if_neg h)
    · by_cases h : b = a
      · subst h
        have z' := (if_pos rfl).symm.trans z
        cases z'
        exact ⟨hobj, by rw [List.length_map]; exact hlen, vs, _, rv, hobj⟩
      · have z' := (if_neg h).symm.trans z
        cases z'
    · by_cases h : b = a
      · exact h
      · exact absurd (if_neg h) z
theorem law_walk {l : PySem.W.OpenLaw} {n k : Nat} {q : Program} {loose : List Str} {XP : (Str → Option Value) → Heap → Prop} {YP : World → Heap → Prop} {d : DefRec} {K : Params → PySem.W.Frag} {x : Str}
    (hn : l.most = some n) (hn2 : n ≤ sizeLine) (hdf : d.params.defaults = []) (hr : Room k callerA) (hY : ∀ (w : World) (h : Heap), YP w h → (K w.params).In h)
    (F : ∀ (w : World) (mg : Str → Option Value) (fa : Addr) (h : Heap), (K w.params).In h → h.Ns mainGlobals mg → mg d.name = some (.ref fa) →
      ∃ fd : FuncData, (∀ (s : Shared) (u : Value), BindsTo s fd ⟨[u], []⟩ [(x, u)]) ∧ ∀ base : Heap, (K w.params).In base → base.Ns mainGlobals mg → FnG l.prog w (K w.params) mg base k fa fd [x] (spLaw (K w.params) n)) :
    PySem.W.WalkO q loose XP YP l.row.toRowW d [] (fun f vs => PySem.call f vs) := by
  refine Att.attach_call hn hdf fun w s₀ s₁ mg mb fa o pm cd doc a vs ns G Y ho hd hcd hmg hobj hints hlen hg => ?_
  have KX := hY w _ Y
  obtain ⟨fd, hbind, hF⟩ := F w mg fa _ KX G.T.g hmg
  exact law_run KX G.T.g G.T.b G.T.builtins G.T.nolimit hg hobj hints (Nat.le_trans hlen hn2) hlen hr hF hbind
end DL
/-! DLRev: t[::-1] of a tuple. -/
namespace DL
open PySem PySem.Spec L2 PyProof.Rows HT
theorem filterMap_all {α β : Type} {f : α → Option β} {g : α → β} : ∀ {l : List α}, (∀ k ∈ l, f k = some (g k)) → l.filterMap f = l.map g
  | [], _ => rfl
  | x :: l, h => by
    rw [List.filterMap_cons, h x List.mem_cons_self, List.map_cons, filterMap_all fun k hk => h k (List.mem_cons_of_mem _ hk)]
theorem back_pick (xs : Array Value) (n : Nat) (hn : n = xs.size) : ((List.range n).filterMap fun (k : Nat) => xs[(((n : Int) - 1) + (k : Int) * (-1)).toNat]?) = xs.toList.reverse := by
  subst hn
  apply List.ext_getElem?
  intro i
  have h1 : ∀ k, k < xs.size → xs[(((xs.size : Int) - 1) + (k : Int) * (-1)).toNat]? = some (xs.getD (xs.size - 1 - k) .none) := fun k hk => by
    have e : (((xs.size : Int) - 1) + (k : Int) * (-1)).toNat = xs.size - 1 - k := by omega
    rw [e]
    have hlt : xs.size - 1 - k < xs.size := by omega
    rw [Array.getElem?_eq_getElem hlt, Array.getD, dif_pos hlt]
    rfl
  have h2 : ((List.range xs.size).filterMap fun (k : Nat) => xs[(((xs.size : Int) - 1) + (k : Int) * (-1)).toNat]?) = (List.range xs.size).map fun k => xs.getD (xs.size - 1 - k) .none := filterMap_all fun k hk => h1 k (List.mem_range.mp hk)
  rw [h2, List.getElem?_map]
  by_cases hi : i < xs.size
  · rw [List.getElem?_range hi, List.getElem?_reverse (by simpa using hi)]
    have hlt : xs.size - 1 - i < xs.size := by omega
    simp only [Option.map_some, Array.length_toList, Array.getElem?_toList, Array.getElem?_eq_getElem hlt, Array.getD, dif_pos hlt]
    rfl
  · rw [List.getElem?_eq_none (by simpa using hi), List.getElem?_eq_none (by simpa using hi)]
    rfl
theorem places_back (n : Nat) : Builtin.Slice.slicePlaces ((n : Int) - 1) (-1) (-1) = n := by
  unfold Builtin.Slice.slicePlaces
  have h1 : ¬ ((-1 : Int) > 0) := by omega
  simp only [h1, if_false]
  split
  · have e : (n : Int) - 1 - -1 - 1 = (n : Int) - 1 := by omega
    rw [e]
    have e2 : -(-1 : Int) = 1 := rfl
    rw [e2, Int.ediv_one]
    omega
  · omega
section
variable {prog : Program} {w : World} {A : Around} {E : Value → Shared → Prop} {s : Shared}
theorem applied_back {sl : Addr} {n : Nat} {tk : Tok} {Q : Int × Int × Nat → Shared → Prop} (hs : s.heap.IsSliceOf sl .none .none (.int (-1) tk)) (h : Q ((n : Int) - 1, -1, n) s) :
    wpAny (model prog w) A (Builtin.Slice.sliceApplied (.ref sl) (pure (n : Int))) Q E s := by
  obtain ⟨os, hos, hcs, hds⟩ := id hs
  unfold Builtin.Slice.sliceApplied Builtin.Slice.sliceFields
  refine wpAny_bind (wpAny_bind (wpAny_field hos hds (x := Value.none) rfl ?_))
  refine wpAny_bind (wpAny_field hos hds (x := Value.none) rfl ?_)
  refine wpAny_bind (wpAny_field hos hds (x := .int (-1) tk) rfl (wpAny_pure ?_))
  refine wpAny_bind (slicePart_int ?_)
  show wpAny _ _ (if ((-1 : Int) == 0) = true then _ else _) _ _ s
  rw [if_neg (by decide)]
  refine wpAny_bind (slicePart_none (wpAny_bind (slicePart_none ?_)))
  refine wpAny_bind (wpAny_pure ?_)
  show wpAny _ _ (pure ((n : Int) - 1, (-1 : Int), Builtin.Slice.slicePlaces ((n : Int) - 1) (-1) (-1))) _ _ s
  rw [places_back]
  exact wpAny_pure h
theorem getItem_tuple_back {t sl : Addr} {its : Array Value} {tk : Tok} {Q : Value → Shared → Prop} (ht : IsTup s.heap t its) (hs : s.heap.IsSliceOf sl .none .none (.int (-1) tk)) (hz : its.size ≤ sizeLine)
    (h : Q (.ref s.heap.objs.size) { s with heap := s.heap.push { cls := .type "tuple", data := .seq its.toList.reverse.toArray } }) : wpAny (model prog w) A (getItem (.ref t) (.ref sl)) Q E s := by
  have hfit : sizeOk (.seq its.toList.reverse.toArray) := by
    show its.toList.reverse.toArray.size ≤ sizeLine
    rw [List.size_toArray, List.length_reverse, Array.length_toList]
    exact hz
  obtain ⟨os, hos, hcs, hds⟩ := id hs
  have hT : s.TypeIs (.ref sl) "slice" := ⟨os, hos, hcs⟩
  unfold getItem
  try with_reducible refine wpAny_holding ?_
  first | refine wpAny_bind (wpAny_pure ?_) | skip
  refine wpAny_bind (wpAny_sequenceKey ht.typeIs (by decide) ?_)
  refine wpAny_bind (wpAny_callSpecial?_slot (name := Str.ofString "__getitem__") ht.typeIs slot_tuple_getitem ?_)
  refine wpAny_call_entry slot_tuple_getitem ht.typeIs entry_tuple_getitem ?_ (args_tuple_getitem _ _)
  show wpAny _ _ (Builtin.Tuple.tupleItemsOf (.ref t) >>= _) _ _ s
  refine wpAny_bind (tupleItemsOf_ ht (wpAny_bind (wpAny_typeOf hT ?_)))
  rw [if_pos (by decide)]
  refine wpAny_bind (applied_back (n := its.size) hs ?_)
  have hno : ¬ (((((its.size : Nat) : Int) - 1) == 0 && (-1 : Int) == 1 && its.size == its.size) = true) := by
    have : ((-1 : Int) == 1) = false := by decide
    rw [this, Bool.and_false, Bool.false_and]
    exact Bool.false_ne_true
  show wpAny _ _ (if (((((its.size : Nat) : Int) - 1) == 0 && (-1 : Int) == 1 && its.size == its.size) = true) then _ else _) _ _ s
  rw [if_neg hno, back_pick its its.size rfl]
  first
    | exact wpAny_bind (m := Builtin.Tuple.tupleExact _) (wpAny_newObj_type (wpAny_pure ⟨_, rfl, wpAny_pure h⟩) hfit)
    | exact wpAny_bind (m := Builtin.Tuple.tupleExact _) (wpAny_newObj_type (wpAny_bind (wpAny_pure (wpAny_pure ⟨_, rfl, wpAny_pure h⟩))) hfit)
    | exact wpAny_bind (wpAny_bind (m := Builtin.Tuple.tupleExact _) (wpAny_newObj_type (wpAny_pure (wpAny_pure ⟨_, rfl, wpAny_pure h⟩)) hfit))
    | exact wpAny_bind (wpAny_bind (m := Builtin.Tuple.tupleExact _) (wpAny_newObj_type (wpAny_pure ⟨_, rfl, wpAny_pure h⟩) hfit))
end
section
variable {X : Cx}
def tRevT (K : PySem.W.Frag) (te : TE) : TE := fun σ H Q => te σ H fun x H1 => ∃ a xs, x = .ref a ∧ SqT K H1 a xs ∧ NewT H1 xs.reverse Q
theorem pe_revT {e : Expr} {te : TE} {k : Nat} {p1 p2 p3 pos : Pos} (he : PE X e te) : PE X (.Subscript e (.Slice none none (some (.UnaryOp .USub (.Constant (.int 1) k p1) p2)) p3) pos) (tRevT X.K te) := by
  refine ⟨fun pins s σ H Q I h => ?_⟩
  refine Subscript_ (thn (he.run pins s σ H _ I h) fun v s1 ⟨x, H1, I1, r1, a, xs, ex, hx, q⟩ => ?_)
  subst ex
  cases r1
  have step : L2.PO X (some (.UnaryOp .USub (.Constant (.int 1) k p1) p2)) (tPart (tUn (rU fun i => .int (-i)) (tC (.int 1)))) := po_some (pe_un un_neg pe_int)
  refine wpAny_Slice (thn (po_none.run pins s1 σ H1 (fun o H2 => o = none ∧ H2 = H1) I1 ⟨rfl, rfl⟩) fun vl s2 ⟨l, H2, I2, pl, el, e2⟩ => ?_)
  subst el e2
  refine thn (po_none.run pins s2 σ H2 (fun o H3 => o = none ∧ H3 = H2) I2 ⟨rfl, rfl⟩) fun vu s3 ⟨u, H3, I3, pu, eu, e3⟩ => ?_
  subst eu e3
  refine thn (step.run pins s3 σ H3 (fun o H4 => o = some (-1) ∧ H4 = H3) I3 ⟨1, rfl, -1, rfl, rfl, rfl⟩) fun vs s4 ⟨o, H4, I4, ps, eo, e4⟩ => ?_
  subst eo e4
  cases pl
  cases pu
  cases ps with
  | int _ tk =>
  have I5 : Inv X pins σ H4 { s4 with heap := s4.heap.push { cls := .type "slice", data := .fields #[Value.none, Value.none, .int (-1) tk] } } := I4.kept (t' := s4.toks) fun b ob q => Heap.get?_push_of_some _ q
  obtain ⟨its, r, ht, hz⟩ := I5.tuple hx
  have hlen := r.length
  show wpAny (model X.prog X.w) X.A (subscriptTail e (.Slice none none (some (.UnaryOp .USub (.Constant (.int 1) k p1) p2)) p3) (.ref a) (.ref s4.heap.objs.size)) (EP X pins σ Q) X.xe { s4 with heap := s4.heap.push { cls := .type "slice", data := .fields #[Value.none, Value.none, .int (-1) tk] } }
  refine tail_any (ops := [.ref a, .ref s4.heap.objs.size]) ht.typeIs slot_tuple_getitem.lookup ?_ (by with_unfolding_all rfl)
  refine getItem_tuple_back ht (Heap.IsSliceOf.new _ _ _ _) (by rw [List.size_toArray]; omega) ?_
  exact made (s := s4) (t1 := s4.toks) I5 (by rw [List.length_reverse]; exact hz) r.reverse q
end
end DL
/-! DL14: the drawn source; dicts walked, sorted, made of pairs; sequences turned round. -/
namespace DL
open PySem L2
/-! ### [::-1] -/
def gRev : D → Option D
  | .list xs => some (.list xs.reverse)
  | .tuple xs => some (.tuple xs.reverse)
  | _ => none
section
variable {X : Cx} {C : Conf} {E : XK} {K : PySem.W.Frag} {σ : St} {Pn : List Pin} {s : S} {H : Hp} {sa : Option (Addr × Addr)} {pos apos cpos : Pos}
theorem pe_or2 {e : Expr} {t t' : TE} (h : PE X e t) (h' : PE X e t') : PE X e (fun σ H Q => t σ H Q ∨ t' σ H Q) := ⟨fun pins s σ H Q I q => q.elim (h.run pins s σ H Q I) (h'.run pins s σ H Q I)⟩
theorem de_rev {e : Expr} {f : M D} {k : Nat} {p1 p2 p3 pos : Pos} (he : DE C E X e f) : DE C E X (.Subscript e (.Slice none none (some (.UnaryOp .USub (.Constant (.int 1) k p1) p2)) p3) pos) (mOp1 gRev f) := by
  refine pe_weak (pe_or2 (pe_revL he) (pe_revT he)) fun σ H Q ⟨Pn, s, c, h⟩ => ?_
  unfold mOp1 M.bind at h
  cases q : f s with
  | none => rw [q] at h; exact h.elim
  | some o =>
    rw [q] at h
    cases o with
    | ex e s' => exact .inl (rd_then c (by rw [q]; exact h))
    | ok d s' =>
      obtain ⟨dz, e1, k⟩ := WE.opt h
      cases d with
      | list xs =>
        cases e1
        refine .inl (rd_then c (by
          rw [q]
          intro v H1 ⟨sa, c1⟩
          obtain ⟨a, ys, rfl, g, r⟩ := (c1.dat List.mem_cons_self).lsti
          exact ⟨a, ys, rfl, g.sq, fun p hp => k _ _ ⟨sa, Cfg.newL (A := [.dat (.ref a) (.list xs)]) c1 r.reverse hp⟩⟩))
      | tuple xs =>
        cases e1
        refine .inr (rd_then c (by
          rw [q]
          intro v H1 ⟨sa, c1⟩
          obtain ⟨a, ys, rfl, g, r⟩ := (c1.dat List.mem_cons_self).tupi
          exact ⟨a, ys, rfl, g.sq, fun p ob hd hp => k _ _ ⟨sa, Cfg.newT (A := [.dat (.ref a) (.tuple xs)]) c1 r.reverse hd hp⟩⟩))
      | _ => cases e1
/-- a list turned round, a new one of one's own -/
def mRevF (f : M D) : M SV := f.bind fun d => match d with
  | .list xs => M.ret (.ol xs.reverse)
  | _ => fun _ => none
theorem df_rev {e : Expr} {f : M D} {k : Nat} {p1 p2 p3 pos : Pos} (he : DE C E X e f) : DF C E X (.Subscript e (.Slice none none (some (.UnaryOp .USub (.Constant (.int 1) k p1) p2)) p3) pos) (mRevF f) := by
  refine pe_weak (pe_revL he) fun σ H Q ⟨Pn, s, c, h⟩ => ?_
  refine WE.bind_rd c (R := WF X.K C E σ Pn Q) (fun z => z) (fun e s' h => h) h fun d s1 v H1 ⟨sa, c1⟩ h1 => ?_
  cases d with
  | list xs =>
    obtain ⟨a, ys, rfl, g, r⟩ := (c1.dat List.mem_cons_self).lsti
    exact ⟨a, ys, rfl, g.sq, fun p hp => h1 p _ ⟨sa, Cfg.newO (A := [.dat (.ref a) (.list xs)]) c1 r.reverse hp⟩⟩
  | _ => exact h1.elim
/-! ### one's own dict: sorted, its items, walked -/
def intKeys : List (Key × D) → Option (List Int)
  | [] => some []
  | (.inl k, _) :: r => (intKeys r).map (k :: ·)
  | (.inr _, _) :: _ => none
theorem intKeys_is : ∀ {kvs : List (Key × D)} {ks : List Int}, intKeys kvs = some ks → kvs.map (·.1) = ks.map Sum.inl
  | [], _, h => by cases h; rfl
  | (.inl k, _) :: r, ks, h => by
    have h : (intKeys r).map (k :: ·) = some ks := h
    cases q : intKeys r with
    | none => rw [q] at h; cases h
    | some ms => rw [q] at h; cases h; rw [List.map_cons, intKeys_is q]; rfl
  | (.inr _, _) :: _, _, h => by cases h
/-- sorted(d), d with int keys -/
def mSortedK (i : Nat) : M SV := fun s => match dictAt s.g i with
  | some kvs => match intKeys kvs with
    | some ks => if ks.length < 64 then some (.ok (.ol ((sortI ks).map .int)) s) else none
    | none => none
  | none => none
theorem df_sortedK (i : Nat) {x : Str} {p p2 pos : Pos} (hc : X.calm = true) (hl : Gl X "sorted") (hm : X.mg "sorted" = none) (hN : X.N[i]? = some x := by rfl) (hv : Vis X.env.scope x := by first | exact Or.inl rfl | exact Or.inr (Or.inl rfl) | exact Or.inr (Or.inr rfl)) (hd : (x == ("__debug__" : Str)) = false := by decide)
    (hcd : (x == ("__classdict__" : Str)) = false := by decide) (he : starEach [.Name x p2] X.env = (false, eval (.Name x p2) X.env) :: starEach [] X.env := by rfl) (hpl : (backTo pos (starEach [] X.env)).any (·.1) = false := by rfl) :
    DF C E X (.Call (.Name "sorted" p) [.Name x p2] [] pos) (mSortedK i) := by
  refine pe_weak (pe_callB (call_sortedDI hc) hl hm (by decide +kernel) (pa_cons (pe_var hN hv hd hcd) pa_nil he) (by decide) (by decide) he hpl) fun σ H Q ⟨Pn, s, ⟨sa, c⟩, h⟩ => ?_
  unfold mSortedK at h
  split at h
  · rename_i kvs q0
    split at h
    · rename_i ks q1
      by_cases h64 : ks.length < 64
      · rw [if_pos h64] at h
        obtain ⟨a, xs, e, g, r⟩ := c.dictAt q0
        refine ⟨.ref a, e, a, xs, ks, rfl, g, by rw [r.keys]; exact intKeys_is q1, h64, fun ys p hp hs hn => ?_⟩
        rw [sortI_is hp hs]
        exact h p _ ⟨sa, Cfg.newO (A := []) c (RpAll.ofInts _) hn⟩
      · rw [if_neg h64] at h; exact h.elim
    · exact h.elim
  · exact h.elim
def pairD (kv : Key × D) : D := .tuple [keyD kv.1, kv.2]
/-- list(d.items()) -/
def mItems (i : Nat) : M SV := fun s => match s.g[i]? with
  | some (.oK kvs) => some (.ok (.ol (kvs.map pairD)) s)
  | _ => none
theorem keyD_rp {W : Addr → Prop} (k : Key) : Rp K W H (kV k) (keyD k) := by
  cases k with
  | inl i => exact .int i
  | inr x => exact .str x
theorem rowy_key (k : Key) (d : D) : rowy [keyD k, d] = false := by cases k <;> rfl
theorem items_rp {W : Addr → Prop} {H' : Hp} : ∀ {ts : List Addr} {xs : List (Key × V)} {kvs : List (Key × D)}, (∀ t ∈ ts, ¬ W t) → Paired (fun (t : Addr) (q : Key × V) => H' t = some (.tup [kV q.1, q.2])) ts xs → KvAll K W H' xs kvs → RpAll K W H' (ts.map V.ref) (kvs.map pairD)
  | _, _, _, _, .nil, h => by cases h; exact .nil
  | _, _, _, hn, .cons q t, h => by
    cases h with
    | cons r r' =>
      rename_i kd kds
      refine .cons (.tup (.inl ⟨.inl q, hn _ List.mem_cons_self⟩) (fun e => by rw [rowy_key] at e; cases e) (.cons ?_ (.cons r.2 .nil))) (items_rp (fun t ht => hn t (List.mem_cons_of_mem _ ht)) t r')
      rw [r.1]
      exact keyD_rp _
theorem df_items (i : Nat) {x : Str} {p p2 pos : Pos} (hc : X.calm = true) (hl : Gl X "list") (hm : X.mg "list" = none) (hb : attributeBase (.Name x p2) "items" X.env (eval (.Name x p2) X.env) = eval (.Name x p2) X.env := by rfl) (hline : (apos.endLine == cpos.line) = true := by rfl)
    (hs : starEach [.Call (.Attribute (.Name x p2) "items" apos) [] [] cpos] X.env = (false, eval (.Call (.Attribute (.Name x p2) "items" apos) [] [] cpos) X.env) :: starEach [] X.env := by rfl)
    (hN : X.N[i]? = some x := by rfl) (hv : Vis X.env.scope x := by first | exact Or.inl rfl | exact Or.inr (Or.inl rfl) | exact Or.inr (Or.inr rfl)) (hd : (x == ("__debug__" : Str)) = false := by decide)
    (hcd : (x == ("__classdict__" : Str)) = false := by decide) : DF C E X (.Call (.Name "list" p) [.Call (.Attribute (.Name x p2) "items" apos) [] [] cpos] [] pos) (mItems i) := by
  refine pe_weak (LiI.pe_listItems hc (pe_var hN hv hd hcd) hl hm (by decide +kernel) hb hline hs) fun σ H Q ⟨Pn, s, ⟨sa, c⟩, h⟩ => ?_
  unfold mItems at h
  split at h
  · rename_i kvs q0
    obtain ⟨a, xs, e, g, r⟩ := c.slot i _ q0
    refine ⟨.ref a, slot_of_getD e, a, xs, rfl, g, fun H' p ts hk hp ht hpt hH hts => h p H' ⟨sa, ?_⟩⟩
    -- all that stood stands; the new list in the hand
    have hW : ∀ b, Wr C sa σ s.g (.own p (.ol (kvs.map pairD)) :: Pn) b → b = p ∨ Wr C sa σ s.g Pn b := fun b w => by
      rcases w with (w | w | w) | w
      · exact .inr (.inl (.inl w))
      · rcases PO.cons.mp w with z | z
        · cases z; exact .inl rfl
        · exact .inr (.inl (.inr (.inl z)))
      · exact .inr (.inl (.inr (.inr w)))
      · exact .inr (.inr w)
    refine c.step c.len (fun k j sv e => (c.slot j sv e).kept k fun _ a u _ q => hk a u q) (fun k q hq => ?_) (fun a ⟨j, o⟩ => .inl ⟨.inl ⟨j, o⟩, c.u3 j a o⟩) (fun a z => ?_) (fun a o _ e => hk a o e) c.u1 (fun j a o z => ?_) ?_ (c.src.kept fun a o _ e => hk a o e)
    · rcases List.mem_cons.mp hq with rfl | hq
      · refine ⟨rfl, p, _, rfl, hH, items_rp (fun t htm w => ?_) hts (r.kept k)⟩
        rcases hW t w with z | z
        · rw [z] at htm; exact hpt htm
        · exact c.notW (ht t htm) z
      · exact (c.pin q hq).kept k fun a u _ e => hk a u e
    · rcases PO.cons.mp z with z | z
      · cases z; exact .inr hp
      · exact .inl ⟨.inr (.inl z), c.u4 a z⟩
    · rcases PO.cons.mp z with z | z
      · cases z; exact c.notW hp (.inl (.inl ⟨j, o⟩))
      · exact c.u2 j a o z
    · show (p :: Pn.filterMap Pin.adr).Nodup
      exact List.nodup_cons.mpr ⟨fun z => c.notW hp (.inl (.inr (.inl (PO.adr.mpr z)))), c.u5⟩
  · exact h.elim
/-- dict(xs), xs a list of pairs -/
def pairOf : D → Option (Key × D)
  | .tuple [k, v] => (keyOf k).map fun k => (k, v)
  | _ => none
def pairsOf : List D → Option (List (Key × D))
  | [] => some []
  | d :: ds => (pairOf d).bind fun p => (pairsOf ds).map (p :: ·)
def mergeD (kvs more : List (Key × D)) : List (Key × D) := more.foldl (fun acc kv => putD acc kv.1 kv.2) kvs
def gDictOf : List D → Option (List (Key × D))
  | [.list ds] => (pairsOf ds).map fun ps => mergeD [] ps
  | [.tuple ds] => if rowy ds = true then (pairsOf ds).map fun ps => mergeD [] ps else none
  | _ => none
def mDictOf (fs : M (List D)) : M SV := fs.bind fun ds => M.opt ((gDictOf ds).map .oK)
theorem pairs_rp {W : Addr → Prop} : ∀ {vs : List V} {ds : List D} {ps : List (Key × D)}, RpAll K W H vs ds → pairsOf ds = some ps → ∃ (as : List Addr) (xs : List (Key × V)), vs = as.map V.ref ∧ Paired (fun p kv => SqT K H p [kV kv.1, kv.2]) as xs ∧ KvAll K W H xs ps
  | _, _, ps, .nil, h => by cases h; exact ⟨[], [], rfl, .nil, .nil⟩
  | _, _, ps, .cons (d := d) (ds := ds) r t, h => by
    have h : ((pairOf d).bind fun p => (pairsOf ds).map (p :: ·)) = some ps := h
    cases q : pairOf d with
    | none => rw [q] at h; cases h
    | some kd =>
      rw [q] at h
      have h : (pairsOf ds).map (kd :: ·) = some ps := h
      cases q2 : pairsOf ds with
      | none => rw [q2] at h; cases h
      | some ps' =>
        rw [q2] at h
        cases h
        obtain ⟨as, xs, e, p1, p2⟩ := pairs_rp t q2
        unfold pairOf at q
        split at q
        · rename_i dk dv
          cases ek : keyOf dk with
          | none => rw [ek] at q; cases q
          | some k =>
            rw [ek] at q
            cases q
            obtain ⟨a, ys, rfl, g, ry⟩ := r.tupi
            cases ry with
            | cons r1 ry =>
              cases ry with
              | cons r2 ry =>
                cases ry
                rw [keyOf_is ek r1] at g
                rename_i v2
                exact ⟨a :: as, (k, v2) :: xs, by rw [e]; rfl, .cons g.sq p1, .cons ⟨rfl, r2⟩ p2⟩
        · cases q
theorem merge_rp {W : Addr → Prop} : ∀ {ys : List (Key × V)} {ps : List (Key × D)} {xs : List (Key × V)} {kvs : List (Key × D)}, KvAll K W H ys ps → KvAll K W H xs kvs → KvAll K W H (mergeK xs ys) (mergeD kvs ps)
  | _, _, _, _, .nil, h => h
  | _, _, _, _, .cons (a := a) (b := b) r t, h => by
    unfold mergeK mergeD
    rw [List.foldl_cons, List.foldl_cons]
    refine merge_rp t ?_
    rw [r.1]
    exact h.put _ r.2
theorem df_dictOf {e : Expr} {fs : M (List D)} {p pos : Pos} (hc : X.calm = true) (hl : Gl X "dict") (hm : X.mg "dict" = none) (h : DA C E X [e] fs) (he : starEach [e] X.env = (false, eval e X.env) :: starEach [] X.env := by rfl) (hpl : (backTo pos (starEach [] X.env)).any (·.1) = false := by rfl) :
    DF C E X (.Call (.Name "dict" p) [e] [] pos) (mDictOf fs) := by
  refine pe_weak (pe_callTy ((call_dictP hc).or (call_dictN hc)) hl hm (by decide +kernel) h (by decide) (by decide) he hpl) fun σ H Q ⟨Pn, s, c, h⟩ => ?_
  refine rdA.bind_rd c (R := WF X.K C E σ Pn Q) (fun z => z) (fun e s' h => h) h fun ds s1 vs H1 hl c1 h1 => ?_
  unfold gDictOf at h1
  split at h1
  · rename_i xs
    cases q : pairsOf xs with
    | none => rw [q] at h1; exact h1.elim
    | some ps =>
      rw [q] at h1
      have h1 : ∀ a H', Cf X.K C (.own a (.oK (mergeD [] ps)) :: Pn) s1 σ H' → Q (.ref a) H' := h1
      obtain ⟨v, sa, rfl, c', r⟩ := c1.arg1 hl
      obtain ⟨a, ys, rfl, g, ry⟩ := r.lsti
      obtain ⟨as, zs, e2, p1, p2⟩ := pairs_rp ry q
      rw [e2] at g
      refine .inl ⟨a, as, zs, rfl, g.sq, p1, fun p hp => h1 p _ ⟨sa, ?_⟩⟩
      have c2 := c'.lay hp (.dK (mergeK [] zs))
      exact (c2.repin (q := .own p (.oK (mergeD [] ps))) rfl ⟨rfl, p, _, rfl, upd_same, (merge_rp p2 .nil).kept (kept_lay hp)⟩).sub (List.Sublist.cons_cons _ (List.sublist_cons_self _ _))
  · rename_i xs
    cases ew : rowy xs with
    | false => rw [ew] at h1; exact h1.elim
    | true =>
    rw [ew, if_pos rfl] at h1
    cases q : pairsOf xs with
    | none => rw [q] at h1; exact h1.elim
    | some ps =>
      rw [q] at h1
      have h1 : ∀ a H', Cf X.K C (.own a (.oK (mergeD [] ps)) :: Pn) s1 σ H' → Q (.ref a) H' := h1
      obtain ⟨v, sa, rfl, c', r⟩ := c1.arg1 hl
      obtain ⟨a, ys, rfl, g, ry⟩ := r.tupi
      have dn := r.tupn ew
      obtain ⟨as, zs, e2, p1, p2⟩ := pairs_rp ry q
      rw [e2] at g
      refine .inr ⟨a, as, zs, rfl, g.sq, dn, p1, fun p hp => h1 p _ ⟨sa, ?_⟩⟩
      have c2 := c'.lay hp (.dK (mergeK [] zs))
      exact (c2.repin (q := .own p (.oK (mergeD [] ps))) rfl ⟨rfl, p, _, rfl, upd_same, (merge_rp p2 .nil).kept (kept_lay hp)⟩).sub (List.Sublist.cons_cons _ (List.sublist_cons_self _ _))
  · exact h1.elim
end
end DL
/-! DL15: for over one's own dict: the dict is locked while the loop runs. -/
namespace DL
open PySem L2
/-- data seen through a lock laid or taken off -/
def Sim (W : Addr → Prop) (H : Hp) (W' : Addr → Prop) (H' : Hp) : Prop := (∀ a xs, ¬ W a → H a = some (.lst xs) → ¬ W' a ∧ H' a = some (.lst xs)) ∧ (∀ a u, (∀ o v, u ≠ .frz o v) → Rd H a u ∧ ¬ W a → Rd H' a u ∧ ¬ W' a) ∧ ∀ a o xs, ¬ W a → H a = some (.frz o (.tup xs)) → ¬ W' a ∧ H' a = some (.frz o (.tup xs))
section
variable {K : PySem.W.Frag} {W W' : Addr → Prop} {H H' : Hp}
theorem SqLw.sim (k : Sim W H W' H') {a : Addr} {xs : List V} (h : SqLw K W H a xs) : SqLw K W' H' a xs := ⟨(k.1 a xs h.2 h.1).2, (k.1 a xs h.2 h.1).1⟩
theorem SqSc.sim (k : Sim W H W' H') {a : Addr} {xs : List V} (h : SqSc K W H a xs) : SqSc K W' H' a xs := h.imp (k.2.1 _ _ fun _ _ z => nomatch z) id
theorem SqTw.sim (k : Sim W H W' H') {a : Addr} {xs : List V} (h : SqTw K W H a xs) : SqTw K W' H' a xs := h.imp (k.2.1 _ _ fun _ _ z => nomatch z) id
theorem DNw.sim (k : Sim W H W' H') {a : Addr} (h : DNw K W H a) : DNw K W' H' a := by
  rcases h with ⟨o, xs, d, e, n⟩ | h
  · obtain ⟨n', e'⟩ := k.2.2 a o xs n e
    exact .inl ⟨o, xs, d, e', n'⟩
  · exact .inr h
mutual
theorem Rp.sim (k : Sim W H W' H') : ∀ (d : D) (v : V), Rp K W H v d → Rp K W' H' v d
  | .none, _, h => by cases h; exact .non
  | .bool b, _, h => by cases h; exact .bl b
  | .int i, _, h => by cases h; exact .int i
  | .str x, _, h => by cases h; exact .str x
  | .list ds, _, h => by
    cases h with
    | lst h1 h2 => exact .lst (h1.sim k) (RpAll.sim k ds _ h2)
  | .tuple ds, _, h => by
    cases h with
    | tup h1 h0 h2 => exact .tup (h1.sim k) (fun e => (h0 e).sim k) (RpAll.sim k ds _ h2)
  | .dict ds, _, h => by
    cases h with
    | dct h1 h2 => exact .dct (k.2.1 _ _ (fun _ _ z => nomatch z) h1) (RpKv.sim k ds _ h2)
theorem RpAll.sim (k : Sim W H W' H') : ∀ (ds : List D) (vs : List V), RpAll K W H vs ds → RpAll K W' H' vs ds
  | [], _, h => by cases h; exact .nil
  | d :: ds, _, h => by
    cases h with
    | cons h1 h2 => exact .cons (Rp.sim k d _ h1) (RpAll.sim k ds _ h2)
theorem RpKv.sim (k : Sim W H W' H') : ∀ (ds : List (D × D)) (vs : List (Key × V)), RpKv K W H vs ds → RpKv K W' H' vs ds
  | [], _, h => by cases h; exact .nil
  | (_, d) :: ds, _, h => by
    cases h with
    | cons h1 h2 => exact .cons (Rp.sim k d _ h1) (RpKv.sim k ds _ h2)
end
theorem SlotOk.sim {sa : Option (Addr × Addr)} {o : Option V} {sv : SV} (k : Sim W H W' H') (ho : sv.own = true → ∀ a u, o = some (.ref a) → H a = some u → H' a = some u) (h : SlotOk K W sa H o sv) : SlotOk K W' sa H' o sv := by
  cases sv with
  | un => trivial
  | d x => obtain ⟨v, e, r⟩ := h; exact ⟨v, e, Rp.sim k _ _ r⟩
  | ol ds => obtain ⟨a, xs, e, q, r⟩ := h; exact ⟨a, xs, e, ho rfl a _ e q, RpAll.sim k _ _ r⟩
  | oK kvs => obtain ⟨a, xs, e, q, r⟩ := h; exact ⟨a, xs, e, ho rfl a _ e q, Paired.mapP r fun _ _ z => ⟨z.1, Rp.sim k _ _ z.2⟩⟩
  | oT kvs => obtain ⟨a, xs, e, q, r⟩ := h; exact ⟨a, xs, e, ho rfl a _ e q, Paired.mapP r fun _ _ z => ⟨z.1, Rp.sim k _ _ z.2⟩⟩
  | lK kvs => obtain ⟨a, xs, ob, e, q, r⟩ := h; exact ⟨a, xs, ob, e, ho rfl a _ e q, Paired.mapP r fun _ _ z => ⟨z.1, Rp.sim k _ _ z.2⟩⟩
  | src => exact h
  | cells => exact h
  | scr ns => obtain ⟨a, e, q⟩ := h; exact ⟨a, e, q.sim k⟩
theorem PinOk.sim {p : Pin} (k : Sim W H W' H') (ho : ∀ a o, p.adr = some a → H a = some o → H' a = some o) (hf : ∀ a o, p = .fix a o → H a = some o → H' a = some o ∧ ¬ W' a) (h : PinOk K W H p) : PinOk K W' H' p := by
  cases p with
  | dat v d => exact Rp.sim k _ _ h
  | obj a o => exact ho a o rfl h
  | own a sv => exact ⟨h.1, SlotOk.sim k (fun _ b u e q => by cases e; exact ho a u rfl q) h.2⟩
  | fix a o => exact hf a o rfl h.1
  | sq a ns => exact SqSc.sim k h
end
section
variable {K : PySem.W.Frag} {C : Conf} {E : XK} {σ : St} {Pn : List Pin} {s : S} {H : Hp} {sa : Option (Addr × Addr)}
theorem PO.cons_fix {b : Addr} {u : HO} {a : Addr} : PO (.fix b u :: Pn) a ↔ PO Pn a := PO.cons.trans ⟨fun h => h.elim (fun z => nomatch z) id, .inr⟩
theorem wr0_fix {b : Addr} {u : HO} {g : List SV} : Wr0 sa σ g (.fix b u :: Pn) = Wr0 sa σ g Pn := funext fun _ => propext (by unfold Wr0; rw [PO.cons_fix])
theorem wr_fix {b : Addr} {u : HO} {g : List SV} : Wr C sa σ g (.fix b u :: Pn) = Wr C sa σ g Pn := by unfold Wr; rw [wr0_fix]
/-- an object that nobody writes, pinned as it stands -/
theorem Cfg.pinF (c : Cfg K C sa Pn s σ H) {a : Addr} {o : HO} (h : H a = some o) (n : ¬ Wr C sa σ s.g Pn a) : Cfg K C sa (.fix a o :: Pn) s σ H := by
  refine ⟨c.len, ?_, ?_, c.u1, fun i a o z => c.u2 i a o (PO.cons_fix.mp z), c.u3, fun a z => c.u4 a (PO.cons_fix.mp z), c.u5, c.src, c.frame, ?_, c.keep⟩
  · rw [wr_fix]; exact c.slot
  · rw [wr_fix]
    intro p hp
    rcases List.mem_cons.mp hp with rfl | hp
    · exact ⟨h, n⟩
    · exact c.pin p hp
  · rw [wr0_fix]; exact c.fresh
theorem Cfg.fixed (c : Cfg K C sa Pn s σ H) {a : Addr} {o : HO} (h : Pin.fix a o ∈ Pn) : H a = some o ∧ ¬ Wr C sa σ s.g Pn a := c.pin _ h
/-- a raw object let go -/
theorem Cfg.letGo {p : Addr} {o : HO} (c : Cfg K C sa (.obj p o :: Pn) s σ H) : Cfg K C sa Pn s σ H ∧ ¬ Wr C sa σ s.g Pn p := by
  have hp : PO (.obj p o :: Pn) p := PO.cons_obj.mpr (.inl rfl)
  have hn : ¬ PO Pn p := fun z => (List.nodup_cons.mp (show (p :: Pn.filterMap Pin.adr).Nodup from c.u5)).1 (PO.adr.mp z)
  refine ⟨c.sub (List.sublist_cons_self _ _), fun w => ?_⟩
  rcases w with (⟨i, w⟩ | w | w) | w
  · exact c.u2 i p w hp
  · exact hn w
  · exact c.u4 p hp w
  · exact c.notZ (.inr (.inl hp)) w
/-- the lock is laid -/
theorem Cfg.lock (c : Cfg K C sa Pn s σ H) {i : Nat} {kvs : List (Key × D)} (hi : s.g[i]? = some (.oK kvs)) : ∃ a xs, σ[i]? = some (some (.ref a)) ∧ H a = some (.dK xs) ∧ C.H0 a = none ∧ (∀ o, Pin.fix a o ∉ Pn) ∧ xs.map (·.1) = kvs.map (·.1) ∧
    ∀ od, Cfg K C sa (.fix a (.frz od (.dK xs)) :: Pn) (s.set i (.d (.dict (kvs.map kvD)))) σ (upd H a (.frz od (.dK xs))) := by
  obtain ⟨a, xs, e0, g0, r0⟩ := c.slot i _ hi
  have e0 := slot_of_getD e0
  have ow : Own σ s.g i a := ⟨_, hi, rfl, e0⟩
  refine ⟨a, xs, e0, g0, ?_, fun o h => (c.fixed h).2 (.inl (.inl ⟨i, ow⟩)), r0.keys, fun od => ?_⟩
  · rcases c.fresh a (.inl ⟨i, ow⟩) with z | ⟨x, y, e, z⟩
    · exact z
    · exact (c.u3 i a ow ⟨x, y, c.keep _ e, z⟩).elim
  · obtain ⟨p, e1, c1⟩ := c.take hi rfl
    rw [e0] at e1
    cases e1
    obtain ⟨_, b, ys, e2, g2, r2⟩ : true = true ∧ SlotOk K (Wr C sa σ (s.set i .un).g (.own a (.oK kvs) :: Pn)) none H (some (.ref a)) (.oK kvs) := c1.pin _ List.mem_cons_self
    cases e2
    rw [g0] at g2
    cases g2
    have c2 : Cfg K C sa (.obj a (.dK xs) :: Pn) (s.set i .un) σ H := c1.repin rfl g0
    obtain ⟨c4, n4⟩ := (c2.put (.frz od (.dK xs))).letGo
    have kp : Kept (Wr C sa σ (s.set i .un).g (.own a (.oK kvs) :: Pn)) H (Wr C sa σ (s.set i .un).g Pn) (upd H a (.frz od (.dK xs))) := fun b u n e => by
      have ne : b ≠ a := fun z => n (z ▸ .inl (.inr (.inl (PO.cons.mpr (.inl rfl)))))
      refine ⟨fun w => n ?_, by rw [upd_ne ne]; exact e⟩
      rcases w with (w | w | w) | w
      · exact .inl (.inl w)
      · exact .inl (.inr (.inl (PO.cons.mpr (.inr w))))
      · exact .inl (.inr (.inr w))
      · exact .inr w
    have rd : Rp K (Wr C sa σ (s.set i .un).g Pn) (upd H a (.frz od (.dK xs))) (.ref a) (.dict (kvs.map kvD)) := .dct ⟨.inr ⟨od, upd_same⟩, n4⟩ (all_rpKv (r2.kept kp))
    have c5 := c4.pinF (a := a) (o := .frz od (.dK xs)) upd_same n4
    have c6 := (c5.pinD (v := .ref a) (d := .dict (kvs.map kvD)) (by rw [wr_fix]; exact rd)).setD i
    rw [S.set_set, set_same e0] at c6
    exact c6
/-- .. and taken off -/
theorem Cfg.unlock {a : Addr} {od : Obj} {xs : List (Key × V)} (c : Cfg K C sa (.fix a (.frz od (.dK xs)) :: Pn) s σ H) (h0 : C.H0 a = none) (hf : ∀ o, Pin.fix a o ∉ Pn) : Cfg K C sa Pn s σ (upd H a (.dK xs)) := by
  obtain ⟨ha, na⟩ := c.fixed List.mem_cons_self
  rw [wr_fix] at na
  have c1 := c.sub (List.sublist_cons_self _ _)
  have up : ∀ b u, b ≠ a → H b = some u → upd H a (.dK xs) b = some u := fun b u n e => by rw [upd_ne n]; exact e
  have k : Sim (Wr C sa σ s.g Pn) H (Wr C sa σ s.g Pn) (upd H a (.dK xs)) := by
    refine ⟨fun b ys n e => ⟨n, up b _ (fun z => ?_) e⟩, fun b u hu ⟨r, n⟩ => ⟨?_, n⟩, fun b o ys n e => ⟨n, up b _ (fun z => ?_) e⟩⟩
    · rw [z, ha] at e; cases e
    · by_cases hb : b = a
      · subst hb
        rcases r with r | ⟨o, r⟩
        · rw [ha] at r
          cases r
          exact (hu _ _ rfl).elim
        · rw [ha] at r
          cases r
          exact .inl upd_same
      · rcases r with r | ⟨o, r⟩
        · exact .inl (up b _ hb r)
        · exact .inr ⟨o, up b _ hb r⟩
    · rw [z, ha] at e; cases e
  have nw : ∀ b, Wr C sa σ s.g Pn b → b ≠ a := fun b w z => na (z ▸ w)
  refine ⟨c1.len, fun i sv e => (c1.slot i sv e).sim k fun ho b u e1 q => up b u (nw b (.inl (.inl ⟨i, sv, e, ho, slot_of_getD e1⟩))) q, fun p hp => (c1.pin p hp).sim k (fun b u e q => up b u (nw b (.inl (.inr (.inl ⟨p, hp, e⟩)))) q) fun b u e q => ?_, c1.u1, c1.u2, c1.u3, c1.u4, c1.u5,
    c1.src.kept fun b u z e => up b u (nw b (.inl (.inr (.inr z)))) e, fun b o e n => up b o (fun z => by rw [z, h0] at e; cases e) (c1.frame b o e n), c1.fresh, c1.keep⟩
  subst e
  exact ⟨up b u (fun z => hf u (z ▸ hp)) q, (c1.fixed hp).2⟩
end
/-! ### the loop's turns -/
theorem for_core {K : PySem.W.Frag} {C : Conf} {E : XK} {σ : St} {Pn : List Pin} {s : S} {H : Hp} {D : Ends} {J : It} {ds : List DL.D} {A : List Pin} {g : G} {is : List Nat} {b : MS} (c1 : Cf K C Pn s σ H) (hA : ∀ p ∈ A, p ∈ Pn) (ok : ItOk K C J ds A) (h : WS K C E Pn D (loopF g b ds s)) :
    ∃ W : Nat → Nat → St → Hp → Prop, (∃ m, W 0 m σ H) ∧ ∀ i m σ H, W i m σ H →
      (J.stop i H ∧ D.nx σ H) ∨ (J.go i H ∧ ∃ N : St → Hp → Prop, (∀ σ' H', N σ' H' → ∃ m', m' < m ∧ W (i + 1) m' σ' H') ∧ ∀ x H', J.yld i H x H' → rdG K C g is x σ H' fun σ2 H2 => rdS K C E b { D with nx := N, ct := N, bk := D.nx } σ2 H2) := by
  refine ⟨fun i m σ H => m = ds.length - i ∧ i ≤ ds.length ∧ ∃ s, Cf K C Pn s σ H ∧ WS K C E Pn D (loopF g b (ds.drop i) s), ⟨_, rfl, Nat.zero_le _, s, c1, h⟩, ?_⟩
  rintro i m σ2 H2 ⟨rfl, hi2, s2, c2, h2⟩
  obtain ⟨o1, o2⟩ := ok i Pn s2 σ2 H2 hA c2
  by_cases hlt : i < ds.length
  · have ed : ds.drop i = ds[i] :: ds.drop (i + 1) := List.drop_eq_getElem_cons hlt
    obtain ⟨go, yl⟩ := o1 ds[i] (List.getElem?_eq_getElem hlt)
    rw [ed] at h2
    refine .inr ⟨go, fun σ' H' => ∃ s, Cf K C Pn s σ' H' ∧ WS K C E Pn D (loopF g b (ds.drop (i + 1)) s), fun σ' H' ⟨s3, c3, h3⟩ => ⟨ds.length - (i + 1), by omega, rfl, hlt, s3, c3, h3⟩, fun x H3 y => ?_⟩
    have h2 : WS K C E Pn D (match g ds[i] s2 with
      | none => none
      | some s1 => (b.bind fun fl => match fl with
        | .nx => loopF g b (ds.drop (i + 1))
        | .ct => loopF g b (ds.drop (i + 1))
        | .bk => M.ret .nx
        | .rt d => M.ret (.rt d)
        | .rs u => M.ret (.rs u)) s1) := h2
    cases qg : g ds[i] s2 with
    | none => rw [qg] at h2; exact h2.elim
    | some s3 =>
      rw [qg] at h2
      refine ⟨Pn, s2, ds[i], yl x H3 y, s3, qg, fun σ4 H4 c4 _ => ?_⟩
      refine ⟨Pn, s3, c4, ?_⟩
      have h2 : WS K C E Pn D ((b.bind fun fl => match fl with
        | .nx => loopF g b (ds.drop (i + 1))
        | .ct => loopF g b (ds.drop (i + 1))
        | .bk => M.ret .nx
        | .rt d => M.ret (.rt d)
        | .rs u => M.ret (.rs u)) s3) := h2
      unfold M.bind at h2
      cases qb : b s3 with
      | none => rw [qb] at h2; exact h2.elim
      | some o =>
        rw [qb] at h2
        cases o with
        | ex e s5 => exact h2
        | ok fl s5 =>
          cases fl with
          | nx => exact fun σ' H' c' => ⟨s5, c', h2⟩
          | ct => exact fun σ' H' c' => ⟨s5, c', h2⟩
          | bk => exact fun σ' H' c' => h2 σ' H' c'
          | rt d => exact fun v σ' H' c' => h2 v σ' H' c'
          | rs u => exact fun p c σ' H' c' => h2 p c σ' H' c'
  · have e : i = ds.length := by omega
    subst e
    rw [List.drop_length] at h2
    exact .inl ⟨o2 (Nat.le_refl _), h2 σ2 H2 c2⟩
/-- for k in d -/
def mForK (i : Nat) (g : G) (b : MS) : MS := fun s => match s.g[i]? with
  | some (.oK kvs) => loopF g b (kvs.map fun kv => keyD kv.1) (s.set i (.d (.dict (kvs.map kvD))))
  | _ => none
theorem it_keys {K : PySem.W.Frag} {C : Conf} {a : Addr} {od : Obj} {xs : List (Key × V)} {kvs : List (Key × D)} (e : xs.map (·.1) = kvs.map (·.1)) : ItOk K C (Itk a od xs) (kvs.map fun kv => keyD kv.1) [.fix a (.frz od (.dK xs))] := by
  intro i Pn s σ H hm ⟨sa, c⟩
  have ha := (c.fixed (hm _ List.mem_cons_self)).1
  have el : xs.length = kvs.length := by have := congrArg List.length e; simpa using this
  have ek : (kvs.map fun kv => keyD kv.1) = xs.map fun kv => keyD kv.1 := by
    have e2 := congrArg (List.map keyD) e
    rw [List.map_map, List.map_map] at e2
    exact e2.symm
  rw [ek]
  refine ⟨fun d hd => ?_, fun hl => ⟨ha, by simpa using hl⟩⟩
  rw [List.getElem?_map] at hd
  cases q : xs[i]? with
  | none => rw [q] at hd; cases hd
  | some kv =>
    rw [q] at hd
    have hd : keyD kv.1 = d := Option.some.inj hd
    subst hd
    refine ⟨⟨ha, (List.getElem?_eq_some_iff.mp q).1⟩, fun x H' ⟨eh, k, v, e1, e2⟩ => ?_⟩
    subst eh
    rw [q] at e1
    cases e1
    subst e2
    refine ⟨sa, c.pinD ?_⟩
    cases k with
    | inl i => exact .int i
    | inr x => exact .str x
section
variable {X : Cx} {C : Conf} {E : XK} {K : PySem.W.Frag} {σ : St} {Pn : List Pin} {s : S} {H : Hp} {sa : Option (Addr × Addr)} {pos apos cpos : Pos}
theorem ds_forK (i : Nat) {x : Str} {tg : Expr} {body : List Stmt} {g : G} {is : List Nat} {b : MS} {p : Pos} (hp : PassesOwn (model X.prog X.w) X.A X.env X.xe) (hc : X.calm = true) (hg : DG C X tg g is) (hb : DSs C E X body b)
    (hN : X.N[i]? = some x := by rfl) (hv : Vis X.env.scope x := by first | exact Or.inl rfl | exact Or.inr (Or.inl rfl) | exact Or.inr (Or.inr rfl)) (hd : (x == ("__debug__" : Str)) = false := by decide)
    (hcd : (x == ("__classdict__" : Str)) = false := by decide) (hs : ∀ y, foldedSetIterable (.Name x p) X.env y = pure y := by intro _; rfl) : DS C E X (.For tg (.Name x p) body [] pos) (mForK i g b) := by
  refine ps_weak (ps_lock (ps_for hp hc (pi_keys (pe_var hN hv hd hcd)) hg hb hs)) fun D σ H ⟨Pn, s, ⟨sa, c⟩, h⟩ => ?_
  unfold mForK at h
  split at h
  · rename_i kvs q0
    obtain ⟨a, xs, e, gH, h0, hf, ek, lk⟩ := c.lock q0
    refine ⟨a, .dK xs, gH, trivial, fun od => ?_⟩
    have c1 := lk od
    refine ⟨.ref a, e, a, od, rfl, .inl ⟨xs, upd_same, ?_⟩⟩
    refine for_core ⟨sa, c1⟩ (A := [.fix a (.frz od (.dK xs))]) (fun p hp => by rw [List.mem_singleton.mp hp]; exact List.mem_cons_self) (it_keys ek) ?_
    generalize loopF g b (kvs.map fun kv => keyD kv.1) (s.set i (.d (.dict (kvs.map kvD)))) = r at h ⊢
    have un : ∀ {Q : List Pin} {s' : S} {σ' : St} {H' : Hp}, (∀ o, Pin.fix a o ∉ Q) → Cf X.K C (.fix a (.frz od (.dK xs)) :: Q) s' σ' H' → H' a = some (.frz od (.dK xs)) ∧ Cf X.K C Q s' σ' (upd H' a (.dK xs)) := fun hq ⟨sb, c'⟩ => ⟨(c'.fixed List.mem_cons_self).1, sb, c'.unlock h0 hq⟩
    cases r with
    | none => exact h
    | some o =>
      cases o with
      | ex e s5 => exact fun c dc σ' H' c' => h c dc σ' H' (c'.sub (List.sublist_cons_self _ _))
      | ok fl s5 =>
        cases fl with
        | nx => exact fun σ' H' c' => let ⟨u1, u2⟩ := un hf c'; ⟨u1, h σ' _ u2⟩
        | ct => exact fun σ' H' c' => let ⟨u1, u2⟩ := un hf c'; ⟨u1, h σ' _ u2⟩
        | bk => exact fun σ' H' c' => let ⟨u1, u2⟩ := un hf c'; ⟨u1, h σ' _ u2⟩
        | rt d =>
          intro v σ' H' c'
          have hq : ∀ o, Pin.fix a o ∉ Pin.dat v d :: Pn := fun o hm => by
            rcases List.mem_cons.mp hm with z | z
            · cases z
            · exact hf o z
          obtain ⟨u1, u2⟩ := un hq (c'.perm (List.Perm.swap _ _ _))
          exact ⟨u1, h v σ' _ u2⟩
        | rs u =>
          intro p c σ' H' c'
          have hq : ∀ o, Pin.fix a o ∉ Pin.obj p (.dK (srcK u c)) :: Pin.obj c (.lst (u.cells.map V.int)) :: Pn := fun o hm => by
            rcases List.mem_cons.mp hm with z | z
            · cases z
            · rcases List.mem_cons.mp z with z | z
              · cases z
              · exact hf o z
          obtain ⟨u1, u2⟩ := un hq (c'.perm (List.Perm.trans (List.Perm.swap _ _ _) (List.Perm.cons _ (List.Perm.swap _ _ _))))
          exact ⟨u1, h p c σ' _ u2⟩
  · exact h.elim
end
end DL
/-! DL16: the drawn source: made, handed back, read, written. -/
namespace DL
open PySem L2
inductive Fd where
  | left | mixed | turn
def Fd.str : Fd → Str
  | .left => "left"
  | .mixed => "mixed"
  | .turn => "turn"
def Fd.get (f : Fd) (u : Src) : Int := match f with
  | .left => u.left
  | .mixed => u.mixed
  | .turn => u.turn
def Fd.put (f : Fd) (n : Int) (u : Src) : Src := match f with
  | .left => { u with left := n }
  | .mixed => { u with mixed := n }
  | .turn => { u with turn := n }
theorem key_ne {x y : Str} (h : (x == y) = false) : ¬ (Sum.inr x : Key) = .inr y := fun e => by cases e; simp at h
theorem valV_pos' {kv : Key × V} {r : List (Key × V)} {k : Key} (h : kv.1 = k) : valV (kv :: r) k = some kv.2 := valV_pos h
theorem srcK_get (u : Src) (c : Addr) (f : Fd) : valV (srcK u c) (.inr f.str) = some (.int (f.get u)) := by
  unfold srcK
  cases f
  · rw [valV_neg (key_ne (by decide +kernel))]; exact valV_pos rfl
  · rw [valV_neg (key_ne (by decide +kernel)), valV_neg (key_ne (by decide +kernel))]; exact valV_pos rfl
  · rw [valV_neg (key_ne (by decide +kernel)), valV_neg (key_ne (by decide +kernel)), valV_neg (key_ne (by decide +kernel))]; exact valV_pos rfl
theorem srcK_cells (u : Src) (c : Addr) : valV (srcK u c) (.inr "cells") = some (.ref c) := valV_pos rfl
theorem srcK_put (u : Src) (c : Addr) (f : Fd) (n : Int) : putK (srcK u c) (.inr f.str) (.int n) = srcK (f.put n u) c := by
  unfold putK srcK
  cases f
  · simp only [List.any_cons, List.map_cons, List.map_nil, List.any_nil, if_neg (key_ne (x := "cells") (y := Fd.left.str) (by decide +kernel)), if_neg (key_ne (x := "mixed") (y := Fd.left.str) (by decide +kernel)), if_neg (key_ne (x := "turn") (y := Fd.left.str) (by decide +kernel)), if_pos (show (Sum.inr "left" : Key) = .inr Fd.left.str from rfl), decide_eq_true (show (Sum.inr "left" : Key) = .inr Fd.left.str from rfl), Bool.true_or, Bool.or_true]
    rfl
  · simp only [List.any_cons, List.map_cons, List.map_nil, List.any_nil, if_neg (key_ne (x := "cells") (y := Fd.mixed.str) (by decide +kernel)), if_neg (key_ne (x := "left") (y := Fd.mixed.str) (by decide +kernel)), if_neg (key_ne (x := "turn") (y := Fd.mixed.str) (by decide +kernel)), if_pos (show (Sum.inr "mixed" : Key) = .inr Fd.mixed.str from rfl), decide_eq_true (show (Sum.inr "mixed" : Key) = .inr Fd.mixed.str from rfl), Bool.true_or, Bool.or_true]
    rfl
  · simp only [List.any_cons, List.map_cons, List.map_nil, List.any_nil, if_neg (key_ne (x := "cells") (y := Fd.turn.str) (by decide +kernel)), if_neg (key_ne (x := "left") (y := Fd.turn.str) (by decide +kernel)), if_neg (key_ne (x := "mixed") (y := Fd.turn.str) (by decide +kernel)), if_pos (show (Sum.inr "turn" : Key) = .inr Fd.turn.str from rfl), decide_eq_true (show (Sum.inr "turn" : Key) = .inr Fd.turn.str from rfl), Bool.true_or, Bool.or_true]
    rfl
section
variable {X : Cx} {C : Conf} {E : XK} {K : PySem.W.Frag} {σ : St} {Pn : List Pin} {s : S} {H : Hp} {sa : Option (Addr × Addr)} {pos apos cpos : Pos}
/-- the source in a slot -/
theorem Cfg.srcAt (c : Cfg K C sa Pn s σ H) {i : Nat} {u : Src} (hi : s.g[i]? = some .src) (hs : s.s = some u) : ∃ a l, sa = some (a, l) ∧ σ[i]? = some (some (.ref a)) ∧ a ≠ l ∧ H a = some (.dK (srcK u l)) ∧ H l = some (.lst (u.cells.map V.int)) := by
  obtain ⟨a, l, e, q⟩ := c.slot i _ hi
  have z := c.src
  rw [hs] at z
  obtain ⟨a', l', e', n, h1, h2⟩ := z
  rw [e] at e'
  cases e'
  exact ⟨a, l, e, slot_of_getD q, n, h1, h2⟩
/-- the source written -/
theorem Cfg.srcPut {a l : Addr} {u u' : Src} {H' : Hp} (c : Cfg K C sa Pn s σ H) (e : sa = some (a, l)) (n : a ≠ l) (h1 : H' a = some (.dK (srcK u' l))) (h2 : H' l = some (.lst (u'.cells.map V.int))) (hk : ∀ b, b ≠ a → b ≠ l → H' b = H b) : Cfg K C sa Pn ⟨s.g, some u'⟩ σ H' := by
  have out : ∀ b, ¬ SA sa b → H' b = H b := fun b z => hk b (fun w => z ⟨a, l, e, .inl w⟩) fun w => z ⟨a, l, e, .inr w⟩
  refine c.step (s' := ⟨s.g, some u'⟩) c.len (fun k i sv q => (c.slot i sv q).kept k fun ho b o e1 q1 => ?_) (fun k p hp => (c.pin p hp).kept k fun b o e1 q1 => ?_) (fun b ⟨i, o⟩ => .inl ⟨.inl ⟨i, o⟩, c.u3 i b o⟩) (fun b z => .inl ⟨.inr (.inl z), c.u4 b z⟩)
    (fun b o w q1 => ?_) c.u1 c.u2 c.u5 ⟨a, l, e, n, h1, h2⟩
  · rw [out b (c.u3 i b ⟨sv, q, ho, slot_of_getD e1⟩)]; exact q1
  · rw [out b (c.u4 b ⟨p, hp, e1⟩)]; exact q1
  · rw [out b fun z => w (.inr (.inr z))]; exact q1
/-- source[f] -/
def mSrcGet (i : Nat) (f : Fd) : M D := fun s => match s.g[i]?, s.s with
  | some .src, some u => some (.ok (.int (f.get u)) s)
  | _, _ => none
theorem de_src (i : Nat) (f : Fd) {x y : Str} {j : Nat} {p p2 : Pos} (hy : y = f.str := by rfl) (hu : X.A.units + 1 < cLine) (hN : X.N[i]? = some x := by rfl) (hv : Vis X.env.scope x := by first | exact Or.inl rfl | exact Or.inr (Or.inl rfl) | exact Or.inr (Or.inr rfl)) (hd : (x == ("__debug__" : Str)) = false := by decide)
    (hcd : (x == ("__classdict__" : Str)) = false := by decide) (hs : NoSl (.Constant (.str y) j p2)) : DE C E X (.Subscript (.Name x p) (.Constant (.str y) j p2) pos) (mSrcGet i f) := by
  subst hy
  refine pe_weak (pe_dget hu (pe_var hN hv hd hcd) pe_str hs) fun σ H Q ⟨Pn, s, ⟨sa, c⟩, h⟩ => ?_
  unfold mSrcGet at h
  split at h
  · rename_i u q1 q2
    obtain ⟨a, l, e, es, n, h1, h2⟩ := c.srcAt q1 q2
    exact ⟨.ref a, es, a, _, rfl, .inl ⟨_, .inr f.str, .inl h1, rfl, (srcK_get u l f).symm⟩, h _ H ⟨sa, c.pinD (.int _)⟩⟩
  · exact h.elim
/-- source[f] = e -/
def mSrcPut (i : Nat) (f : Fd) (fe : M D) : MS := fe.bind fun d s => match s.g[i]?, s.s, d with
  | some .src, some u, .int n => some (.ok .nx ⟨s.g, some (f.put n u)⟩)
  | _, _, _ => none
theorem ds_src (i : Nat) (f : Fd) {x y : Str} {j : Nat} {e : Expr} {fe : M D} {p p2 p3 : Pos} (he : DE C E X e fe) (hy : y = f.str := by rfl) (hu : X.A.units + 1 < cLine) (hs : swapsWith e (some (.Subscript (.Name x p) (.Constant (.str y) j p2) p3)) pos.line X.env = pure false := by rfl) (hN : X.N[i]? = some x := by rfl) (hv : Vis X.env.scope x := by first | exact Or.inl rfl | exact Or.inr (Or.inl rfl) | exact Or.inr (Or.inr rfl)) (hd : (x == ("__debug__" : Str)) = false := by decide)
    (hcd : (x == ("__classdict__" : Str)) = false := by decide) : DS C E X (.Assign [.Subscript (.Name x p) (.Constant (.str y) j p2) p3] e pos) (mSrcPut i f fe) := by
  subst hy
  refine ps_weak (ps_dput hu (pe_var hN hv hd hcd) pe_str he hs) fun D σ H ⟨Pn, s, c, h⟩ => ?_
  refine WE.bind_rd c (R := WS X.K C E Pn D) (fun z => z) xWS h fun dv s1 v H1 ⟨sa, c1⟩ h1 => ?_
  split at h1
  · rename_i u n q1 q2 q3
    obtain ⟨a, l, e, es, ne, g1, g2⟩ := c1.srcAt q1 q2
    have ev := (c1.dat (v := v) (d := .int n) List.mem_cons_self).inti
    subst ev
    refine ⟨.ref a, es, a, _, rfl, .inl ⟨_, .inr f.str, g1, rfl, ?_, rfl⟩, h1 σ _ ⟨sa, ?_⟩⟩
    · rw [sizeLine_eq]; show 4 < _; decide
    · refine (Cfg.srcPut (u := u) c1 e ne ?_ ?_ ?_).sub (List.sublist_cons_self _ _)
      · rw [upd_same, srcK_put]
      · rw [upd_ne (Ne.symm ne)]
        cases f <;> exact g2
      · intro b hb _; rw [upd_ne hb]
  · exact h1.elim
/-- source['cells'].pop() -/
def mPop (i : Nat) : M D := fun s => match s.g[i]?, s.s with
  | some .src, some u => match u.cells[u.cells.length - 1]? with
    | some n => some (.ok (.int n) ⟨s.g, some { u with cells := u.cells.dropLast }⟩)
    | none => none
  | _, _ => none
theorem pop_src (c : Cfg K C sa Pn s σ H) {u : Src} {a l : Addr} {n : Int} (e : sa = some (a, l)) (ne : a ≠ l) (g1 : H a = some (.dK (srcK u l))) (hn : u.cells[u.cells.length - 1]? = some n) :
    (u.cells.map V.int)[(u.cells.map V.int).length - 1]? = some (.int n) ∧ Cfg K C sa (.dat (.int n) (.int n) :: Pn) ⟨s.g, some { u with cells := u.cells.dropLast }⟩ σ (upd H l (.lst (u.cells.map V.int).dropLast)) := by
  refine ⟨by rw [List.length_map, List.getElem?_map, hn]; rfl, ?_⟩
  have c1 : Cfg K C sa Pn ⟨s.g, some { u with cells := u.cells.dropLast }⟩ σ (upd H l (.lst (u.cells.map V.int).dropLast)) := by
    refine Cfg.srcPut (u := u) c e ne ?_ ?_ ?_
    · rw [upd_ne ne]; exact g1
    · rw [upd_same]
      show some (HO.lst (u.cells.map V.int).dropLast) = some (.lst (u.cells.dropLast.map V.int))
      rw [List.map_dropLast]
    · intro b _ hb; rw [upd_ne hb]
  exact c1.pinD (.int n)
theorem de_pop (i : Nat) {x y : Str} {j : Nat} {p p2 p3 : Pos} (hu : X.A.units + 1 < cLine) (hy : y = "cells" := by rfl) (hN : X.N[i]? = some x := by rfl) (hv : Vis X.env.scope x := by first | exact Or.inl rfl | exact Or.inr (Or.inl rfl) | exact Or.inr (Or.inr rfl)) (hd : (x == ("__debug__" : Str)) = false := by decide)
    (hcd : (x == ("__classdict__" : Str)) = false := by decide) (hs : NoSl (.Constant (.str y) j p2)) (hb : attributeBase (.Subscript (.Name x p) (.Constant (.str y) j p2) p3) "pop" X.env (eval (.Subscript (.Name x p) (.Constant (.str y) j p2) p3) X.env) = eval (.Subscript (.Name x p) (.Constant (.str y) j p2) p3) X.env := by rfl)
    (hline : (apos.endLine == cpos.line) = true := by rfl) : DE C E X (.Call (.Attribute (.Subscript (.Name x p) (.Constant (.str y) j p2) p3) "pop" apos) [] [] cpos) (mPop i) := by
  subst hy
  refine pe_weak (pe_bm0 PySem.F.plainAttrs_list PySem.F.slot_list_pop PySem.F.type_list_pop mt_pop (pe_dget hu (pe_var hN hv hd hcd) pe_str hs) hb hline) fun σ H Q ⟨Pn, s, ⟨sa, c⟩, h⟩ => ?_
  unfold mPop at h
  split at h
  · rename_i u q1 q2
    obtain ⟨a, l, e, es, ne, g1, g2⟩ := c.srcAt q1 q2
    split at h
    · rename_i n hn
      obtain ⟨e1, c1⟩ := pop_src c e ne g1 hn
      exact ⟨.ref a, es, a, _, rfl, .inl ⟨_, .inr "cells", .inl g1, rfl, (srcK_cells u l).symm⟩, .inl ⟨rfl, _, SqL.of g2⟩, l, _, _, rfl, rfl, g2, e1, h _ _ ⟨sa, c1⟩⟩
    · exact h.elim
  · exact h.elim
/-- len(source['cells']) -/
def mCellN (i : Nat) : M D := fun s => match s.g[i]?, s.s with
  | some .src, some u => some (.ok (.int u.cells.length) s)
  | _, _ => none
theorem de_cellN (i : Nat) {x y : Str} {j : Nat} {p p0 p2 p3 : Pos} (hl : Gl X "len") (hm : X.mg "len" = none) (hu : X.A.units + 1 < cLine) (hy : y = "cells" := by rfl) (hN : X.N[i]? = some x := by rfl) (hv : Vis X.env.scope x := by first | exact Or.inl rfl | exact Or.inr (Or.inl rfl) | exact Or.inr (Or.inr rfl)) (hd : (x == ("__debug__" : Str)) = false := by decide)
    (hcd : (x == ("__classdict__" : Str)) = false := by decide) (hs : NoSl (.Constant (.str y) j p2)) (he : starEach [.Subscript (.Name x p) (.Constant (.str y) j p2) p3] X.env = [(false, eval (.Subscript (.Name x p) (.Constant (.str y) j p2) p3) X.env)] := by rfl) :
    DE C E X (.Call (.Name "len" p0) [.Subscript (.Name x p) (.Constant (.str y) j p2) p3] [] cpos) (mCellN i) := by
  subst hy
  refine pe_weak (pe_callB call_len hl hm (by decide +kernel) (pa_cons (pe_dget hu (pe_var hN hv hd hcd) pe_str hs) pa_nil he) (by decide) (by decide) he rfl) fun σ H Q ⟨Pn, s, ⟨sa, c⟩, h⟩ => ?_
  unfold mCellN at h
  split at h
  · rename_i u q1 q2
    obtain ⟨a, l, e, es, ne, g1, g2⟩ := c.srcAt q1 q2
    refine ⟨.ref a, es, a, _, rfl, .inl ⟨_, .inr "cells", .inl g1, rfl, (srcK_cells u l).symm⟩, _, _, rfl, .inl ⟨_, SqL.of g2, rfl⟩, ?_⟩
    rw [List.length_map]
    exact h _ H ⟨sa, c.pinD (.int _)⟩
  · exact h.elim
/-! ### the script -/
/-- what is walked: the script -/
def mScr (i : Nat) : M (List D) := fun s => match s.g[i]? with
  | some (.scr ns) => some (.ok (ns.map .int) s)
  | _ => none
theorem Cfg.pinS (c : Cfg K C sa Pn s σ H) {a : Addr} {ns : List Int} (h : SqSc K (Wr C sa σ s.g Pn) H a (ns.map V.int)) : Cfg K C sa (.sq a ns :: Pn) s σ H := by
  have pc : ∀ b, PO (.sq a ns :: Pn) b ↔ PO Pn b := fun b => PO.cons.trans ⟨fun h => h.elim (fun z => nomatch z) id, .inr⟩
  have w0 : Wr0 sa σ s.g (.sq a ns :: Pn) = Wr0 sa σ s.g Pn := funext fun b => propext (by unfold Wr0; rw [pc b])
  have w1 : Wr C sa σ s.g (.sq a ns :: Pn) = Wr C sa σ s.g Pn := by unfold Wr; rw [w0]
  refine ⟨c.len, ?_, ?_, c.u1, fun i a o z => c.u2 i a o ((pc a).mp z), c.u3, fun a z => c.u4 a ((pc a).mp z), c.u5, c.src, c.frame, ?_, c.keep⟩
  · rw [w1]; exact c.slot
  · rw [w1]
    intro p hp
    rcases List.mem_cons.mp hp with rfl | hp
    · exact h
    · exact c.pin p hp
  · rw [w0]; exact c.fresh
theorem it_scr {a : Addr} {ns : List Int} : ItOk K C (Itl K a) (ns.map .int) [.sq a ns] := by
  intro i Pn s σ H hm ⟨sa, c⟩
  have z : SqSc K (Wr C sa σ s.g Pn) H a (ns.map V.int) := c.pin (.sq a ns) (hm _ List.mem_cons_self)
  have q := z.sq
  refine ⟨fun d hd => ?_, fun hl => ⟨_, q, by simpa using hl⟩⟩
  rw [List.getElem?_map] at hd
  cases q2 : ns[i]? with
  | none => rw [q2] at hd; cases hd
  | some n =>
    rw [q2] at hd
    cases hd
    have hv : (ns.map V.int)[i]? = some (.int n) := by rw [List.getElem?_map, q2]; rfl
    refine ⟨⟨_, _, q, hv⟩, fun x H' ⟨e, y⟩ => ?_⟩
    subst e
    have := y _ q
    rw [hv] at this
    cases this
    exact ⟨sa, c.pinD (.int n)⟩
theorem di_scr (i : Nat) {tg : Expr} {x : Str} {p : Pos} (hN : X.N[i]? = some x := by rfl) (hv : Vis X.env.scope x := by first | exact Or.inl rfl | exact Or.inr (Or.inl rfl) | exact Or.inr (Or.inr rfl)) (hd : (x == ("__debug__" : Str)) = false := by decide)
    (hcd : (x == ("__classdict__" : Str)) = false := by decide) : DI C E X tg (.Name x p) (mScr i) := by
  refine pi_weak (pi_list (pe_var hN hv hd hcd)) fun σ H R ⟨Pn, s, ⟨sa, c⟩, h⟩ => ?_
  unfold mScr at h
  split at h
  · rename_i ns q
    obtain ⟨a, e, z⟩ := c.slot i _ q
    exact ⟨.ref a, slot_of_getD e, a, rfl, ⟨_, z.sq⟩, h _ H [.sq a ns] ⟨sa, c.pinS z⟩ it_scr⟩
  · exact h.elim
/-! ### a new source handed back -/
def mRetSrc (f1 : M SV) (f2 f3 f4 : M D) : MS := f1.bind fun sv => f2.bind fun l => f3.bind fun m => f4.bind fun t => M.opt (match sv, l, m, t with
  | .ol ds, .int l, .int m, .int t => (asInts ds).map fun ns => Fl.rs ⟨ns, l, m, t⟩
  | _, _, _, _ => none)
theorem srcK_disp (a b c d : V) : mergeK [] [((.inr "cells" : Key), a), (.inr "left", b), (.inr "mixed", c), (.inr "turn", d)] = [(.inr "cells", a), (.inr "left", b), (.inr "mixed", c), (.inr "turn", d)] := by
  have n1 : ¬ (Sum.inr "cells" : Key) = .inr "left" := key_ne (by decide +kernel)
  have n2 : ¬ (Sum.inr "cells" : Key) = .inr "mixed" := key_ne (by decide +kernel)
  have n3 : ¬ (Sum.inr "left" : Key) = .inr "mixed" := key_ne (by decide +kernel)
  have n4 : ¬ (Sum.inr "cells" : Key) = .inr "turn" := key_ne (by decide +kernel)
  have n5 : ¬ (Sum.inr "left" : Key) = .inr "turn" := key_ne (by decide +kernel)
  have n6 : ¬ (Sum.inr "mixed" : Key) = .inr "turn" := key_ne (by decide +kernel)
  simp only [mergeK, List.foldl_cons, List.foldl_nil, putK, List.any_nil, List.any_cons, decide_eq_false n1, decide_eq_false n2, decide_eq_false n3, decide_eq_false n4, decide_eq_false n5, decide_eq_false n6, Bool.or_false, Bool.false_or, List.nil_append, List.cons_append, List.any_append, Bool.false_eq_true, if_false]
theorem WS.opt {A : Ends} {o : Option Fl} (h : WS K C E Pn A (M.opt o s)) : ∃ f, o = some f ∧ WS K C E Pn A (some (.ok f s)) := by
  cases o with
  | none => exact h.elim
  | some f => exact ⟨f, rfl, h⟩
theorem xWSq {A : Ends} (B : List Pin) (e : Exn) (s' : S) (h : WS K C E Pn A (some (.ex e s'))) : ∀ c dc H', Cf K C (B ++ Pn) s' σ H' → C.xr e c dc H' → E c dc H' := fun c dc H' c' => h c dc σ H' (c'.sub (List.sublist_append_right B Pn))
theorem ds_retSrc {e1 e2 e3 e4 : Expr} {f1 : M SV} {f2 f3 f4 : M D} {j1 j2 j3 j4 : Nat} {p1 p2 p3 p4 dpos : Pos} {y1 y2 y3 y4 : Str} (h1 : DF C E X e1 f1) (h2 : DE C E X e2 f2) (h3 : DE C E X e3 f3) (h4 : DE C E X e4 f4) (z1 : y1 = "cells" := by rfl) (z2 : y2 = "left" := by rfl) (z3 : y3 = "mixed" := by rfl) (z4 : y4 = "turn" := by rfl) :
    DS C E X (.Return (some (.Dict [some (.Constant (.str y1) j1 p1), some (.Constant (.str y2) j2 p2), some (.Constant (.str y3) j3 p3), some (.Constant (.str y4) j4 p4)] [e1, e2, e3, e4] dpos)) pos) (mRetSrc f1 f2 f3 f4) := by
  subst z1 z2 z3 z4
  refine ps_weak (ps_ret (pe_disp (pps_cons pe_str h1 (pps_cons pe_str h2 (pps_cons pe_str h3 (pps_cons pe_str h4 pps_nil)))) rfl rfl (fun z => by cases z) (by show 4 ≤ 15; decide))) fun D σ H ⟨Pn, s, ⟨sa, c⟩, h⟩ => ?_
  intro p hp
  have c0 : Cf X.K C (.obj p (.dK []) :: Pn) s σ (upd H p (.dK [])) := ⟨sa, c.lay hp (.dK [])⟩
  refine rdF.bind_rd c0 (R := WS X.K C E Pn D) (fun z => z) (xWSq [.obj p (.dK [])]) h fun sv s1 a H1 c1 h1 => ?_
  refine WE.bind_rd c1 (R := WS X.K C E Pn D) (fun z => z) (xWSq [.own a sv, .obj p (.dK [])]) h1 fun d2 s2 v2 H2 c2 h2 => ?_
  refine WE.bind_rd c2 (R := WS X.K C E Pn D) (fun z => z) (xWSq [.dat v2 d2, .own a sv, .obj p (.dK [])]) h2 fun d3 s3 v3 H3 c3 h3 => ?_
  refine WE.bind_rd c3 (R := WS X.K C E Pn D) (fun z => z) (xWSq [.dat v3 d3, .dat v2 d2, .own a sv, .obj p (.dK [])]) h3 fun d4 s4 v4 H4 c4 h4 => ?_
  obtain ⟨f, e, h5⟩ := h4.opt
  split at e
  · rename_i ds l m t
    cases ei : asInts ds with
    | none => rw [ei] at e; cases e
    | some ns =>
      rw [ei] at e
      cases e
      obtain ⟨sb, c4⟩ := c4
      have i2 := (c4.dat (v := v2) (d := .int l) (by simp)).inti
      have i3 := (c4.dat (v := v3) (d := .int m) (by simp)).inti
      have i4 := (c4.dat (v := v4) (d := .int t) (by simp)).inti
      subst i2 i3 i4
      have hp4 : H4 p = some (.dK []) := c4.pin (.obj p (.dK [])) (by simp)
      refine ⟨hp4, [((.inr "cells" : Key), .ref a), (.inr "left", .int l), (.inr "mixed", .int m), (.inr "turn", .int t)], rfl, by show 4 ≤ 15; decide, ?_⟩
      rw [srcK_disp]
      obtain ⟨_, b, xs, eb, gb, rb⟩ : true = true ∧ SlotOk X.K _ none H4 (some (.ref a)) (.ol ds) := c4.pin (.own a (.ol ds)) (by simp)
      cases eb
      rw [asInts_is ei] at rb
      rw [rb.ints] at gb
      have c5 : Cfg X.K C sb (.obj p (.dK []) :: .own a (.ol ds) :: Pn) s4 σ H4 := (c4.sub (List.Sublist.cons _ (List.Sublist.cons _ (List.Sublist.cons _ (List.Sublist.refl _))))).perm (List.Perm.swap _ _ _)
      have np : a ≠ p := fun z => by
        have u := c5.u5
        rw [z] at u
        exact (List.nodup_cons.mp (show (p :: p :: Pn.filterMap Pin.adr).Nodup from u)).1 List.mem_cons_self
      have c6 := c5.put (.dK [((.inr "cells" : Key), .ref a), (.inr "left", .int l), (.inr "mixed", .int m), (.inr "turn", .int t)])
      have c7 := c6.perm (List.Perm.swap (.obj p (.dK [((.inr "cells" : Key), .ref a), (.inr "left", .int l), (.inr "mixed", .int m), (.inr "turn", .int t)])) (.own a (.ol ds)) Pn)
      have c8 : Cfg X.K C sb (.obj a (.lst (ns.map V.int)) :: .obj p (.dK [((.inr "cells" : Key), .ref a), (.inr "left", .int l), (.inr "mixed", .int m), (.inr "turn", .int t)]) :: Pn) s4 σ _ := c7.repin rfl (by show upd H4 p _ a = _; rw [upd_ne np]; exact gb)
      exact h5 p a σ _ ⟨sb, c8.perm (List.Perm.swap _ _ _)⟩
  · cases e
end
/-! ### the def that makes the source -/
def spSrc (K : PySem.W.Frag) (den : List Int → Option Src) : Sp := fun vs H Q _ => ∃ a ns, vs = [.ref a] ∧ SqSc K (fun _ => False) H a (ns.map V.int) ∧ ∃ u, den ns = some u ∧
  ∀ p c H', p ≠ c → H p = none → H c = none → H' p = some (.dK (srcK u c)) → H' c = some (.lst (u.cells.map V.int)) → (∀ b o, H b = some o → H' b = some o) → Q (.ref p) H'
def denS (n : Nat) (fb : MS) : List Int → Option Src := fun ns => match fb ⟨.scr ns :: List.replicate (n - 1) .un, none⟩ with
  | some (.ok (.rs u) _) => some u
  | _ => none
section
variable {P : Program} {w : World} {K : PySem.W.Frag} {mg : Str → Option Value} {base : Heap}
theorem Fun.okSrc {x qual : Str} {st : Stmt} {f : Addr} {fd : FuncData} {N : List Str} {p : Str} {k : Nat} {fb : MS} (F : Fun K x qual st f fd) (Sc : FnScope N [p] (defScope st)) (hN : 1 ≤ N.length)
    (hb : ∀ (cdv : Value) (A : Around) (outer : List Env) (s : Shared) (H : Hp) (E : XK) (C : Conf), C.xr = noX → Room k (A.deeper (PyProof.Rows.envOfC qual (defScope st) s.heap.objs.size f cdv)) →
      DSs C E0 (cxOf CX0 P w K mg base N qual (defScope st) f cdv A outer s H E).nox (defBody st) fb) : FnOk P w K mg base CX0 (k + 1) f fd [p] (spSrc K (denS N.length fb)) := by
  refine F.ok Sc (fun vs H Q E ⟨a, ns, e, _⟩ => by rw [e]; rfl) fun cdv A outer s H vs Q E hr ⟨a, ns, e, hs, u, hu, q⟩ => ?_
  subst e
  let C : Conf := ⟨H, none, fun _ => False, fun _ h => h.elim, noX⟩
  refine ⟨_, hb cdv A outer s H E C rfl hr, ?_⟩
  have rep : ∀ {i : Nat} {sv : SV}, (SV.scr ns :: List.replicate (N.length - 1) SV.un)[i]? = some sv → (i = 0 ∧ sv = .scr ns) ∨ sv = .un := fun {i sv} h => by
    cases i with
    | zero => cases h; exact .inl ⟨rfl, rfl⟩
    | succ i => exact .inr (List.eq_of_mem_replicate (List.mem_of_getElem? (show (List.replicate (N.length - 1) SV.un)[i]? = some sv from h)))
  have no : ∀ {i : Nat} {b : Addr}, ¬ Own (L2.start N [.ref a]) (SV.scr ns :: List.replicate (N.length - 1) SV.un) i b := fun {i b} ⟨sv, h, o, _⟩ => by
    rcases rep h with ⟨_, z⟩ | z <;> rw [z] at o <;> cases o
  have np : ∀ b, ¬ PO [] b := fun b ⟨_, h, _⟩ => (nomatch h)
  have nsa : ∀ b, ¬ SA none b := fun b ⟨_, _, h, _⟩ => (nomatch h)
  have nw : ∀ b, ¬ Wr C none (L2.start N [.ref a]) (SV.scr ns :: List.replicate (N.length - 1) SV.un) [] b := fun b h => by
    rcases h with (⟨i, o⟩ | h | h) | h
    · exact no o
    · exact np b h
    · exact nsa b h
    · exact h
  have c0 : Cfg K C none [] ⟨.scr ns :: List.replicate (N.length - 1) .un, none⟩ (L2.start N [.ref a]) H := by
    refine ⟨?_, fun i sv h => ?_, fun p hp => (nomatch hp), fun i j b o => (no o).elim, fun i b o => (no o).elim, fun i b o => (no o).elim, fun b h => (np b h).elim, by simp, rfl, fun b o e _ => e, fun b h => (nw b (.inl h)).elim, fun q e => (nomatch e)⟩
    · show (L2.start N [V.ref a]).length = _
      unfold L2.start
      simp only [List.length_append, List.length_map, List.length_replicate, List.length_cons, List.length_nil]
      omega
    · rcases rep h with ⟨rfl, rfl⟩ | rfl
      · exact ⟨a, rfl, hs.imp (fun z => ⟨z.1, nw a⟩) id⟩
      · trivial
  refine ⟨[], _, ⟨none, c0⟩, ?_⟩
  unfold denS at hu
  split at hu
  · rename_i u' s' he
    cases hu
    rw [he]
    intro p c σ' H' ⟨sb, c'⟩
    have g1 : H' p = some (.dK (srcK u c)) := c'.pin (.obj p _) (by simp)
    have g2 : H' c = some (.lst (u.cells.map V.int)) := c'.pin (.obj c _) (by simp)
    have hp : PO [.obj p (.dK (srcK u c)), .obj c (.lst (u.cells.map V.int))] p := PO.cons_obj.mpr (.inl rfl)
    have hc : PO [.obj p (.dK (srcK u c)), .obj c (.lst (u.cells.map V.int))] c := PO.cons_obj.mpr (.inr (PO.cons_obj.mpr (.inl rfl)))
    have fr : ∀ b, PO [.obj p (.dK (srcK u c)), .obj c (.lst (u.cells.map V.int))] b → H b = none := fun b hb => by
      rcases c'.fresh b (.inr (.inl hb)) with z | ⟨_, _, z, _⟩
      · exact z
      · cases z
    refine q p c H' (fun z => ?_) (fr p hp) (fr c hc) g1 g2 fun b o e => c'.frame b o e fun ⟨_, _, z, _⟩ => nomatch z
    have u5 := c'.u5
    rw [z] at u5
    exact (List.nodup_cons.mp (show (c :: [c]).Nodup from u5)).1 List.mem_cons_self
  · cases hu
end
/-- source = make(script) -/
def mNewSrc (i j : Nat) (den : List Int → Option Src) : MS := fun s => match s.g[j]?, s.s with
  | some (.scr ns), none => (den ns).map fun u => .ok .nx ⟨s.g.set i .src, some u⟩
  | _, _ => none
section
variable {X : Cx} {C : Conf} {E : XK} {K : PySem.W.Frag} {σ : St} {Pn : List Pin} {s : S} {H H' : Hp} {pos cpos : Pos}
theorem Cfg.newSrc (c : Cfg K C none Pn s σ H) {p l : Addr} {u : Src} (ne : p ≠ l) (hp : H p = none) (hl : H l = none) (h1 : H' p = some (.dK (srcK u l))) (h2 : H' l = some (.lst (u.cells.map V.int))) (up : ∀ b o, H b = some o → H' b = some o) : Cfg K C (some (p, l)) Pn ⟨s.g, some u⟩ σ H' := by
  have nsa : ∀ b, ¬ SA none b := fun b ⟨_, _, h, _⟩ => (nomatch h)
  have sw : ∀ b, SA (some (p, l)) b → b = p ∨ b = l := fun b ⟨x, y, e, z⟩ => by cases e; exact z
  have hn : ∀ b, SA (some (p, l)) b → H b = none := fun b z => (sw b z).elim (fun e => e ▸ hp) fun e => e ▸ hl
  have k : Kept (Wr C none σ s.g Pn) H (Wr C (some (p, l)) σ s.g Pn) H' := fun b o n e => by
    refine ⟨fun w => ?_, up b o e⟩
    rcases w with (w | w | w) | w
    · exact n (.inl (.inl w))
    · exact n (.inl (.inr (.inl w)))
    · rw [hn b w] at e; cases e
    · exact n (.inr w)
  have there : ∀ {b}, Wr C none σ s.g Pn b → ¬ SA (some (p, l)) b := fun {b} w z => by
    obtain ⟨o, e⟩ := c.there w
    rw [hn b z] at e; cases e
  refine ⟨c.len, fun i sv e => ?_, fun q hq => (c.pin q hq).kept k fun a o _ e => up a o e, c.u1, c.u2, fun i a o => there (.inl (.inl ⟨i, o⟩)), fun a z => there (.inl (.inr (.inl z))), c.u5, ⟨p, l, rfl, ne, h1, h2⟩, fun b o e n => up b o (c.frame b o e n), fun a w => ?_, fun q e => (nomatch c.keep q e)⟩
  · have z := c.slot i sv e
    have z' : SlotOk K (Wr C (some (p, l)) σ s.g Pn) none H' ((σ[i]?).getD none) sv := z.kept k fun _ a o _ e => up a o e
    cases sv with
    | src => obtain ⟨_, _, e, _⟩ := z'; cases e
    | cells => obtain ⟨_, _, e, _⟩ := z'; cases e
    | _ => exact z'
  · rcases w with w | w | w
    · exact c.fresh a (.inl w)
    · exact c.fresh a (.inr (.inl w))
    · exact .inl (c.h0 (hn a w))
theorem ds_newSrc (i j : Nat) {CX : CXT} {k : Nat} {f : Addr} {fd : FuncData} {q : Str} {den : List Int → Option Src} {x y z : Str} {p p2 p3 : Pos} (hN : X.N.Nodup) (hi : X.N[i]? = some z) (hz : Loc X.env.scope z) (F : FnOk X.prog X.w X.K X.mg X.base CX k f fd [q] (spSrc X.K den)) (hr : Room k X.A) (hg : Gl X x) (hm : X.mg x = some (.ref f))
    (hk : PySem.W.keepIn X.K (.ref f) = true) (hb : Binds X.K fd [q] []) (hx : Passes CX X E) (hNj : X.N[j]? = some y := by rfl) (hv : Vis X.env.scope y := by first | exact Or.inl rfl | exact Or.inr (Or.inl rfl) | exact Or.inr (Or.inr rfl)) (hd : (y == ("__debug__" : Str)) = false := by decide)
    (hcd : (y == ("__classdict__" : Str)) = false := by decide) (hdb : (x == ("__debug__" : Str)) = false := by decide) (he : starEach [.Name y p2] X.env = [(false, eval (.Name y p2) X.env)] := by rfl) (hw : swapsWith (.Call (.Name x p) [.Name y p2] [] cpos) (some (.Name z p3)) pos.line X.env = pure false := by rfl)
    (hf : X.fn z = true ∨ X.env.scope.names.lookup z = some .local := by first | exact .inl rfl | exact .inr rfl | assumption) : DS C E X (.Assign [.Name z p3] (.Call (.Name x p) [.Name y p2] [] cpos) pos) (mNewSrc i j den) := by
  refine ps_weak (ps_set hN hi hz (pe_call F hr hg hm hk hb .nil hx (pa_cons (pe_var hNj hv hd hcd) pa_nil he) hdb he rfl) hw hf) fun D σ H ⟨Pn, s, ⟨sa, c⟩, h⟩ => ?_
  unfold mNewSrc at h
  split at h
  · rename_i ns q1 q2
    have esa : sa = none := by have := c.src; rw [q2] at this; exact this
    subst esa
    obtain ⟨a, e, g⟩ := c.slot j _ q1
    cases qd : den ns with
    | none => rw [qd] at h; exact h.elim
    | some u =>
      rw [qd] at h
      have h : ∀ σ' H', Cf X.K C Pn ⟨s.g.set i .src, some u⟩ σ' H' → D.nx σ' H' := h
      refine ⟨.ref a, slot_of_getD e, a, ns, rfl, g.imp (fun z => ⟨z.1, id⟩) id, u, qd, fun p l H' ne hp hl h1 h2 up => ?_⟩
      have c1 := Cfg.newSrc c ne hp hl h1 h2 up
      have c2 : Cfg X.K C (some (p, l)) Pn (S.set ⟨s.g, some u⟩ i .src) (σ.set i (some (.ref p))) H' := c1.setN (List.Sublist.refl _) rfl fun W hw k => ⟨p, l, rfl, rfl⟩
      exact h _ H' ⟨_, c2⟩
  · exact h.elim
end
end DL
/-! DL17: and, or, not as values. -/
namespace DL
open PySem L2
def mAndD (fa fb : M D) : M D := fa.bind fun d => match d with
  | .bool true => fb
  | .bool false => M.ret (.bool false)
  | _ => fun _ => none
def mOrD (fa fb : M D) : M D := fa.bind fun d => match d with
  | .bool true => M.ret (.bool true)
  | .bool false => fb
  | _ => fun _ => none
def mNotD (fa : M D) : M D := fa.bind fun d => match d with
  | .bool b => M.ret (.bool (!b))
  | _ => fun _ => none
section
variable {X : Cx} {C : Conf} {E : XK} {K : PySem.W.Frag} {σ : St} {Pn : List Pin} {s : S} {H : Hp} {a b : Expr} {rest : List Expr} {fa fb : M D} {pos : Pos}
theorem de_one {op : BoolOp} (h : DE C E X a fa) : DE C E X (.BoolOp op [a] pos) fa := pe_one h
theorem de_and (ha : DE C E X a fa) (hb : DE C E X (.BoolOp .And (b :: rest) pos) fb) : DE C E X (.BoolOp .And (a :: b :: rest) pos) (mAndD fa fb) := by
  refine pe_weak (pe_and ha hb) fun σ H Q ⟨Pn, s, c, h⟩ => ?_
  refine WE.bind_rd c (R := WE X.K C E σ Pn Q) (fun z => z) xWE h fun d s1 v H1 ⟨sa, c1⟩ h1 => ?_
  cases d with
  | bool k =>
    have e := (c1.dat (v := v) (d := .bool k) List.mem_cons_self).bli
    have c2 : Cf X.K C Pn s1 σ H1 := ⟨sa, c1.sub (List.sublist_cons_self _ _)⟩
    refine ⟨k, e, ?_⟩
    cases k with
    | true => rw [if_pos rfl]; exact ⟨Pn, s1, c2, h1⟩
    | false => rw [if_neg Bool.false_ne_true]; exact h1 _ H1 (c2.scal fun _ _ => .bl false)
  | _ => exact h1.elim
theorem de_or (ha : DE C E X a fa) (hb : DE C E X (.BoolOp .Or (b :: rest) pos) fb) : DE C E X (.BoolOp .Or (a :: b :: rest) pos) (mOrD fa fb) := by
  refine pe_weak (pe_or ha hb) fun σ H Q ⟨Pn, s, c, h⟩ => ?_
  refine WE.bind_rd c (R := WE X.K C E σ Pn Q) (fun z => z) xWE h fun d s1 v H1 ⟨sa, c1⟩ h1 => ?_
  cases d with
  | bool k =>
    have e := (c1.dat (v := v) (d := .bool k) List.mem_cons_self).bli
    have c2 : Cf X.K C Pn s1 σ H1 := ⟨sa, c1.sub (List.sublist_cons_self _ _)⟩
    refine ⟨k, e, ?_⟩
    cases k with
    | true => rw [if_pos rfl]; exact h1 _ H1 (c2.scal fun _ _ => .bl true)
    | false => rw [if_neg Bool.false_ne_true]; exact ⟨Pn, s1, c2, h1⟩
  | _ => exact h1.elim
theorem de_not (ha : DE C E X a fa) : DE C E X (.UnaryOp .Not a pos) (mNotD fa) := by
  refine pe_weak (pe_not ha) fun σ H Q ⟨Pn, s, c, h⟩ => ?_
  refine WE.bind_rd c (R := WE X.K C E σ Pn Q) (fun z => z) xWE h fun d s1 v H1 ⟨sa, c1⟩ h1 => ?_
  cases d with
  | bool k =>
    have e := (c1.dat (v := v) (d := .bool k) List.mem_cons_self).bli
    have c2 : Cf X.K C Pn s1 σ H1 := ⟨sa, c1.sub (List.sublist_cons_self _ _)⟩
    exact ⟨k, e, h1 _ H1 (c2.scal fun _ _ => .bl _)⟩
  | _ => exact h1.elim
end
theorem hu65_of {A : Around} {k : Nat} (hr : Room k A) : A.units + 65 < cLine := by have := hr.un; omega
theorem hu66_of {A : Around} {k : Nat} (hr : Room k A) : A.units + 66 < cLine := by have := hr.un; omega
/-- a def that is there, with its promise -/
structure Cal (P : Program) (w : World) (K : PySem.W.Frag) (mg : Str → Option Value) (base : Heap) (k : Nat) (x : Str) (ps : List Str) (sp : Sp) : Prop where
  ex : ∃ (f : Addr) (fd : FuncData), FnOk P w K mg base CX0 k f fd ps sp ∧ mg x = some (.ref f) ∧ PySem.W.keepIn K (.ref f) = true ∧ Binds K fd ps []
end DL
/-! DL18: what a meaning gives, read from the front. -/
namespace DL
open PySem L2
/-- a mark that keeps what is read behind as it stands -/
inductive Tk {α : Type} (Q : α → S → Prop) : Type where
  | mk
def wp {α : Type} (f : M α) (s : S) (Q : α → S → Prop) (_ : Tk Q := .mk) : Prop := ∃ a s', f s = some (.ok a s') ∧ Q a s'
section
variable {α β : Type} {s : S} {g : List SV} {so : Option Src}
theorem wp_mono {f : M α} {Q R : α → S → Prop} (h : wp f s Q) (k : ∀ a s', Q a s' → R a s') : wp f s R := let ⟨a, s', e, q⟩ := h; ⟨a, s', e, k a s' q⟩
theorem wp_cong {f : M α} {Q R : α → S → Prop} (h : ∀ a s', Q a s' ↔ R a s') : wp f s Q ↔ wp f s R := ⟨fun w => wp_mono w fun a s' => (h a s').mp, fun w => wp_mono w fun a s' => (h a s').mpr⟩
theorem wp_ok {f : M α} {a : α} {s' : S} {Q : α → S → Prop} (e : f s = some (.ok a s')) : wp f s Q ↔ Q a s' := ⟨fun ⟨b, t, e', q⟩ => by rw [e] at e'; cases e'; exact q, fun q => ⟨a, s', e, q⟩⟩
@[simp] theorem wp_bind {f : M α} {k : α → M β} {Q : β → S → Prop} : wp (f.bind k) s Q ↔ wp f s fun a s' => wp (k a) s' Q := by
  constructor
  · rintro ⟨b, t, e, q⟩
    unfold M.bind at e
    cases h : f s with
    | none => rw [h] at e; cases e
    | some o =>
      rw [h] at e
      cases o with
      | ok a s' => exact ⟨a, s', h, b, t, e, q⟩
      | ex x s' => cases e
  · rintro ⟨a, s', h, b, t, e, q⟩
    refine ⟨b, t, ?_, q⟩
    unfold M.bind
    rw [h]
    exact e
@[simp] theorem wp_ret {a : α} {Q : α → S → Prop} : wp (M.ret a) s Q ↔ Q a s := wp_ok rfl
@[simp] theorem wp_some {a : α} {Q : α → S → Prop} : wp (M.opt (some a)) s Q ↔ Q a s := wp_ok rfl
@[simp] theorem wp_none {Q : α → S → Prop} : wp (M.opt (none : Option α)) s Q ↔ False := ⟨fun ⟨_, _, e, _⟩ => (by cases e), fun h => h.elim⟩
theorem wp_opt {o : Option α} {a : α} {Q : α → S → Prop} (h : o = some a) : wp (M.opt o) s Q ↔ Q a s := by rw [h]; exact wp_some
@[simp] theorem wp_fun {a : α} {s' : S} {Q : α → S → Prop} : wp (fun _ => some (.ok a s')) s Q ↔ Q a s' := wp_ok rfl
def rdV1 (o : Option SV) (i : Nat) (g : List SV) (so : Option Src) (Q : D → S → Prop) : Prop := match o with
  | some (.d x) => Q x ⟨g, so⟩
  | some (.ol ds) => Q (.list ds) ⟨g.set i (.d (.list ds)), so⟩
  | _ => False
@[simp] theorem wp_var {i : Nat} {Q : D → S → Prop} : wp (mVar i) ⟨g, so⟩ Q ↔ rdV1 (g[i]?) i g so Q := by
  unfold rdV1
  have e : mVar i ⟨g, so⟩ = match g[i]? with | some (.d x) => some (.ok x ⟨g, so⟩) | some (.ol ds) => some (.ok (.list ds) ⟨g.set i (.d (.list ds)), so⟩) | _ => none := rfl
  cases h : g[i]? with
  | none => rw [h] at e; exact ⟨fun ⟨_, _, e', _⟩ => (by rw [e] at e'; cases e'), fun h => h.elim⟩
  | some sv =>
    rw [h] at e
    cases sv with
    | d x => exact wp_ok e
    | ol ds => exact wp_ok e
    | _ => exact ⟨fun ⟨_, _, e', _⟩ => (by rw [e] at e'; cases e'), fun h => h.elim⟩
@[simp] theorem rdV1_d {i : Nat} {x : D} {Q : D → S → Prop} : rdV1 (some (.d x)) i g so Q ↔ Q x ⟨g, so⟩ := Iff.rfl
@[simp] theorem rdV1_l {i : Nat} {ds : List D} {Q : D → S → Prop} : rdV1 (some (.ol ds)) i g so Q ↔ Q (.list ds) ⟨g.set i (.d (.list ds)), so⟩ := Iff.rfl
@[simp] theorem wp_op1 {o : D → Option D} {fa : M D} {Q : D → S → Prop} : wp (mOp1 o fa) s Q ↔ wp fa s fun x s' => wp (M.opt (o x)) s' Q := wp_bind
@[simp] theorem wp_op2 {o : D → D → Option D} {fa fb : M D} {Q : D → S → Prop} : wp (mOp2 o fa fb) s Q ↔ wp fa s fun x s' => wp fb s' fun y s'' => wp (M.opt (o x y)) s'' Q := by
  unfold mOp2; rw [wp_bind]; exact wp_cong fun x s' => wp_bind
@[simp] theorem wp_nil {Q : List D → S → Prop} : wp mNil s Q ↔ Q [] s := wp_ret
@[simp] theorem wp_cons {fa : M D} {fs : M (List D)} {Q : List D → S → Prop} : wp (mCons fa fs) s Q ↔ wp fa s fun x s' => wp fs s' fun xs s'' => Q (x :: xs) s'' := by
  unfold mCons; rw [wp_bind]; refine wp_cong fun x s' => ?_; rw [wp_bind]
  exact wp_cong fun x s' => wp_ret
@[simp] theorem wp_args {o : List D → Option D} {fs : M (List D)} {Q : D → S → Prop} : wp (mArgs o fs) s Q ↔ wp fs s fun xs s' => wp (M.opt (o xs)) s' Q := wp_bind
@[simp] theorem wp_b {f : M D} {Q : Bool → S → Prop} : wp (mB f) s Q ↔ wp f s fun x s' => wp (M.opt (asB x)) s' Q := wp_bind
@[simp] theorem wp_if {t : M Bool} {fa fb : M α} {Q : α → S → Prop} : wp (mIf t fa fb) s Q ↔ wp t s fun b s' => if b = true then wp fa s' Q else wp fb s' Q := by
  unfold mIf; rw [wp_bind]; refine wp_cong fun b s' => ?_; cases b <;> rfl
@[simp] theorem wp_and {t u : M Bool} {Q : Bool → S → Prop} : wp (mAnd t u) s Q ↔ wp t s fun b s' => if b = true then wp u s' Q else Q false s' := by
  unfold mAnd; rw [wp_bind]; refine wp_cong fun b s' => ?_; cases b
  · exact wp_ret
  · exact Iff.rfl
@[simp] theorem wp_or {t u : M Bool} {Q : Bool → S → Prop} : wp (mOr t u) s Q ↔ wp t s fun b s' => if b = true then Q true s' else wp u s' Q := by
  unfold mOr; rw [wp_bind]; refine wp_cong fun b s' => ?_; cases b
  · exact Iff.rfl
  · exact wp_ret
@[simp] theorem wp_not {t : M Bool} {Q : Bool → S → Prop} : wp (mNot t) s Q ↔ wp t s fun b s' => Q (!b) s' := by
  unfold mNot; rw [wp_bind]; exact wp_cong fun b s' => wp_ret
def asD (d : D) (s : S) (Q : Bool → S → Prop) : Prop := match d with
  | .bool b => Q b s
  | _ => False
@[simp] theorem asD_b {b : Bool} {Q : Bool → S → Prop} : asD (.bool b) s Q ↔ Q b s := Iff.rfl
@[simp] theorem wp_andD {fa fb : M D} {Q : D → S → Prop} : wp (mAndD fa fb) s Q ↔ wp fa s fun d s' => asD d s' fun b s' => if b = true then wp fb s' Q else Q (.bool false) s' := by
  unfold mAndD; rw [wp_bind]; refine wp_cong fun d s' => ?_
  cases d with
  | bool b =>
    cases b with
    | false => simp [asD, wp_ret]
    | true => simp [asD]
  | _ => exact ⟨fun ⟨_, _, e, _⟩ => (by cases e), fun h => h.elim⟩
@[simp] theorem wp_orD {fa fb : M D} {Q : D → S → Prop} : wp (mOrD fa fb) s Q ↔ wp fa s fun d s' => asD d s' fun b s' => if b = true then Q (.bool true) s' else wp fb s' Q := by
  unfold mOrD; rw [wp_bind]; refine wp_cong fun d s' => ?_
  cases d with
  | bool b =>
    cases b with
    | false => simp [asD]
    | true => simp [asD, wp_ret]
  | _ => exact ⟨fun ⟨_, _, e, _⟩ => (by cases e), fun h => h.elim⟩
@[simp] theorem wp_notD {fa : M D} {Q : D → S → Prop} : wp (mNotD fa) s Q ↔ wp fa s fun d s' => asD d s' fun b s' => Q (.bool !b) s' := by
  unfold mNotD; rw [wp_bind]; refine wp_cong fun d s' => ?_
  cases d with
  | bool b => exact wp_ret
  | _ => exact ⟨fun ⟨_, _, e, _⟩ => (by cases e), fun h => h.elim⟩
def isOl (sv : SV) (P : List D → Prop) : Prop := match sv with
  | .ol ds => P ds
  | _ => False
@[simp] theorem isOl_eq {ds : List D} {P : List D → Prop} : isOl (.ol ds) P ↔ P ds := Iff.rfl
@[simp] theorem wp_seal {f : M SV} {Q : D → S → Prop} : wp (mSeal f) s Q ↔ wp f s fun sv s' => isOl sv fun ds => Q (.list ds) s' := by
  unfold mSeal; rw [wp_bind]; refine wp_cong fun d s' => ?_
  cases d with
  | ol ds => exact wp_ret
  | _ => exact ⟨fun ⟨_, _, e, _⟩ => (by cases e), fun h => h.elim⟩
@[simp] theorem wp_tup {fs : M (List D)} {Q : D → S → Prop} : wp (mTup fs) s Q ↔ wp fs s fun ds s' => ds.length ≤ sizeLine ∧ Q (.tuple ds) s' := by
  unfold mTup; rw [wp_args]; refine wp_cong fun d s' => ?_
  by_cases h : d.length ≤ sizeLine
  · rw [if_pos h, wp_some]; exact ⟨fun q => ⟨h, q⟩, fun q => q.2⟩
  · rw [if_neg h, wp_none]; exact ⟨fun q => q.elim, fun q => h q.1⟩
@[simp] theorem wp_lst {fs : M (List D)} {Q : SV → S → Prop} : wp (mLst fs) s Q ↔ wp fs s fun ds s' => ds.length ≤ sizeLine ∧ Q (.ol ds) s' := by
  unfold mLst; rw [wp_bind]; refine wp_cong fun d s' => ?_
  by_cases h : d.length ≤ sizeLine
  · rw [if_pos h, wp_some]; exact ⟨fun q => ⟨h, q⟩, fun q => q.2⟩
  · rw [if_neg h, wp_none]; exact ⟨fun q => q.elim, fun q => h q.1⟩
@[simp] theorem wp_nilV {Q : List SV → S → Prop} : wp mNilV s Q ↔ Q [] s := wp_ret
@[simp] theorem wp_consD {fa : M D} {fs : M (List SV)} {Q : List SV → S → Prop} : wp (mConsD fa fs) s Q ↔ wp fa s fun x s' => wp fs s' fun xs s'' => Q (.d x :: xs) s'' := by
  unfold mConsD; rw [wp_bind]; refine wp_cong fun x s' => ?_; rw [wp_bind]
  exact wp_cong fun x s' => wp_ret
@[simp] theorem wp_consF {fa : M SV} {fs : M (List SV)} {Q : List SV → S → Prop} : wp (mConsF fa fs) s Q ↔ wp fa s fun x s' => wp fs s' fun xs s'' => Q (x :: xs) s'' := by
  unfold mConsF; rw [wp_bind]; refine wp_cong fun x s' => ?_; rw [wp_bind]
  exact wp_cong fun x s' => wp_ret
@[simp] theorem wp_revF {f : M D} {Q : SV → S → Prop} : wp (mRevF f) s Q ↔ wp f s fun d s' => ∃ ds, d = .list ds ∧ Q (.ol ds.reverse) s' := by
  unfold mRevF; rw [wp_bind]; refine wp_cong fun d s' => ?_
  cases d with
  | list ds => exact ⟨fun h => ⟨ds, rfl, wp_ret.mp h⟩, fun ⟨_, e, q⟩ => by cases e; exact wp_ret.mpr q⟩
  | _ => exact ⟨fun ⟨_, _, e, _⟩ => (by cases e), fun ⟨_, e, _⟩ => by cases e⟩
@[simp] theorem wp_argsF {o : List D → Option (List D)} {fs : M (List D)} {Q : SV → S → Prop} : wp (mArgsF o fs) s Q ↔ wp fs s fun xs s' => ∃ ds, o xs = some ds ∧ Q (.ol ds) s' := by
  unfold mArgsF; rw [wp_bind]; refine wp_cong fun xs s' => ?_
  cases h : o xs with
  | none => exact ⟨fun ⟨_, _, e, _⟩ => (by cases e), fun ⟨_, e, _⟩ => by cases e⟩
  | some ds => exact ⟨fun q => ⟨ds, rfl, wp_some.mp q⟩, fun ⟨_, e, q⟩ => by cases e; exact wp_some.mpr q⟩
/-! ### operators -/
section
variable {i j : Int} {Q : D → S → Prop}
@[simp] theorem wp_add : wp (M.opt (gAdd (.int i) (.int j))) s Q ↔ Q (.int (i + j)) s := wp_ok rfl
@[simp] theorem wp_sub : wp (M.opt (gSub (.int i) (.int j))) s Q ↔ Q (.int (i - j)) s := wp_ok rfl
theorem wp_if_ {P : Prop} [Decidable P] {d : D} : wp (M.opt (if P then some d else none)) s Q ↔ P ∧ Q d s := by
  by_cases h : P
  · rw [if_pos h, wp_some]; exact ⟨fun q => ⟨h, q⟩, fun q => q.2⟩
  · rw [if_neg h, wp_none]; exact ⟨fun q => q.elim, fun q => h q.1⟩
@[simp] theorem wp_mul : wp (M.opt (gMul (.int i) (.int j))) s Q ↔ mulOk i j = true ∧ Q (.int (i * j)) s := by
  have e : gMul (.int i) (.int j) = if mulOk i j = true then some (.int (i * j)) else none := rfl
  rw [e, wp_if_]
@[simp] theorem wp_div : wp (M.opt (gDiv (.int i) (.int j))) s Q ↔ divOk i j = true ∧ Q (.int (i / j)) s := by
  have e : gDiv (.int i) (.int j) = if divOk i j = true then some (.int (i / j)) else none := rfl
  rw [e, wp_if_]
@[simp] theorem wp_mod : wp (M.opt (gMod (.int i) (.int j))) s Q ↔ 0 < j ∧ Q (.int (i % j)) s := by
  have e : gMod (.int i) (.int j) = if modOk i j = true then some (.int (i % j)) else none := rfl
  rw [e, wp_if_]
  unfold modOk
  rw [decide_eq_true_eq]
@[simp] theorem wp_pow : wp (M.opt (gPow (.int i) (.int j))) s Q ↔ powOk i j = true ∧ Q (.int (i ^ j.toNat)) s := by
  have e : gPow (.int i) (.int j) = if powOk i j = true then some (.int (i ^ j.toNat)) else none := rfl
  rw [e, wp_if_]
@[simp] theorem wp_lt : wp (M.opt (gLt (.int i) (.int j))) s Q ↔ Q (.bool (decide (i < j))) s := wp_ok rfl
@[simp] theorem wp_le : wp (M.opt (gLe (.int i) (.int j))) s Q ↔ Q (.bool (decide (i ≤ j))) s := wp_ok rfl
@[simp] theorem wp_gt : wp (M.opt (gGt (.int i) (.int j))) s Q ↔ Q (.bool (decide (j < i))) s := wp_ok rfl
@[simp] theorem wp_ge : wp (M.opt (gGe (.int i) (.int j))) s Q ↔ Q (.bool (decide (j ≤ i))) s := wp_ok rfl
@[simp] theorem wp_neg : wp (M.opt (gNeg (.int i))) s Q ↔ Q (.int (-i)) s := wp_ok rfl
@[simp] theorem wp_eqI : wp (M.opt (gEq (.int i) (.int j))) s Q ↔ Q (.bool (decide (i = j))) s := by
  have e : gEq (.int i) (.int j) = some (.bool (i == j)) := rfl
  have e2 : (i == j) = decide (i = j) := by by_cases h : i = j <;> simp [h]
  rw [e, wp_some, e2]
@[simp] theorem wp_neI : wp (M.opt (gNe (.int i) (.int j))) s Q ↔ Q (.bool (decide (i ≠ j))) s := by
  have e : gNe (.int i) (.int j) = some (.bool (!(i == j))) := rfl
  have e2 : (!(i == j)) = decide (i ≠ j) := by by_cases h : i = j <;> simp [h]
  rw [e, wp_some, e2]
@[simp] theorem wp_eqB {a b : Bool} : wp (M.opt (gEq (.bool a) (.bool b))) s Q ↔ Q (.bool (a == b)) s := wp_ok rfl
@[simp] theorem wp_neB {a b : Bool} : wp (M.opt (gNe (.bool a) (.bool b))) s Q ↔ Q (.bool (a != b)) s := wp_ok rfl
@[simp] theorem wp_eqS {a b : Str} : wp (M.opt (gEq (.str a) (.str b))) s Q ↔ Q (.bool (decide (a = b))) s := wp_ok rfl
@[simp] theorem wp_neS {a b : Str} : wp (M.opt (gNe (.str a) (.str b))) s Q ↔ Q (.bool (!decide (a = b))) s := wp_ok rfl
@[simp] theorem wp_asB {b : Bool} {Q : Bool → S → Prop} : wp (M.opt (asB (.bool b))) s Q ↔ Q b s := wp_ok rfl
@[simp] theorem wp_intI : wp (M.opt (gInt [.int i])) s Q ↔ Q (.int i) s := wp_ok rfl
@[simp] theorem wp_intB {b : Bool} : wp (M.opt (gInt [.bool b])) s Q ↔ Q (.int (if b then 1 else 0)) s := wp_ok rfl
@[simp] theorem wp_abs : wp (M.opt (gAbs [.int i])) s Q ↔ Q (.int (if i < 0 then -i else i)) s := wp_ok rfl
@[simp] theorem wp_lenL {ds : List D} : wp (M.opt (gLen [.list ds])) s Q ↔ Q (.int ds.length) s := wp_ok rfl
@[simp] theorem wp_lenT {ds : List D} : wp (M.opt (gLen [.tuple ds])) s Q ↔ Q (.int ds.length) s := wp_ok rfl
@[simp] theorem wp_tupL {ds : List D} : wp (M.opt (gTuple [.list ds])) s Q ↔ Q (.tuple ds) s := wp_ok rfl
@[simp] theorem wp_tupT {ds : List D} : wp (M.opt (gTuple [.tuple ds])) s Q ↔ Q (.tuple ds) s := wp_ok rfl
@[simp] theorem wp_sumI {ns : List Int} : wp (M.opt (gSum [.list (ns.map .int)])) s Q ↔ Q (.int ns.sum) s := wp_ok (by unfold gSum; simp only [asInts_map, Option.map_some, M.opt])
@[simp] theorem wp_sumM {γ : Type} {f : γ → Int} {xs : List γ} : wp (M.opt (gSum [.list (xs.map fun x => .int (f x))])) s Q ↔ Q (.int (xs.map f).sum) s := by
  have e : (xs.map fun x => PyData.int (f x)) = (xs.map f).map .int := by rw [List.map_map]; rfl
  rw [e]; exact wp_sumI
@[simp] theorem wp_revL {ds : List D} : wp (M.opt (gRev (.list ds))) s Q ↔ Q (.list ds.reverse) s := wp_ok rfl
@[simp] theorem wp_revT {ds : List D} : wp (M.opt (gRev (.tuple ds))) s Q ↔ Q (.tuple ds.reverse) s := wp_ok rfl
@[simp] theorem wp_ixL {ds : List D} : wp (M.opt (gIx (.list ds) (.int i))) s Q ↔ wp (M.opt (atI ds i)) s Q := Iff.rfl
@[simp] theorem wp_ixT {ds : List D} : wp (M.opt (gIx (.tuple ds) (.int i))) s Q ↔ wp (M.opt (atI ds i)) s Q := Iff.rfl
@[simp] theorem wp_catT {xs ys : List D} : wp (M.opt (gAdd (.tuple xs) (.tuple ys))) s Q ↔ xs.length + ys.length ≤ sizeLine ∧ Q (.tuple (xs ++ ys)) s := by
  have e : gAdd (.tuple xs) (.tuple ys) = if xs.length + ys.length ≤ sizeLine then some (.tuple (xs ++ ys)) else none := rfl
  by_cases h : xs.length + ys.length ≤ sizeLine
  · rw [e, if_pos h]; exact ⟨fun w => ⟨h, wp_some.mp w⟩, fun w => wp_some.mpr w.2⟩
  · rw [e, if_neg h]; exact ⟨fun ⟨_, _, e, _⟩ => (by cases e), fun w => absurd w.1 h⟩
@[simp] theorem wp_catL {xs ys : List D} : wp (M.opt (gAdd (.list xs) (.list ys))) s Q ↔ xs.length + ys.length ≤ sizeLine ∧ Q (.list (xs ++ ys)) s := by
  have e : gAdd (.list xs) (.list ys) = if xs.length + ys.length ≤ sizeLine then some (.list (xs ++ ys)) else none := rfl
  rw [e, wp_if_]
@[simp] theorem wp_seqL {ds : List D} {Q : List D → S → Prop} : wp (M.opt (seqOf (.list ds))) s Q ↔ Q ds s := wp_ok rfl
@[simp] theorem wp_seqT {ds : List D} {Q : List D → S → Prop} : wp (M.opt (seqOf (.tuple ds))) s Q ↔ Q ds s := wp_ok rfl
@[simp] theorem wp_rg1 {Q : List D → S → Prop} : wp (M.opt (gRange1 [.int j])) s Q ↔ (-(2 ^ 62) ≤ j ∧ j < 2 ^ 62) ∧ Q (rangeD 0 j.toNat) s := by
  have e : gRange1 [.int j] = if -(2 ^ 62) ≤ j ∧ j < 2 ^ 62 then some (rangeD 0 j.toNat) else none := rfl
  rw [e]
  by_cases h : -(2 ^ 62) ≤ j ∧ j < 2 ^ 62
  · rw [if_pos h, wp_some]; exact ⟨fun q => ⟨h, q⟩, fun q => q.2⟩
  · rw [if_neg h, wp_none]; exact ⟨fun q => q.elim, fun q => h q.1⟩
@[simp] theorem wp_rg2 {Q : List D → S → Prop} : wp (M.opt (gRange2 [.int i, .int j])) s Q ↔ (-(2 ^ 62) ≤ i ∧ i < 2 ^ 62 ∧ -(2 ^ 62) ≤ j ∧ j < 2 ^ 62) ∧ Q (rangeD i (j - i).toNat) s := by
  have e : gRange2 [.int i, .int j] = if -(2 ^ 62) ≤ i ∧ i < 2 ^ 62 ∧ -(2 ^ 62) ≤ j ∧ j < 2 ^ 62 then some (rangeD i (j - i).toNat) else none := rfl
  rw [e]
  by_cases h : -(2 ^ 62) ≤ i ∧ i < 2 ^ 62 ∧ -(2 ^ 62) ≤ j ∧ j < 2 ^ 62
  · rw [if_pos h, wp_some]; exact ⟨fun q => ⟨h, q⟩, fun q => q.2⟩
  · rw [if_neg h, wp_none]; exact ⟨fun q => q.elim, fun q => h q.1⟩
end
/-! ### statements -/
def goOn (fl : Fl) (s : S) (g : MS) (Q : Fl → S → Prop) : Prop := match fl with
  | .nx => wp g s Q
  | fl => Q fl s
@[simp] theorem goOn_nx {g : MS} {Q : Fl → S → Prop} : goOn .nx s g Q ↔ wp g s Q := Iff.rfl
@[simp] theorem goOn_rt {g : MS} {d : D} {Q : Fl → S → Prop} : goOn (.rt d) s g Q ↔ Q (.rt d) s := Iff.rfl
@[simp] theorem goOn_rs {g : MS} {d : Src} {Q : Fl → S → Prop} : goOn (.rs d) s g Q ↔ Q (.rs d) s := Iff.rfl
@[simp] theorem wp_seq {f g : MS} {Q : Fl → S → Prop} : wp (mSeq f g) s Q ↔ wp f s fun fl s' => goOn fl s' g Q := by
  unfold mSeq; rw [wp_bind]; refine wp_cong fun fl s' => ?_
  cases fl <;> first | exact Iff.rfl | exact wp_ret
@[simp] theorem wp_skip {Q : Fl → S → Prop} : wp mSkip s Q ↔ Q .nx s := wp_ret
@[simp] theorem wp_mRet {f : M D} {Q : Fl → S → Prop} : wp (mRet f) s Q ↔ wp f s fun d s' => Q (.rt d) s' := by
  unfold mRet; rw [wp_bind]; exact wp_cong fun b s' => wp_ret
@[simp] theorem wp_expr {f : M D} {Q : Fl → S → Prop} : wp (mExpr f) s Q ↔ wp f s fun _ s' => Q .nx s' := by
  unfold mExpr; rw [wp_bind]; exact wp_cong fun b s' => wp_ret
@[simp] theorem wp_set {i : Nat} {f : M D} {Q : Fl → S → Prop} : wp (mSet i f) s Q ↔ wp f s fun d s' => Q .nx ⟨s'.g.set i (.d d), s'.s⟩ := by
  unfold mSet; rw [wp_bind]; exact wp_cong fun b s' => (wp_ok rfl)
@[simp] theorem wp_setF {i : Nat} {f : M SV} {Q : Fl → S → Prop} : wp (mSetF i f) s Q ↔ wp f s fun d s' => Q .nx ⟨s'.g.set i d, s'.s⟩ := by
  unfold mSetF; rw [wp_bind]; exact wp_cong fun b s' => (wp_ok rfl)
def two (vs : List SV) (P : SV → SV → Prop) : Prop := match vs with
  | [a, b] => P a b
  | _ => False
@[simp] theorem two_eq {a b : SV} {P : SV → SV → Prop} : two [a, b] P ↔ P a b := Iff.rfl
def three (vs : List SV) (P : SV → SV → SV → Prop) : Prop := match vs with
  | [a, b, c] => P a b c
  | _ => False
@[simp] theorem three_eq {a b c : SV} {P : SV → SV → SV → Prop} : three [a, b, c] P ↔ P a b c := Iff.rfl
@[simp] theorem wp_par2 {i j : Nat} {f : M (List SV)} {Q : Fl → S → Prop} : wp (mPar2 i j f) s Q ↔ wp f s fun vs s' => two vs fun a b => Q .nx ⟨(s'.g.set i a).set j b, s'.s⟩ := by
  unfold mPar2; rw [wp_bind]; refine wp_cong fun vs s' => ?_
  match vs with
  | [a, b] => exact wp_ok rfl
  | [] => exact ⟨fun ⟨_, _, e, _⟩ => (by cases e), fun h => h.elim⟩
  | [_] => exact ⟨fun ⟨_, _, e, _⟩ => (by cases e), fun h => h.elim⟩
  | _ :: _ :: _ :: _ => exact ⟨fun ⟨_, _, e, _⟩ => (by cases e), fun h => h.elim⟩
@[simp] theorem wp_par3 {i j l : Nat} {f : M (List SV)} {Q : Fl → S → Prop} : wp (mPar3 i j l f) s Q ↔ wp f s fun vs s' => three vs fun a b c => Q .nx ⟨((s'.g.set i a).set j b).set l c, s'.s⟩ := by
  unfold mPar3; rw [wp_bind]; refine wp_cong fun vs s' => ?_
  match vs with
  | [a, b, c] => exact wp_ok rfl
  | [] => exact ⟨fun ⟨_, _, e, _⟩ => (by cases e), fun h => h.elim⟩
  | [_] => exact ⟨fun ⟨_, _, e, _⟩ => (by cases e), fun h => h.elim⟩
  | [_, _] => exact ⟨fun ⟨_, _, e, _⟩ => (by cases e), fun h => h.elim⟩
  | _ :: _ :: _ :: _ :: _ => exact ⟨fun ⟨_, _, e, _⟩ => (by cases e), fun h => h.elim⟩
@[simp] theorem wp_asg {f : M D} {g : G} {Q : Fl → S → Prop} : wp (mAsg f g) s Q ↔ wp f s fun d s' => ∃ s'', g d s' = some s'' ∧ Q .nx s'' := by
  unfold mAsg; rw [wp_bind]; refine wp_cong fun d s' => ?_
  have e : ∀ k : MS, k = (fun s => match g d s with | none => none | some s' => some (.ok .nx s')) → (wp k s' Q ↔ ∃ s'', g d s' = some s'' ∧ Q .nx s'') := by
    intro k hk
    have ek : k s' = match g d s' with | none => none | some s' => some (.ok .nx s') := by rw [hk]
    cases h : g d s' with
    | none => rw [h] at ek; exact ⟨fun ⟨_, _, e, _⟩ => (by rw [ek] at e; cases e), fun ⟨_, e, _⟩ => by cases e⟩
    | some s2 => rw [h] at ek; exact (wp_ok ek).trans ⟨fun q => ⟨_, rfl, q⟩, fun ⟨_, e, q⟩ => by cases e; exact q⟩
  exact e _ rfl
@[simp] theorem gTup_eq {n : Nat} {gs : Gs} {ds : List D} : mGTup n gs (.tuple ds) s = if ds.length = n then gs ds s else none := rfl
@[simp] theorem gCons_eq {g : G} {gs : Gs} {d : D} {ds : List D} : mGCons g gs (d :: ds) s = (g d s).bind fun s' => gs ds s' := rfl
@[simp] theorem gNil_eq : mGNil [] s = some s := rfl
@[simp] theorem gName_eq {i : Nat} {d : D} : mName i d s = some ⟨s.g.set i (.d d), s.s⟩ := rfl
@[simp] theorem set_mk {i : Nat} {v : SV} : (⟨g, so⟩ : S).set i v = ⟨g.set i v, so⟩ := rfl
@[simp] theorem wipe_nil : s.wipe [] = s := rfl
@[simp] theorem wipe_cons {v : Nat} {vs : List Nat} : s.wipe (v :: vs) = (s.wipe vs).set v .un := rfl
/-! ### loops -/
def goOut (fl : Fl) (s : S) (P : S → Prop) (Q : Fl → S → Prop) : Prop := match fl with
  | .nx => P s
  | .ct => P s
  | .bk => Q .nx s
  | fl => Q fl s
@[simp] theorem goOut_nx {P : S → Prop} {Q : Fl → S → Prop} : goOut .nx s P Q ↔ P s := Iff.rfl
@[simp] theorem goOut_ct {P : S → Prop} {Q : Fl → S → Prop} : goOut .ct s P Q ↔ P s := Iff.rfl
@[simp] theorem goOut_bk {P : S → Prop} {Q : Fl → S → Prop} : goOut .bk s P Q ↔ Q .nx s := Iff.rfl
@[simp] theorem goOut_rt {d : D} {P : S → Prop} {Q : Fl → S → Prop} : goOut (.rt d) s P Q ↔ Q (.rt d) s := Iff.rfl
/-- while: one turn -/
theorem wp_while1 {t : M Bool} {b : MS} {Q : Fl → S → Prop} (h : wp t s fun c s' => if c = true then wp b s' fun fl s'' => goOut fl s'' (fun s'' => wp (mWhile t b) s'' Q) Q else Q .nx s') : wp (mWhile t b) s Q := by
  obtain ⟨c, s1, e1, h1⟩ := h
  cases c with
  | false =>
    rw [if_neg Bool.false_ne_true] at h1
    refine ⟨.nx, s1, ?_, h1⟩
    rw [mWhile_eq]
    simp only [stepW, M.bind, e1]
    rfl
  | true =>
    rw [if_pos rfl] at h1
    obtain ⟨fl, s2, e2, h2⟩ := h1
    have e3 : mWhile t b s = (match fl with | .nx => mWhile t b s2 | .ct => mWhile t b s2 | .bk => some (.ok .nx s2) | .rt d => some (.ok (.rt d) s2) | .rs u => some (.ok (.rs u) s2)) := by
      rw [mWhile_eq]
      simp only [stepW, M.bind, e1, if_pos, e2]
      cases fl <;> rfl
    cases fl with
    | nx => obtain ⟨a, s3, e4, q⟩ := h2; exact ⟨a, s3, e3.trans e4, q⟩
    | ct => obtain ⟨a, s3, e4, q⟩ := h2; exact ⟨a, s3, e3.trans e4, q⟩
    | bk => exact ⟨_, _, e3, h2⟩
    | rt d => exact ⟨_, _, e3, h2⟩
    | rs u => exact ⟨_, _, e3, h2⟩
/-- while: by what stays, with a measure -/
theorem wp_while {t : M Bool} {b : MS} {Q : Fl → S → Prop} (I : Nat → S → Prop) (step : ∀ m s, I m s → wp t s fun c s' => if c = true then wp b s' fun fl s'' => goOut fl s'' (fun s'' => ∃ m', m' < m ∧ I m' s'') Q else Q .nx s') : ∀ m s, I m s → wp (mWhile t b) s Q := by
  intro m
  induction m using Nat.strongRecOn with
  | ind m ih =>
    intro s hI
    refine wp_while1 ?_
    obtain ⟨c, s1, e1, h1⟩ := step m s hI
    refine ⟨c, s1, e1, ?_⟩
    cases c with
    | false => exact h1
    | true =>
      rw [if_pos rfl] at h1 ⊢
      refine wp_mono h1 fun fl s2 h2 => ?_
      cases fl with
      | nx => obtain ⟨m', hm, h3⟩ := h2; exact ih m' hm s2 h3
      | ct => obtain ⟨m', hm, h3⟩ := h2; exact ih m' hm s2 h3
      | bk => exact h2
      | rt d => exact h2
      | rs u => exact h2
@[simp] theorem wp_for {fi : M (List D)} {g : G} {b : MS} {Q : Fl → S → Prop} : wp (mFor fi g b) s Q ↔ wp fi s fun ds s' => wp (loopF g b ds) s' Q := wp_bind
theorem wp_loop0 {g : G} {b : MS} {Q : Fl → S → Prop} : wp (loopF g b []) s Q ↔ Q .nx s := wp_ok rfl
theorem wp_loop1 {g : G} {b : MS} {d : D} {ds : List D} {Q : Fl → S → Prop} : wp (loopF g b (d :: ds)) s Q ↔ ∃ s1, g d s = some s1 ∧ wp b s1 fun fl s2 => goOut fl s2 (fun s2 => wp (loopF g b ds) s2 Q) Q := by
  have e : loopF g b (d :: ds) s = match g d s with
    | none => none
    | some s1 => (b.bind fun fl => match fl with
      | .nx => loopF g b ds
      | .ct => loopF g b ds
      | .bk => M.ret .nx
      | .rt d => M.ret (.rt d)
      | .rs u => M.ret (.rs u)) s1 := rfl
  cases hg : g d s with
  | none => rw [hg] at e; exact ⟨fun ⟨_, _, e', _⟩ => (by rw [e] at e'; cases e'), fun ⟨_, e', _⟩ => by cases e'⟩
  | some s1 =>
    rw [hg] at e
    have e : loopF g b (d :: ds) s = (b.bind fun fl => match fl with
      | .nx => loopF g b ds
      | .ct => loopF g b ds
      | .bk => M.ret .nx
      | .rt d => M.ret (.rt d)
      | .rs u => M.ret (.rs u)) s1 := e
    have w : wp (loopF g b (d :: ds)) s Q ↔ wp (b.bind fun fl => match fl with
      | .nx => loopF g b ds
      | .ct => loopF g b ds
      | .bk => M.ret .nx
      | .rt d => M.ret (.rt d)
      | .rs u => M.ret (.rs u)) s1 Q := by unfold wp; rw [e]
    rw [w, wp_bind]
    have k : ∀ fl s2, wp ((fun fl => match fl with
      | .nx => loopF g b ds
      | .ct => loopF g b ds
      | .bk => M.ret .nx
      | .rt d => M.ret (.rt d)
      | .rs u => M.ret (.rs u)) fl : MS) s2 Q ↔ goOut fl s2 (fun s2 => wp (loopF g b ds) s2 Q) Q := fun fl s2 => by
      cases fl <;> first | exact Iff.rfl | exact wp_ret
    constructor
    · intro h; exact ⟨s1, rfl, wp_mono h fun fl s2 => (k fl s2).mp⟩
    · rintro ⟨s1', e', h⟩
      cases e'
      exact wp_mono h fun fl s2 => (k fl s2).mpr
/-- for: by what stays -/
theorem wp_loop {g : G} {b : MS} {Q : Fl → S → Prop} (I : List D → S → Prop) (step : ∀ d ds s, I (d :: ds) s → ∃ s1, g d s = some s1 ∧ wp b s1 fun fl s2 => goOut fl s2 (fun s2 => I ds s2) Q) (stop : ∀ s, I [] s → Q .nx s) : ∀ ds s, I ds s → wp (loopF g b ds) s Q := by
  intro ds
  induction ds with
  | nil => intro s h; exact wp_loop0.mpr (stop s h)
  | cons d ds ih =>
    intro s h
    obtain ⟨s1, e, h1⟩ := step d ds s h
    refine wp_loop1.mpr ⟨s1, e, wp_mono h1 fun fl s2 h2 => ?_⟩
    cases fl with
    | nx => exact ih s2 h2
    | ct => exact ih s2 h2
    | bk => exact h2
    | rt d => exact h2
    | rs u => exact h2
@[simp] theorem wp_seqI {f : M D} {Q : List D → S → Prop} : wp (mSeqI f) s Q ↔ wp f s fun d s' => wp (M.opt (seqOf d)) s' Q := wp_bind
@[simp] theorem wp_range1 {f : M (List D)} {Q : List D → S → Prop} : wp (mRange1 f) s Q ↔ wp f s fun d s' => wp (M.opt (gRange1 d)) s' Q := wp_bind
@[simp] theorem wp_range2 {f : M (List D)} {Q : List D → S → Prop} : wp (mRange2 f) s Q ↔ wp f s fun d s' => wp (M.opt (gRange2 d)) s' Q := wp_bind
/-! ### comprehensions -/
def runC (own : List Nat) (g : G) (ft : M Bool) (fe : M D) (ds acc : List D) (s : S) (Q : List D → S → Prop) : Prop := ∃ acc' s', loopC own g ft fe ds acc s = some (acc', s') ∧ Q acc' s'
@[simp] theorem wp_lc {own : List Nat} {fi : M (List D)} {g : G} {ft : M Bool} {fe : M D} {Q : SV → S → Prop} : wp (mLc own fi g ft fe) s Q ↔ wp fi s fun ds s' => runC own g ft fe ds [] (s'.wipe own) fun acc s' => Q (.ol acc) s' := by
  unfold mLc; rw [wp_bind]; refine wp_cong fun ds s' => ?_
  unfold runC
  cases h : loopC own g ft fe ds [] (s'.wipe own) with
  | none => exact ⟨fun ⟨_, _, e, _⟩ => (by dsimp only at e; rw [h] at e; cases e), fun ⟨_, _, e, _⟩ => by cases e⟩
  | some z =>
    obtain ⟨acc, s2⟩ := z
    exact ⟨fun ⟨_, _, e, q⟩ => by dsimp only at e; rw [h] at e; cases e; exact ⟨_, _, rfl, q⟩, fun ⟨_, _, e, q⟩ => by cases e; exact ⟨_, _, (by dsimp only; rw [h]), q⟩⟩
theorem runC_nil {own : List Nat} {g : G} {ft : M Bool} {fe : M D} {acc : List D} {Q : List D → S → Prop} : runC own g ft fe [] acc s Q ↔ Q acc s := ⟨fun ⟨_, _, e, q⟩ => by cases e; exact q, fun q => ⟨_, _, rfl, q⟩⟩
theorem runC_cons {own : List Nat} {g : G} {ft : M Bool} {fe : M D} {d : D} {ds acc : List D} {Q : List D → S → Prop} (h : ∃ s1, g d s = some s1 ∧ wp ft s1 fun b s2 => if b = true then wp fe s2 fun x s3 => acc.length < sizeLine ∧ runC own g ft fe ds (acc ++ [x]) (s3.wipe own) Q else runC own g ft fe ds acc (s2.wipe own) Q) : runC own g ft fe (d :: ds) acc s Q := by
  obtain ⟨s1, e1, b, s2, e2, h⟩ := h
  cases b with
  | false =>
    rw [if_neg Bool.false_ne_true] at h
    obtain ⟨a, t, e3, q⟩ := h
    refine ⟨a, t, ?_, q⟩
    simp only [loopC, e1, e2]
    exact e3
  | true =>
    rw [if_pos rfl] at h
    obtain ⟨x, s3, e3, hl, a, t, e4, q⟩ := h
    refine ⟨a, t, ?_, q⟩
    simp only [loopC, e1, e2, e3, if_pos hl]
    exact e4
/-- a comprehension that leaves all as it was -/
theorem runC_map {own : List Nat} {g : G} {ft : M Bool} {fe : M D} {Q : List D → S → Prop} (p : D → Bool) (h : D → D) : ∀ (ds acc : List D), acc.length + ds.length ≤ sizeLine → (∀ d ∈ ds, ∃ s1, g d s = some s1 ∧ wp ft s1 fun b s2 => b = p d ∧ (if b = true then wp fe s2 fun x s3 => x = h d ∧ s3.wipe own = s else s2.wipe own = s)) →
    Q (acc ++ (ds.filter p).map h) s → runC own g ft fe ds acc s Q
  | [], acc, _, _, q => runC_nil.mpr (by simpa using q)
  | d :: ds, acc, hl, H, q => by
    obtain ⟨s1, e1, w⟩ := H d List.mem_cons_self
    refine runC_cons ⟨s1, e1, wp_mono w fun b s2 ⟨eb, w2⟩ => ?_⟩
    cases b with
    | false =>
      rw [if_neg Bool.false_ne_true] at w2 ⊢
      rw [w2]
      refine runC_map p h ds acc (by simp only [List.length_cons] at hl; omega) (fun d' hd => H d' (List.mem_cons_of_mem _ hd)) ?_
      rw [List.filter_cons, ← eb] at q
      simpa using q
    | true =>
      rw [if_pos rfl] at w2 ⊢
      refine wp_mono w2 fun x s3 ⟨ex, es⟩ => ⟨by simp only [List.length_cons] at hl; omega, ?_⟩
      rw [es]
      refine runC_map p h ds (acc ++ [x]) (by simp only [List.length_cons, List.length_append, List.length_nil] at hl ⊢; omega) (fun d' hd => H d' (List.mem_cons_of_mem _ hd)) ?_
      rw [List.filter_cons, ← eb] at q
      rw [ex]
      simpa using q
/-- .. over things of one's own, as data -/
theorem runC_enc {γ : Type} {own : List Nat} {g : G} {ft : M Bool} {fe : M D} {Q : List D → S → Prop} (enc : γ → D) (p : γ → Bool) (h : γ → D) : ∀ (xs : List γ) (acc : List D), acc.length + xs.length ≤ sizeLine → (∀ x ∈ xs, ∃ s1, g (enc x) s = some s1 ∧ wp ft s1 fun b s2 => b = p x ∧ (if b = true then wp fe s2 fun y s3 => y = h x ∧ s3.wipe own = s else s2.wipe own = s)) →
    Q (acc ++ (xs.filter p).map h) s → runC own g ft fe (xs.map enc) acc s Q
  | [], acc, _, _, q => runC_nil.mpr (by simpa using q)
  | d :: ds, acc, hl, H, q => by
    obtain ⟨s1, e1, w⟩ := H d List.mem_cons_self
    rw [List.map_cons]
    refine runC_cons ⟨s1, e1, wp_mono w fun b s2 ⟨eb, w2⟩ => ?_⟩
    cases b with
    | false =>
      rw [if_neg Bool.false_ne_true] at w2 ⊢
      rw [w2]
      refine runC_enc enc p h ds acc (by simp only [List.length_cons] at hl; omega) (fun d' hd => H d' (List.mem_cons_of_mem _ hd)) ?_
      rw [List.filter_cons, ← eb] at q
      simpa using q
    | true =>
      rw [if_pos rfl] at w2 ⊢
      refine wp_mono w2 fun x s3 ⟨ex, es⟩ => ⟨by simp only [List.length_cons] at hl; omega, ?_⟩
      rw [es]
      refine runC_enc enc p h ds (acc ++ [x]) (by simp only [List.length_cons, List.length_append, List.length_nil] at hl ⊢; omega) (fun d' hd => H d' (List.mem_cons_of_mem _ hd)) ?_
      rw [List.filter_cons, ← eb] at q
      rw [ex]
      simpa using q
@[simp] theorem wp_yes {Q : Bool → S → Prop} : wp mYes s Q ↔ Q true s := wp_ret
/-! ### dicts, one's own lists -/
theorem wp_ixO {i : Nat} {fb : M D} {Q : D → S → Prop} (h : ∃ xs, s.g[i]? = some (.ol xs)) (w : wp fb s fun y s' => ∃ xs, s'.g[i]? = some (.ol xs) ∧ wp (M.opt (gIx (.list xs) y)) s' Q) : wp (mIxO i fb) s Q := by
  obtain ⟨xs, h⟩ := h
  obtain ⟨y, s', e, ys, h', d, s2, e2, q⟩ := w
  refine ⟨d, s2, ?_, q⟩
  unfold mIxO
  simp only [h, M.bind, e, h']
  exact e2
theorem wp_append {i : Nat} {fe : M D} {Q : Fl → S → Prop} (h : ∃ xs, s.g[i]? = some (.ol xs)) (w : wp fe s fun y s' => ∃ xs, s'.g[i]? = some (.ol xs) ∧ xs.length < sizeLine ∧ Q .nx ⟨s'.g.set i (.ol (xs ++ [y])), s'.s⟩) : wp (mAppend i fe) s Q := by
  obtain ⟨xs, h⟩ := h
  obtain ⟨y, s', e, ys, h', hl, q⟩ := w
  refine ⟨.nx, _, ?_, q⟩
  unfold mAppend
  simp only [h, M.bind, e, h', if_pos hl]
  rfl
theorem wp_dget {i : Nat} {fk : M D} {Q : D → S → Prop} (h : ∃ kvs, dictAt s.g i = some kvs) (w : wp fk s fun y s' => ∃ kvs k d, dictAt s'.g i = some kvs ∧ keyOf y = some k ∧ valD kvs k = some d ∧ Q d s') : wp (mDGet i fk) s Q := by
  obtain ⟨xs, h⟩ := h
  obtain ⟨y, s', e, kvs, k, d, h', hk, hv, q⟩ := w
  refine ⟨d, s', ?_, q⟩
  unfold mDGet
  simp only [h, M.bind, e, h', hk, Option.bind_some, hv, M.opt]
theorem wp_dgetOr {i : Nat} {fk fx : M D} {Q : D → S → Prop} (h : ∃ kvs, dictAt s.g i = some kvs) (w : wp fk s fun y s' => wp fx s' fun z s'' => ∃ kvs k, dictAt s''.g i = some kvs ∧ keyOf y = some k ∧ Q ((valD kvs k).getD z) s'') : wp (mDGetOr i fk fx) s Q := by
  obtain ⟨xs, h⟩ := h
  obtain ⟨y, s', e, z, s'', e2, kvs, k, h', hk, q⟩ := w
  refine ⟨_, s'', ?_, q⟩
  unfold mDGetOr
  simp only [h, M.bind, e, e2, h', hk, Option.map_some, M.opt]
theorem wp_dput {i : Nat} {fk fv : M D} {Q : Fl → S → Prop} (w : wp fv s fun v s1 => (∃ kvs, s1.g[i]? = some (.oK kvs)) ∧ wp fk s1 fun y s2 => ∃ kvs k, s2.g[i]? = some (.oK kvs) ∧ keyOf y = some k ∧ kvs.length < sizeLine ∧ Q .nx ⟨s2.g.set i (.oK (putD kvs k v)), s2.s⟩) : wp (mDPut i fk fv) s Q := by
  obtain ⟨v, s1, e1, ⟨kv, h1⟩, y, s2, e2, kvs, k, h2, hk, hl, q⟩ := w
  refine ⟨.nx, _, ?_, q⟩
  unfold mDPut
  simp only [M.bind, e1, h1, e2, h2, hk, if_pos hl]
  rfl
@[simp] theorem wp_dict1 {fk fv : M D} {Q : SV → S → Prop} : wp (mDict1 fk fv) s Q ↔ wp fk s fun y s1 => wp fv s1 fun v s2 => wp (M.opt ((keyOf y).map fun k => (.oK [(k, v)] : SV))) s2 Q := by
  unfold mDict1; rw [wp_bind]; exact wp_cong fun x s' => wp_bind
theorem wp_dictOf {fs : M (List D)} {Q : SV → S → Prop} : wp (mDictOf fs) s Q ↔ wp fs s fun ds s' => ∃ kvs, gDictOf ds = some kvs ∧ Q (.oK kvs) s' := by
  unfold mDictOf; rw [wp_bind]; refine wp_cong fun xs s' => ?_
  cases h : gDictOf xs with
  | none => exact ⟨fun ⟨_, _, e, _⟩ => (by cases e), fun ⟨_, e, _⟩ => (by cases e)⟩
  | some ds => exact ⟨fun q => ⟨ds, rfl, wp_some.mp q⟩, fun ⟨_, e, q⟩ => (by cases e; exact wp_some.mpr q)⟩
theorem wp_sortedK {i : Nat} {Q : SV → S → Prop} {kvs : List (Key × D)} {ks : List Int} (h : dictAt s.g i = some kvs) (hk : intKeys kvs = some ks) (hl : ks.length < 64) : wp (mSortedK i) s Q ↔ Q (.ol ((sortI ks).map .int)) s := wp_ok (by unfold mSortedK; simp only [h, hk, if_pos hl])
theorem wp_items {i : Nat} {Q : SV → S → Prop} {kvs : List (Key × D)} (h : s.g[i]? = some (.oK kvs)) : wp (mItems i) s Q ↔ Q (.ol (kvs.map pairD)) s := wp_ok (by unfold mItems; simp only [h])
theorem wp_forK {i : Nat} {g : G} {b : MS} {Q : Fl → S → Prop} {kvs : List (Key × D)} (h : s.g[i]? = some (.oK kvs)) : wp (mForK i g b) s Q ↔ wp (loopF g b (kvs.map fun kv => keyD kv.1)) (s.set i (.d (.dict (kvs.map kvD)))) Q := by
  have e : mForK i g b s = loopF g b (kvs.map fun kv => keyD kv.1) (s.set i (.d (.dict (kvs.map kvD)))) := by unfold mForK; simp only [h]
  unfold wp; rw [e]
/-! ### calls -/
def gets (r : Option Rt) (P : D → Option Src → Prop) : Prop := ∃ d so, r = some (.ret d so) ∧ P d so
theorem gets_mono {r : Option Rt} {P R : D → Option Src → Prop} (h : gets r P) (k : ∀ d so, P d so → R d so) : gets r R := let ⟨d, so, e, p⟩ := h; ⟨d, so, e, k d so p⟩
def fin (so : Option Src) (P : D → Option Src → Prop) (fl : Fl) (s' : S) : Prop := s'.s.isSome = so.isSome ∧ match fl with
  | .nx => P .none s'.s
  | .rt d => P d s'.s
  | _ => False
@[simp] theorem fin_rt {so : Option Src} {P : D → Option Src → Prop} {d : D} : fin so P (.rt d) s ↔ s.s.isSome = so.isSome ∧ P d s.s := Iff.rfl
@[simp] theorem fin_nx {so : Option Src} {P : D → Option Src → Prop} : fin so P .nx s ↔ s.s.isSome = so.isSome ∧ P .none s.s := Iff.rfl
/-- a def's body read -/
theorem gets_den {n m : Nat} {fb : MS} {svs : List SV} {so : Option Src} {P : D → Option Src → Prop} (h1 : svs.length = m) (h2 : svs.all (fun sv => !sv.own) = true) (w : wp fb ⟨svs ++ List.replicate (n - m) .un, so⟩ (fin so P)) : gets (denOf n m fb svs so) P := by
  obtain ⟨fl, s', e, hs, hp⟩ := w
  have hr : ∀ r, rtOk so s'.s r = some r := fun r => by unfold rtOk; rw [if_pos hs]
  cases fl with
  | nx => exact ⟨.none, s'.s, (by unfold denOf; rw [if_pos ⟨h1, h2⟩, e]; exact hr _), hp⟩
  | rt d => exact ⟨d, s'.s, (by unfold denOf; rw [if_pos ⟨h1, h2⟩, e]; exact hr _), hp⟩
  | _ => exact hp.elim
theorem wp_call {den : Dn} {fs : M (List D)} {Q : D → S → Prop} (w : wp fs s fun ds s' => gets (den (dOf ds) none) fun d so => so = none ∧ Q d s') : wp (mCall den fs) s Q := by
  obtain ⟨ds, s', e, d, so, e2, rfl, q⟩ := w
  refine ⟨d, s', ?_, q⟩
  unfold mCall M.bind
  simp only [e, e2]
theorem wp_callS {den : Dn} {i : Nat} {fs : M (List D)} {Q : D → S → Prop} (h : s.g[i]? = some .src) (w : wp fs s fun ds s' => s'.g[i]? = some .src ∧ gets (den (.src :: dOf ds) s'.s) fun d so => Q d ⟨s'.g, so⟩) : wp (mCallS den i fs) s Q := by
  obtain ⟨ds, s', e, h', d, so, e2, q⟩ := w
  refine ⟨d, _, ?_, q⟩
  unfold mCallS M.bind
  simp only [h, e, h', e2]
/-! ### the source -/
theorem wp_srcGet {i : Nat} {f : Fd} {u : Src} {Q : D → S → Prop} (h : s.g[i]? = some .src) (hs : s.s = some u) : wp (mSrcGet i f) s Q ↔ Q (.int (f.get u)) s := wp_ok (by unfold mSrcGet; simp only [h, hs])
theorem wp_srcPut {i : Nat} {f : Fd} {fe : M D} {Q : Fl → S → Prop} (w : wp fe s fun d s' => ∃ u n, s'.g[i]? = some .src ∧ s'.s = some u ∧ d = .int n ∧ Q .nx ⟨s'.g, some (f.put n u)⟩) : wp (mSrcPut i f fe) s Q := by
  obtain ⟨d, s', e, u, n, h1, h2, rfl, q⟩ := w
  refine ⟨.nx, _, ?_, q⟩
  unfold mSrcPut M.bind
  simp only [e, h1, h2]
theorem wp_cellN {i : Nat} {u : Src} {Q : D → S → Prop} (h : s.g[i]? = some .src) (hs : s.s = some u) : wp (mCellN i) s Q ↔ Q (.int u.cells.length) s := wp_ok (by unfold mCellN; simp only [h, hs])
theorem wp_pop {i : Nat} {u : Src} {n : Int} {Q : D → S → Prop} (h : s.g[i]? = some .src) (hs : s.s = some u) (hn : u.cells[u.cells.length - 1]? = some n) : wp (mPop i) s Q ↔ Q (.int n) ⟨s.g, some { u with cells := u.cells.dropLast }⟩ := wp_ok (by unfold mPop; simp only [h, hs, hn])
theorem wp_scr {i : Nat} {ns : List Int} {Q : List D → S → Prop} (h : s.g[i]? = some (.scr ns)) : wp (mScr i) s Q ↔ Q (ns.map .int) s := wp_ok (by unfold mScr; simp only [h])
theorem wp_newSrc {i j : Nat} {den : List Int → Option Src} {ns : List Int} {u : Src} {Q : Fl → S → Prop} (h : s.g[j]? = some (.scr ns)) (hs : s.s = none) (hu : den ns = some u) : wp (mNewSrc i j den) s Q ↔ Q .nx ⟨s.g.set i .src, some u⟩ := wp_ok (by unfold mNewSrc; simp only [h, hs, hu, Option.map_some])
/-! ### the source, in the words of simp -/
def isSrc (o : Option SV) (P : Prop) : Prop := match o with
  | some .src => P
  | _ => False
@[simp] theorem isSrc_eq {P : Prop} : isSrc (some .src) P ↔ P := Iff.rfl
theorem isSrc_is {o : Option SV} {P : Prop} (h : isSrc o P) : o = some .src ∧ P := by
  match o, h with
  | some .src, h => exact ⟨rfl, h⟩
theorem wp_srcGet' {i : Nat} {f : Fd} {u : Src} {Q : D → S → Prop} (h : isSrc g[i]? (Q (.int (f.get u)) ⟨g, some u⟩)) : wp (mSrcGet i f) ⟨g, some u⟩ Q := by
  obtain ⟨h1, h2⟩ := isSrc_is h
  exact (wp_srcGet h1 rfl).mpr h2
@[simp] theorem wp_srcGetE {i : Nat} {f : Fd} {u : Src} {Q : D → S → Prop} : wp (mSrcGet i f) ⟨g, some u⟩ Q ↔ isSrc g[i]? (Q (.int (f.get u)) ⟨g, some u⟩) := by
  refine ⟨fun h => ?_, wp_srcGet'⟩
  obtain ⟨a, s', e, q⟩ := h
  unfold mSrcGet at e
  split at e
  · rename_i u' h1 h2
    have h1 : g[i]? = some .src := h1
    cases h2
    cases e
    rw [h1]
    exact q
  · cases e
def putS (i : Nat) (f : Fd) (d : D) (s : S) (Q : Fl → S → Prop) : Prop := match s.g[i]?, s.s, d with
  | some .src, some u, .int n => Q .nx ⟨s.g, some (f.put n u)⟩
  | _, _, _ => False
theorem putS_eq {i : Nat} {f : Fd} {n : Int} {u : Src} {Q : Fl → S → Prop} (h : g[i]? = some .src) : putS i f (.int n) ⟨g, some u⟩ Q ↔ Q .nx ⟨g, some (f.put n u)⟩ := by
  unfold putS
  simp only [h]
@[simp] theorem wp_srcPutE {i : Nat} {f : Fd} {fe : M D} {Q : Fl → S → Prop} : wp (mSrcPut i f fe) s Q ↔ wp fe s fun d s' => putS i f d s' Q := by
  unfold mSrcPut
  rw [wp_bind]
  refine wp_cong fun d s' => ?_
  unfold putS
  constructor
  · rintro ⟨a, t, e, q⟩
    dsimp only at e
    split at e
    · rename_i h1 h2
      cases e
      first
        | (simp only [h1, h2]; exact q)
        | exact q
        | (trace_state; exact q)
    · cases e
  · intro h
    split at h
    · rename_i h1 h2
      exact ⟨_, _, by dsimp only; simp only [h1, h2], h⟩
    · exact h.elim
@[simp] theorem get_left {u : Src} : Fd.get .left u = u.left := rfl
@[simp] theorem get_mixed {u : Src} : Fd.get .mixed u = u.mixed := rfl
@[simp] theorem get_turn {u : Src} : Fd.get .turn u = u.turn := rfl
@[simp] theorem put_left {u : Src} {n : Int} : Fd.put .left n u = ⟨u.cells, n, u.mixed, u.turn⟩ := rfl
@[simp] theorem put_mixed {u : Src} {n : Int} : Fd.put .mixed n u = ⟨u.cells, u.left, n, u.turn⟩ := rfl
@[simp] theorem put_turn {u : Src} {n : Int} : Fd.put .turn n u = ⟨u.cells, u.left, u.mixed, n⟩ := rfl
theorem wp_cellNE {i : Nat} {u : Src} {Q : D → S → Prop} (h : g[i]? = some .src) : wp (mCellN i) ⟨g, some u⟩ Q ↔ Q (.int u.cells.length) ⟨g, some u⟩ := wp_cellN h rfl
theorem wp_popE {i : Nat} {u : Src} {Q : D → S → Prop} (h : g[i]? = some .src) (hl : 0 < u.cells.length) : wp (mPop i) ⟨g, some u⟩ Q ↔ Q (.int (u.cells[u.cells.length - 1]'(by omega))) ⟨g, some ⟨u.cells.dropLast, u.left, u.mixed, u.turn⟩⟩ := wp_pop h rfl (List.getElem?_eq_getElem (by omega))
@[simp] theorem putS_E {i : Nat} {f : Fd} {n : Int} {u : Src} {Q : Fl → S → Prop} : putS i f (.int n) ⟨g, some u⟩ Q ↔ isSrc g[i]? (Q .nx ⟨g, some (f.put n u)⟩) := by
  unfold putS
  cases h : g[i]? with
  | none => simp only [h]; exact Iff.rfl
  | some sv => cases sv <;> (simp only [h]; exact Iff.rfl)
@[simp] theorem wp_cellE {i : Nat} {u : Src} {Q : D → S → Prop} : wp (mCellN i) ⟨g, some u⟩ Q ↔ isSrc g[i]? (Q (.int u.cells.length) ⟨g, some u⟩) := by
  cases h : g[i]? with
  | none => exact ⟨fun ⟨_, _, e, _⟩ => (by unfold mCellN at e; simp only [h] at e; cases e), fun h => h.elim⟩
  | some sv =>
    cases sv with
    | src => exact wp_cellN h rfl
    | _ => exact ⟨fun ⟨_, _, e, _⟩ => (by unfold mCellN at e; simp only [h] at e; cases e), fun h => h.elim⟩
theorem wp_popI {i : Nat} {u : Src} {Q : D → S → Prop} (h : isSrc g[i]? (∃ n, u.cells[u.cells.length - 1]? = some n ∧ Q (.int n) ⟨g, some ⟨u.cells.dropLast, u.left, u.mixed, u.turn⟩⟩)) : wp (mPop i) ⟨g, some u⟩ Q := by
  obtain ⟨h1, n, hn, q⟩ := isSrc_is h
  exact (wp_pop h1 rfl hn).mpr q
def isScr (o : Option SV) (P : List Int → Prop) : Prop := match o with
  | some (.scr ns) => P ns
  | _ => False
@[simp] theorem isScr_eq {ns : List Int} {P : List Int → Prop} : isScr (some (.scr ns)) P ↔ P ns := Iff.rfl
@[simp] theorem wp_scrE {i : Nat} {Q : List D → S → Prop} : wp (mScr i) ⟨g, so⟩ Q ↔ isScr g[i]? fun ns => Q (ns.map .int) ⟨g, so⟩ := by
  cases h : g[i]? with
  | none => exact ⟨fun ⟨_, _, e, _⟩ => (by unfold mScr at e; simp only [h] at e; cases e), fun h => h.elim⟩
  | some sv =>
    cases sv with
    | scr ns => exact wp_scr h
    | _ => exact ⟨fun ⟨_, _, e, _⟩ => (by unfold mScr at e; simp only [h] at e; cases e), fun h => h.elim⟩
theorem wp_retSrc {f1 : M SV} {f2 f3 f4 : M D} {Q : Fl → S → Prop} (w : wp f1 s fun sv s1 => wp f2 s1 fun l s2 => wp f3 s2 fun m s3 => wp f4 s3 fun t s4 => ∃ ns l' m' t', sv = .ol (ns.map .int) ∧ l = .int l' ∧ m = .int m' ∧ t = .int t' ∧ Q (.rs ⟨ns, l', m', t'⟩) s4) : wp (mRetSrc f1 f2 f3 f4) s Q := by
  unfold mRetSrc
  rw [wp_bind]
  refine wp_mono w fun sv s1 w => ?_
  rw [wp_bind]
  refine wp_mono w fun l s2 w => ?_
  rw [wp_bind]
  refine wp_mono w fun m s3 w => ?_
  rw [wp_bind]
  refine wp_mono w fun t s4 ⟨ns, l', m', t', e1, e2, e3, e4, q⟩ => ?_
  subst e1 e2 e3 e4
  refine (wp_opt (a := Fl.rs ⟨ns, l', m', t'⟩) ?_).mpr q
  dsimp only
  rw [asInts_map]
  rfl
theorem denS_of {n : Nat} {fb : MS} {ns : List Int} (w : wp fb ⟨.scr ns :: List.replicate (n - 1) .un, none⟩ fun fl _ => ∃ u, fl = .rs u) : ∃ u, denS n fb ns = some u := by
  obtain ⟨fl, s', e, u, rfl⟩ := w
  exact ⟨u, by unfold denS; rw [e]⟩
end
end DL
/-! DL19: starred items, chains of two comparisons, is None, isinstance. -/
namespace DL
open PySem L2
/-- *e among the items -/
def mStar (fa : M D) (fs : M (List D)) : M (List D) := fa.bind fun d => match seqOf d with
  | some xs => fs.bind fun ys => M.ret (xs ++ ys)
  | none => fun _ => none
section
variable {X : Cx} {C : Conf} {E : XK} {K : PySem.W.Frag} {σ : St} {Pn : List Pin} {s : S} {H : Hp}
theorem pinsL_append : ∀ {xs ys : List V} {ds es : List D}, xs.length = ds.length → pinsL (xs ++ ys) (ds ++ es) = pinsL xs ds ++ pinsL ys es
  | [], _, [], _, _ => rfl
  | [], _, _ :: _, _, h => by cases h
  | _ :: _, _, [], _, h => by cases h
  | x :: xs, ys, d :: ds, es, h => by
    show Pin.dat x d :: pinsL (xs ++ ys) (ds ++ es) = Pin.dat x d :: (pinsL xs ds ++ pinsL ys es)
    rw [pinsL_append (by simpa using h)]
theorem star_rest {fs : M (List D)} {Q : List V → Hp → Prop} {xs : List V} {ds : List D} {v : V} {d : D} {H1 : Hp} {s1 : S} (hl : xs.length = ds.length) (c1 : Cf K C (pinsL xs ds ++ (.dat v d :: Pn)) s1 σ H1) (h : WA K C E σ Pn Q ((fs.bind fun ys => M.ret (ds ++ ys)) s1)) : rdA K C E fs σ H1 fun ys H2 => Q (xs ++ ys) H2 := by
  have hx : ∀ e s', WA K C E σ Pn Q (some (.ex e s')) → ∀ c dc H', Cf K C (pinsL xs ds ++ (.dat v d :: Pn)) s' σ H' → C.xr e c dc H' → E c dc H' := fun e s' h c dc H' c' => h c dc H' ((c'.sub (List.sublist_append_right _ _)).sub (List.sublist_cons_self _ _))
  refine rdA.bind_rd c1 (R := WA K C E σ Pn Q) (fun z => z) hx h fun es s2 ys H2 hl2 c2 h2 => ?_
  refine h2 (xs ++ ys) H2 (by rw [List.length_append, List.length_append, hl, hl2]) ?_
  rw [pinsL_append hl]
  have p : (pinsL xs ds ++ pinsL ys es ++ Pn).Sublist (pinsL xs ds ++ pinsL ys es ++ (.dat v d :: Pn)) := List.Sublist.append (List.Sublist.refl _) (List.sublist_cons_self _ _)
  refine Cf.sub (Cf.perm c2 ?_) p
  rw [List.append_assoc]
  exact List.perm_append_comm_assoc _ _ _
theorem da_star {e : Expr} {es : List Expr} {fa : M D} {fs : M (List D)} {p : Pos} (ha : DE C E X e fa) (hr : DA C E X es fs) (hs : starEach (.Starred e p :: es) X.env = (true, eval e X.env) :: starEach es X.env := by rfl) : DA C E X (.Starred e p :: es) (mStar fa fs) := by
  refine pa_weak (StX.pa_star ha hr hs) fun σ H Q ⟨Pn, s, c, h⟩ => ?_
  refine WE.bind_rd c (R := WA X.K C E σ Pn Q) (fun z => z) xWA h fun d s1 v H1 ⟨sa, c1⟩ h1 => ?_
  cases d with
  | list ds =>
    obtain ⟨a, xs, rfl, g, r⟩ := (c1.dat List.mem_cons_self).lsti
    exact ⟨a, xs, rfl, .inr g.sq, star_rest r.length ⟨sa, Cfg.pinsAll c1 r⟩ h1⟩
  | tuple ds =>
    obtain ⟨a, xs, rfl, g, r⟩ := (c1.dat List.mem_cons_self).tupi
    exact ⟨a, xs, rfl, .inl g.sq, star_rest r.length ⟨sa, Cfg.pinsAll c1 r⟩ h1⟩
  | _ => exact h1.elim
end
/-! ### isinstance with one built-in type -/
def tyD : D → String
  | .none => "NoneType"
  | .bool _ => "bool"
  | .int _ => "int"
  | .str _ => "str"
  | .list _ => "list"
  | .tuple _ => "tuple"
  | .dict _ => "dict"
def mIsi (T : String) (fe : M D) : M D := fe.bind fun d => M.opt ((kitB (tyD d) T).map .bool)
section
variable {X : Cx} {C : Conf} {E : XK} {K : PySem.W.Frag} {σ : St} {Pn : List Pin} {s : S} {H : Hp} {W : Addr → Prop}
theorem Rp.tyx {v : V} {d : D} (r : Rp K W H v d) : TyX K H v (.type (tyD d)) := by
  cases r with
  | non => exact .base .non
  | bl b => exact .base (.bl b)
  | int i => exact .base (.int i)
  | str x => exact .base (.str x)
  | lst h _ => exact .base (.lst h.1)
  | tup h _ _ =>
    rcases h with ⟨h | ⟨o, h⟩, _⟩ | h
    · exact .base (.tup h)
    · exact .fTuple h
    · rcases h with h | ⟨o, _, _, hk, hc, _⟩
      · exact (no_rd h).elim
      · exact .kTuple hk hc
  | dct h _ =>
    rcases h with ⟨h | ⟨o, h⟩, _⟩
    · exact .base (.dK h)
    · exact .fDict h
theorem pe_tyN {x : Str} {T : String} {p : Pos} (hg : Gl X x) (hm : X.mg x = none) (hv : bootBuiltins x = some (.type T)) (hn : x ≠ "__name__" := by decide) (hdb : (x == ("__debug__" : Str)) = false := by decide) : PE X (.Name x p) (tC (.ty T)) :=
  ⟨fun pins s σ H Q I h => ld_blt I hg hm hv ⟨.ty T, H, I, rfl, h⟩ hn hdb⟩
theorem de_isi {x : Str} {T : String} {e : Expr} {fe : M D} {p p2 pos : Pos} (hl : Gl X "isinstance") (hm : X.mg "isinstance" = none) (hg : Gl X x) (hm2 : X.mg x = none) (hv : bootBuiltins x = some (.type T)) (he : DE C E X e fe) (hn : x ≠ "__name__" := by decide) (hdb : (x == ("__debug__" : Str)) = false := by decide)
    (hs1 : starEach [e, .Name x p2] X.env = (false, eval e X.env) :: starEach [.Name x p2] X.env := by rfl) (hs2 : starEach [.Name x p2] X.env = (false, eval (.Name x p2) X.env) :: starEach [] X.env := by rfl) (hpl : (backTo pos (starEach [.Name x p2] X.env)).any (·.1) = false := by rfl) :
    DE C E X (.Call (.Name "isinstance" p) [e, .Name x p2] [] pos) (mIsi T fe) := by
  refine pe_weak (pe_callB call_isi hl hm PyProof.Rows.boot_isinstance (pa_cons he (pa_cons (pe_tyN hg hm2 hv hn hdb) pa_nil hs2) hs1) (by decide) (by decide) hs1 hpl) fun σ H Q ⟨Pn, s, c, h⟩ => ?_
  refine WE.bind_rd c (R := WE X.K C E σ Pn Q) (fun z => z) xWE h fun d s1 v H1 ⟨sa, c1⟩ h1 => ?_
  obtain ⟨dz, e1, k⟩ := h1.opt
  cases ek : kitB (tyD d) T with
  | none => rw [ek] at e1; cases e1
  | some b =>
    rw [ek] at e1
    cases e1
    exact ⟨v, .ty T, .type (tyD d), .type T, b, rfl, .ty T, (c1.dat List.mem_cons_self).tyx, kit_ty ek, k _ H1 ⟨sa, (c1.sub (List.sublist_cons_self _ _)).pinD (.bl b)⟩⟩
/-! ### chains -/
end
def mChain (g g' : D → D → Option D) (fa fb fc : M D) : M D := fa.bind fun x => fb.bind fun y => (M.opt (g x y)).bind fun z => match z with
  | .bool true => fc.bind fun w => M.opt (g' y w)
  | .bool false => M.ret (.bool false)
  | _ => fun _ => none
section
variable {X : Cx} {C : Conf} {E : XK} {K : PySem.W.Frag} {σ : St} {Pn : List Pin} {s : S} {H : Hp} {W : Addr → Prop}
theorem rd_chain {r r' : R2} {g g' : D → D → Option D} {fa fb fc : M D} (hg : Op2R K r g) (hg' : Op2R K r' g') : ∀ σ H Q, rd K C E (mChain g g' fa fb fc) σ H Q → tChain r r' (rd K C E fa) (rd K C E fb) (rd K C E fc) σ H Q := by
  rintro σ H Q ⟨Pn, s, c, h⟩
  refine WE.bind_rd c (R := WE K C E σ Pn Q) (fun z => z) xWE h fun dx s1 x H1 c1 h1 => ?_
  refine WE.bind_rd c1 (R := WE K C E σ Pn Q) (fun z => z) (xWEs (A := [.dat x dx])) h1 fun dy s2 y H2 c2 h2 => ?_
  unfold M.bind at h2
  cases q : g dx dy with
  | none => rw [q] at h2; exact h2.elim
  | some dz =>
    rw [q] at h2
    have h2 : WE K C E σ Pn Q ((match dz with | .bool true => fc.bind fun w => M.opt (g' dy w) | .bool false => M.ret (.bool false) | _ => fun _ => none) s2) := h2
    obtain ⟨sa, c2⟩ := c2
    have c3 : Cf K C ([.dat y dy, .dat x dx] ++ (.dat y dy :: Pn)) s2 σ H2 := ⟨sa, (c2.pinD (c2.dat (v := y) (d := dy) List.mem_cons_self)).mem (fun p hp => by
      simp only [List.cons_append, List.nil_append, List.mem_cons] at hp ⊢
      rcases hp with h | h | h | h
      · exact .inl h
      · exact .inr (.inr (.inl h))
      · exact .inl h
      · exact .inr (.inr (.inr h))) c2.u5⟩
    refine hg C (.dat y dy :: Pn) s2 σ H2 x y dx dy dz _ c3 q fun v H3 c4 => ?_
    obtain ⟨sb, c4⟩ := c4
    cases dz with
    | bool k =>
      refine ⟨k, (c4.dat (v := v) (d := .bool k) List.mem_cons_self).bli, ?_⟩
      have c5 : Cf K C (.dat y dy :: Pn) s2 σ H3 := ⟨sb, c4.sub (List.sublist_cons_self _ _)⟩
      cases k with
      | true =>
        rw [if_pos rfl]
        refine WE.bind_rd c5 (R := WE K C E σ Pn Q) (fun z => z) (xWEs (A := [.dat y dy])) h2 fun dw s3 w H4 c6 h3 => ?_
        obtain ⟨d2, e2, k2⟩ := h3.opt
        exact hg' C Pn s3 σ H4 y w dy dw d2 Q c6 e2 k2
      | false =>
        rw [if_neg Bool.false_ne_true]
        exact h2 _ H3 ((c5.sub (List.sublist_cons_self _ _)).scal fun _ _ => .bl false)
    | _ => exact h2.elim
theorem de_chain {op op' : CmpOp} {r r' : R2} {g g' : D → D → Option D} {a b c : Expr} {fa fb fc : M D} {pos : Pos} (ho : OpR X (compareOp op) r) (ho' : OpR X (compareOp op') r') (hg : Op2R X.K r g) (hg' : Op2R X.K r' g') (ha : DE C E X a fa) (hb : DE C E X b fb) (hc : DE C E X c fc)
    (hm : lastMarks [op, op'] [b, c] = false := by with_unfolding_all rfl) : DE C E X (.Compare a [op, op'] [b, c] pos) (mChain g g' fa fb fc) := pe_weak (pe_chain ho ho' ha hb hc hm) (rd_chain hg hg')
theorem dt_chain {op op' : CmpOp} {r r' : R2} {g g' : D → D → Option D} {a b c : Expr} {fa fb fc : M D} {pos : Pos} (ho : OpR X (compareOp op) r) (ho' : OpR X (compareOp op') r') (hg : Op2R X.K r g) (hg' : Op2R X.K r' g') (ha : DE C E X a fa) (hb : DE C E X b fb) (hc : DE C E X c fc)
    (hm : lastMarks [op, op'] [b, c] = false := by with_unfolding_all rfl) : DT C E X (.Compare a [op, op'] [b, c] pos) (mB (mChain g g' fa fb fc)) := pt_weak (pt_chain ho ho' ha hb hc hm) fun σ H Q h => rd_chain hg hg' σ H _ (rd_test σ H Q h)
/-! ### is None -/
def isNon : D → Bool
  | .none => true
  | _ => false
def gIsN : D → D → Option D
  | d, .none => some (.bool (isNon d))
  | _, _ => none
def gNotN : D → D → Option D
  | d, .none => some (.bool (!isNon d))
  | _, _ => none
theorem Rp.nonB {v : V} {d : D} (r : Rp K W H v d) : decide (v = .non) = isNon d := by
  cases r <;> first | rfl | exact decide_eq_false (fun z => nomatch z)
theorem r_isN : Op2R K (fun x y H Q => y = .non ∧ Q (.bl (decide (x = .non))) H) gIsN := by
  intro C Pn s σ H x y dx dy dz Q c e q
  unfold gIsN at e
  split at e
  · cases e
    obtain ⟨W, r1, r2⟩ := c.two
    cases r2
    rw [r1.nonB]
    exact ⟨rfl, q _ _ (c.res fun _ _ => .bl _)⟩
  · cases e
theorem r_notN : Op2R K (fun x y H Q => y = .non ∧ Q (.bl (!decide (x = .non))) H) gNotN := by
  intro C Pn s σ H x y dx dy dz Q c e q
  unfold gNotN at e
  split at e
  · cases e
    obtain ⟨W, r1, r2⟩ := c.two
    cases r2
    rw [r1.nonB]
    exact ⟨rfl, q _ _ (c.res fun _ _ => .bl _)⟩
  · cases e
section
variable {a b : Expr} {fa fb : M D} {pos : Pos}
theorem de_isN (ha : DE C E X a fa) (hb : DE C E X b fb) : DE C E X (.Compare a [.Is] [b] pos) (mOp2 gIsN fa fb) := de_cmp op_isN r_isN ha hb (nomark _)
theorem de_notN (ha : DE C E X a fa) (hb : DE C E X b fb) : DE C E X (.Compare a [.IsNot] [b] pos) (mOp2 gNotN fa fb) := de_cmp op_notN r_notN ha hb (nomark _)
theorem dt_isN (ha : DE C E X a fa) (hb : DE C E X b fb) : DT C E X (.Compare a [.Is] [b] pos) (mB (mOp2 gIsN fa fb)) := dt_cmp op_isN r_isN ha hb (nomark _)
theorem dt_notN (ha : DE C E X a fa) (hb : DE C E X b fb) : DT C E X (.Compare a [.IsNot] [b] pos) (mB (mOp2 gNotN fa fb)) := dt_cmp op_notN r_notN ha hb (nomark _)
end
end
end DL
/-! DL20: in, not in for rows of any data; a module's constant; gcd. -/
namespace DL
open PySem L2
def memD (x : D) (ys : List D) : Option Bool := if (SeqAt.shaped x && SeqAt.shaped (.list ys) && noDict x && noDict (.list ys)) = true then some (ys.any fun z => PyData.eqv z x) else none
def gInX : D → D → Option D
  | x, .list ys => (memD x ys).map .bool
  | x, .tuple ys => (memD x ys).map .bool
  | _, _ => none
def gNotInX : D → D → Option D
  | x, .list ys => (memD x ys).map fun b => .bool (!b)
  | x, .tuple ys => (memD x ys).map fun b => .bool (!b)
  | _, _ => none
def rInAny (K : PySem.W.Frag) (neg : Bool) : R2 := fun x y H Q => ∃ d ds, Dp K H x d ∧ (Dp K H y (.list ds) ∨ Dp K H y (.tuple ds)) ∧ SeqAt.shaped d = true ∧ SeqAt.shaped (.list ds) = true ∧ Q (.bl (if neg then !(ds.any fun z => PyData.eqv z d) else ds.any fun z => PyData.eqv z d)) H
section
variable {X : Cx} {C : Conf} {E : XK} {K : PySem.W.Frag} {σ : St} {Pn : List Pin} {s : S} {H : Hp} {W : Addr → Prop}
theorem op_inAny (hu : X.A.units + 65 < cLine) : OpR X (compareOp .In) (rInAny X.K false) := by
  intro pins s σ H x y v u Q I rx ry h
  obtain ⟨d, ds, hd, he, sd, se, q⟩ := h
  obtain ⟨as, r1⟩ := Dp.reads I d x v hd rx
  rcases he with he | he
  · obtain ⟨bs, r2⟩ := Dp.reads I (.list ds) y u he ry
    exact SeqAt.in_list_reads r2 r1 (SeqAt.canLay_of_shaped se) (SeqAt.canLay_of_shaped sd) (PyProof.Rows.room_in_shaped sd hu) ⟨.bl _, H, I, rfl, q⟩
  · obtain ⟨bs, r2⟩ := Dp.reads I (.tuple ds) y u he ry
    exact SeqAt.in_tuple_reads r2 r1 (SeqAt.canLay_of_shaped se) (SeqAt.canLay_of_shaped sd) (PyProof.Rows.room_in_shaped sd hu) ⟨.bl _, H, I, rfl, q⟩
theorem op_notInAny (hu : X.A.units + 65 < cLine) : OpR X (compareOp .NotIn) (rInAny X.K true) := by
  intro pins s σ H x y v u Q I rx ry h
  obtain ⟨d, ds, hd, he, sd, se, q⟩ := h
  obtain ⟨as, r1⟩ := Dp.reads I d x v hd rx
  rcases he with he | he
  · obtain ⟨bs, r2⟩ := Dp.reads I (.list ds) y u he ry
    exact SeqAt.notIn_list_reads r2 r1 (SeqAt.canLay_of_shaped se) (SeqAt.canLay_of_shaped sd) (PyProof.Rows.room_in_shaped sd hu) ⟨.bl _, H, I, rfl, q⟩
  · obtain ⟨bs, r2⟩ := Dp.reads I (.tuple ds) y u he ry
    exact SeqAt.notIn_tuple_reads r2 r1 (SeqAt.canLay_of_shaped se) (SeqAt.canLay_of_shaped sd) (PyProof.Rows.room_in_shaped sd hu) ⟨.bl _, H, I, rfl, q⟩
theorem memD_is {x : D} {ys : List D} {b : Bool} (h : memD x ys = some b) : SeqAt.shaped x = true ∧ SeqAt.shaped (.list ys) = true ∧ noDict x = true ∧ noDict (.list ys) = true ∧ b = ys.any fun z => PyData.eqv z x := by
  unfold memD at h
  split at h
  · rename_i k
    simp only [Bool.and_eq_true] at k
    cases h
    exact ⟨k.1.1.1, k.1.1.2, k.1.2, k.2, rfl⟩
  · cases h
theorem r_inX : Op2R K (rInAny K false) gInX := by
  intro C Pn s σ H x y dx dy dz Q c e q
  unfold gInX at e
  split at e
  · rename_i ys
    cases em : memD dx ys with
    | none => rw [em] at e; cases e
    | some b =>
      rw [em] at e
      cases e
      obtain ⟨h1, h2, h3, h4, rfl⟩ := memD_is em
      obtain ⟨W, r1, r2⟩ := c.two
      exact ⟨dx, ys, r1.dp _ _ h3, .inl (r2.dp _ _ h4), h1, h2, q _ _ (c.res fun _ _ => .bl _)⟩
  · rename_i ys
    cases em : memD dx ys with
    | none => rw [em] at e; cases e
    | some b =>
      rw [em] at e
      cases e
      obtain ⟨h1, h2, h3, h4, rfl⟩ := memD_is em
      obtain ⟨W, r1, r2⟩ := c.two
      exact ⟨dx, ys, r1.dp _ _ h3, .inr (r2.dp (.tuple ys) _ h4), h1, h2, q _ _ (c.res fun _ _ => .bl _)⟩
  · cases e
theorem r_notInX : Op2R K (rInAny K true) gNotInX := by
  intro C Pn s σ H x y dx dy dz Q c e q
  unfold gNotInX at e
  split at e
  · rename_i ys
    cases em : memD dx ys with
    | none => rw [em] at e; cases e
    | some b =>
      rw [em] at e
      cases e
      obtain ⟨h1, h2, h3, h4, rfl⟩ := memD_is em
      obtain ⟨W, r1, r2⟩ := c.two
      exact ⟨dx, ys, r1.dp _ _ h3, .inl (r2.dp _ _ h4), h1, h2, q _ _ (c.res fun _ _ => .bl _)⟩
  · rename_i ys
    cases em : memD dx ys with
    | none => rw [em] at e; cases e
    | some b =>
      rw [em] at e
      cases e
      obtain ⟨h1, h2, h3, h4, rfl⟩ := memD_is em
      obtain ⟨W, r1, r2⟩ := c.two
      exact ⟨dx, ys, r1.dp _ _ h3, .inr (r2.dp (.tuple ys) _ h4), h1, h2, q _ _ (c.res fun _ _ => .bl _)⟩
  · cases e
variable {a b : Expr} {fa fb : M D} {pos : Pos}
theorem de_inX (hu : X.A.units + 65 < cLine) (ha : DE C E X a fa) (hb : DE C E X b fb) (hm : behindInMarks .In b = false := by rfl) : DE C E X (.Compare a [.In] [b] pos) (mOp2 gInX fa fb) := de_cmp (op_inAny hu) r_inX ha hb hm
theorem dt_inX (hu : X.A.units + 65 < cLine) (ha : DE C E X a fa) (hb : DE C E X b fb) (hm : behindInMarks .In b = false := by rfl) : DT C E X (.Compare a [.In] [b] pos) (mB (mOp2 gInX fa fb)) := dt_cmp (op_inAny hu) r_inX ha hb hm
theorem de_notInX (hu : X.A.units + 65 < cLine) (ha : DE C E X a fa) (hb : DE C E X b fb) (hm : behindInMarks .NotIn b = false := by rfl) : DE C E X (.Compare a [.NotIn] [b] pos) (mOp2 gNotInX fa fb) := de_cmp (op_notInAny hu) r_notInX ha hb hm
theorem dt_notInX (hu : X.A.units + 65 < cLine) (ha : DE C E X a fa) (hb : DE C E X b fb) (hm : behindInMarks .NotIn b = false := by rfl) : DT C E X (.Compare a [.NotIn] [b] pos) (mB (mOp2 gNotInX fa fb)) := dt_cmp (op_notInAny hu) r_notInX ha hb hm
/-! ### a constant of the module -/
theorem de_kInt {x : Str} {i : Int} {t : Tok} {p : Pos} (hg : Gl X x) (hm : X.mg x = some (.int i t)) (hd : (x == ("__debug__" : Str)) = false := by decide) : DE C E X (.Name x p) (M.ret (.int i)) :=
  de_c ⟨fun pins s σ H Q I h => ld_glob I hg hm ⟨.int i, H, I, ⟨t, rfl⟩, h⟩ hd⟩ fun _ _ => .int i
/-! ### gcd -/
def gGcd : List D → Option D
  | [.int i, .int j] => some (.int ((Nat.gcd i.natAbs j.natAbs : Nat) : Int))
  | _ => none
theorem r_gcd : OpNR K rGcd gGcd := by
  intro C Pn s σ H vs ds dz Q c hl e q
  unfold gGcd at e
  split at e
  · cases e
    exact ⟨_, _, c.vals2 hl, q _ _ (c.res fun _ _ => .int _)⟩
  · cases e
theorem de_callBf {r : List V → Hp → VK → Prop} {g : List D → Option D} {x : Str} {p : Pos} {e : Expr} {es : List Expr} {fs : M (List D)} {id : String} (hc : CallR X (.builtin id) r) (hg : OpNR X.K r g) (hl : Gl X x) (hm : X.mg x = some (.builtin id)) (h : DA C E X (e :: es) fs) (hdb : (x == ("__debug__" : Str)) = false := by decide)
    (he : starEach (e :: es) X.env = (false, eval e X.env) :: starEach es X.env := by rfl) (hpl : (backTo pos (starEach es X.env)).any (·.1) = false := by rfl) : DE C E X (.Call (.Name x p) (e :: es) [] pos) (mArgs g fs) :=
  pe_weak (pe_callBfun hc hl hm h hdb he hpl) (rd_args hg)
end
end DL
/-! DL21: zip. -/
namespace DL
open PySem L2
def pairUp (xs ys : List D) : List D := (xs.zip ys).map fun p => .tuple [p.1, p.2]
def gZip : List D → Option (List D)
  | [.tuple xs, .tuple ys] => some (pairUp xs ys)
  | _ => none
def mZip (fs : M (List D)) : M (List D) := fs.bind fun ds => M.opt (gZip ds)
theorem pairUp_get {xs ys : List D} {i : Nat} {d : D} (h : (pairUp xs ys)[i]? = some d) : ∃ x y, xs[i]? = some x ∧ ys[i]? = some y ∧ d = .tuple [x, y] := by
  unfold pairUp at h
  rw [List.getElem?_map] at h
  cases e : (xs.zip ys)[i]? with
  | none => rw [e] at h; cases h
  | some p =>
    rw [e] at h
    cases h
    obtain ⟨h1, h2⟩ := List.getElem?_zip_eq_some.mp e
    exact ⟨p.1, p.2, h1, h2, rfl⟩
section
variable {X : Cx} {C : Conf} {E : XK} {K : PySem.W.Frag} {σ : St} {Pn : List Pin} {s : S} {H : Hp}
theorem it_zipT {a b : Addr} {xs ys : List D} : ItOk K C (ItzN K a b) (pairUp xs ys) [.dat (.ref a) (.tuple xs), .dat (.ref b) (.tuple ys)] := by
  intro i Pn s σ H hm ⟨sa, c⟩
  obtain ⟨_, vs, e1, g1, r1⟩ := (c.dat (v := .ref a) (d := .tuple xs) (hm _ List.mem_cons_self)).tupi
  cases e1
  obtain ⟨_, ws, e2, g2, r2⟩ := (c.dat (v := .ref b) (d := .tuple ys) (hm _ (List.mem_cons_of_mem _ List.mem_cons_self))).tupi
  cases e2
  refine ⟨fun d hd => ?_, fun hl => ⟨vs, ws, g1.sq, g2.sq, ?_⟩⟩
  · obtain ⟨dx, dy, h1, h2, rfl⟩ := pairUp_get hd
    obtain ⟨x, hx, rx⟩ := r1.get i dx h1
    obtain ⟨y, hy, ry⟩ := r2.get i dy h2
    refine ⟨⟨vs, ws, x, y, g1.sq, g2.sq, hx, hy⟩, fun v H' ⟨T, ob, x', y', hd, ev, hT, eH, k1, k2⟩ => ?_⟩
    subst ev eH
    have q1 := k1 _ g1.sq
    have q2 := k2 _ g2.sq
    rw [hx] at q1
    rw [hy] at q2
    cases q1
    cases q2
    exact ⟨sa, Cfg.newT (A := []) c (.cons rx (.cons ry .nil)) hd hT⟩
  · have l1 := r1.length
    have l2 := r2.length
    unfold pairUp at hl
    rw [List.length_map, List.length_zip] at hl
    omega
theorem Cf.two_args {vs : List V} {x y : D} (hl : vs.length = 2) (c : Cf K C (pinsL vs [x, y] ++ Pn) s σ H) : ∃ v w, vs = [v, w] ∧ Cf K C ([.dat v x, .dat w y] ++ Pn) s σ H := by
  match vs, hl with
  | [v, w], _ => exact ⟨v, w, rfl, c⟩
theorem di_zip {elts : List Expr} {kk : Nat} {tpos : Pos} {a b : Expr} {f : M (List D)} {p pos : Pos} (hg : Gl X "zip") (hm : X.mg "zip" = none) (ha : DA C E X [a, b] f) (hs : starEach [a, b] X.env = (false, eval a X.env) :: starEach [b] X.env := by rfl) (hpl : (backTo pos (starEach [b] X.env)).any (·.1) = false := by rfl) :
    DI C E X (.Tuple elts kk tpos) (.Call (.Name "zip" p) [a, b] [] pos) (mZip f) := by
  refine pi_weak (pi_zipN hg hm ha hs hpl) fun σ H R ⟨Pn, s, c, h⟩ => ?_
  refine rdA.bind_rd c (R := WI X.K C E σ Pn R) (fun z => z) xWI h fun ds s1 vs H1 hl c1 h1 => ?_
  obtain ⟨zs, e, k⟩ := h1.opt
  unfold gZip at e
  split at e
  · rename_i xs ys
    cases e
    obtain ⟨v, w, rfl, c2⟩ := c1.two_args hl
    have c3 := c2
    obtain ⟨sa, c2⟩ := c2
    obtain ⟨a1, l1, rfl, g1, _⟩ := (c2.dat (v := v) (d := .tuple xs) List.mem_cons_self).tupi
    obtain ⟨a2, l2, rfl, g2, _⟩ := (c2.dat (v := w) (d := .tuple ys) (List.mem_cons_of_mem _ List.mem_cons_self)).tupi
    exact ⟨a1, a2, l1, l2, rfl, g1.sq, g2.sq, k _ H1 _ c3 it_zipT⟩
  · cases e
end
end DL
/-! DL22: the reading of what DL19 to DL21 add. -/
namespace DL
open PySem L2
section
variable {s : S} {g : List SV} {so : Option Src}
def isSeq (d : D) (P : List D → Prop) : Prop := match d with
  | .list xs => P xs
  | .tuple xs => P xs
  | _ => False
@[simp] theorem isSeq_l {xs : List D} {P : List D → Prop} : isSeq (.list xs) P ↔ P xs := Iff.rfl
@[simp] theorem isSeq_t {xs : List D} {P : List D → Prop} : isSeq (.tuple xs) P ↔ P xs := Iff.rfl
theorem isSeq_of {d : D} {xs : List D} {P : List D → Prop} (h : seqOf d = some xs) : isSeq d P ↔ P xs := by
  cases d <;> first | (cases h; exact Iff.rfl) | cases h
@[simp] theorem wp_star {fa : M D} {fs : M (List D)} {Q : List D → S → Prop} : wp (mStar fa fs) s Q ↔ wp fa s fun d s' => isSeq d fun xs => wp fs s' fun ys s'' => Q (xs ++ ys) s'' := by
  unfold mStar
  rw [wp_bind]
  refine wp_cong fun d s' => ?_
  have k : ∀ xs : List D, wp (fs.bind fun ys => M.ret (xs ++ ys)) s' Q ↔ wp fs s' fun ys s'' => Q (xs ++ ys) s'' := fun xs => by
    rw [wp_bind]
    exact wp_cong fun ys s'' => wp_ret
  cases d with
  | list xs => exact k xs
  | tuple xs => exact k xs
  | _ => exact ⟨fun ⟨_, _, e, _⟩ => (by cases e), fun h => h.elim⟩
@[simp] theorem wp_isi {T : String} {fe : M D} {Q : D → S → Prop} : wp (mIsi T fe) s Q ↔ wp fe s fun d s' => wp (M.opt ((kitB (tyD d) T).map .bool)) s' Q := wp_bind
@[simp] theorem wp_chain {o o' : D → D → Option D} {fa fb fc : M D} {Q : D → S → Prop} : wp (mChain o o' fa fb fc) s Q ↔ wp fa s fun x s1 => wp fb s1 fun y s2 => wp (M.opt (o x y)) s2 fun z s3 => asD z s3 fun b s3 => if b = true then wp fc s3 fun w s4 => wp (M.opt (o' y w)) s4 Q else Q (.bool false) s3 := by
  unfold mChain
  rw [wp_bind]
  refine wp_cong fun x s1 => ?_
  rw [wp_bind]
  refine wp_cong fun y s2 => ?_
  rw [wp_bind]
  refine wp_cong fun z s3 => ?_
  cases z with
  | bool b =>
    cases b with
    | true =>
      show wp (fc.bind fun w => M.opt (o' y w)) s3 Q ↔ _
      rw [wp_bind]
      simp [asD]
    | false =>
      show wp (M.ret (.bool false)) s3 Q ↔ _
      rw [wp_ret]
      simp [asD]
  | _ => exact ⟨fun ⟨_, _, e, _⟩ => (by cases e), fun h => h.elim⟩
@[simp] theorem wp_cut {fe : M D} {fl fh : M (Option Int)} {Q : D → S → Prop} : wp (mCut fe fl fh) s Q ↔ wp fe s fun x s1 => wp fl s1 fun lo s2 => wp fh s2 fun hi s3 => wp (M.opt (gCut lo hi x)) s3 Q := by
  unfold mCut
  rw [wp_bind]
  refine wp_cong fun x s1 => ?_
  rw [wp_bind]
  refine wp_cong fun y s2 => ?_
  rw [wp_bind]
@[simp] theorem wp_no {Q : Option Int → S → Prop} : wp mNo s Q ↔ Q none s := wp_ret
@[simp] theorem wp_so {f : M D} {Q : Option Int → S → Prop} : wp (mSo f) s Q ↔ wp f s fun d s' => wp (M.opt ((asI d).map some)) s' Q := wp_bind
@[simp] theorem wp_asI {i : Int} {Q : Option Int → S → Prop} : wp (M.opt ((asI (.int i)).map some)) s Q ↔ Q (some i) s := wp_ok rfl
@[simp] theorem wp_zip {fs : M (List D)} {Q : List D → S → Prop} : wp (mZip fs) s Q ↔ wp fs s fun ds s' => wp (M.opt (gZip ds)) s' Q := wp_bind
@[simp] theorem wp_zipT {xs ys : List D} {Q : List D → S → Prop} : wp (M.opt (gZip [.tuple xs, .tuple ys])) s Q ↔ Q (pairUp xs ys) s := wp_ok rfl
@[simp] theorem wp_isN {d : D} {Q : D → S → Prop} : wp (M.opt (gIsN d .none)) s Q ↔ Q (.bool (isNon d)) s := wp_ok rfl
@[simp] theorem wp_notN {d : D} {Q : D → S → Prop} : wp (M.opt (gNotN d .none)) s Q ↔ Q (.bool (!isNon d)) s := wp_ok rfl
@[simp] theorem wp_gcd {i j : Int} {Q : D → S → Prop} : wp (M.opt (gGcd [.int i, .int j])) s Q ↔ Q (.int ((Nat.gcd i.natAbs j.natAbs : Nat) : Int)) s := wp_ok rfl
@[simp] theorem wp_all {γ : Type} {f : γ → Bool} {xs : List γ} {Q : D → S → Prop} : wp (M.opt (gAll [.list (xs.map fun x => .bool (f x))])) s Q ↔ Q (.bool (xs.all f)) s := by
  have e : gAll [.list (xs.map fun x => PyData.bool (f x))] = some (.bool (xs.all f)) := by
    have e2 : (xs.map fun x => PyData.bool (f x)) = (xs.map f).map .bool := by rw [List.map_map]; rfl
    unfold gAll
    rw [e2]
    simp only [asBools_map, Option.map_some, List.all_map]
    rfl
  rw [e]; exact wp_some
/-- isinstance's answers -/
def isTy (T : String) (d : D) : Bool := (tyD d == T) || (T == "int" && tyD d == "bool")
def tyNames : List String := ["NoneType", "bool", "int", "str", "list", "tuple", "dict"]
theorem kit_all : tyNames.all (fun n => ["int", "bool", "str", "tuple", "list", "dict"].all fun T => kitB n T == some ((n == T) || (T == "int" && n == "bool"))) = true := by decide +kernel
theorem kit_is (d : D) {T : String} (hT : T ∈ ["int", "bool", "str", "tuple", "list", "dict"]) : kitB (tyD d) T = some (isTy T d) := by
  have h : tyD d ∈ tyNames := by cases d <;> simp [tyD, tyNames]
  have h1 := List.all_eq_true.mp (List.all_eq_true.mp kit_all _ h) T hT
  exact eq_of_beq h1
@[simp] theorem wp_kitI {d : D} {Q : D → S → Prop} : wp (M.opt ((kitB (tyD d) "int").map .bool)) s Q ↔ Q (.bool (isTy "int" d)) s := by rw [kit_is d (by decide)]; exact wp_some
@[simp] theorem wp_kitB {d : D} {Q : D → S → Prop} : wp (M.opt ((kitB (tyD d) "bool").map .bool)) s Q ↔ Q (.bool (isTy "bool" d)) s := by rw [kit_is d (by decide)]; exact wp_some
@[simp] theorem wp_kitS {d : D} {Q : D → S → Prop} : wp (M.opt ((kitB (tyD d) "str").map .bool)) s Q ↔ Q (.bool (isTy "str" d)) s := by rw [kit_is d (by decide)]; exact wp_some
@[simp] theorem wp_kitT {d : D} {Q : D → S → Prop} : wp (M.opt ((kitB (tyD d) "tuple").map .bool)) s Q ↔ Q (.bool (isTy "tuple" d)) s := by rw [kit_is d (by decide)]; exact wp_some
@[simp] theorem wp_kitL {d : D} {Q : D → S → Prop} : wp (M.opt ((kitB (tyD d) "list").map .bool)) s Q ↔ Q (.bool (isTy "list" d)) s := by rw [kit_is d (by decide)]; exact wp_some
@[simp] theorem isTy_int_none : isTy "int" .none = false := by simp [isTy, tyD]
@[simp] theorem isTy_int_bool (b : Bool) : isTy "int" (.bool b) = true := by simp [isTy, tyD]
@[simp] theorem isTy_int_int (i : Int) : isTy "int" (.int i) = true := by simp [isTy, tyD]
@[simp] theorem isTy_int_str (x : Str) : isTy "int" (.str x) = false := by simp [isTy, tyD]
@[simp] theorem isTy_int_list (xs : List D) : isTy "int" (.list xs) = false := by simp [isTy, tyD]
@[simp] theorem isTy_int_tuple (xs : List D) : isTy "int" (.tuple xs) = false := by simp [isTy, tyD]
@[simp] theorem isTy_int_dict (xs : List (D × D)) : isTy "int" (.dict xs) = false := by simp [isTy, tyD]
@[simp] theorem isTy_bool_none : isTy "bool" .none = false := by simp [isTy, tyD]
@[simp] theorem isTy_bool_bool (b : Bool) : isTy "bool" (.bool b) = true := by simp [isTy, tyD]
@[simp] theorem isTy_bool_int (i : Int) : isTy "bool" (.int i) = false := by simp [isTy, tyD]
@[simp] theorem isTy_bool_str (x : Str) : isTy "bool" (.str x) = false := by simp [isTy, tyD]
@[simp] theorem isTy_bool_list (xs : List D) : isTy "bool" (.list xs) = false := by simp [isTy, tyD]
@[simp] theorem isTy_bool_tuple (xs : List D) : isTy "bool" (.tuple xs) = false := by simp [isTy, tyD]
@[simp] theorem isTy_bool_dict (xs : List (D × D)) : isTy "bool" (.dict xs) = false := by simp [isTy, tyD]
@[simp] theorem isTy_str_none : isTy "str" .none = false := by simp [isTy, tyD]
@[simp] theorem isTy_str_bool (b : Bool) : isTy "str" (.bool b) = false := by simp [isTy, tyD]
@[simp] theorem isTy_str_int (i : Int) : isTy "str" (.int i) = false := by simp [isTy, tyD]
@[simp] theorem isTy_str_str (x : Str) : isTy "str" (.str x) = true := by simp [isTy, tyD]
@[simp] theorem isTy_str_list (xs : List D) : isTy "str" (.list xs) = false := by simp [isTy, tyD]
@[simp] theorem isTy_str_tuple (xs : List D) : isTy "str" (.tuple xs) = false := by simp [isTy, tyD]
@[simp] theorem isTy_str_dict (xs : List (D × D)) : isTy "str" (.dict xs) = false := by simp [isTy, tyD]
@[simp] theorem isTy_tuple_none : isTy "tuple" .none = false := by simp [isTy, tyD]
@[simp] theorem isTy_tuple_bool (b : Bool) : isTy "tuple" (.bool b) = false := by simp [isTy, tyD]
@[simp] theorem isTy_tuple_int (i : Int) : isTy "tuple" (.int i) = false := by simp [isTy, tyD]
@[simp] theorem isTy_tuple_str (x : Str) : isTy "tuple" (.str x) = false := by simp [isTy, tyD]
@[simp] theorem isTy_tuple_list (xs : List D) : isTy "tuple" (.list xs) = false := by simp [isTy, tyD]
@[simp] theorem isTy_tuple_tuple (xs : List D) : isTy "tuple" (.tuple xs) = true := by simp [isTy, tyD]
@[simp] theorem isTy_tuple_dict (xs : List (D × D)) : isTy "tuple" (.dict xs) = false := by simp [isTy, tyD]
@[simp] theorem isTy_list_none : isTy "list" .none = false := by simp [isTy, tyD]
@[simp] theorem isTy_list_bool (b : Bool) : isTy "list" (.bool b) = false := by simp [isTy, tyD]
@[simp] theorem isTy_list_int (i : Int) : isTy "list" (.int i) = false := by simp [isTy, tyD]
@[simp] theorem isTy_list_str (x : Str) : isTy "list" (.str x) = false := by simp [isTy, tyD]
@[simp] theorem isTy_list_list (xs : List D) : isTy "list" (.list xs) = true := by simp [isTy, tyD]
@[simp] theorem isTy_list_tuple (xs : List D) : isTy "list" (.tuple xs) = false := by simp [isTy, tyD]
@[simp] theorem isTy_list_dict (xs : List (D × D)) : isTy "list" (.dict xs) = false := by simp [isTy, tyD]
end
end DL
set_option maxHeartbeats 4000000
namespace K56
open PySem L2 DL
def top (i : Nat) : Stmt := PySem.Challenge.pw_mapvalues_k56_claims_judged.main.body.getD i (.Pass ⟨0, 0, 0, 0⟩)
section
variable {P : Program} {w : World} {K : PySem.W.Frag} {mg : Str → Option Value} {base : Heap}
/-! ### powers_of -/
abbrev s_powers_of : Stmt := top 2
noncomputable def b_powers_of : MS :=
    (mSeq (mSetF 1 (M.ret (.oK [])))
    (mSeq (mFor (mSeqI (mVar 0)) (mGTup 2 (mGCons (mName 2) (mGCons (mName 3) mGNil))) (mDPut 1 (mVar 2) (mOp2 gAdd (mDGetOr 1 (mVar 2) (M.ret (.int 0))) (mVar 3))))
    (mRet (mArgs gTuple (mCons (mSeal (mLc [2] (mSeqI (mSeal (mSortedK 1))) (mName 2) (mB (mOp2 gNe (mDGet 1 (mVar 2)) (M.ret (.int 0)))) (mTup (mCons (mVar 2) (mCons (mDGet 1 (mVar 2)) mNil))))) mNil)))))
noncomputable def den_powers_of : Dn := denOf 4 1 b_powers_of
theorem sc_powers_of : FnScope ["pairs", "found", "i", "c"] ["pairs"] (defScope s_powers_of) := ⟨rfl, rfl, rfl, by decide +kernel, rfl, by decide +kernel, by decide +kernel⟩
theorem ok_powers_of {f : Addr} {fd : FuncData} (F : Fun K "powers_of" "powers_of" s_powers_of f fd) (hm : mg "powers_of" = some (.ref f)) (hB : Binds K fd ["pairs"] [])  (z_sorted : mg "sorted" = none) (z_tuple : mg "tuple" = none)  :
    Cal P w K mg base 1 "powers_of" ["pairs"] (spD K noX den_powers_of) := by
  refine ⟨f, fd, Fun.okD F sc_powers_of (fun cdv A outer s H E C hx hr => ?_), hm, F.kp, hB⟩
  · have hu1 := hu_of hr
    have hu64 := hr.units
    have hu65 := hu65_of hr
    have sc := sc_powers_of
    exact (dss_cons (ds_setF sc.nd rfl (by first | exact Or.inl rfl | exact Or.inr rfl) df_dict)
    (dss_cons (ds_for PassesOwn.never rfl (di_seq (de_var 0)) (dg_tup rfl (dgs_cons (dg_name sc.nd rfl (by first | exact Or.inl rfl | exact Or.inr rfl)) (dgs_cons (dg_name sc.nd rfl (by first | exact Or.inl rfl | exact Or.inr rfl)) dgs_nil))) (dss_one (ds_dput 1 hu1 (de_var 2) (de_add (de_dgetOr 1 hu1 (de_var 2) de_int ⟨rfl, rfl, rfl, rfl⟩) (de_var 3)))))
    (dss_one (ds_ret (de_callTy call_tupleN r_tuple (by rfl) z_tuple (by decide +kernel) (da_cons (de_ofF (df_lc rfl sc.nd (di_seq (de_ofF (df_sortedK 1 rfl (by rfl) z_sorted))) (blkOk_by (own := [("i", 2)]) rfl) (by decide) (fun _ _ _ _ _ => (dg_name sc.nd rfl (by first | exact Or.inl rfl | exact Or.inr rfl))) (fun _ _ _ _ _ => (dts_one (dt_ne hu64 (de_dget 1 hu1 (fun _ _ => rfl) (de_var 2)) de_int))) (fun _ _ _ _ _ => (de_tup (da_cons (de_var 2) (da_cons (de_dget 1 hu1 (fun _ _ => rfl) (de_var 2)) da_nil)))))) da_nil))))))
/-! ### powers_sum -/
abbrev s_powers_sum : Stmt := top 3
noncomputable def b_powers_sum : MS :=
    (mRet (mCall den_powers_of (mCons (mSeal (mLst (mStar (mVar 0) (mStar (mVar 1) mNil)))) mNil)))
noncomputable def den_powers_sum : Dn := denOf 2 2 b_powers_sum
theorem sc_powers_sum : FnScope ["a", "b"] ["a", "b"] (defScope s_powers_sum) := ⟨rfl, rfl, rfl, by decide +kernel, rfl, by decide +kernel, by decide +kernel⟩
theorem ok_powers_sum {f : Addr} {fd : FuncData} (F : Fun K "powers_sum" "powers_sum" s_powers_sum f fd) (hm : mg "powers_sum" = some (.ref f)) (hB : Binds K fd ["a", "b"] []) (c_powers_of : Cal P w K mg base 1 "powers_of" ["pairs"] (spD K noX den_powers_of))   :
    Cal P w K mg base 2 "powers_sum" ["a", "b"] (spD K noX den_powers_sum) := by
  obtain ⟨f_powers_of, fd_powers_of, F_powers_of, m_powers_of, k_powers_of, B_powers_of⟩ := c_powers_of.ex
  refine ⟨f, fd, Fun.okD F sc_powers_sum (fun cdv A outer s H E C hx hr => ?_), hm, F.kp, hB⟩
  · have hu1 := hu_of hr
    have hu64 := hr.units
    have hu65 := hu65_of hr
    have sc := sc_powers_sum
    exact (dss_one (ds_ret (de_call F_powers_of (hr.mono (by decide)) (by rfl) m_powers_of k_powers_of B_powers_of pass0 (da_cons (de_ofF (df_lst (da_star (de_var 0) (da_star (de_var 1) da_nil)))) da_nil))))
/-! ### powers_scaled -/
abbrev s_powers_scaled : Stmt := top 4
noncomputable def b_powers_scaled : MS :=
    (mRet (mCall den_powers_of (mCons (mSeal (mLc [2, 3] (mSeqI (mVar 1)) (mGTup 2 (mGCons (mName 2) (mGCons (mName 3) mGNil))) mYes (mTup (mCons (mVar 2) (mCons (mOp2 gMul (mVar 0) (mVar 3)) mNil))))) mNil)))
noncomputable def den_powers_scaled : Dn := denOf 4 2 b_powers_scaled
theorem sc_powers_scaled : FnScope ["c", "a", "i", "number"] ["c", "a"] (defScope s_powers_scaled) := ⟨rfl, rfl, rfl, by decide +kernel, rfl, by decide +kernel, by decide +kernel⟩
theorem ok_powers_scaled {f : Addr} {fd : FuncData} (F : Fun K "powers_scaled" "powers_scaled" s_powers_scaled f fd) (hm : mg "powers_scaled" = some (.ref f)) (hB : Binds K fd ["c", "a"] []) (c_powers_of : Cal P w K mg base 1 "powers_of" ["pairs"] (spD K noX den_powers_of))   :
    Cal P w K mg base 2 "powers_scaled" ["c", "a"] (spD K noX den_powers_scaled) := by
  obtain ⟨f_powers_of, fd_powers_of, F_powers_of, m_powers_of, k_powers_of, B_powers_of⟩ := c_powers_of.ex
  refine ⟨f, fd, Fun.okD F sc_powers_scaled (fun cdv A outer s H E C hx hr => ?_), hm, F.kp, hB⟩
  · have hu1 := hu_of hr
    have hu64 := hr.units
    have hu65 := hu65_of hr
    have sc := sc_powers_scaled
    exact (dss_one (ds_ret (de_call F_powers_of (hr.mono (by decide)) (by rfl) m_powers_of k_powers_of B_powers_of pass0 (da_cons (de_ofF (df_lc rfl sc.nd (di_seq (de_var 1)) (blkOk_by (own := [("i", 2), ("number", 3)]) rfl) (by decide) (fun _ _ _ _ _ => (dg_tup rfl (dgs_cons (dg_name sc.nd rfl (by first | exact Or.inl rfl | exact Or.inr rfl)) (dgs_cons (dg_name sc.nd rfl (by first | exact Or.inl rfl | exact Or.inr rfl)) dgs_nil)))) (fun _ _ _ _ _ => dts_nil) (fun _ _ _ _ _ => (de_tup (da_cons (de_var 2) (da_cons (de_mul (de_var 0) (de_var 3)) da_nil)))))) da_nil))))
/-! ### powers_less -/
abbrev s_powers_less : Stmt := top 5
noncomputable def b_powers_less : MS :=
    (mRet (mCall den_powers_sum (mCons (mVar 0) (mCons (mCall den_powers_scaled (mCons (mOp1 gNeg (M.ret (.int 1))) (mCons (mVar 1) mNil))) mNil))))
noncomputable def den_powers_less : Dn := denOf 2 2 b_powers_less
theorem sc_powers_less : FnScope ["a", "b"] ["a", "b"] (defScope s_powers_less) := ⟨rfl, rfl, rfl, by decide +kernel, rfl, by decide +kernel, by decide +kernel⟩
theorem ok_powers_less {f : Addr} {fd : FuncData} (F : Fun K "powers_less" "powers_less" s_powers_less f fd) (hm : mg "powers_less" = some (.ref f)) (hB : Binds K fd ["a", "b"] []) (c_powers_sum : Cal P w K mg base 2 "powers_sum" ["a", "b"] (spD K noX den_powers_sum)) (c_powers_scaled : Cal P w K mg base 2 "powers_scaled" ["c", "a"] (spD K noX den_powers_scaled))   :
    Cal P w K mg base 3 "powers_less" ["a", "b"] (spD K noX den_powers_less) := by
  obtain ⟨f_powers_sum, fd_powers_sum, F_powers_sum, m_powers_sum, k_powers_sum, B_powers_sum⟩ := c_powers_sum.ex
  obtain ⟨f_powers_scaled, fd_powers_scaled, F_powers_scaled, m_powers_scaled, k_powers_scaled, B_powers_scaled⟩ := c_powers_scaled.ex
  refine ⟨f, fd, Fun.okD F sc_powers_less (fun cdv A outer s H E C hx hr => ?_), hm, F.kp, hB⟩
  · have hu1 := hu_of hr
    have hu64 := hr.units
    have hu65 := hu65_of hr
    have sc := sc_powers_less
    exact (dss_one (ds_ret (de_call F_powers_sum (hr.mono (by decide)) (by rfl) m_powers_sum k_powers_sum B_powers_sum pass0 (da_cons (de_var 0) (da_cons (de_call F_powers_scaled (hr.mono (by decide)) (by rfl) m_powers_scaled k_powers_scaled B_powers_scaled pass0 (da_cons (de_neg de_int) (da_cons (de_var 1) da_nil))) da_nil)))))
/-! ### whole_power -/
abbrev s_whole_power : Stmt := top 6
noncomputable def b_whole_power : MS :=
    (mSeq (mSet 2 (M.ret (.int 1)))
    (mSeq (mFor (mRange1 (mCons (mVar 1) mNil)) (mName 3) (mSet 2 (mOp2 gMul (mVar 2) (mVar 0))))
    (mRet (mVar 2))))
noncomputable def den_whole_power : Dn := denOf 4 2 b_whole_power
theorem sc_whole_power : FnScope ["p", "n", "found", "turn"] ["p", "n"] (defScope s_whole_power) := ⟨rfl, rfl, rfl, by decide +kernel, rfl, by decide +kernel, by decide +kernel⟩
theorem ok_whole_power {f : Addr} {fd : FuncData} (F : Fun K "whole_power" "whole_power" s_whole_power f fd) (hm : mg "whole_power" = some (.ref f)) (hB : Binds K fd ["p", "n"] [])  (z_range : mg "range" = none)  :
    Cal P w K mg base 1 "whole_power" ["p", "n"] (spD K noX den_whole_power) := by
  refine ⟨f, fd, Fun.okD F sc_whole_power (fun cdv A outer s H E C hx hr => ?_), hm, F.kp, hB⟩
  · have hu1 := hu_of hr
    have hu64 := hr.units
    have hu65 := hu65_of hr
    have sc := sc_whole_power
    exact (dss_cons (ds_set sc.nd rfl (by first | exact Or.inl rfl | exact Or.inr rfl) de_int)
    (dss_cons (ds_for PassesOwn.never rfl (di_range1 (by rfl) z_range (da_cons (de_var 1) da_nil)) (dg_name sc.nd rfl (by first | exact Or.inl rfl | exact Or.inr rfl)) (dss_one (ds_set sc.nd rfl (by first | exact Or.inl rfl | exact Or.inr rfl) (de_mul (de_var 2) (de_var 0)))))
    (dss_one (ds_ret (de_var 2)))))
/-! ### powers_at -/
abbrev s_powers_at : Stmt := top 7
noncomputable def b_powers_at : MS :=
    (mSeq (mSet 5 (mArgs gMinL (mCons (mSeal (mLst (mCons (M.ret (.int 0)) (mStar (mSeal (mLc [3, 4] (mSeqI (mVar 1)) (mGTup 2 (mGCons (mName 3) (mGCons (mName 4) mGNil))) mYes (mVar 3))) mNil)))) mNil)))
    (mSeq (mSet 6 (mArgs gSum (mCons (mSeal (mLc [3, 4] (mSeqI (mVar 1)) (mGTup 2 (mGCons (mName 3) (mGCons (mName 4) mGNil))) mYes (mOp2 gMul (mVar 4) (mCall den_whole_power (mCons (mVar 0) (mCons (mOp2 gMul (mOp2 gSub (mVar 3) (mVar 5)) (mVar 2)) mNil)))))) mNil)))
    (mSeq (mSet 7 (mCall den_whole_power (mCons (mVar 0) (mCons (mOp2 gMul (mOp1 gNeg (mVar 5)) (mVar 2)) mNil))))
    (mSeq (mSet 8 (mArgs gGcd (mCons (mVar 6) (mCons (mVar 7) mNil))))
    (mRet (mTup (mCons (mOp2 gDiv (mVar 6) (mVar 8)) (mCons (mOp2 gDiv (mVar 7) (mVar 8)) mNil))))))))
noncomputable def den_powers_at : Dn := denOf 9 3 b_powers_at
theorem sc_powers_at : FnScope ["p", "powers", "n", "i", "c", "least", "top", "bottom", "common"] ["p", "powers", "n"] (defScope s_powers_at) := ⟨rfl, rfl, rfl, by decide +kernel, rfl, by decide +kernel, by decide +kernel⟩
theorem ok_powers_at {f : Addr} {fd : FuncData} (F : Fun K "powers_at" "powers_at" s_powers_at f fd) (hm : mg "powers_at" = some (.ref f)) (hB : Binds K fd ["p", "powers", "n"] []) (c_whole_power : Cal P w K mg base 1 "whole_power" ["p", "n"] (spD K noX den_whole_power)) (z_min : mg "min" = none) (z_sum : mg "sum" = none) (g_gcd : mg "gcd" = some (.builtin "math.gcd")) :
    Cal P w K mg base 2 "powers_at" ["p", "powers", "n"] (spD K noX den_powers_at) := by
  obtain ⟨f_whole_power, fd_whole_power, F_whole_power, m_whole_power, k_whole_power, B_whole_power⟩ := c_whole_power.ex
  refine ⟨f, fd, Fun.okD F sc_powers_at (fun cdv A outer s H E C hx hr => ?_), hm, F.kp, hB⟩
  · have hu1 := hu_of hr
    have hu64 := hr.units
    have hu65 := hu65_of hr
    have sc := sc_powers_at
    exact (dss_cons (ds_set sc.nd rfl (by first | exact Or.inl rfl | exact Or.inr rfl) (de_callB (cr_min rfl) r_minL (by rfl) z_min (by decide +kernel) (da_cons (de_ofF (df_lst (da_cons de_int (da_star (de_ofF (df_lc rfl sc.nd (di_seq (de_var 1)) (blkOk_by (own := [("i", 3), ("c", 4)]) rfl) (by decide) (fun _ _ _ _ _ => (dg_tup rfl (dgs_cons (dg_name sc.nd rfl (by first | exact Or.inl rfl | exact Or.inr rfl)) (dgs_cons (dg_name sc.nd rfl (by first | exact Or.inl rfl | exact Or.inr rfl)) dgs_nil)))) (fun _ _ _ _ _ => dts_nil) (fun _ _ _ _ _ => (de_var 3)))) da_nil)))) da_nil)))
    (dss_cons (ds_set sc.nd rfl (by first | exact Or.inl rfl | exact Or.inr rfl) (de_callB (cr_sum rfl) r_sum (by rfl) z_sum (by decide +kernel) (da_cons (de_ofF (df_lc rfl sc.nd (di_seq (de_var 1)) (blkOk_by (own := [("i", 3), ("c", 4)]) rfl) (by decide) (fun _ _ _ _ _ => (dg_tup rfl (dgs_cons (dg_name sc.nd rfl (by first | exact Or.inl rfl | exact Or.inr rfl)) (dgs_cons (dg_name sc.nd rfl (by first | exact Or.inl rfl | exact Or.inr rfl)) dgs_nil)))) (fun _ _ _ _ _ => dts_nil) (fun _ _ _ _ _ => (de_mul (de_var 4) (de_call F_whole_power (hr.mono (by decide)) (by rfl) m_whole_power k_whole_power B_whole_power pass0 (da_cons (de_var 0) (da_cons (de_mul (de_sub (de_var 3) (de_var 5)) (de_var 2)) da_nil))))))) da_nil)))
    (dss_cons (ds_set sc.nd rfl (by first | exact Or.inl rfl | exact Or.inr rfl) (de_call F_whole_power (hr.mono (by decide)) (by rfl) m_whole_power k_whole_power B_whole_power pass0 (da_cons (de_var 0) (da_cons (de_mul (de_neg (de_var 5)) (de_var 2)) da_nil))))
    (dss_cons (ds_set sc.nd rfl (by first | exact Or.inl rfl | exact Or.inr rfl) (de_callBf cr_gcd r_gcd (by rfl) g_gcd (da_cons (de_var 6) (da_cons (de_var 7) da_nil))))
    (dss_one (ds_ret (de_tup (da_cons (de_fdiv (de_var 6) (de_var 8)) (da_cons (de_fdiv (de_var 7) (de_var 8)) da_nil)))))))))
/-! ### raised -/
abbrev s_raised : Stmt := top 9
noncomputable def b_raised : MS :=
    (mSeq (mPar2 2 3 (mConsD (M.ret (.int 1)) (mConsD (mVar 0) mNilV)))
    (mSeq (mWhile (mB (mOp2 gGt (mVar 1) (M.ret (.int 0)))) (mSeq (mIf (mB (mOp2 gEq (mOp2 gMod (mVar 1) (M.ret (.int 2))) (M.ret (.int 1)))) (mSet 2 (mOp2 gMul (mVar 2) (mVar 3))) mSkip)
    (mPar2 3 1 (mConsD (mOp2 gMul (mVar 3) (mVar 3)) (mConsD (mOp2 gDiv (mVar 1) (M.ret (.int 2))) mNilV)))))
    (mRet (mVar 2))))
noncomputable def den_raised : Dn := denOf 4 2 b_raised
theorem sc_raised : FnScope ["q", "n", "found", "square"] ["q", "n"] (defScope s_raised) := ⟨rfl, rfl, rfl, by decide +kernel, rfl, by decide +kernel, by decide +kernel⟩
theorem ok_raised {f : Addr} {fd : FuncData} (F : Fun K "raised" "raised" s_raised f fd) (hm : mg "raised" = some (.ref f)) (hB : Binds K fd ["q", "n"] [])    :
    Cal P w K mg base 1 "raised" ["q", "n"] (spD K noX den_raised) := by
  refine ⟨f, fd, Fun.okD F sc_raised (fun cdv A outer s H E C hx hr => ?_), hm, F.kp, hB⟩
  · have hu1 := hu_of hr
    have hu64 := hr.units
    have hu65 := hu65_of hr
    have sc := sc_raised
    exact (dss_cons (ds_par2 rfl sc.nd rfl rfl (by decide) rfl rfl (dv_d de_int (dv_d (de_var 0) dv_nil)) rfl)
    (dss_cons (ds_while PassesOwn.never (dt_gt (de_var 1) de_int) (dss_cons (ds_if (dt_eq hu64 (de_mod (de_var 1) de_int) de_int) (dss_one (ds_set sc.nd rfl (by first | exact Or.inl rfl | exact Or.inr rfl) (de_mul (de_var 2) (de_var 3)))) dss_nil)
    (dss_one (ds_par2 rfl sc.nd rfl rfl (by decide) rfl rfl (dv_d (de_mul (de_var 3) (de_var 3)) (dv_d (de_fdiv (de_var 1) de_int) dv_nil)) rfl))))
    (dss_one (ds_ret (de_var 2)))))
/-! ### sign_at -/
abbrev s_sign_at : Stmt := top 10
noncomputable def b_sign_at : MS :=
    (mSeq (mPar3 3 4 5 (mConsD (M.ret (.int 0)) (mConsD (mIf (mB (mOp2 gNe (mVar 1) (mTup mNil))) (mOp2 gIx (mOp2 gIx (mVar 1) (mOp1 gNeg (M.ret (.int 1)))) (M.ret (.int 0))) (M.ret (.int 0))) (mConsD (mCall den_raised (mCons (mVar 0) (mCons (mVar 2) mNil))) mNilV))))
    (mSeq (mFor (mSeqI (mOp1 gRev (mVar 1))) (mGTup 2 (mGCons (mName 6) (mGCons (mName 7) mGNil))) (mPar2 3 4 (mConsD (mOp2 gAdd (mOp2 gMul (mVar 3) (mCall den_raised (mCons (mVar 5) (mCons (mOp2 gSub (mVar 4) (mVar 6)) mNil)))) (mVar 7)) (mConsD (mVar 6) mNilV))))
    (mRet (mOp2 gSub (mArgs gInt (mCons (mOp2 gGt (mVar 3) (M.ret (.int 0))) mNil)) (mArgs gInt (mCons (mOp2 gLt (mVar 3) (M.ret (.int 0))) mNil))))))
noncomputable def den_sign_at : Dn := denOf 8 3 b_sign_at
theorem sc_sign_at : FnScope ["p", "powers", "n", "total", "above", "q", "i", "c"] ["p", "powers", "n"] (defScope s_sign_at) := ⟨rfl, rfl, rfl, by decide +kernel, rfl, by decide +kernel, by decide +kernel⟩
theorem ok_sign_at {f : Addr} {fd : FuncData} (F : Fun K "sign_at" "sign_at" s_sign_at f fd) (hm : mg "sign_at" = some (.ref f)) (hB : Binds K fd ["p", "powers", "n"] []) (c_raised : Cal P w K mg base 1 "raised" ["q", "n"] (spD K noX den_raised)) (z_int : mg "int" = none)  :
    Cal P w K mg base 2 "sign_at" ["p", "powers", "n"] (spD K noX den_sign_at) := by
  obtain ⟨f_raised, fd_raised, F_raised, m_raised, k_raised, B_raised⟩ := c_raised.ex
  refine ⟨f, fd, Fun.okD F sc_sign_at (fun cdv A outer s H E C hx hr => ?_), hm, F.kp, hB⟩
  · have hu1 := hu_of hr
    have hu64 := hr.units
    have hu65 := hu65_of hr
    have sc := sc_sign_at
    exact (dss_cons (ds_par3 rfl sc.nd rfl rfl rfl (by decide) (by decide) (by decide) rfl rfl rfl (dv_d de_int (dv_d (de_ifExp (dt_ne hu64 (de_var 1) (de_tup da_nil)) (de_ix (fun _ _ => rfl) (de_ix (fun _ _ => rfl) (de_var 1) (de_neg de_int)) de_int) de_int) (dv_d (de_call F_raised (hr.mono (by decide)) (by rfl) m_raised k_raised B_raised pass0 (da_cons (de_var 0) (da_cons (de_var 2) da_nil))) dv_nil))) rfl)
    (dss_cons (ds_for PassesOwn.never rfl (di_seq (de_rev (de_var 1))) (dg_tup rfl (dgs_cons (dg_name sc.nd rfl (by first | exact Or.inl rfl | exact Or.inr rfl)) (dgs_cons (dg_name sc.nd rfl (by first | exact Or.inl rfl | exact Or.inr rfl)) dgs_nil))) (dss_one (ds_par2 rfl sc.nd rfl rfl (by decide) rfl rfl (dv_d (de_add (de_mul (de_var 3) (de_call F_raised (hr.mono (by decide)) (by rfl) m_raised k_raised B_raised pass0 (da_cons (de_var 5) (da_cons (de_sub (de_var 4) (de_var 6)) da_nil)))) (de_var 7)) (dv_d (de_var 6) dv_nil)) rfl)))
    (dss_one (ds_ret (de_sub (de_callTy call_int1 r_int1 (by rfl) z_int (by decide +kernel) (da_cons (de_gt (de_var 3) de_int) da_nil)) (de_callTy call_int1 r_int1 (by rfl) z_int (by decide +kernel) (da_cons (de_lt (de_var 3) de_int) da_nil)))))))
/-! ### weight_against -/
abbrev s_weight_against : Stmt := top 11
noncomputable def b_weight_against : MS :=
    (mRet (mArgs gSum (mCons (mSeal (mLc [1, 2] (mSeqI (mVar 0)) (mGTup 2 (mGCons (mName 1) (mGCons (mName 2) mGNil))) (mB (mOp2 gLt (mOp2 gMul (mVar 2) (mOp2 gIx (mOp2 gIx (mVar 0) (mOp1 gNeg (M.ret (.int 1)))) (M.ret (.int 1)))) (M.ret (.int 0)))) (mArgs gAbs (mCons (mVar 2) mNil)))) mNil)))
noncomputable def den_weight_against : Dn := denOf 3 1 b_weight_against
theorem sc_weight_against : FnScope ["powers", "i", "c"] ["powers"] (defScope s_weight_against) := ⟨rfl, rfl, rfl, by decide +kernel, rfl, by decide +kernel, by decide +kernel⟩
theorem ok_weight_against {f : Addr} {fd : FuncData} (F : Fun K "weight_against" "weight_against" s_weight_against f fd) (hm : mg "weight_against" = some (.ref f)) (hB : Binds K fd ["powers"] [])  (z_abs : mg "abs" = none) (z_sum : mg "sum" = none)  :
    Cal P w K mg base 1 "weight_against" ["powers"] (spD K noX den_weight_against) := by
  refine ⟨f, fd, Fun.okD F sc_weight_against (fun cdv A outer s H E C hx hr => ?_), hm, F.kp, hB⟩
  · have hu1 := hu_of hr
    have hu64 := hr.units
    have hu65 := hu65_of hr
    have sc := sc_weight_against
    exact (dss_one (ds_ret (de_callB (cr_sum rfl) r_sum (by rfl) z_sum (by decide +kernel) (da_cons (de_ofF (df_lc rfl sc.nd (di_seq (de_var 0)) (blkOk_by (own := [("i", 1), ("c", 2)]) rfl) (by decide) (fun _ _ _ _ _ => (dg_tup rfl (dgs_cons (dg_name sc.nd rfl (by first | exact Or.inl rfl | exact Or.inr rfl)) (dgs_cons (dg_name sc.nd rfl (by first | exact Or.inl rfl | exact Or.inr rfl)) dgs_nil)))) (fun _ _ _ _ _ => (dts_one (dt_lt (de_mul (de_var 2) (de_ix (fun _ _ => rfl) (de_ix (fun _ _ => rfl) (de_var 0) (de_neg de_int)) de_int)) de_int))) (fun _ _ _ _ _ => (de_callB call_abs r_abs (by rfl) z_abs (by decide +kernel) (da_cons (de_var 2) da_nil))))) da_nil))))
/-! ### is_settled -/
abbrev s_is_settled : Stmt := top 12
noncomputable def b_is_settled : MS :=
    (mRet (mOrD (mOp2 gEq (mVar 1) (mTup mNil)) (mOp2 gGt (mOp2 gMul (mArgs gAbs (mCons (mOp2 gIx (mOp2 gIx (mVar 1) (mOp1 gNeg (M.ret (.int 1)))) (M.ret (.int 1))) mNil)) (mCall den_raised (mCons (mVar 0) (mCons (mVar 2) mNil)))) (mCall den_weight_against (mCons (mVar 1) mNil)))))
noncomputable def den_is_settled : Dn := denOf 3 3 b_is_settled
theorem sc_is_settled : FnScope ["p", "powers", "n"] ["p", "powers", "n"] (defScope s_is_settled) := ⟨rfl, rfl, rfl, by decide +kernel, rfl, by decide +kernel, by decide +kernel⟩
theorem ok_is_settled {f : Addr} {fd : FuncData} (F : Fun K "is_settled" "is_settled" s_is_settled f fd) (hm : mg "is_settled" = some (.ref f)) (hB : Binds K fd ["p", "powers", "n"] []) (c_raised : Cal P w K mg base 1 "raised" ["q", "n"] (spD K noX den_raised)) (c_weight_against : Cal P w K mg base 1 "weight_against" ["powers"] (spD K noX den_weight_against)) (z_abs : mg "abs" = none)  :
    Cal P w K mg base 2 "is_settled" ["p", "powers", "n"] (spD K noX den_is_settled) := by
  obtain ⟨f_raised, fd_raised, F_raised, m_raised, k_raised, B_raised⟩ := c_raised.ex
  obtain ⟨f_weight_against, fd_weight_against, F_weight_against, m_weight_against, k_weight_against, B_weight_against⟩ := c_weight_against.ex
  refine ⟨f, fd, Fun.okD F sc_is_settled (fun cdv A outer s H E C hx hr => ?_), hm, F.kp, hB⟩
  · have hu1 := hu_of hr
    have hu64 := hr.units
    have hu65 := hu65_of hr
    have sc := sc_is_settled
    exact (dss_one (ds_ret (de_or (de_eq hu64 (de_var 1) (de_tup da_nil)) (de_one (de_gt (de_mul (de_callB call_abs r_abs (by rfl) z_abs (by decide +kernel) (da_cons (de_ix (fun _ _ => rfl) (de_ix (fun _ _ => rfl) (de_var 1) (de_neg de_int)) de_int) da_nil)) (de_call F_raised (hr.mono (by decide)) (by rfl) m_raised k_raised B_raised pass0 (da_cons (de_var 0) (da_cons (de_var 2) da_nil)))) (de_call F_weight_against (hr.mono (by decide)) (by rfl) m_weight_against k_weight_against B_weight_against pass0 (da_cons (de_var 1) da_nil)))))))
/-! ### is_seen -/
abbrev s_is_seen : Stmt := top 13
noncomputable def b_is_seen : MS :=
    (mRet (mOrD (mOp2 gEq (mVar 1) (mTup mNil)) (mAndD (mOp2 gGt (mOp2 gIx (mOp2 gIx (mVar 1) (mOp1 gNeg (M.ret (.int 1)))) (M.ret (.int 1))) (M.ret (.int 0))) (mOp2 gGe (mOp2 gMul (mOp2 gIx (mOp2 gIx (mVar 1) (mOp1 gNeg (M.ret (.int 1)))) (M.ret (.int 1))) (mCall den_raised (mCons (mVar 0) (mCons (mVar 2) mNil)))) (mCall den_weight_against (mCons (mVar 1) mNil))))))
noncomputable def den_is_seen : Dn := denOf 3 3 b_is_seen
theorem sc_is_seen : FnScope ["p", "powers", "n"] ["p", "powers", "n"] (defScope s_is_seen) := ⟨rfl, rfl, rfl, by decide +kernel, rfl, by decide +kernel, by decide +kernel⟩
theorem ok_is_seen {f : Addr} {fd : FuncData} (F : Fun K "is_seen" "is_seen" s_is_seen f fd) (hm : mg "is_seen" = some (.ref f)) (hB : Binds K fd ["p", "powers", "n"] []) (c_raised : Cal P w K mg base 1 "raised" ["q", "n"] (spD K noX den_raised)) (c_weight_against : Cal P w K mg base 1 "weight_against" ["powers"] (spD K noX den_weight_against))   :
    Cal P w K mg base 2 "is_seen" ["p", "powers", "n"] (spD K noX den_is_seen) := by
  obtain ⟨f_raised, fd_raised, F_raised, m_raised, k_raised, B_raised⟩ := c_raised.ex
  obtain ⟨f_weight_against, fd_weight_against, F_weight_against, m_weight_against, k_weight_against, B_weight_against⟩ := c_weight_against.ex
  refine ⟨f, fd, Fun.okD F sc_is_seen (fun cdv A outer s H E C hx hr => ?_), hm, F.kp, hB⟩
  · have hu1 := hu_of hr
    have hu64 := hr.units
    have hu65 := hu65_of hr
    have sc := sc_is_seen
    exact (dss_one (ds_ret (de_or (de_eq hu64 (de_var 1) (de_tup da_nil)) (de_one (de_and (de_gt (de_ix (fun _ _ => rfl) (de_ix (fun _ _ => rfl) (de_var 1) (de_neg de_int)) de_int) de_int) (de_one (de_ge (de_mul (de_ix (fun _ _ => rfl) (de_ix (fun _ _ => rfl) (de_var 1) (de_neg de_int)) de_int) (de_call F_raised (hr.mono (by decide)) (by rfl) m_raised k_raised B_raised pass0 (da_cons (de_var 0) (da_cons (de_var 2) da_nil)))) (de_call F_weight_against (hr.mono (by decide)) (by rfl) m_weight_against k_weight_against B_weight_against pass0 (da_cons (de_var 1) da_nil)))))))))
/-! ### signs_of -/
abbrev s_signs_of : Stmt := top 14
noncomputable def b_signs_of : MS :=
    (mSeq (mPar2 2 3 (mConsF (mLst (mCons (mTup (mCons (M.ret (.int 0)) (mCons (mCall den_sign_at (mCons (mVar 0) (mCons (mVar 1) (mCons (M.ret (.int 0)) mNil)))) mNil))) mNil)) (mConsD (M.ret (.int 0)) mNilV)))
    (mSeq (mWhile (mNot (mB (mCall den_is_settled (mCons (mVar 0) (mCons (mVar 1) (mCons (mVar 3) mNil)))))) (mSeq (mSet 3 (mOp2 gAdd (mVar 3) (M.ret (.int 1))))
    (mIf (mB (mOp2 gNe (mCall den_sign_at (mCons (mVar 0) (mCons (mVar 1) (mCons (mVar 3) mNil)))) (mOp2 gIx (mIxO 2 (mOp1 gNeg (M.ret (.int 1)))) (M.ret (.int 1))))) (mAppend 2 (mTup (mCons (mVar 3) (mCons (mCall den_sign_at (mCons (mVar 0) (mCons (mVar 1) (mCons (mVar 3) mNil)))) mNil)))) mSkip)))
    (mRet (mArgs gTuple (mCons (mVar 2) mNil)))))
noncomputable def den_signs_of : Dn := denOf 4 2 b_signs_of
theorem sc_signs_of : FnScope ["p", "powers", "found", "n"] ["p", "powers"] (defScope s_signs_of) := ⟨rfl, rfl, rfl, by decide +kernel, rfl, by decide +kernel, by decide +kernel⟩
theorem ok_signs_of {f : Addr} {fd : FuncData} (F : Fun K "signs_of" "signs_of" s_signs_of f fd) (hm : mg "signs_of" = some (.ref f)) (hB : Binds K fd ["p", "powers"] []) (c_sign_at : Cal P w K mg base 2 "sign_at" ["p", "powers", "n"] (spD K noX den_sign_at)) (c_is_settled : Cal P w K mg base 2 "is_settled" ["p", "powers", "n"] (spD K noX den_is_settled)) (z_tuple : mg "tuple" = none)  :
    Cal P w K mg base 3 "signs_of" ["p", "powers"] (spD K noX den_signs_of) := by
  obtain ⟨f_sign_at, fd_sign_at, F_sign_at, m_sign_at, k_sign_at, B_sign_at⟩ := c_sign_at.ex
  obtain ⟨f_is_settled, fd_is_settled, F_is_settled, m_is_settled, k_is_settled, B_is_settled⟩ := c_is_settled.ex
  refine ⟨f, fd, Fun.okD F sc_signs_of (fun cdv A outer s H E C hx hr => ?_), hm, F.kp, hB⟩
  · have hu1 := hu_of hr
    have hu64 := hr.units
    have hu65 := hu65_of hr
    have sc := sc_signs_of
    exact (dss_cons (ds_par2 rfl sc.nd rfl rfl (by decide) rfl rfl (dv_f (df_lst (da_cons (de_tup (da_cons de_int (da_cons (de_call F_sign_at (hr.mono (by decide)) (by rfl) m_sign_at k_sign_at B_sign_at pass0 (da_cons (de_var 0) (da_cons (de_var 1) (da_cons de_int da_nil)))) da_nil))) da_nil)) (dv_d de_int dv_nil)) rfl)
    (dss_cons (ds_while PassesOwn.never (dt_not (dt_val (de_call F_is_settled (hr.mono (by decide)) (by rfl) m_is_settled k_is_settled B_is_settled pass0 (da_cons (de_var 0) (da_cons (de_var 1) (da_cons (de_var 3) da_nil)))))) (dss_cons (ds_set sc.nd rfl (by first | exact Or.inl rfl | exact Or.inr rfl) (de_add (de_var 3) de_int))
    (dss_one (ds_if (dt_ne hu64 (de_call F_sign_at (hr.mono (by decide)) (by rfl) m_sign_at k_sign_at B_sign_at pass0 (da_cons (de_var 0) (da_cons (de_var 1) (da_cons (de_var 3) da_nil)))) (de_ix (fun _ _ => rfl) (de_ixO 2 (fun _ _ => rfl) (de_neg de_int)) de_int)) (dss_one (ds_append 2 (de_tup (da_cons (de_var 3) (da_cons (de_call F_sign_at (hr.mono (by decide)) (by rfl) m_sign_at k_sign_at B_sign_at pass0 (da_cons (de_var 0) (da_cons (de_var 1) (da_cons (de_var 3) da_nil)))) da_nil))))) dss_nil))))
    (dss_one (ds_ret (de_callTy call_tupleN r_tuple (by rfl) z_tuple (by decide +kernel) (da_cons (de_var 2) da_nil))))))
/-! ### most_answer -/
abbrev s_most_answer : Stmt := top 15
noncomputable def b_most_answer : MS :=
    (mSeq (mPar2 3 4 (mConsD (mCall den_powers_less (mCons (mVar 2) (mCons (mVar 1) mNil))) (mConsD (M.ret (.int 0)) mNilV)))
    (mSeq (mWhile (mNot (mB (mCall den_is_seen (mCons (mVar 0) (mCons (mVar 3) (mCons (mVar 4) mNil)))))) (mSeq (mIf (mB (mOp2 gLt (mCall den_sign_at (mCons (mVar 0) (mCons (mVar 3) (mCons (mVar 4) mNil)))) (M.ret (.int 0)))) (mRet (mTup (mCons (M.ret (.str "more")) (mCons (mVar 4) (mCons (mCall den_powers_at (mCons (mVar 0) (mCons (mVar 1) (mCons (mVar 4) mNil)))) (mCons (mCall den_powers_at (mCons (mVar 0) (mCons (mVar 2) (mCons (mVar 4) mNil)))) mNil)))))) mSkip)
    (mSet 4 (mOp2 gAdd (mVar 4) (M.ret (.int 1))))))
    (mRet (mTup (mCons (M.ret (.str "most")) (mCons (mVar 4) mNil))))))
noncomputable def den_most_answer : Dn := denOf 5 3 b_most_answer
theorem sc_most_answer : FnScope ["p", "a", "b", "less", "n"] ["p", "a", "b"] (defScope s_most_answer) := ⟨rfl, rfl, rfl, by decide +kernel, rfl, by decide +kernel, by decide +kernel⟩
theorem ok_most_answer {f : Addr} {fd : FuncData} (F : Fun K "most_answer" "most_answer" s_most_answer f fd) (hm : mg "most_answer" = some (.ref f)) (hB : Binds K fd ["p", "a", "b"] []) (c_powers_less : Cal P w K mg base 3 "powers_less" ["a", "b"] (spD K noX den_powers_less)) (c_is_seen : Cal P w K mg base 2 "is_seen" ["p", "powers", "n"] (spD K noX den_is_seen)) (c_sign_at : Cal P w K mg base 2 "sign_at" ["p", "powers", "n"] (spD K noX den_sign_at)) (c_powers_at : Cal P w K mg base 2 "powers_at" ["p", "powers", "n"] (spD K noX den_powers_at))   :
    Cal P w K mg base 4 "most_answer" ["p", "a", "b"] (spD K noX den_most_answer) := by
  obtain ⟨f_powers_less, fd_powers_less, F_powers_less, m_powers_less, k_powers_less, B_powers_less⟩ := c_powers_less.ex
  obtain ⟨f_is_seen, fd_is_seen, F_is_seen, m_is_seen, k_is_seen, B_is_seen⟩ := c_is_seen.ex
  obtain ⟨f_sign_at, fd_sign_at, F_sign_at, m_sign_at, k_sign_at, B_sign_at⟩ := c_sign_at.ex
  obtain ⟨f_powers_at, fd_powers_at, F_powers_at, m_powers_at, k_powers_at, B_powers_at⟩ := c_powers_at.ex
  refine ⟨f, fd, Fun.okD F sc_most_answer (fun cdv A outer s H E C hx hr => ?_), hm, F.kp, hB⟩
  · have hu1 := hu_of hr
    have hu64 := hr.units
    have hu65 := hu65_of hr
    have sc := sc_most_answer
    exact (dss_cons (ds_par2 rfl sc.nd rfl rfl (by decide) rfl rfl (dv_d (de_call F_powers_less (hr.mono (by decide)) (by rfl) m_powers_less k_powers_less B_powers_less pass0 (da_cons (de_var 2) (da_cons (de_var 1) da_nil))) (dv_d de_int dv_nil)) rfl)
    (dss_cons (ds_while PassesOwn.never (dt_not (dt_val (de_call F_is_seen (hr.mono (by decide)) (by rfl) m_is_seen k_is_seen B_is_seen pass0 (da_cons (de_var 0) (da_cons (de_var 3) (da_cons (de_var 4) da_nil)))))) (dss_cons (ds_if (dt_lt (de_call F_sign_at (hr.mono (by decide)) (by rfl) m_sign_at k_sign_at B_sign_at pass0 (da_cons (de_var 0) (da_cons (de_var 3) (da_cons (de_var 4) da_nil)))) de_int) (dss_one (ds_ret (de_tup (da_cons de_str (da_cons (de_var 4) (da_cons (de_call F_powers_at (hr.mono (by decide)) (by rfl) m_powers_at k_powers_at B_powers_at pass0 (da_cons (de_var 0) (da_cons (de_var 1) (da_cons (de_var 4) da_nil)))) (da_cons (de_call F_powers_at (hr.mono (by decide)) (by rfl) m_powers_at k_powers_at B_powers_at pass0 (da_cons (de_var 0) (da_cons (de_var 2) (da_cons (de_var 4) da_nil)))) da_nil))))))) dss_nil)
    (dss_one (ds_set sc.nd rfl (by first | exact Or.inl rfl | exact Or.inr rfl) (de_add (de_var 4) de_int)))))
    (dss_one (ds_ret (de_tup (da_cons de_str (da_cons (de_var 4) da_nil)))))))
/-! ### is_integer -/
abbrev s_is_integer : Stmt := top 18
noncomputable def b_is_integer : MS :=
    (mRet (mAndD (mIsi "int" (mVar 0)) (mNotD (mIsi "bool" (mVar 0)))))
noncomputable def den_is_integer : Dn := denOf 1 1 b_is_integer
theorem sc_is_integer : FnScope ["value"] ["value"] (defScope s_is_integer) := ⟨rfl, rfl, rfl, by decide +kernel, rfl, by decide +kernel, by decide +kernel⟩
theorem ok_is_integer {f : Addr} {fd : FuncData} (F : Fun K "is_integer" "is_integer" s_is_integer f fd) (hm : mg "is_integer" = some (.ref f)) (hB : Binds K fd ["value"] [])  (z_isinstance : mg "isinstance" = none) (z_bool : mg "bool" = none) (z_int : mg "int" = none)  :
    Cal P w K mg base 1 "is_integer" ["value"] (spD K noX den_is_integer) := by
  refine ⟨f, fd, Fun.okD F sc_is_integer (fun cdv A outer s H E C hx hr => ?_), hm, F.kp, hB⟩
  · have hu1 := hu_of hr
    have hu64 := hr.units
    have hu65 := hu65_of hr
    have sc := sc_is_integer
    exact (dss_one (ds_ret (de_and (de_isi (by rfl) z_isinstance (by rfl) z_int (by decide +kernel) (de_var 0)) (de_one (de_not (de_isi (by rfl) z_isinstance (by rfl) z_bool (by decide +kernel) (de_var 0)))))))
/-! ### is_count -/
abbrev s_is_count : Stmt := top 19
noncomputable def b_is_count : MS :=
    (mRet (mAndD (mCall den_is_integer (mCons (mVar 0) mNil)) (mChain gLe gLe (M.ret (.int 0)) (mVar 0) (M.ret (.int 2000)))))
noncomputable def den_is_count : Dn := denOf 1 1 b_is_count
theorem sc_is_count : FnScope ["value"] ["value"] (defScope s_is_count) := ⟨rfl, rfl, rfl, by decide +kernel, rfl, by decide +kernel, by decide +kernel⟩
theorem ok_is_count {f : Addr} {fd : FuncData} (F : Fun K "is_count" "is_count" s_is_count f fd) (hm : mg "is_count" = some (.ref f)) (hB : Binds K fd ["value"] []) (c_is_integer : Cal P w K mg base 1 "is_integer" ["value"] (spD K noX den_is_integer))  {t_MOST_STEPS : Tok} (g_MOST_STEPS : mg "MOST_STEPS" = some (.int 2000 t_MOST_STEPS)) :
    Cal P w K mg base 2 "is_count" ["value"] (spD K noX den_is_count) := by
  obtain ⟨f_is_integer, fd_is_integer, F_is_integer, m_is_integer, k_is_integer, B_is_integer⟩ := c_is_integer.ex
  refine ⟨f, fd, Fun.okD F sc_is_count (fun cdv A outer s H E C hx hr => ?_), hm, F.kp, hB⟩
  · have hu1 := hu_of hr
    have hu64 := hr.units
    have hu65 := hu65_of hr
    have sc := sc_is_count
    exact (dss_one (ds_ret (de_and (de_call F_is_integer (hr.mono (by decide)) (by rfl) m_is_integer k_is_integer B_is_integer pass0 (da_cons (de_var 0) da_nil)) (de_one (de_chain op_le op_le r_le r_le de_int (de_var 0) (de_kInt (by rfl) g_MOST_STEPS))))))
/-! ### common_divisor -/
abbrev s_common_divisor : Stmt := top 20
noncomputable def b_common_divisor : MS :=
    (mSeq (mWhile (mB (mOp2 gGt (mVar 1) (M.ret (.int 0)))) (mPar2 0 1 (mConsD (mVar 1) (mConsD (mOp2 gMod (mVar 0) (mVar 1)) mNilV))))
    (mRet (mArgs gAbs (mCons (mVar 0) mNil))))
noncomputable def den_common_divisor : Dn := denOf 2 2 b_common_divisor
theorem sc_common_divisor : FnScope ["a", "b"] ["a", "b"] (defScope s_common_divisor) := ⟨rfl, rfl, rfl, by decide +kernel, rfl, by decide +kernel, by decide +kernel⟩
theorem ok_common_divisor {f : Addr} {fd : FuncData} (F : Fun K "common_divisor" "common_divisor" s_common_divisor f fd) (hm : mg "common_divisor" = some (.ref f)) (hB : Binds K fd ["a", "b"] [])  (z_abs : mg "abs" = none)  :
    Cal P w K mg base 1 "common_divisor" ["a", "b"] (spD K noX den_common_divisor) := by
  refine ⟨f, fd, Fun.okD F sc_common_divisor (fun cdv A outer s H E C hx hr => ?_), hm, F.kp, hB⟩
  · have hu1 := hu_of hr
    have hu64 := hr.units
    have hu65 := hu65_of hr
    have sc := sc_common_divisor
    exact (dss_cons (ds_while PassesOwn.never (dt_gt (de_var 1) de_int) (dss_one (ds_par2 rfl sc.nd rfl rfl (by decide) rfl rfl (dv_d (de_var 1) (dv_d (de_mod (de_var 0) (de_var 1)) dv_nil)) rfl)))
    (dss_one (ds_ret (de_callB call_abs r_abs (by rfl) z_abs (by decide +kernel) (da_cons (de_var 0) da_nil)))))
/-! ### is_fraction -/
abbrev s_is_fraction : Stmt := top 21
noncomputable def b_is_fraction : MS :=
    (mSeq (mIf (mOr (mNot (mB (mIsi "tuple" (mVar 0)))) (mOr (mB (mOp2 gNe (mArgs gLen (mCons (mVar 0) mNil)) (M.ret (.int 2)))) (mNot (mB (mArgs gAll (mCons (mSeal (mLc [1] (mSeqI (mVar 0)) (mName 1) mYes (mCall den_is_integer (mCons (mVar 1) mNil)))) mNil)))))) (mRet (M.ret (.bool false))) mSkip)
    (mRet (mAndD (mOp2 gGt (mOp2 gIx (mVar 0) (M.ret (.int 1))) (M.ret (.int 0))) (mOp2 gEq (mCall den_common_divisor (mCons (mOp2 gIx (mVar 0) (M.ret (.int 0))) (mCons (mOp2 gIx (mVar 0) (M.ret (.int 1))) mNil))) (M.ret (.int 1))))))
noncomputable def den_is_fraction : Dn := denOf 2 1 b_is_fraction
theorem sc_is_fraction : FnScope ["value", "part"] ["value"] (defScope s_is_fraction) := ⟨rfl, rfl, rfl, by decide +kernel, rfl, by decide +kernel, by decide +kernel⟩
theorem ok_is_fraction {f : Addr} {fd : FuncData} (F : Fun K "is_fraction" "is_fraction" s_is_fraction f fd) (hm : mg "is_fraction" = some (.ref f)) (hB : Binds K fd ["value"] []) (c_is_integer : Cal P w K mg base 1 "is_integer" ["value"] (spD K noX den_is_integer)) (c_common_divisor : Cal P w K mg base 1 "common_divisor" ["a", "b"] (spD K noX den_common_divisor)) (z_all : mg "all" = none) (z_len : mg "len" = none) (z_isinstance : mg "isinstance" = none) (z_tuple : mg "tuple" = none)  :
    Cal P w K mg base 2 "is_fraction" ["value"] (spD K noX den_is_fraction) := by
  obtain ⟨f_is_integer, fd_is_integer, F_is_integer, m_is_integer, k_is_integer, B_is_integer⟩ := c_is_integer.ex
  obtain ⟨f_common_divisor, fd_common_divisor, F_common_divisor, m_common_divisor, k_common_divisor, B_common_divisor⟩ := c_common_divisor.ex
  refine ⟨f, fd, Fun.okD F sc_is_fraction (fun cdv A outer s H E C hx hr => ?_), hm, F.kp, hB⟩
  · have hu1 := hu_of hr
    have hu64 := hr.units
    have hu65 := hu65_of hr
    have sc := sc_is_fraction
    exact (dss_cons (ds_if (dt_w (dw_or (dt_not (dt_val (de_isi (by rfl) z_isinstance (by rfl) z_tuple (by decide +kernel) (de_var 0)))) (dw_or (dt_ne hu64 (de_callB call_len r_len (by rfl) z_len (by decide +kernel) (da_cons (de_var 0) da_nil)) de_int) (dw_or1 (dt_not (dt_val (de_callB (cr_all rfl) r_all (by rfl) z_all (by decide +kernel) (da_cons (de_ofF (df_lc rfl sc.nd (di_seq (de_var 0)) (blkOk_by (own := [("part", 1)]) rfl) (by decide) (fun _ _ _ _ _ => (dg_name sc.nd rfl (by first | exact Or.inl rfl | exact Or.inr rfl))) (fun _ _ _ _ _ => dts_nil) (fun _ _ _ _ _ => (de_call F_is_integer (hr.mono (by decide)) (by rfl) m_is_integer k_is_integer B_is_integer pass0 (da_cons (de_var 1) da_nil))))) da_nil)))))))) (dss_one (ds_ret de_bl)) dss_nil)
    (dss_one (ds_ret (de_and (de_gt (de_ix (fun _ _ => rfl) (de_var 0) de_int) de_int) (de_one (de_eq hu64 (de_call F_common_divisor (hr.mono (by decide)) (by rfl) m_common_divisor k_common_divisor B_common_divisor pass0 (da_cons (de_ix (fun _ _ => rfl) (de_var 0) de_int) (da_cons (de_ix (fun _ _ => rfl) (de_var 0) de_int) da_nil))) de_int))))))
/-! ### judge_seen -/
abbrev s_judge_seen : Stmt := top 22
noncomputable def b_judge_seen : MS :=
    (mSeq (mFor (mRange1 (mCons (mVar 2) mNil)) (mName 3) (mSeq (mIf (mB (mOp2 gLt (mCall den_sign_at (mCons (mVar 0) (mCons (mVar 1) (mCons (mVar 3) mNil)))) (M.ret (.int 0)))) (mRet (mTup (mCons (M.ret (.str "below")) (mCons (mVar 3) mNil)))) mSkip)
    (mIf (mB (mCall den_is_seen (mCons (mVar 0) (mCons (mVar 1) (mCons (mVar 3) mNil))))) (mRet (mTup (mCons (M.ret (.str "early")) (mCons (mVar 3) mNil)))) mSkip)))
    (mSeq (mIf (mB (mOp2 gLt (mCall den_sign_at (mCons (mVar 0) (mCons (mVar 1) (mCons (mVar 2) mNil)))) (M.ret (.int 0)))) (mRet (mTup (mCons (M.ret (.str "below")) (mCons (mVar 2) mNil)))) mSkip)
    (mRet (mIf (mB (mCall den_is_seen (mCons (mVar 0) (mCons (mVar 1) (mCons (mVar 2) mNil))))) (M.ret .none) (mTup (mCons (M.ret (.str "late")) (mCons (mVar 2) mNil)))))))
noncomputable def den_judge_seen : Dn := denOf 4 3 b_judge_seen
theorem sc_judge_seen : FnScope ["p", "powers", "n", "i"] ["p", "powers", "n"] (defScope s_judge_seen) := ⟨rfl, rfl, rfl, by decide +kernel, rfl, by decide +kernel, by decide +kernel⟩
theorem ok_judge_seen {f : Addr} {fd : FuncData} (F : Fun K "judge_seen" "judge_seen" s_judge_seen f fd) (hm : mg "judge_seen" = some (.ref f)) (hB : Binds K fd ["p", "powers", "n"] []) (c_sign_at : Cal P w K mg base 2 "sign_at" ["p", "powers", "n"] (spD K noX den_sign_at)) (c_is_seen : Cal P w K mg base 2 "is_seen" ["p", "powers", "n"] (spD K noX den_is_seen)) (z_range : mg "range" = none)  :
    Cal P w K mg base 3 "judge_seen" ["p", "powers", "n"] (spD K noX den_judge_seen) := by
  obtain ⟨f_sign_at, fd_sign_at, F_sign_at, m_sign_at, k_sign_at, B_sign_at⟩ := c_sign_at.ex
  obtain ⟨f_is_seen, fd_is_seen, F_is_seen, m_is_seen, k_is_seen, B_is_seen⟩ := c_is_seen.ex
  refine ⟨f, fd, Fun.okD F sc_judge_seen (fun cdv A outer s H E C hx hr => ?_), hm, F.kp, hB⟩
  · have hu1 := hu_of hr
    have hu64 := hr.units
    have hu65 := hu65_of hr
    have sc := sc_judge_seen
    exact (dss_cons (ds_for PassesOwn.never rfl (di_range1 (by rfl) z_range (da_cons (de_var 2) da_nil)) (dg_name sc.nd rfl (by first | exact Or.inl rfl | exact Or.inr rfl)) (dss_cons (ds_if (dt_lt (de_call F_sign_at (hr.mono (by decide)) (by rfl) m_sign_at k_sign_at B_sign_at pass0 (da_cons (de_var 0) (da_cons (de_var 1) (da_cons (de_var 3) da_nil)))) de_int) (dss_one (ds_ret (de_tup (da_cons de_str (da_cons (de_var 3) da_nil))))) dss_nil)
    (dss_one (ds_if (dt_val (de_call F_is_seen (hr.mono (by decide)) (by rfl) m_is_seen k_is_seen B_is_seen pass0 (da_cons (de_var 0) (da_cons (de_var 1) (da_cons (de_var 3) da_nil))))) (dss_one (ds_ret (de_tup (da_cons de_str (da_cons (de_var 3) da_nil))))) dss_nil))))
    (dss_cons (ds_if (dt_lt (de_call F_sign_at (hr.mono (by decide)) (by rfl) m_sign_at k_sign_at B_sign_at pass0 (da_cons (de_var 0) (da_cons (de_var 1) (da_cons (de_var 2) da_nil)))) de_int) (dss_one (ds_ret (de_tup (da_cons de_str (da_cons (de_var 2) da_nil))))) dss_nil)
    (dss_one (ds_ret (de_ifExp (dt_val (de_call F_is_seen (hr.mono (by decide)) (by rfl) m_is_seen k_is_seen B_is_seen pass0 (da_cons (de_var 0) (da_cons (de_var 1) (da_cons (de_var 2) da_nil))))) de_non (de_tup (da_cons de_str (da_cons (de_var 2) da_nil))))))))
/-! ### judge_more -/
abbrev s_judge_more : Stmt := top 23
noncomputable def b_judge_more : MS :=
    (mSeq (mSet 4 (mOp2 gIx (mVar 3) (M.ret (.int 1))))
    (mSeq (mSet 5 (mTup (mCons (mCall den_powers_at (mCons (mVar 0) (mCons (mVar 1) (mCons (mVar 4) mNil)))) (mCons (mCall den_powers_at (mCons (mVar 0) (mCons (mVar 2) (mCons (mVar 4) mNil)))) mNil))))
    (mSeq (mIf (mB (mOp2 gNe (mCut (mVar 3) (mSo (M.ret (.int 2))) mNo) (mVar 5))) (mRet (mTup (mCons (M.ret (.str "fractions")) (mStar (mVar 5) mNil)))) mSkip)
    (mRet (mIf (mB (mOp2 gGe (mCall den_sign_at (mCons (mVar 0) (mCons (mCall den_powers_less (mCons (mVar 2) (mCons (mVar 1) mNil))) (mCons (mVar 4) mNil)))) (M.ret (.int 0)))) (mTup (mCons (M.ret (.str "most")) mNil)) (M.ret .none))))))
noncomputable def den_judge_more : Dn := denOf 6 4 b_judge_more
theorem sc_judge_more : FnScope ["p", "a", "b", "value", "n", "due"] ["p", "a", "b", "value"] (defScope s_judge_more) := ⟨rfl, rfl, rfl, by decide +kernel, rfl, by decide +kernel, by decide +kernel⟩
theorem ok_judge_more {f : Addr} {fd : FuncData} (F : Fun K "judge_more" "judge_more" s_judge_more f fd) (hm : mg "judge_more" = some (.ref f)) (hB : Binds K fd ["p", "a", "b", "value"] []) (c_powers_at : Cal P w K mg base 2 "powers_at" ["p", "powers", "n"] (spD K noX den_powers_at)) (c_sign_at : Cal P w K mg base 2 "sign_at" ["p", "powers", "n"] (spD K noX den_sign_at)) (c_powers_less : Cal P w K mg base 3 "powers_less" ["a", "b"] (spD K noX den_powers_less))   :
    Cal P w K mg base 4 "judge_more" ["p", "a", "b", "value"] (spD K noX den_judge_more) := by
  obtain ⟨f_powers_at, fd_powers_at, F_powers_at, m_powers_at, k_powers_at, B_powers_at⟩ := c_powers_at.ex
  obtain ⟨f_sign_at, fd_sign_at, F_sign_at, m_sign_at, k_sign_at, B_sign_at⟩ := c_sign_at.ex
  obtain ⟨f_powers_less, fd_powers_less, F_powers_less, m_powers_less, k_powers_less, B_powers_less⟩ := c_powers_less.ex
  refine ⟨f, fd, Fun.okD F sc_judge_more (fun cdv A outer s H E C hx hr => ?_), hm, F.kp, hB⟩
  · have hu1 := hu_of hr
    have hu64 := hr.units
    have hu65 := hu65_of hr
    have sc := sc_judge_more
    exact (dss_cons (ds_set sc.nd rfl (by first | exact Or.inl rfl | exact Or.inr rfl) (de_ix (fun _ _ => rfl) (de_var 3) de_int))
    (dss_cons (ds_set sc.nd rfl (by first | exact Or.inl rfl | exact Or.inr rfl) (de_tup (da_cons (de_call F_powers_at (hr.mono (by decide)) (by rfl) m_powers_at k_powers_at B_powers_at pass0 (da_cons (de_var 0) (da_cons (de_var 1) (da_cons (de_var 4) da_nil)))) (da_cons (de_call F_powers_at (hr.mono (by decide)) (by rfl) m_powers_at k_powers_at B_powers_at pass0 (da_cons (de_var 0) (da_cons (de_var 2) (da_cons (de_var 4) da_nil)))) da_nil))))
    (dss_cons (ds_if (dt_ne hu64 (de_slice (de_var 3) (do_some de_int) do_none) (de_var 5)) (dss_one (ds_ret (de_tup (da_cons de_str (da_star (de_var 5) da_nil))))) dss_nil)
    (dss_one (ds_ret (de_ifExp (dt_ge (de_call F_sign_at (hr.mono (by decide)) (by rfl) m_sign_at k_sign_at B_sign_at pass0 (da_cons (de_var 0) (da_cons (de_call F_powers_less (hr.mono (by decide)) (by rfl) m_powers_less k_powers_less B_powers_less pass0 (da_cons (de_var 2) (da_cons (de_var 1) da_nil))) (da_cons (de_var 4) da_nil)))) de_int) (de_tup (da_cons de_str da_nil)) de_non))))))
/-! ### judge_most -/
abbrev s_judge_most : Stmt := top 24
noncomputable def b_judge_most : MS :=
    (mSeq (mIf (mOr (mNot (mB (mIsi "tuple" (mVar 3)))) (mOr (mB (mOp2 gLt (mArgs gLen (mCons (mVar 3) mNil)) (M.ret (.int 2)))) (mOr (mNot (mB (mIsi "str" (mOp2 gIx (mVar 3) (M.ret (.int 0)))))) (mNot (mB (mCall den_is_count (mCons (mOp2 gIx (mVar 3) (M.ret (.int 1))) mNil))))))) (mRet (mTup (mCons (M.ret (.str "form")) mNil))) mSkip)
    (mSeq (mIf (mAnd (mB (mOp2 gEq (mOp2 gIx (mVar 3) (M.ret (.int 0))) (M.ret (.str "most")))) (mB (mOp2 gEq (mArgs gLen (mCons (mVar 3) mNil)) (M.ret (.int 2))))) (mRet (mCall den_judge_seen (mCons (mVar 0) (mCons (mCall den_powers_less (mCons (mVar 2) (mCons (mVar 1) mNil))) (mCons (mOp2 gIx (mVar 3) (M.ret (.int 1))) mNil))))) mSkip)
    (mSeq (mIf (mOr (mB (mOp2 gNe (mOp2 gIx (mVar 3) (M.ret (.int 0))) (M.ret (.str "more")))) (mOr (mB (mOp2 gNe (mArgs gLen (mCons (mVar 3) mNil)) (M.ret (.int 4)))) (mNot (mB (mArgs gAll (mCons (mSeal (mLc [4] (mSeqI (mCut (mVar 3) (mSo (M.ret (.int 2))) mNo)) (mName 4) mYes (mCall den_is_fraction (mCons (mVar 4) mNil)))) mNil)))))) (mRet (mTup (mCons (M.ret (.str "form")) mNil))) mSkip)
    (mRet (mCall den_judge_more (mCons (mVar 0) (mCons (mVar 1) (mCons (mVar 2) (mCons (mVar 3) mNil)))))))))
noncomputable def den_judge_most : Dn := denOf 5 4 b_judge_most
theorem sc_judge_most : FnScope ["p", "a", "b", "value", "part"] ["p", "a", "b", "value"] (defScope s_judge_most) := ⟨rfl, rfl, rfl, by decide +kernel, rfl, by decide +kernel, by decide +kernel⟩
theorem ok_judge_most {f : Addr} {fd : FuncData} (F : Fun K "judge_most" "judge_most" s_judge_most f fd) (hm : mg "judge_most" = some (.ref f)) (hB : Binds K fd ["p", "a", "b", "value"] []) (c_is_count : Cal P w K mg base 2 "is_count" ["value"] (spD K noX den_is_count)) (c_judge_seen : Cal P w K mg base 3 "judge_seen" ["p", "powers", "n"] (spD K noX den_judge_seen)) (c_powers_less : Cal P w K mg base 3 "powers_less" ["a", "b"] (spD K noX den_powers_less)) (c_is_fraction : Cal P w K mg base 2 "is_fraction" ["value"] (spD K noX den_is_fraction)) (c_judge_more : Cal P w K mg base 4 "judge_more" ["p", "a", "b", "value"] (spD K noX den_judge_more)) (z_isinstance : mg "isinstance" = none) (z_str : mg "str" = none) (z_len : mg "len" = none) (z_tuple : mg "tuple" = none) (z_all : mg "all" = none)  :
    Cal P w K mg base 5 "judge_most" ["p", "a", "b", "value"] (spD K noX den_judge_most) := by
  obtain ⟨f_is_count, fd_is_count, F_is_count, m_is_count, k_is_count, B_is_count⟩ := c_is_count.ex
  obtain ⟨f_judge_seen, fd_judge_seen, F_judge_seen, m_judge_seen, k_judge_seen, B_judge_seen⟩ := c_judge_seen.ex
  obtain ⟨f_powers_less, fd_powers_less, F_powers_less, m_powers_less, k_powers_less, B_powers_less⟩ := c_powers_less.ex
  obtain ⟨f_is_fraction, fd_is_fraction, F_is_fraction, m_is_fraction, k_is_fraction, B_is_fraction⟩ := c_is_fraction.ex
  obtain ⟨f_judge_more, fd_judge_more, F_judge_more, m_judge_more, k_judge_more, B_judge_more⟩ := c_judge_more.ex
  refine ⟨f, fd, Fun.okD F sc_judge_most (fun cdv A outer s H E C hx hr => ?_), hm, F.kp, hB⟩
  · have hu1 := hu_of hr
    have hu64 := hr.units
    have hu65 := hu65_of hr
    have sc := sc_judge_most
    exact (dss_cons (ds_if (dt_w (dw_or (dt_not (dt_val (de_isi (by rfl) z_isinstance (by rfl) z_tuple (by decide +kernel) (de_var 3)))) (dw_or (dt_lt (de_callB call_len r_len (by rfl) z_len (by decide +kernel) (da_cons (de_var 3) da_nil)) de_int) (dw_or (dt_not (dt_val (de_isi (by rfl) z_isinstance (by rfl) z_str (by decide +kernel) (de_ix (fun _ _ => rfl) (de_var 3) de_int)))) (dw_or1 (dt_not (dt_val (de_call F_is_count (hr.mono (by decide)) (by rfl) m_is_count k_is_count B_is_count pass0 (da_cons (de_ix (fun _ _ => rfl) (de_var 3) de_int) da_nil))))))))) (dss_one (ds_ret (de_tup (da_cons de_str da_nil)))) dss_nil)
    (dss_cons (ds_if (dt_w (dw_and (dt_eq hu64 (de_ix (fun _ _ => rfl) (de_var 3) de_int) de_str) (dw_and1 (dt_eq hu64 (de_callB call_len r_len (by rfl) z_len (by decide +kernel) (da_cons (de_var 3) da_nil)) de_int)))) (dss_one (ds_ret (de_call F_judge_seen (hr.mono (by decide)) (by rfl) m_judge_seen k_judge_seen B_judge_seen pass0 (da_cons (de_var 0) (da_cons (de_call F_powers_less (hr.mono (by decide)) (by rfl) m_powers_less k_powers_less B_powers_less pass0 (da_cons (de_var 2) (da_cons (de_var 1) da_nil))) (da_cons (de_ix (fun _ _ => rfl) (de_var 3) de_int) da_nil)))))) dss_nil)
    (dss_cons (ds_if (dt_w (dw_or (dt_ne hu64 (de_ix (fun _ _ => rfl) (de_var 3) de_int) de_str) (dw_or (dt_ne hu64 (de_callB call_len r_len (by rfl) z_len (by decide +kernel) (da_cons (de_var 3) da_nil)) de_int) (dw_or1 (dt_not (dt_val (de_callB (cr_all rfl) r_all (by rfl) z_all (by decide +kernel) (da_cons (de_ofF (df_lc rfl sc.nd (di_seq (de_slice (de_var 3) (do_some de_int) do_none)) (blkOk_by (own := [("part", 4)]) rfl) (by decide) (fun _ _ _ _ _ => (dg_name sc.nd rfl (by first | exact Or.inl rfl | exact Or.inr rfl))) (fun _ _ _ _ _ => dts_nil) (fun _ _ _ _ _ => (de_call F_is_fraction (hr.mono (by decide)) (by rfl) m_is_fraction k_is_fraction B_is_fraction pass0 (da_cons (de_var 4) da_nil))))) da_nil)))))))) (dss_one (ds_ret (de_tup (da_cons de_str da_nil)))) dss_nil)
    (dss_one (ds_ret (de_call F_judge_more (hr.mono (by decide)) (by rfl) m_judge_more k_judge_more B_judge_more pass0 (da_cons (de_var 0) (da_cons (de_var 1) (da_cons (de_var 2) (da_cons (de_var 3) da_nil))))))))))
/-! ### is_sign_pair -/
abbrev s_is_sign_pair : Stmt := top 25
noncomputable def b_is_sign_pair : MS :=
    (mSeq (mIf (mOr (mNot (mB (mIsi "tuple" (mVar 0)))) (mOr (mB (mOp2 gNe (mArgs gLen (mCons (mVar 0) mNil)) (M.ret (.int 2)))) (mNot (mB (mCall den_is_count (mCons (mOp2 gIx (mVar 0) (M.ret (.int 0))) mNil)))))) (mRet (M.ret (.bool false))) mSkip)
    (mRet (mAndD (mCall den_is_integer (mCons (mOp2 gIx (mVar 0) (M.ret (.int 1))) mNil)) (mChain gLe gLe (mOp1 gNeg (M.ret (.int 1))) (mOp2 gIx (mVar 0) (M.ret (.int 1))) (M.ret (.int 1))))))
noncomputable def den_is_sign_pair : Dn := denOf 1 1 b_is_sign_pair
theorem sc_is_sign_pair : FnScope ["value"] ["value"] (defScope s_is_sign_pair) := ⟨rfl, rfl, rfl, by decide +kernel, rfl, by decide +kernel, by decide +kernel⟩
theorem ok_is_sign_pair {f : Addr} {fd : FuncData} (F : Fun K "is_sign_pair" "is_sign_pair" s_is_sign_pair f fd) (hm : mg "is_sign_pair" = some (.ref f)) (hB : Binds K fd ["value"] []) (c_is_count : Cal P w K mg base 2 "is_count" ["value"] (spD K noX den_is_count)) (c_is_integer : Cal P w K mg base 1 "is_integer" ["value"] (spD K noX den_is_integer)) (z_len : mg "len" = none) (z_isinstance : mg "isinstance" = none) (z_tuple : mg "tuple" = none)  :
    Cal P w K mg base 3 "is_sign_pair" ["value"] (spD K noX den_is_sign_pair) := by
  obtain ⟨f_is_count, fd_is_count, F_is_count, m_is_count, k_is_count, B_is_count⟩ := c_is_count.ex
  obtain ⟨f_is_integer, fd_is_integer, F_is_integer, m_is_integer, k_is_integer, B_is_integer⟩ := c_is_integer.ex
  refine ⟨f, fd, Fun.okD F sc_is_sign_pair (fun cdv A outer s H E C hx hr => ?_), hm, F.kp, hB⟩
  · have hu1 := hu_of hr
    have hu64 := hr.units
    have hu65 := hu65_of hr
    have sc := sc_is_sign_pair
    exact (dss_cons (ds_if (dt_w (dw_or (dt_not (dt_val (de_isi (by rfl) z_isinstance (by rfl) z_tuple (by decide +kernel) (de_var 0)))) (dw_or (dt_ne hu64 (de_callB call_len r_len (by rfl) z_len (by decide +kernel) (da_cons (de_var 0) da_nil)) de_int) (dw_or1 (dt_not (dt_val (de_call F_is_count (hr.mono (by decide)) (by rfl) m_is_count k_is_count B_is_count pass0 (da_cons (de_ix (fun _ _ => rfl) (de_var 0) de_int) da_nil)))))))) (dss_one (ds_ret de_bl)) dss_nil)
    (dss_one (ds_ret (de_and (de_call F_is_integer (hr.mono (by decide)) (by rfl) m_is_integer k_is_integer B_is_integer pass0 (da_cons (de_ix (fun _ _ => rfl) (de_var 0) de_int) da_nil)) (de_one (de_chain op_le op_le r_le r_le (de_neg de_int) (de_ix (fun _ _ => rfl) (de_var 0) de_int) de_int))))))
/-! ### is_signs_form -/
abbrev s_is_signs_form : Stmt := top 26
noncomputable def b_is_signs_form : MS :=
    (mSeq (mIf (mOr (mNot (mB (mIsi "tuple" (mVar 0)))) (mOr (mB (mOp2 gEq (mVar 0) (mTup mNil))) (mNot (mB (mArgs gAll (mCons (mSeal (mLc [1] (mSeqI (mVar 0)) (mName 1) mYes (mCall den_is_sign_pair (mCons (mVar 1) mNil)))) mNil)))))) (mRet (M.ret (.bool false))) mSkip)
    (mSeq (mIf (mB (mOp2 gNe (mOp2 gIx (mOp2 gIx (mVar 0) (M.ret (.int 0))) (M.ret (.int 0))) (M.ret (.int 0)))) (mRet (M.ret (.bool false))) mSkip)
    (mRet (mArgs gAll (mCons (mSeal (mLc [2, 3] (mZip (mCons (mVar 0) (mCons (mCut (mVar 0) (mSo (M.ret (.int 1))) mNo) mNil))) (mGTup 2 (mGCons (mName 2) (mGCons (mName 3) mGNil))) mYes (mAndD (mOp2 gLt (mOp2 gIx (mVar 2) (M.ret (.int 0))) (mOp2 gIx (mVar 3) (M.ret (.int 0)))) (mOp2 gNe (mOp2 gIx (mVar 2) (M.ret (.int 1))) (mOp2 gIx (mVar 3) (M.ret (.int 1))))))) mNil)))))
noncomputable def den_is_signs_form : Dn := denOf 4 1 b_is_signs_form
theorem sc_is_signs_form : FnScope ["value", "pair", "one", "late"] ["value"] (defScope s_is_signs_form) := ⟨rfl, rfl, rfl, by decide +kernel, rfl, by decide +kernel, by decide +kernel⟩
theorem ok_is_signs_form {f : Addr} {fd : FuncData} (F : Fun K "is_signs_form" "is_signs_form" s_is_signs_form f fd) (hm : mg "is_signs_form" = some (.ref f)) (hB : Binds K fd ["value"] []) (c_is_sign_pair : Cal P w K mg base 3 "is_sign_pair" ["value"] (spD K noX den_is_sign_pair)) (z_all : mg "all" = none) (z_isinstance : mg "isinstance" = none) (z_tuple : mg "tuple" = none) (z_zip : mg "zip" = none)  :
    Cal P w K mg base 4 "is_signs_form" ["value"] (spD K noX den_is_signs_form) := by
  obtain ⟨f_is_sign_pair, fd_is_sign_pair, F_is_sign_pair, m_is_sign_pair, k_is_sign_pair, B_is_sign_pair⟩ := c_is_sign_pair.ex
  refine ⟨f, fd, Fun.okD F sc_is_signs_form (fun cdv A outer s H E C hx hr => ?_), hm, F.kp, hB⟩
  · have hu1 := hu_of hr
    have hu64 := hr.units
    have hu65 := hu65_of hr
    have sc := sc_is_signs_form
    exact (dss_cons (ds_if (dt_w (dw_or (dt_not (dt_val (de_isi (by rfl) z_isinstance (by rfl) z_tuple (by decide +kernel) (de_var 0)))) (dw_or (dt_eq hu64 (de_var 0) (de_tup da_nil)) (dw_or1 (dt_not (dt_val (de_callB (cr_all rfl) r_all (by rfl) z_all (by decide +kernel) (da_cons (de_ofF (df_lc rfl sc.nd (di_seq (de_var 0)) (blkOk_by (own := [("pair", 1)]) rfl) (by decide) (fun _ _ _ _ _ => (dg_name sc.nd rfl (by first | exact Or.inl rfl | exact Or.inr rfl))) (fun _ _ _ _ _ => dts_nil) (fun _ _ _ _ _ => (de_call F_is_sign_pair (hr.mono (by decide)) (by rfl) m_is_sign_pair k_is_sign_pair B_is_sign_pair pass0 (da_cons (de_var 1) da_nil))))) da_nil)))))))) (dss_one (ds_ret de_bl)) dss_nil)
    (dss_cons (ds_if (dt_ne hu64 (de_ix (fun _ _ => rfl) (de_ix (fun _ _ => rfl) (de_var 0) de_int) de_int) de_int) (dss_one (ds_ret de_bl)) dss_nil)
    (dss_one (ds_ret (de_callB (cr_all rfl) r_all (by rfl) z_all (by decide +kernel) (da_cons (de_ofF (df_lc rfl sc.nd (di_zip (by rfl) z_zip (da_cons (de_var 0) (da_cons (de_slice (de_var 0) (do_some de_int) do_none) da_nil))) (blkOk_by (own := [("one", 2), ("late", 3)]) rfl) (by decide) (fun _ _ _ _ _ => (dg_tup rfl (dgs_cons (dg_name sc.nd rfl (by first | exact Or.inl rfl | exact Or.inr rfl)) (dgs_cons (dg_name sc.nd rfl (by first | exact Or.inl rfl | exact Or.inr rfl)) dgs_nil)))) (fun _ _ _ _ _ => dts_nil) (fun _ _ _ _ _ => (de_and (de_lt (de_ix (fun _ _ => rfl) (de_var 2) de_int) (de_ix (fun _ _ => rfl) (de_var 3) de_int)) (de_one (de_ne hu64 (de_ix (fun _ _ => rfl) (de_var 2) de_int) (de_ix (fun _ _ => rfl) (de_var 3) de_int))))))) da_nil))))))
/-! ### judge_signs -/
abbrev s_judge_signs : Stmt := top 27
noncomputable def b_judge_signs : MS :=
    (mSeq (mIf (mNot (mB (mCall den_is_signs_form (mCons (mVar 2) mNil)))) (mRet (mTup (mCons (M.ret (.str "form")) mNil))) mSkip)
    (mSeq (mPar3 3 4 5 (mConsF (mDictOf (mCons (mVar 2) mNil)) (mConsD (M.ret (.int 0)) (mConsD (M.ret (.int 0)) mNilV))))
    (mSeq (mWhile (mOr (mB (mOp2 gLe (mVar 5) (mOp2 gIx (mOp2 gIx (mVar 2) (mOp1 gNeg (M.ret (.int 1)))) (M.ret (.int 0))))) (mNot (mB (mCall den_is_settled (mCons (mVar 0) (mCons (mVar 1) (mCons (mVar 5) mNil))))))) (mSeq (mSet 4 (mDGetOr 3 (mVar 5) (mVar 4)))
    (mSeq (mIf (mB (mOp2 gNe (mCall den_sign_at (mCons (mVar 0) (mCons (mVar 1) (mCons (mVar 5) mNil)))) (mVar 4))) (mRet (mTup (mCons (M.ret (.str "sign")) (mCons (mVar 5) mNil)))) mSkip)
    (mSet 5 (mOp2 gAdd (mVar 5) (M.ret (.int 1)))))))
    (mRet (mIf (mB (mOp2 gNe (mCall den_sign_at (mCons (mVar 0) (mCons (mVar 1) (mCons (mVar 5) mNil)))) (mVar 4))) (mTup (mCons (M.ret (.str "sign")) (mCons (mVar 5) mNil))) (M.ret .none))))))
noncomputable def den_judge_signs : Dn := denOf 6 3 b_judge_signs
theorem sc_judge_signs : FnScope ["p", "powers", "value", "known", "sign", "n"] ["p", "powers", "value"] (defScope s_judge_signs) := ⟨rfl, rfl, rfl, by decide +kernel, rfl, by decide +kernel, by decide +kernel⟩
theorem ok_judge_signs {f : Addr} {fd : FuncData} (F : Fun K "judge_signs" "judge_signs" s_judge_signs f fd) (hm : mg "judge_signs" = some (.ref f)) (hB : Binds K fd ["p", "powers", "value"] []) (c_is_signs_form : Cal P w K mg base 4 "is_signs_form" ["value"] (spD K noX den_is_signs_form)) (c_is_settled : Cal P w K mg base 2 "is_settled" ["p", "powers", "n"] (spD K noX den_is_settled)) (c_sign_at : Cal P w K mg base 2 "sign_at" ["p", "powers", "n"] (spD K noX den_sign_at)) (z_dict : mg "dict" = none)  :
    Cal P w K mg base 5 "judge_signs" ["p", "powers", "value"] (spD K noX den_judge_signs) := by
  obtain ⟨f_is_signs_form, fd_is_signs_form, F_is_signs_form, m_is_signs_form, k_is_signs_form, B_is_signs_form⟩ := c_is_signs_form.ex
  obtain ⟨f_is_settled, fd_is_settled, F_is_settled, m_is_settled, k_is_settled, B_is_settled⟩ := c_is_settled.ex
  obtain ⟨f_sign_at, fd_sign_at, F_sign_at, m_sign_at, k_sign_at, B_sign_at⟩ := c_sign_at.ex
  refine ⟨f, fd, Fun.okD F sc_judge_signs (fun cdv A outer s H E C hx hr => ?_), hm, F.kp, hB⟩
  · have hu1 := hu_of hr
    have hu64 := hr.units
    have hu65 := hu65_of hr
    have sc := sc_judge_signs
    exact (dss_cons (ds_if (dt_not (dt_val (de_call F_is_signs_form (hr.mono (by decide)) (by rfl) m_is_signs_form k_is_signs_form B_is_signs_form pass0 (da_cons (de_var 2) da_nil)))) (dss_one (ds_ret (de_tup (da_cons de_str da_nil)))) dss_nil)
    (dss_cons (ds_par3 rfl sc.nd rfl rfl rfl (by decide) (by decide) (by decide) rfl rfl rfl (dv_f (df_dictOf rfl (by rfl) z_dict (da_cons (de_var 2) da_nil)) (dv_d de_int (dv_d de_int dv_nil))) rfl)
    (dss_cons (ds_while PassesOwn.never (dt_w (dw_or (dt_le (de_var 5) (de_ix (fun _ _ => rfl) (de_ix (fun _ _ => rfl) (de_var 2) (de_neg de_int)) de_int)) (dw_or1 (dt_not (dt_val (de_call F_is_settled (hr.mono (by decide)) (by rfl) m_is_settled k_is_settled B_is_settled pass0 (da_cons (de_var 0) (da_cons (de_var 1) (da_cons (de_var 5) da_nil))))))))) (dss_cons (ds_set sc.nd rfl (by first | exact Or.inl rfl | exact Or.inr rfl) (de_dgetOr 3 hu1 (de_var 5) (de_var 4) ⟨rfl, rfl, rfl, rfl⟩))
    (dss_cons (ds_if (dt_ne hu64 (de_call F_sign_at (hr.mono (by decide)) (by rfl) m_sign_at k_sign_at B_sign_at pass0 (da_cons (de_var 0) (da_cons (de_var 1) (da_cons (de_var 5) da_nil)))) (de_var 4)) (dss_one (ds_ret (de_tup (da_cons de_str (da_cons (de_var 5) da_nil))))) dss_nil)
    (dss_one (ds_set sc.nd rfl (by first | exact Or.inl rfl | exact Or.inr rfl) (de_add (de_var 5) de_int))))))
    (dss_one (ds_ret (de_ifExp (dt_ne hu64 (de_call F_sign_at (hr.mono (by decide)) (by rfl) m_sign_at k_sign_at B_sign_at pass0 (da_cons (de_var 0) (da_cons (de_var 1) (da_cons (de_var 5) da_nil)))) (de_var 4)) (de_tup (da_cons de_str (da_cons (de_var 5) da_nil))) de_non))))))
/-! ### _law_source -/
abbrev s__law_source : Stmt := top 29
noncomputable def b__law_source : MS :=
    (mSeq (mSet 1 (M.ret (.int 31)))
    (mSeq (mFor (mScr 0) (mName 2) (mSet 1 (mOp2 gMod (mArgs gInt (mCons (mOp2 gAdd (mOp2 gAdd (mOp2 gMul (mVar 1) (M.ret (.int 48271))) (mOp2 gMul (mVar 2) (M.ret (.int 41)))) (M.ret (.int 13))) mNil)) (M.ret (.int 2147483629)))))
    (mRetSrc (mRevF (mSeal (mLc [2] (mScr 0) (mName 2) mYes (mArgs gAbs (mCons (mVar 2) mNil))))) (M.ret (.int 0)) (mVar 1) (M.ret (.int 0)))))
noncomputable def den__law_source : List Int → Option Src := denS 3 b__law_source
theorem sc__law_source : FnScope ["script", "mixed", "cell"] ["script"] (defScope s__law_source) := ⟨rfl, rfl, rfl, by decide +kernel, rfl, by decide +kernel, by decide +kernel⟩
theorem ok__law_source {f : Addr} {fd : FuncData} (F : Fun K "_law_source" "_law_source" s__law_source f fd) (hm : mg "_law_source" = some (.ref f)) (hB : Binds K fd ["script"] [])  (z_int : mg "int" = none) (z_abs : mg "abs" = none)  :
    Cal P w K mg base 1 "_law_source" ["script"] (spSrc K den__law_source) := by
  refine ⟨f, fd, Fun.okSrc F sc__law_source (by decide) (fun cdv A outer s H E C hx hr => ?_), hm, F.kp, hB⟩
  · have hu1 := hu_of hr
    have hu64 := hr.units
    have hu65 := hu65_of hr
    have sc := sc__law_source
    exact (dss_cons (ds_set sc.nd rfl (by first | exact Or.inl rfl | exact Or.inr rfl) de_int)
    (dss_cons (ds_for PassesOwn.never rfl (di_scr 0) (dg_name sc.nd rfl (by first | exact Or.inl rfl | exact Or.inr rfl)) (dss_one (ds_set sc.nd rfl (by first | exact Or.inl rfl | exact Or.inr rfl) (de_mod (de_callTy call_int1 r_int1 (by rfl) z_int (by decide +kernel) (da_cons (de_add (de_add (de_mul (de_var 1) de_int) (de_mul (de_var 2) de_int)) de_int) da_nil)) de_int))))
    (dss_one (ds_retSrc (df_rev (de_ofF (df_lc rfl sc.nd (di_scr 0) (blkOk_by (own := [("cell", 2)]) rfl) (by decide) (fun _ _ _ _ _ => (dg_name sc.nd rfl (by first | exact Or.inl rfl | exact Or.inr rfl))) (fun _ _ _ _ _ => dts_nil) (fun _ _ _ _ _ => (de_callB call_abs r_abs (by rfl) z_abs (by decide +kernel) (da_cons (de_var 2) da_nil)))))) de_int (de_var 1) de_int))))
/-! ### _law_pick -/
abbrev s__law_pick : Stmt := top 30
noncomputable def b__law_pick : MS :=
    (mSeq (mIf (mB (mOp2 gLt (mVar 1) (M.ret (.int 2)))) (mRet (M.ret (.int 0))) mSkip)
    (mSeq (mWhile (mAnd (mB (mOp2 gLt (mSrcGet 0 .left) (M.ret (.int 2)))) (mB (mOp2 gGt (mCellN 0) (M.ret (.int 0))))) (mSrcPut 0 .left (mPop 0)))
    (mSeq (mSet 2 (mSrcGet 0 .left))
    (mSeq (mIf (mB (mOp2 gGt (mVar 2) (M.ret (.int 1)))) (mSeq (mSrcPut 0 .left (mOp2 gDiv (mVar 2) (mVar 1)))
    (mRet (mOp2 gMod (mArgs gInt (mCons (mVar 2) mNil)) (mVar 1)))) mSkip)
    (mSeq (mSrcPut 0 .turn (mOp2 gAdd (mSrcGet 0 .turn) (M.ret (.int 1))))
    (mSeq (mSet 3 (mOp2 gMod (mArgs gInt (mCons (mOp2 gAdd (mSrcGet 0 .mixed) (mOp2 gMul (mSrcGet 0 .turn) (M.ret (.int 92821)))) mNil)) (M.ret (.int 998244353))))
    (mSeq (mSet 3 (mOp2 gMod (mArgs gInt (mCons (mOp2 gAdd (mOp2 gMul (mVar 3) (mVar 3)) (mOp2 gMul (mSrcGet 0 .turn) (M.ret (.int 29)))) mNil)) (M.ret (.int 2147483647))))
    (mRet (mOp2 gMod (mArgs gInt (mCons (mOp2 gDiv (mVar 3) (M.ret (.int 16))) mNil)) (mVar 1))))))))))
noncomputable def den__law_pick : Dn := denOf 4 2 b__law_pick
theorem sc__law_pick : FnScope ["source", "many", "left", "mixed"] ["source", "many"] (defScope s__law_pick) := ⟨rfl, rfl, rfl, by decide +kernel, rfl, by decide +kernel, by decide +kernel⟩
theorem ok__law_pick {f : Addr} {fd : FuncData} (F : Fun K "_law_pick" "_law_pick" s__law_pick f fd) (hm : mg "_law_pick" = some (.ref f)) (hB : Binds K fd ["source", "many"] [])  (z_len : mg "len" = none) (z_int : mg "int" = none)  :
    Cal P w K mg base 1 "_law_pick" ["source", "many"] (spD K noX den__law_pick) := by
  refine ⟨f, fd, Fun.okD F sc__law_pick (fun cdv A outer s H E C hx hr => ?_), hm, F.kp, hB⟩
  · have hu1 := hu_of hr
    have hu64 := hr.units
    have hu65 := hu65_of hr
    have sc := sc__law_pick
    exact (dss_cons (ds_if (dt_lt (de_var 1) de_int) (dss_one (ds_ret de_int)) dss_nil)
    (dss_cons (ds_while PassesOwn.never (dt_w (dw_and (dt_lt (de_src 0 .left (hu := hu1) (hs := fun _ _ => rfl)) de_int) (dw_and1 (dt_gt (de_cellN 0 (by rfl) z_len hu1 (hs := fun _ _ => rfl)) de_int)))) (dss_one (ds_src 0 .left (de_pop 0 hu1 (hs := fun _ _ => rfl)) (hu := hu1))))
    (dss_cons (ds_set sc.nd rfl (by first | exact Or.inl rfl | exact Or.inr rfl) (de_src 0 .left (hu := hu1) (hs := fun _ _ => rfl)))
    (dss_cons (ds_if (dt_gt (de_var 2) de_int) (dss_cons (ds_src 0 .left (de_fdiv (de_var 2) (de_var 1)) (hu := hu1))
    (dss_one (ds_ret (de_mod (de_callTy call_int1 r_int1 (by rfl) z_int (by decide +kernel) (da_cons (de_var 2) da_nil)) (de_var 1))))) dss_nil)
    (dss_cons (ds_src 0 .turn (de_add (de_src 0 .turn (hu := hu1) (hs := fun _ _ => rfl)) de_int) (hu := hu1))
    (dss_cons (ds_set sc.nd rfl (by first | exact Or.inl rfl | exact Or.inr rfl) (de_mod (de_callTy call_int1 r_int1 (by rfl) z_int (by decide +kernel) (da_cons (de_add (de_src 0 .mixed (hu := hu1) (hs := fun _ _ => rfl)) (de_mul (de_src 0 .turn (hu := hu1) (hs := fun _ _ => rfl)) de_int)) da_nil)) de_int))
    (dss_cons (ds_set sc.nd rfl (by first | exact Or.inl rfl | exact Or.inr rfl) (de_mod (de_callTy call_int1 r_int1 (by rfl) z_int (by decide +kernel) (da_cons (de_add (de_mul (de_var 3) (de_var 3)) (de_mul (de_src 0 .turn (hu := hu1) (hs := fun _ _ => rfl)) de_int)) da_nil)) de_int))
    (dss_one (ds_ret (de_mod (de_callTy call_int1 r_int1 (by rfl) z_int (by decide +kernel) (da_cons (de_fdiv (de_var 3) de_int) da_nil)) (de_var 1)))))))))))
/-! ### _law_of -/
abbrev s__law_of : Stmt := top 31
noncomputable def b__law_of : MS :=
    (mRet (mOp2 gIx (mVar 1) (mCallS den__law_pick 0 (mCons (mArgs gLen (mCons (mVar 1) mNil)) mNil))))
noncomputable def den__law_of : Dn := denOf 2 2 b__law_of
theorem sc__law_of : FnScope ["source", "some"] ["source", "some"] (defScope s__law_of) := ⟨rfl, rfl, rfl, by decide +kernel, rfl, by decide +kernel, by decide +kernel⟩
theorem ok__law_of {f : Addr} {fd : FuncData} (F : Fun K "_law_of" "_law_of" s__law_of f fd) (hm : mg "_law_of" = some (.ref f)) (hB : Binds K fd ["source", "some"] []) (c__law_pick : Cal P w K mg base 1 "_law_pick" ["source", "many"] (spD K noX den__law_pick)) (z_len : mg "len" = none)  :
    Cal P w K mg base 2 "_law_of" ["source", "some"] (spD K noX den__law_of) := by
  obtain ⟨f__law_pick, fd__law_pick, F__law_pick, m__law_pick, k__law_pick, B__law_pick⟩ := c__law_pick.ex
  refine ⟨f, fd, Fun.okD F sc__law_of (fun cdv A outer s H E C hx hr => ?_), hm, F.kp, hB⟩
  · have hu1 := hu_of hr
    have hu64 := hr.units
    have hu65 := hu65_of hr
    have sc := sc__law_of
    exact (dss_one (ds_ret (de_ix (fun _ _ => rfl) (de_var 1) (de_callS 0 F__law_pick (hr.mono (by decide)) (by rfl) m__law_pick k__law_pick B__law_pick pass0 (da_cons (de_callB call_len r_len (by rfl) z_len (by decide +kernel) (da_cons (de_var 1) da_nil)) da_nil)))))
/-! ### _law_power -/
abbrev s__law_power : Stmt := top 32
noncomputable def b__law_power : MS :=
    (mSeq (mSet 2 (M.ret (.int 1)))
    (mSeq (mFor (mRange1 (mCons (mVar 1) mNil)) (mName 3) (mSet 2 (mOp2 gMul (mVar 2) (mVar 0))))
    (mRet (mVar 2))))
noncomputable def den__law_power : Dn := denOf 4 2 b__law_power
theorem sc__law_power : FnScope ["p", "n", "found", "turn"] ["p", "n"] (defScope s__law_power) := ⟨rfl, rfl, rfl, by decide +kernel, rfl, by decide +kernel, by decide +kernel⟩
theorem ok__law_power {f : Addr} {fd : FuncData} (F : Fun K "_law_power" "_law_power" s__law_power f fd) (hm : mg "_law_power" = some (.ref f)) (hB : Binds K fd ["p", "n"] [])  (z_range : mg "range" = none)  :
    Cal P w K mg base 1 "_law_power" ["p", "n"] (spD K noX den__law_power) := by
  refine ⟨f, fd, Fun.okD F sc__law_power (fun cdv A outer s H E C hx hr => ?_), hm, F.kp, hB⟩
  · have hu1 := hu_of hr
    have hu64 := hr.units
    have hu65 := hu65_of hr
    have sc := sc__law_power
    exact (dss_cons (ds_set sc.nd rfl (by first | exact Or.inl rfl | exact Or.inr rfl) de_int)
    (dss_cons (ds_for PassesOwn.never rfl (di_range1 (by rfl) z_range (da_cons (de_var 1) da_nil)) (dg_name sc.nd rfl (by first | exact Or.inl rfl | exact Or.inr rfl)) (dss_one (ds_set sc.nd rfl (by first | exact Or.inl rfl | exact Or.inr rfl) (de_mul (de_var 2) (de_var 0)))))
    (dss_one (ds_ret (de_var 2)))))
/-! ### _law_cut -/
abbrev s__law_cut : Stmt := top 33
noncomputable def b__law_cut : MS :=
    (mSeq (mPar2 2 3 (mConsD (mArgs gAbs (mCons (mVar 0) mNil)) (mConsD (mVar 1) mNilV)))
    (mSeq (mWhile (mB (mOp2 gGt (mVar 3) (M.ret (.int 0)))) (mPar2 2 3 (mConsD (mVar 3) (mConsD (mOp2 gSub (mVar 2) (mOp2 gMul (mOp2 gDiv (mVar 2) (mVar 3)) (mVar 3))) mNilV))))
    (mRet (mTup (mCons (mOp2 gDiv (mVar 0) (mVar 2)) (mCons (mOp2 gDiv (mVar 1) (mVar 2)) mNil))))))
noncomputable def den__law_cut : Dn := denOf 4 2 b__law_cut
theorem sc__law_cut : FnScope ["a", "b", "one", "other"] ["a", "b"] (defScope s__law_cut) := ⟨rfl, rfl, rfl, by decide +kernel, rfl, by decide +kernel, by decide +kernel⟩
theorem ok__law_cut {f : Addr} {fd : FuncData} (F : Fun K "_law_cut" "_law_cut" s__law_cut f fd) (hm : mg "_law_cut" = some (.ref f)) (hB : Binds K fd ["a", "b"] [])  (z_abs : mg "abs" = none)  :
    Cal P w K mg base 1 "_law_cut" ["a", "b"] (spD K noX den__law_cut) := by
  refine ⟨f, fd, Fun.okD F sc__law_cut (fun cdv A outer s H E C hx hr => ?_), hm, F.kp, hB⟩
  · have hu1 := hu_of hr
    have hu64 := hr.units
    have hu65 := hu65_of hr
    have sc := sc__law_cut
    exact (dss_cons (ds_par2 rfl sc.nd rfl rfl (by decide) rfl rfl (dv_d (de_callB call_abs r_abs (by rfl) z_abs (by decide +kernel) (da_cons (de_var 0) da_nil)) (dv_d (de_var 1) dv_nil)) rfl)
    (dss_cons (ds_while PassesOwn.never (dt_gt (de_var 3) de_int) (dss_one (ds_par2 rfl sc.nd rfl rfl (by decide) rfl rfl (dv_d (de_var 3) (dv_d (de_sub (de_var 2) (de_mul (de_fdiv (de_var 2) (de_var 3)) (de_var 3))) dv_nil)) rfl)))
    (dss_one (ds_ret (de_tup (da_cons (de_fdiv (de_var 0) (de_var 2)) (da_cons (de_fdiv (de_var 1) (de_var 2)) da_nil)))))))
/-! ### _law_at -/
abbrev s__law_at : Stmt := top 34
noncomputable def b__law_at : MS :=
    (mSeq (mSet 5 (mArgs gMinL (mCons (mOp2 gAdd (mSeal (mLst (mCons (M.ret (.int 0)) mNil))) (mSeal (mLc [3, 4] (mSeqI (mVar 1)) (mGTup 2 (mGCons (mName 3) (mGCons (mName 4) mGNil))) mYes (mVar 3)))) mNil)))
    (mRet (mCall den__law_cut (mCons (mArgs gSum (mCons (mSeal (mLc [3, 4] (mSeqI (mVar 1)) (mGTup 2 (mGCons (mName 3) (mGCons (mName 4) mGNil))) mYes (mOp2 gMul (mVar 4) (mCall den__law_power (mCons (mVar 0) (mCons (mOp2 gMul (mOp2 gSub (mVar 3) (mVar 5)) (mVar 2)) mNil)))))) mNil)) (mCons (mCall den__law_power (mCons (mVar 0) (mCons (mOp2 gSub (M.ret (.int 0)) (mOp2 gMul (mVar 5) (mVar 2))) mNil))) mNil)))))
noncomputable def den__law_at : Dn := denOf 6 3 b__law_at
theorem sc__law_at : FnScope ["p", "powers", "n", "i", "c", "least"] ["p", "powers", "n"] (defScope s__law_at) := ⟨rfl, rfl, rfl, by decide +kernel, rfl, by decide +kernel, by decide +kernel⟩
theorem ok__law_at {f : Addr} {fd : FuncData} (F : Fun K "_law_at" "_law_at" s__law_at f fd) (hm : mg "_law_at" = some (.ref f)) (hB : Binds K fd ["p", "powers", "n"] []) (c__law_cut : Cal P w K mg base 1 "_law_cut" ["a", "b"] (spD K noX den__law_cut)) (c__law_power : Cal P w K mg base 1 "_law_power" ["p", "n"] (spD K noX den__law_power)) (z_min : mg "min" = none) (z_sum : mg "sum" = none)  :
    Cal P w K mg base 2 "_law_at" ["p", "powers", "n"] (spD K noX den__law_at) := by
  obtain ⟨f__law_cut, fd__law_cut, F__law_cut, m__law_cut, k__law_cut, B__law_cut⟩ := c__law_cut.ex
  obtain ⟨f__law_power, fd__law_power, F__law_power, m__law_power, k__law_power, B__law_power⟩ := c__law_power.ex
  refine ⟨f, fd, Fun.okD F sc__law_at (fun cdv A outer s H E C hx hr => ?_), hm, F.kp, hB⟩
  · have hu1 := hu_of hr
    have hu64 := hr.units
    have hu65 := hu65_of hr
    have sc := sc__law_at
    exact (dss_cons (ds_set sc.nd rfl (by first | exact Or.inl rfl | exact Or.inr rfl) (de_callB (cr_min rfl) r_minL (by rfl) z_min (by decide +kernel) (da_cons (de_add (de_ofF (df_lst (da_cons de_int da_nil))) (de_ofF (df_lc rfl sc.nd (di_seq (de_var 1)) (blkOk_by (own := [("i", 3), ("c", 4)]) rfl) (by decide) (fun _ _ _ _ _ => (dg_tup rfl (dgs_cons (dg_name sc.nd rfl (by first | exact Or.inl rfl | exact Or.inr rfl)) (dgs_cons (dg_name sc.nd rfl (by first | exact Or.inl rfl | exact Or.inr rfl)) dgs_nil)))) (fun _ _ _ _ _ => dts_nil) (fun _ _ _ _ _ => (de_var 3))))) da_nil)))
    (dss_one (ds_ret (de_call F__law_cut (hr.mono (by decide)) (by rfl) m__law_cut k__law_cut B__law_cut pass0 (da_cons (de_callB (cr_sum rfl) r_sum (by rfl) z_sum (by decide +kernel) (da_cons (de_ofF (df_lc rfl sc.nd (di_seq (de_var 1)) (blkOk_by (own := [("i", 3), ("c", 4)]) rfl) (by decide) (fun _ _ _ _ _ => (dg_tup rfl (dgs_cons (dg_name sc.nd rfl (by first | exact Or.inl rfl | exact Or.inr rfl)) (dgs_cons (dg_name sc.nd rfl (by first | exact Or.inl rfl | exact Or.inr rfl)) dgs_nil)))) (fun _ _ _ _ _ => dts_nil) (fun _ _ _ _ _ => (de_mul (de_var 4) (de_call F__law_power (hr.mono (by decide)) (by rfl) m__law_power k__law_power B__law_power pass0 (da_cons (de_var 0) (da_cons (de_mul (de_sub (de_var 3) (de_var 5)) (de_var 2)) da_nil))))))) da_nil)) (da_cons (de_call F__law_power (hr.mono (by decide)) (by rfl) m__law_power k__law_power B__law_power pass0 (da_cons (de_var 0) (da_cons (de_sub de_int (de_mul (de_var 5) (de_var 2))) da_nil))) da_nil))))))
/-! ### _law_less -/
abbrev s__law_less : Stmt := top 35
noncomputable def b__law_less : MS :=
    (mSeq (mSetF 2 (mDictOf (mCons (mSeal (mArgsF gListOf (mCons (mVar 0) mNil))) mNil)))
    (mSeq (mFor (mSeqI (mVar 1)) (mGTup 2 (mGCons (mName 3) (mGCons (mName 4) mGNil))) (mDPut 2 (mVar 3) (mOp2 gSub (mDGetOr 2 (mVar 3) (M.ret (.int 0))) (mVar 4))))
    (mRet (mArgs gTuple (mCons (mSeal (mLc [3] (mSeqI (mSeal (mSortedK 2))) (mName 3) (mB (mOp2 gNe (mDGet 2 (mVar 3)) (M.ret (.int 0)))) (mTup (mCons (mVar 3) (mCons (mDGet 2 (mVar 3)) mNil))))) mNil)))))
noncomputable def den__law_less : Dn := denOf 5 2 b__law_less
theorem sc__law_less : FnScope ["a", "b", "found", "i", "c"] ["a", "b"] (defScope s__law_less) := ⟨rfl, rfl, rfl, by decide +kernel, rfl, by decide +kernel, by decide +kernel⟩
theorem ok__law_less {f : Addr} {fd : FuncData} (F : Fun K "_law_less" "_law_less" s__law_less f fd) (hm : mg "_law_less" = some (.ref f)) (hB : Binds K fd ["a", "b"] [])  (z_list : mg "list" = none) (z_dict : mg "dict" = none) (z_sorted : mg "sorted" = none) (z_tuple : mg "tuple" = none)  :
    Cal P w K mg base 1 "_law_less" ["a", "b"] (spD K noX den__law_less) := by
  refine ⟨f, fd, Fun.okD F sc__law_less (fun cdv A outer s H E C hx hr => ?_), hm, F.kp, hB⟩
  · have hu1 := hu_of hr
    have hu64 := hr.units
    have hu65 := hu65_of hr
    have sc := sc__law_less
    exact (dss_cons (ds_setF sc.nd rfl (by first | exact Or.inl rfl | exact Or.inr rfl) (df_dictOf rfl (by rfl) z_dict (da_cons (de_ofF (df_listOf (by rfl) z_list (da_cons (de_var 0) da_nil))) da_nil)))
    (dss_cons (ds_for PassesOwn.never rfl (di_seq (de_var 1)) (dg_tup rfl (dgs_cons (dg_name sc.nd rfl (by first | exact Or.inl rfl | exact Or.inr rfl)) (dgs_cons (dg_name sc.nd rfl (by first | exact Or.inl rfl | exact Or.inr rfl)) dgs_nil))) (dss_one (ds_dput 2 hu1 (de_var 3) (de_sub (de_dgetOr 2 hu1 (de_var 3) de_int ⟨rfl, rfl, rfl, rfl⟩) (de_var 4)))))
    (dss_one (ds_ret (de_callTy call_tupleN r_tuple (by rfl) z_tuple (by decide +kernel) (da_cons (de_ofF (df_lc rfl sc.nd (di_seq (de_ofF (df_sortedK 2 rfl (by rfl) z_sorted))) (blkOk_by (own := [("i", 3)]) rfl) (by decide) (fun _ _ _ _ _ => (dg_name sc.nd rfl (by first | exact Or.inl rfl | exact Or.inr rfl))) (fun _ _ _ _ _ => (dts_one (dt_ne hu64 (de_dget 2 hu1 (fun _ _ => rfl) (de_var 3)) de_int))) (fun _ _ _ _ _ => (de_tup (da_cons (de_var 3) (da_cons (de_dget 2 hu1 (fun _ _ => rfl) (de_var 3)) da_nil)))))) da_nil))))))
/-! ### _law_sign -/
abbrev s__law_sign : Stmt := top 36
noncomputable def b__law_sign : MS :=
    (mSeq (mSet 3 (mOp2 gIx (mCall den__law_at (mCons (mVar 0) (mCons (mVar 1) (mCons (mVar 2) mNil)))) (M.ret (.int 0))))
    (mRet (mOp2 gSub (mArgs gInt (mCons (mOp2 gGt (mVar 3) (M.ret (.int 0))) mNil)) (mArgs gInt (mCons (mOp2 gLt (mVar 3) (M.ret (.int 0))) mNil)))))
noncomputable def den__law_sign : Dn := denOf 4 3 b__law_sign
theorem sc__law_sign : FnScope ["p", "powers", "n", "top"] ["p", "powers", "n"] (defScope s__law_sign) := ⟨rfl, rfl, rfl, by decide +kernel, rfl, by decide +kernel, by decide +kernel⟩
theorem ok__law_sign {f : Addr} {fd : FuncData} (F : Fun K "_law_sign" "_law_sign" s__law_sign f fd) (hm : mg "_law_sign" = some (.ref f)) (hB : Binds K fd ["p", "powers", "n"] []) (c__law_at : Cal P w K mg base 2 "_law_at" ["p", "powers", "n"] (spD K noX den__law_at)) (z_int : mg "int" = none)  :
    Cal P w K mg base 3 "_law_sign" ["p", "powers", "n"] (spD K noX den__law_sign) := by
  obtain ⟨f__law_at, fd__law_at, F__law_at, m__law_at, k__law_at, B__law_at⟩ := c__law_at.ex
  refine ⟨f, fd, Fun.okD F sc__law_sign (fun cdv A outer s H E C hx hr => ?_), hm, F.kp, hB⟩
  · have hu1 := hu_of hr
    have hu64 := hr.units
    have hu65 := hu65_of hr
    have sc := sc__law_sign
    exact (dss_cons (ds_set sc.nd rfl (by first | exact Or.inl rfl | exact Or.inr rfl) (de_ix (fun _ _ => rfl) (de_call F__law_at (hr.mono (by decide)) (by rfl) m__law_at k__law_at B__law_at pass0 (da_cons (de_var 0) (da_cons (de_var 1) (da_cons (de_var 2) da_nil)))) de_int))
    (dss_one (ds_ret (de_sub (de_callTy call_int1 r_int1 (by rfl) z_int (by decide +kernel) (da_cons (de_gt (de_var 3) de_int) da_nil)) (de_callTy call_int1 r_int1 (by rfl) z_int (by decide +kernel) (da_cons (de_lt (de_var 3) de_int) da_nil))))))
/-! ### _law_weights -/
abbrev s__law_weights : Stmt := top 37
noncomputable def b__law_weights : MS :=
    (mSeq (mSet 3 (mOp2 gIx (mOp2 gIx (mVar 1) (mOp1 gNeg (M.ret (.int 1)))) (M.ret (.int 1))))
    (mRet (mTup (mCons (mOp2 gMul (mArgs gAbs (mCons (mVar 3) mNil)) (mCall den__law_power (mCons (mVar 0) (mCons (mVar 2) mNil)))) (mCons (mArgs gSum (mCons (mSeal (mLc [4, 5] (mSeqI (mVar 1)) (mGTup 2 (mGCons (mName 4) (mGCons (mName 5) mGNil))) (mB (mOp2 gNe (mOp2 gGt (mVar 5) (M.ret (.int 0))) (mOp2 gGt (mVar 3) (M.ret (.int 0))))) (mArgs gAbs (mCons (mVar 5) mNil)))) mNil)) mNil)))))
noncomputable def den__law_weights : Dn := denOf 6 3 b__law_weights
theorem sc__law_weights : FnScope ["p", "powers", "n", "last", "i", "c"] ["p", "powers", "n"] (defScope s__law_weights) := ⟨rfl, rfl, rfl, by decide +kernel, rfl, by decide +kernel, by decide +kernel⟩
theorem ok__law_weights {f : Addr} {fd : FuncData} (F : Fun K "_law_weights" "_law_weights" s__law_weights f fd) (hm : mg "_law_weights" = some (.ref f)) (hB : Binds K fd ["p", "powers", "n"] []) (c__law_power : Cal P w K mg base 1 "_law_power" ["p", "n"] (spD K noX den__law_power)) (z_abs : mg "abs" = none) (z_sum : mg "sum" = none)  :
    Cal P w K mg base 2 "_law_weights" ["p", "powers", "n"] (spD K noX den__law_weights) := by
  obtain ⟨f__law_power, fd__law_power, F__law_power, m__law_power, k__law_power, B__law_power⟩ := c__law_power.ex
  refine ⟨f, fd, Fun.okD F sc__law_weights (fun cdv A outer s H E C hx hr => ?_), hm, F.kp, hB⟩
  · have hu1 := hu_of hr
    have hu64 := hr.units
    have hu65 := hu65_of hr
    have sc := sc__law_weights
    exact (dss_cons (ds_set sc.nd rfl (by first | exact Or.inl rfl | exact Or.inr rfl) (de_ix (fun _ _ => rfl) (de_ix (fun _ _ => rfl) (de_var 1) (de_neg de_int)) de_int))
    (dss_one (ds_ret (de_tup (da_cons (de_mul (de_callB call_abs r_abs (by rfl) z_abs (by decide +kernel) (da_cons (de_var 3) da_nil)) (de_call F__law_power (hr.mono (by decide)) (by rfl) m__law_power k__law_power B__law_power pass0 (da_cons (de_var 0) (da_cons (de_var 2) da_nil)))) (da_cons (de_callB (cr_sum rfl) r_sum (by rfl) z_sum (by decide +kernel) (da_cons (de_ofF (df_lc rfl sc.nd (di_seq (de_var 1)) (blkOk_by (own := [("i", 4), ("c", 5)]) rfl) (by decide) (fun _ _ _ _ _ => (dg_tup rfl (dgs_cons (dg_name sc.nd rfl (by first | exact Or.inl rfl | exact Or.inr rfl)) (dgs_cons (dg_name sc.nd rfl (by first | exact Or.inl rfl | exact Or.inr rfl)) dgs_nil)))) (fun _ _ _ _ _ => (dts_one (dt_ne hu64 (de_gt (de_var 5) de_int) (de_gt (de_var 3) de_int)))) (fun _ _ _ _ _ => (de_callB call_abs r_abs (by rfl) z_abs (by decide +kernel) (da_cons (de_var 5) da_nil))))) da_nil)) da_nil))))))
/-! ### _law_is_settled -/
abbrev s__law_is_settled : Stmt := top 38
noncomputable def b__law_is_settled : MS :=
    (mSeq (mIf (mB (mOp2 gEq (mVar 1) (mTup mNil))) (mRet (M.ret (.bool true))) mSkip)
    (mSeq (mAsg (mCall den__law_weights (mCons (mVar 0) (mCons (mVar 1) (mCons (mVar 2) mNil)))) (mGTup 2 (mGCons (mName 3) (mGCons (mName 4) mGNil))))
    (mRet (mOp2 gGt (mVar 3) (mVar 4)))))
noncomputable def den__law_is_settled : Dn := denOf 5 3 b__law_is_settled
theorem sc__law_is_settled : FnScope ["p", "powers", "n", "one", "other"] ["p", "powers", "n"] (defScope s__law_is_settled) := ⟨rfl, rfl, rfl, by decide +kernel, rfl, by decide +kernel, by decide +kernel⟩
theorem ok__law_is_settled {f : Addr} {fd : FuncData} (F : Fun K "_law_is_settled" "_law_is_settled" s__law_is_settled f fd) (hm : mg "_law_is_settled" = some (.ref f)) (hB : Binds K fd ["p", "powers", "n"] []) (c__law_weights : Cal P w K mg base 2 "_law_weights" ["p", "powers", "n"] (spD K noX den__law_weights))   :
    Cal P w K mg base 3 "_law_is_settled" ["p", "powers", "n"] (spD K noX den__law_is_settled) := by
  obtain ⟨f__law_weights, fd__law_weights, F__law_weights, m__law_weights, k__law_weights, B__law_weights⟩ := c__law_weights.ex
  refine ⟨f, fd, Fun.okD F sc__law_is_settled (fun cdv A outer s H E C hx hr => ?_), hm, F.kp, hB⟩
  · have hu1 := hu_of hr
    have hu64 := hr.units
    have hu65 := hu65_of hr
    have sc := sc__law_is_settled
    exact (dss_cons (ds_if (dt_eq hu64 (de_var 1) (de_tup da_nil)) (dss_one (ds_ret de_bl)) dss_nil)
    (dss_cons (ds_asg (de_call F__law_weights (hr.mono (by decide)) (by rfl) m__law_weights k__law_weights B__law_weights pass0 (da_cons (de_var 0) (da_cons (de_var 1) (da_cons (de_var 2) da_nil)))) (dg_tup rfl (dgs_cons (dg_name sc.nd rfl (by first | exact Or.inl rfl | exact Or.inr rfl)) (dgs_cons (dg_name sc.nd rfl (by first | exact Or.inl rfl | exact Or.inr rfl)) dgs_nil))))
    (dss_one (ds_ret (de_gt (de_var 3) (de_var 4))))))
/-! ### _law_is_seen -/
abbrev s__law_is_seen : Stmt := top 39
noncomputable def b__law_is_seen : MS :=
    (mSeq (mIf (mB (mOp2 gEq (mVar 1) (mTup mNil))) (mRet (M.ret (.bool true))) mSkip)
    (mSeq (mAsg (mCall den__law_weights (mCons (mVar 0) (mCons (mVar 1) (mCons (mVar 2) mNil)))) (mGTup 2 (mGCons (mName 3) (mGCons (mName 4) mGNil))))
    (mRet (mAndD (mOp2 gGt (mOp2 gIx (mOp2 gIx (mVar 1) (mOp1 gNeg (M.ret (.int 1)))) (M.ret (.int 1))) (M.ret (.int 0))) (mOp2 gGe (mVar 3) (mVar 4))))))
noncomputable def den__law_is_seen : Dn := denOf 5 3 b__law_is_seen
theorem sc__law_is_seen : FnScope ["p", "powers", "n", "one", "other"] ["p", "powers", "n"] (defScope s__law_is_seen) := ⟨rfl, rfl, rfl, by decide +kernel, rfl, by decide +kernel, by decide +kernel⟩
theorem ok__law_is_seen {f : Addr} {fd : FuncData} (F : Fun K "_law_is_seen" "_law_is_seen" s__law_is_seen f fd) (hm : mg "_law_is_seen" = some (.ref f)) (hB : Binds K fd ["p", "powers", "n"] []) (c__law_weights : Cal P w K mg base 2 "_law_weights" ["p", "powers", "n"] (spD K noX den__law_weights))   :
    Cal P w K mg base 3 "_law_is_seen" ["p", "powers", "n"] (spD K noX den__law_is_seen) := by
  obtain ⟨f__law_weights, fd__law_weights, F__law_weights, m__law_weights, k__law_weights, B__law_weights⟩ := c__law_weights.ex
  refine ⟨f, fd, Fun.okD F sc__law_is_seen (fun cdv A outer s H E C hx hr => ?_), hm, F.kp, hB⟩
  · have hu1 := hu_of hr
    have hu64 := hr.units
    have hu65 := hu65_of hr
    have sc := sc__law_is_seen
    exact (dss_cons (ds_if (dt_eq hu64 (de_var 1) (de_tup da_nil)) (dss_one (ds_ret de_bl)) dss_nil)
    (dss_cons (ds_asg (de_call F__law_weights (hr.mono (by decide)) (by rfl) m__law_weights k__law_weights B__law_weights pass0 (da_cons (de_var 0) (da_cons (de_var 1) (da_cons (de_var 2) da_nil)))) (dg_tup rfl (dgs_cons (dg_name sc.nd rfl (by first | exact Or.inl rfl | exact Or.inr rfl)) (dgs_cons (dg_name sc.nd rfl (by first | exact Or.inl rfl | exact Or.inr rfl)) dgs_nil))))
    (dss_one (ds_ret (de_and (de_gt (de_ix (fun _ _ => rfl) (de_ix (fun _ _ => rfl) (de_var 1) (de_neg de_int)) de_int) de_int) (de_one (de_ge (de_var 3) (de_var 4))))))))
/-! ### _law_powers -/
abbrev s__law_powers : Stmt := top 40
noncomputable def b__law_powers : MS :=
    (mSeq (mSetF 1 (M.ret (.oK [])))
    (mSeq (mFor (mRange1 (mCons (mCallS den__law_pick 0 (mCons (M.ret (.int 5)) mNil)) mNil)) (mName 2) (mDPut 1 (mOp2 gSub (mCallS den__law_pick 0 (mCons (M.ret (.int 8)) mNil)) (M.ret (.int 4))) (mCallS den__law_of 0 (mCons (mSeal (mLst (mCons (M.ret (.int 1)) (mCons (mOp1 gNeg (M.ret (.int 1))) (mCons (M.ret (.int 2)) (mCons (mOp1 gNeg (M.ret (.int 2))) (mCons (M.ret (.int 3)) (mCons (mOp1 gNeg (M.ret (.int 3))) (mCons (mOp1 gNeg (M.ret (.int 4))) (mCons (M.ret (.int 6)) (mCons (M.ret (.int 8)) (mCons (mOp1 gNeg (M.ret (.int 8))) (mCons (M.ret (.int 12)) (mCons (mOp1 gNeg (M.ret (.int 20))) (mCons (M.ret (.int 100)) (mCons (mOp1 gNeg (M.ret (.int 100))) mNil)))))))))))))))) mNil))))
    (mRet (mArgs gTuple (mCons (mSeal (mLc [3] (mSeqI (mSeal (mSortedK 1))) (mName 3) mYes (mTup (mCons (mVar 3) (mCons (mDGet 1 (mVar 3)) mNil))))) mNil)))))
noncomputable def den__law_powers : Dn := denOf 4 1 b__law_powers
theorem sc__law_powers : FnScope ["source", "found", "turn", "i"] ["source"] (defScope s__law_powers) := ⟨rfl, rfl, rfl, by decide +kernel, rfl, by decide +kernel, by decide +kernel⟩
theorem ok__law_powers {f : Addr} {fd : FuncData} (F : Fun K "_law_powers" "_law_powers" s__law_powers f fd) (hm : mg "_law_powers" = some (.ref f)) (hB : Binds K fd ["source"] []) (c__law_pick : Cal P w K mg base 1 "_law_pick" ["source", "many"] (spD K noX den__law_pick)) (c__law_of : Cal P w K mg base 2 "_law_of" ["source", "some"] (spD K noX den__law_of)) (z_range : mg "range" = none) (z_sorted : mg "sorted" = none) (z_tuple : mg "tuple" = none)  :
    Cal P w K mg base 3 "_law_powers" ["source"] (spD K noX den__law_powers) := by
  obtain ⟨f__law_pick, fd__law_pick, F__law_pick, m__law_pick, k__law_pick, B__law_pick⟩ := c__law_pick.ex
  obtain ⟨f__law_of, fd__law_of, F__law_of, m__law_of, k__law_of, B__law_of⟩ := c__law_of.ex
  refine ⟨f, fd, Fun.okD F sc__law_powers (fun cdv A outer s H E C hx hr => ?_), hm, F.kp, hB⟩
  · have hu1 := hu_of hr
    have hu64 := hr.units
    have hu65 := hu65_of hr
    have sc := sc__law_powers
    exact (dss_cons (ds_setF sc.nd rfl (by first | exact Or.inl rfl | exact Or.inr rfl) df_dict)
    (dss_cons (ds_for PassesOwn.never rfl (di_range1 (by rfl) z_range (da_cons (de_callS 0 F__law_pick (hr.mono (by decide)) (by rfl) m__law_pick k__law_pick B__law_pick pass0 (da_cons de_int da_nil)) da_nil)) (dg_name sc.nd rfl (by first | exact Or.inl rfl | exact Or.inr rfl)) (dss_one (ds_dput 1 hu1 (de_sub (de_callS 0 F__law_pick (hr.mono (by decide)) (by rfl) m__law_pick k__law_pick B__law_pick pass0 (da_cons de_int da_nil)) de_int) (de_callS 0 F__law_of (hr.mono (by decide)) (by rfl) m__law_of k__law_of B__law_of pass0 (da_cons (de_ofF (df_lst (da_cons de_int (da_cons (de_neg de_int) (da_cons de_int (da_cons (de_neg de_int) (da_cons de_int (da_cons (de_neg de_int) (da_cons (de_neg de_int) (da_cons de_int (da_cons de_int (da_cons (de_neg de_int) (da_cons de_int (da_cons (de_neg de_int) (da_cons de_int (da_cons (de_neg de_int) da_nil)))))))))))))))) da_nil)))))
    (dss_one (ds_ret (de_callTy call_tupleN r_tuple (by rfl) z_tuple (by decide +kernel) (da_cons (de_ofF (df_lc rfl sc.nd (di_seq (de_ofF (df_sortedK 1 rfl (by rfl) z_sorted))) (blkOk_by (own := [("i", 3)]) rfl) (by decide) (fun _ _ _ _ _ => (dg_name sc.nd rfl (by first | exact Or.inl rfl | exact Or.inr rfl))) (fun _ _ _ _ _ => dts_nil) (fun _ _ _ _ _ => (de_tup (da_cons (de_var 3) (da_cons (de_dget 1 hu1 (fun _ _ => rfl) (de_var 3)) da_nil)))))) da_nil))))))
/-! ### _law_rooted -/
abbrev s__law_rooted : Stmt := top 41
noncomputable def b__law_rooted : MS :=
    (mSeq (mSetF 2 (mDict1 (M.ret (.int 0)) (mCallS den__law_of 0 (mCons (mSeal (mLst (mCons (M.ret (.int 1)) (mCons (mOp1 gNeg (M.ret (.int 1))) (mCons (M.ret (.int 2)) (mCons (mOp1 gNeg (M.ret (.int 3))) mNil)))))) mNil))))
    (mSeq (mFor (mRange1 (mCons (mOp2 gAdd (M.ret (.int 1)) (mCallS den__law_pick 0 (mCons (M.ret (.int 3)) mNil))) mNil)) (mName 3) (mSeq (mPar2 4 5 (mConsD (mCall den__law_power (mCons (mVar 1) (mCons (mCallS den__law_pick 0 (mCons (M.ret (.int 5)) mNil)) mNil))) (mConsF (M.ret (.oK [])) mNilV)))
    (mSeq (mForK 2 (mName 6) (mSeq (mDPut 5 (mOp2 gAdd (mVar 6) (M.ret (.int 1))) (mOp2 gAdd (mDGetOr 5 (mOp2 gAdd (mVar 6) (M.ret (.int 1))) (M.ret (.int 0))) (mDGet 2 (mVar 6))))
    (mDPut 5 (mVar 6) (mOp2 gSub (mDGetOr 5 (mVar 6) (M.ret (.int 0))) (mOp2 gMul (mDGet 2 (mVar 6)) (mVar 4))))))
    (mSetF 2 (mDictOf (mCons (mSeal (mItems 5)) mNil))))))
    (mSeq (mSet 7 (mCallS den__law_pick 0 (mCons (M.ret (.int 4)) mNil)))
    (mRet (mArgs gTuple (mCons (mSeal (mLc [6] (mSeqI (mSeal (mSortedK 2))) (mName 6) (mB (mOp2 gNe (mDGet 2 (mVar 6)) (M.ret (.int 0)))) (mTup (mCons (mOp2 gSub (mVar 6) (mVar 7)) (mCons (mDGet 2 (mVar 6)) mNil))))) mNil))))))
noncomputable def den__law_rooted : Dn := denOf 8 2 b__law_rooted
theorem sc__law_rooted : FnScope ["source", "p", "found", "turn", "root", "late", "i", "shift"] ["source", "p"] (defScope s__law_rooted) := ⟨rfl, rfl, rfl, by decide +kernel, rfl, by decide +kernel, by decide +kernel⟩
theorem ok__law_rooted {f : Addr} {fd : FuncData} (F : Fun K "_law_rooted" "_law_rooted" s__law_rooted f fd) (hm : mg "_law_rooted" = some (.ref f)) (hB : Binds K fd ["source", "p"] []) (c__law_of : Cal P w K mg base 2 "_law_of" ["source", "some"] (spD K noX den__law_of)) (c__law_pick : Cal P w K mg base 1 "_law_pick" ["source", "many"] (spD K noX den__law_pick)) (c__law_power : Cal P w K mg base 1 "_law_power" ["p", "n"] (spD K noX den__law_power)) (z_range : mg "range" = none) (z_list : mg "list" = none) (z_dict : mg "dict" = none) (z_sorted : mg "sorted" = none) (z_tuple : mg "tuple" = none)  :
    Cal P w K mg base 3 "_law_rooted" ["source", "p"] (spD K noX den__law_rooted) := by
  obtain ⟨f__law_of, fd__law_of, F__law_of, m__law_of, k__law_of, B__law_of⟩ := c__law_of.ex
  obtain ⟨f__law_pick, fd__law_pick, F__law_pick, m__law_pick, k__law_pick, B__law_pick⟩ := c__law_pick.ex
  obtain ⟨f__law_power, fd__law_power, F__law_power, m__law_power, k__law_power, B__law_power⟩ := c__law_power.ex
  refine ⟨f, fd, Fun.okD F sc__law_rooted (fun cdv A outer s H E C hx hr => ?_), hm, F.kp, hB⟩
  · have hu1 := hu_of hr
    have hu64 := hr.units
    have hu65 := hu65_of hr
    have sc := sc__law_rooted
    exact (dss_cons (ds_setF sc.nd rfl (by first | exact Or.inl rfl | exact Or.inr rfl) (df_dict1 de_int (de_callS 0 F__law_of (hr.mono (by decide)) (by rfl) m__law_of k__law_of B__law_of pass0 (da_cons (de_ofF (df_lst (da_cons de_int (da_cons (de_neg de_int) (da_cons de_int (da_cons (de_neg de_int) da_nil)))))) da_nil))))
    (dss_cons (ds_for PassesOwn.never rfl (di_range1 (by rfl) z_range (da_cons (de_add de_int (de_callS 0 F__law_pick (hr.mono (by decide)) (by rfl) m__law_pick k__law_pick B__law_pick pass0 (da_cons de_int da_nil))) da_nil)) (dg_name sc.nd rfl (by first | exact Or.inl rfl | exact Or.inr rfl)) (dss_cons (ds_par2 rfl sc.nd rfl rfl (by decide) rfl rfl (dv_d (de_call F__law_power (hr.mono (by decide)) (by rfl) m__law_power k__law_power B__law_power pass0 (da_cons (de_var 1) (da_cons (de_callS 0 F__law_pick (hr.mono (by decide)) (by rfl) m__law_pick k__law_pick B__law_pick pass0 (da_cons de_int da_nil)) da_nil))) (dv_f df_dict dv_nil)) rfl)
    (dss_cons (ds_forK 2 PassesOwn.never rfl (dg_name sc.nd rfl (by first | exact Or.inl rfl | exact Or.inr rfl)) (dss_cons (ds_dput 5 hu1 (de_add (de_var 6) de_int) (de_add (de_dgetOr 5 hu1 (de_add (de_var 6) de_int) de_int ⟨rfl, rfl, rfl, rfl⟩) (de_dget 2 hu1 (fun _ _ => rfl) (de_var 6))))
    (dss_one (ds_dput 5 hu1 (de_var 6) (de_sub (de_dgetOr 5 hu1 (de_var 6) de_int ⟨rfl, rfl, rfl, rfl⟩) (de_mul (de_dget 2 hu1 (fun _ _ => rfl) (de_var 6)) (de_var 4)))))))
    (dss_one (ds_setF sc.nd rfl (by first | exact Or.inl rfl | exact Or.inr rfl) (df_dictOf rfl (by rfl) z_dict (da_cons (de_ofF (df_items 5 rfl (by rfl) z_list)) da_nil)))))))
    (dss_cons (ds_set sc.nd rfl (by first | exact Or.inl rfl | exact Or.inr rfl) (de_callS 0 F__law_pick (hr.mono (by decide)) (by rfl) m__law_pick k__law_pick B__law_pick pass0 (da_cons de_int da_nil)))
    (dss_one (ds_ret (de_callTy call_tupleN r_tuple (by rfl) z_tuple (by decide +kernel) (da_cons (de_ofF (df_lc rfl sc.nd (di_seq (de_ofF (df_sortedK 2 rfl (by rfl) z_sorted))) (blkOk_by (own := [("i", 6)]) rfl) (by decide) (fun _ _ _ _ _ => (dg_name sc.nd rfl (by first | exact Or.inl rfl | exact Or.inr rfl))) (fun _ _ _ _ _ => (dts_one (dt_ne hu64 (de_dget 2 hu1 (fun _ _ => rfl) (de_var 6)) de_int))) (fun _ _ _ _ _ => (de_tup (da_cons (de_sub (de_var 6) (de_var 7)) (da_cons (de_dget 2 hu1 (fun _ _ => rfl) (de_var 6)) da_nil)))))) da_nil)))))))
/-! ### _law_is_int -/
abbrev s__law_is_int : Stmt := top 42
noncomputable def b__law_is_int : MS :=
    (mRet (mAndD (mIsi "int" (mVar 0)) (mAndD (mNotD (mIsi "bool" (mVar 0))) (mChain gLe gLe (mVar 1) (mVar 0) (mVar 2)))))
noncomputable def den__law_is_int : Dn := denOf 3 3 b__law_is_int
theorem sc__law_is_int : FnScope ["value", "least", "most"] ["value", "least", "most"] (defScope s__law_is_int) := ⟨rfl, rfl, rfl, by decide +kernel, rfl, by decide +kernel, by decide +kernel⟩
theorem ok__law_is_int {f : Addr} {fd : FuncData} (F : Fun K "_law_is_int" "_law_is_int" s__law_is_int f fd) (hm : mg "_law_is_int" = some (.ref f)) (hB : Binds K fd ["value", "least", "most"] [])  (z_isinstance : mg "isinstance" = none) (z_bool : mg "bool" = none) (z_int : mg "int" = none)  :
    Cal P w K mg base 1 "_law_is_int" ["value", "least", "most"] (spD K noX den__law_is_int) := by
  refine ⟨f, fd, Fun.okD F sc__law_is_int (fun cdv A outer s H E C hx hr => ?_), hm, F.kp, hB⟩
  · have hu1 := hu_of hr
    have hu64 := hr.units
    have hu65 := hu65_of hr
    have sc := sc__law_is_int
    exact (dss_one (ds_ret (de_and (de_isi (by rfl) z_isinstance (by rfl) z_int (by decide +kernel) (de_var 0)) (de_and (de_not (de_isi (by rfl) z_isinstance (by rfl) z_bool (by decide +kernel) (de_var 0))) (de_one (de_chain op_le op_le r_le r_le (de_var 1) (de_var 0) (de_var 2)))))))
/-! ### _law_is_fraction -/
abbrev s__law_is_fraction : Stmt := top 43
noncomputable def b__law_is_fraction : MS :=
    (mSeq (mIf (mOr (mNot (mB (mIsi "tuple" (mVar 0)))) (mOr (mB (mOp2 gNe (mArgs gLen (mCons (mVar 0) mNil)) (M.ret (.int 2)))) (mNot (mB (mArgs gAll (mCons (mSeal (mLc [1] (mSeqI (mVar 0)) (mName 1) mYes (mIsi "int" (mVar 1)))) mNil)))))) (mRet (M.ret (.bool false))) mSkip)
    (mSeq (mIf (mOr (mB (mIsi "bool" (mOp2 gIx (mVar 0) (M.ret (.int 0))))) (mOr (mB (mIsi "bool" (mOp2 gIx (mVar 0) (M.ret (.int 1))))) (mB (mOp2 gLt (mOp2 gIx (mVar 0) (M.ret (.int 1))) (M.ret (.int 1)))))) (mRet (M.ret (.bool false))) mSkip)
    (mRet (mOp2 gEq (mCall den__law_cut (mCons (mOp2 gIx (mVar 0) (M.ret (.int 0))) (mCons (mOp2 gIx (mVar 0) (M.ret (.int 1))) mNil))) (mVar 0)))))
noncomputable def den__law_is_fraction : Dn := denOf 2 1 b__law_is_fraction
theorem sc__law_is_fraction : FnScope ["value", "part"] ["value"] (defScope s__law_is_fraction) := ⟨rfl, rfl, rfl, by decide +kernel, rfl, by decide +kernel, by decide +kernel⟩
theorem ok__law_is_fraction {f : Addr} {fd : FuncData} (F : Fun K "_law_is_fraction" "_law_is_fraction" s__law_is_fraction f fd) (hm : mg "_law_is_fraction" = some (.ref f)) (hB : Binds K fd ["value"] []) (c__law_cut : Cal P w K mg base 1 "_law_cut" ["a", "b"] (spD K noX den__law_cut)) (z_isinstance : mg "isinstance" = none) (z_int : mg "int" = none) (z_all : mg "all" = none) (z_len : mg "len" = none) (z_tuple : mg "tuple" = none) (z_bool : mg "bool" = none)  :
    Cal P w K mg base 2 "_law_is_fraction" ["value"] (spD K noX den__law_is_fraction) := by
  obtain ⟨f__law_cut, fd__law_cut, F__law_cut, m__law_cut, k__law_cut, B__law_cut⟩ := c__law_cut.ex
  refine ⟨f, fd, Fun.okD F sc__law_is_fraction (fun cdv A outer s H E C hx hr => ?_), hm, F.kp, hB⟩
  · have hu1 := hu_of hr
    have hu64 := hr.units
    have hu65 := hu65_of hr
    have sc := sc__law_is_fraction
    exact (dss_cons (ds_if (dt_w (dw_or (dt_not (dt_val (de_isi (by rfl) z_isinstance (by rfl) z_tuple (by decide +kernel) (de_var 0)))) (dw_or (dt_ne hu64 (de_callB call_len r_len (by rfl) z_len (by decide +kernel) (da_cons (de_var 0) da_nil)) de_int) (dw_or1 (dt_not (dt_val (de_callB (cr_all rfl) r_all (by rfl) z_all (by decide +kernel) (da_cons (de_ofF (df_lc rfl sc.nd (di_seq (de_var 0)) (blkOk_by (own := [("part", 1)]) rfl) (by decide) (fun _ _ _ _ _ => (dg_name sc.nd rfl (by first | exact Or.inl rfl | exact Or.inr rfl))) (fun _ _ _ _ _ => dts_nil) (fun _ _ _ _ _ => (de_isi (by rfl) z_isinstance (by rfl) z_int (by decide +kernel) (de_var 1))))) da_nil)))))))) (dss_one (ds_ret de_bl)) dss_nil)
    (dss_cons (ds_if (dt_w (dw_or (dt_val (de_isi (by rfl) z_isinstance (by rfl) z_bool (by decide +kernel) (de_ix (fun _ _ => rfl) (de_var 0) de_int))) (dw_or (dt_val (de_isi (by rfl) z_isinstance (by rfl) z_bool (by decide +kernel) (de_ix (fun _ _ => rfl) (de_var 0) de_int))) (dw_or1 (dt_lt (de_ix (fun _ _ => rfl) (de_var 0) de_int) de_int))))) (dss_one (ds_ret de_bl)) dss_nil)
    (dss_one (ds_ret (de_eq hu64 (de_call F__law_cut (hr.mono (by decide)) (by rfl) m__law_cut k__law_cut B__law_cut pass0 (da_cons (de_ix (fun _ _ => rfl) (de_var 0) de_int) (da_cons (de_ix (fun _ _ => rfl) (de_var 0) de_int) da_nil))) (de_var 0))))))
/-! ### _law_judged -/
abbrev s__law_judged : Stmt := top 44
noncomputable def b__law_judged : MS :=
    (mSeq (mIf (mOr (mNot (mB (mIsi "tuple" (mVar 3)))) (mOr (mB (mOp2 gLt (mArgs gLen (mCons (mVar 3) mNil)) (M.ret (.int 2)))) (mOr (mB (mOp2 gNotInX (mOp2 gIx (mVar 3) (M.ret (.int 0))) (mTup (mCons (M.ret (.str "most")) (mCons (M.ret (.str "more")) mNil))))) (mNot (mB (mCall den__law_is_int (mCons (mOp2 gIx (mVar 3) (M.ret (.int 1))) (mCons (M.ret (.int 0)) (mCons (M.ret (.int 2000)) mNil))))))))) (mRet (mTup (mCons (M.ret (.str "form")) mNil))) mSkip)
    (mSeq (mPar2 4 5 (mConsD (mCall den__law_less (mCons (mVar 2) (mCons (mVar 1) mNil))) (mConsD (mOp2 gIx (mVar 3) (M.ret (.int 1))) mNilV)))
    (mSeq (mIf (mB (mOp2 gEq (mOp2 gIx (mVar 3) (M.ret (.int 0))) (M.ret (.str "most")))) (mSeq (mIf (mB (mOp2 gNe (mArgs gLen (mCons (mVar 3) mNil)) (M.ret (.int 2)))) (mRet (mTup (mCons (M.ret (.str "form")) mNil))) mSkip)
    (mSeq (mFor (mRange1 (mCons (mVar 5) mNil)) (mName 6) (mIf (mOr (mB (mOp2 gLt (mCall den__law_sign (mCons (mVar 0) (mCons (mVar 4) (mCons (mVar 6) mNil)))) (M.ret (.int 0)))) (mB (mCall den__law_is_seen (mCons (mVar 0) (mCons (mVar 4) (mCons (mVar 6) mNil)))))) (mRet (mIf (mB (mOp2 gLt (mCall den__law_sign (mCons (mVar 0) (mCons (mVar 4) (mCons (mVar 6) mNil)))) (M.ret (.int 0)))) (mTup (mCons (M.ret (.str "below")) (mCons (mVar 6) mNil))) (mTup (mCons (M.ret (.str "early")) (mCons (mVar 6) mNil))))) mSkip))
    (mSeq (mIf (mB (mOp2 gLt (mCall den__law_sign (mCons (mVar 0) (mCons (mVar 4) (mCons (mVar 5) mNil)))) (M.ret (.int 0)))) (mRet (mTup (mCons (M.ret (.str "below")) (mCons (mVar 5) mNil)))) mSkip)
    (mRet (mIf (mB (mCall den__law_is_seen (mCons (mVar 0) (mCons (mVar 4) (mCons (mVar 5) mNil))))) (M.ret .none) (mTup (mCons (M.ret (.str "late")) (mCons (mVar 5) mNil)))))))) mSkip)
    (mSeq (mIf (mOr (mB (mOp2 gNe (mArgs gLen (mCons (mVar 3) mNil)) (M.ret (.int 4)))) (mOr (mNot (mB (mCall den__law_is_fraction (mCons (mOp2 gIx (mVar 3) (M.ret (.int 2))) mNil)))) (mNot (mB (mCall den__law_is_fraction (mCons (mOp2 gIx (mVar 3) (M.ret (.int 3))) mNil)))))) (mRet (mTup (mCons (M.ret (.str "form")) mNil))) mSkip)
    (mSeq (mSet 7 (mTup (mCons (mCall den__law_at (mCons (mVar 0) (mCons (mVar 1) (mCons (mVar 5) mNil)))) (mCons (mCall den__law_at (mCons (mVar 0) (mCons (mVar 2) (mCons (mVar 5) mNil)))) mNil))))
    (mSeq (mIf (mB (mOp2 gNe (mCut (mVar 3) (mSo (M.ret (.int 2))) mNo) (mVar 7))) (mRet (mOp2 gAdd (mTup (mCons (M.ret (.str "fractions")) mNil)) (mVar 7))) mSkip)
    (mRet (mIf (mB (mOp2 gGe (mCall den__law_sign (mCons (mVar 0) (mCons (mVar 4) (mCons (mVar 5) mNil)))) (M.ret (.int 0)))) (mTup (mCons (M.ret (.str "most")) mNil)) (M.ret .none)))))))))
noncomputable def den__law_judged : Dn := denOf 8 4 b__law_judged
theorem sc__law_judged : FnScope ["p", "a", "b", "value", "late", "n", "i", "due"] ["p", "a", "b", "value"] (defScope s__law_judged) := ⟨rfl, rfl, rfl, by decide +kernel, rfl, by decide +kernel, by decide +kernel⟩
theorem ok__law_judged {f : Addr} {fd : FuncData} (F : Fun K "_law_judged" "_law_judged" s__law_judged f fd) (hm : mg "_law_judged" = some (.ref f)) (hB : Binds K fd ["p", "a", "b", "value"] []) (c__law_is_int : Cal P w K mg base 1 "_law_is_int" ["value", "least", "most"] (spD K noX den__law_is_int)) (c__law_less : Cal P w K mg base 1 "_law_less" ["a", "b"] (spD K noX den__law_less)) (c__law_is_seen : Cal P w K mg base 3 "_law_is_seen" ["p", "powers", "n"] (spD K noX den__law_is_seen)) (c__law_sign : Cal P w K mg base 3 "_law_sign" ["p", "powers", "n"] (spD K noX den__law_sign)) (c__law_is_fraction : Cal P w K mg base 2 "_law_is_fraction" ["value"] (spD K noX den__law_is_fraction)) (c__law_at : Cal P w K mg base 2 "_law_at" ["p", "powers", "n"] (spD K noX den__law_at)) (z_len : mg "len" = none) (z_isinstance : mg "isinstance" = none) (z_tuple : mg "tuple" = none) (z_range : mg "range" = none)  :
    Cal P w K mg base 4 "_law_judged" ["p", "a", "b", "value"] (spD K noX den__law_judged) := by
  obtain ⟨f__law_is_int, fd__law_is_int, F__law_is_int, m__law_is_int, k__law_is_int, B__law_is_int⟩ := c__law_is_int.ex
  obtain ⟨f__law_less, fd__law_less, F__law_less, m__law_less, k__law_less, B__law_less⟩ := c__law_less.ex
  obtain ⟨f__law_is_seen, fd__law_is_seen, F__law_is_seen, m__law_is_seen, k__law_is_seen, B__law_is_seen⟩ := c__law_is_seen.ex
  obtain ⟨f__law_sign, fd__law_sign, F__law_sign, m__law_sign, k__law_sign, B__law_sign⟩ := c__law_sign.ex
  obtain ⟨f__law_is_fraction, fd__law_is_fraction, F__law_is_fraction, m__law_is_fraction, k__law_is_fraction, B__law_is_fraction⟩ := c__law_is_fraction.ex
  obtain ⟨f__law_at, fd__law_at, F__law_at, m__law_at, k__law_at, B__law_at⟩ := c__law_at.ex
  refine ⟨f, fd, Fun.okD F sc__law_judged (fun cdv A outer s H E C hx hr => ?_), hm, F.kp, hB⟩
  · have hu1 := hu_of hr
    have hu64 := hr.units
    have hu65 := hu65_of hr
    have sc := sc__law_judged
    exact (dss_cons (ds_if (dt_w (dw_or (dt_not (dt_val (de_isi (by rfl) z_isinstance (by rfl) z_tuple (by decide +kernel) (de_var 3)))) (dw_or (dt_lt (de_callB call_len r_len (by rfl) z_len (by decide +kernel) (da_cons (de_var 3) da_nil)) de_int) (dw_or (dt_notInX hu65 (de_ix (fun _ _ => rfl) (de_var 3) de_int) (de_tup (da_cons de_str (da_cons de_str da_nil)))) (dw_or1 (dt_not (dt_val (de_call F__law_is_int (hr.mono (by decide)) (by rfl) m__law_is_int k__law_is_int B__law_is_int pass0 (da_cons (de_ix (fun _ _ => rfl) (de_var 3) de_int) (da_cons de_int (da_cons de_int da_nil))))))))))) (dss_one (ds_ret (de_tup (da_cons de_str da_nil)))) dss_nil)
    (dss_cons (ds_par2 rfl sc.nd rfl rfl (by decide) rfl rfl (dv_d (de_call F__law_less (hr.mono (by decide)) (by rfl) m__law_less k__law_less B__law_less pass0 (da_cons (de_var 2) (da_cons (de_var 1) da_nil))) (dv_d (de_ix (fun _ _ => rfl) (de_var 3) de_int) dv_nil)) rfl)
    (dss_cons (ds_if (dt_eq hu64 (de_ix (fun _ _ => rfl) (de_var 3) de_int) de_str) (dss_cons (ds_if (dt_ne hu64 (de_callB call_len r_len (by rfl) z_len (by decide +kernel) (da_cons (de_var 3) da_nil)) de_int) (dss_one (ds_ret (de_tup (da_cons de_str da_nil)))) dss_nil)
    (dss_cons (ds_for PassesOwn.never rfl (di_range1 (by rfl) z_range (da_cons (de_var 5) da_nil)) (dg_name sc.nd rfl (by first | exact Or.inl rfl | exact Or.inr rfl)) (dss_one (ds_if (dt_w (dw_or (dt_lt (de_call F__law_sign (hr.mono (by decide)) (by rfl) m__law_sign k__law_sign B__law_sign pass0 (da_cons (de_var 0) (da_cons (de_var 4) (da_cons (de_var 6) da_nil)))) de_int) (dw_or1 (dt_val (de_call F__law_is_seen (hr.mono (by decide)) (by rfl) m__law_is_seen k__law_is_seen B__law_is_seen pass0 (da_cons (de_var 0) (da_cons (de_var 4) (da_cons (de_var 6) da_nil)))))))) (dss_one (ds_ret (de_ifExp (dt_lt (de_call F__law_sign (hr.mono (by decide)) (by rfl) m__law_sign k__law_sign B__law_sign pass0 (da_cons (de_var 0) (da_cons (de_var 4) (da_cons (de_var 6) da_nil)))) de_int) (de_tup (da_cons de_str (da_cons (de_var 6) da_nil))) (de_tup (da_cons de_str (da_cons (de_var 6) da_nil)))))) dss_nil)))
    (dss_cons (ds_if (dt_lt (de_call F__law_sign (hr.mono (by decide)) (by rfl) m__law_sign k__law_sign B__law_sign pass0 (da_cons (de_var 0) (da_cons (de_var 4) (da_cons (de_var 5) da_nil)))) de_int) (dss_one (ds_ret (de_tup (da_cons de_str (da_cons (de_var 5) da_nil))))) dss_nil)
    (dss_one (ds_ret (de_ifExp (dt_val (de_call F__law_is_seen (hr.mono (by decide)) (by rfl) m__law_is_seen k__law_is_seen B__law_is_seen pass0 (da_cons (de_var 0) (da_cons (de_var 4) (da_cons (de_var 5) da_nil))))) de_non (de_tup (da_cons de_str (da_cons (de_var 5) da_nil))))))))) dss_nil)
    (dss_cons (ds_if (dt_w (dw_or (dt_ne hu64 (de_callB call_len r_len (by rfl) z_len (by decide +kernel) (da_cons (de_var 3) da_nil)) de_int) (dw_or (dt_not (dt_val (de_call F__law_is_fraction (hr.mono (by decide)) (by rfl) m__law_is_fraction k__law_is_fraction B__law_is_fraction pass0 (da_cons (de_ix (fun _ _ => rfl) (de_var 3) de_int) da_nil)))) (dw_or1 (dt_not (dt_val (de_call F__law_is_fraction (hr.mono (by decide)) (by rfl) m__law_is_fraction k__law_is_fraction B__law_is_fraction pass0 (da_cons (de_ix (fun _ _ => rfl) (de_var 3) de_int) da_nil)))))))) (dss_one (ds_ret (de_tup (da_cons de_str da_nil)))) dss_nil)
    (dss_cons (ds_set sc.nd rfl (by first | exact Or.inl rfl | exact Or.inr rfl) (de_tup (da_cons (de_call F__law_at (hr.mono (by decide)) (by rfl) m__law_at k__law_at B__law_at pass0 (da_cons (de_var 0) (da_cons (de_var 1) (da_cons (de_var 5) da_nil)))) (da_cons (de_call F__law_at (hr.mono (by decide)) (by rfl) m__law_at k__law_at B__law_at pass0 (da_cons (de_var 0) (da_cons (de_var 2) (da_cons (de_var 5) da_nil)))) da_nil))))
    (dss_cons (ds_if (dt_ne hu64 (de_slice (de_var 3) (do_some de_int) do_none) (de_var 7)) (dss_one (ds_ret (de_add (de_tup (da_cons de_str da_nil)) (de_var 7)))) dss_nil)
    (dss_one (ds_ret (de_ifExp (dt_ge (de_call F__law_sign (hr.mono (by decide)) (by rfl) m__law_sign k__law_sign B__law_sign pass0 (da_cons (de_var 0) (da_cons (de_var 4) (da_cons (de_var 5) da_nil)))) de_int) (de_tup (da_cons de_str da_nil)) de_non)))))))))
/-! ### _law_signs_judged -/
abbrev s__law_signs_judged : Stmt := top 45
noncomputable def b__law_signs_judged : MS :=
    (mSeq (mIf (mOr (mNot (mB (mIsi "tuple" (mVar 2)))) (mB (mOp2 gEq (mVar 2) (mTup mNil)))) (mRet (mTup (mCons (M.ret (.str "form")) mNil))) mSkip)
    (mSeq (mFor (mSeqI (mVar 2)) (mName 3) (mIf (mOr (mNot (mB (mIsi "tuple" (mVar 3)))) (mOr (mB (mOp2 gNe (mArgs gLen (mCons (mVar 3) mNil)) (M.ret (.int 2)))) (mOr (mNot (mB (mCall den__law_is_int (mCons (mOp2 gIx (mVar 3) (M.ret (.int 0))) (mCons (M.ret (.int 0)) (mCons (M.ret (.int 2000)) mNil)))))) (mNot (mB (mCall den__law_is_int (mCons (mOp2 gIx (mVar 3) (M.ret (.int 1))) (mCons (mOp1 gNeg (M.ret (.int 1))) (mCons (M.ret (.int 1)) mNil))))))))) (mRet (mTup (mCons (M.ret (.str "form")) mNil))) mSkip))
    (mSeq (mIf (mOr (mB (mOp2 gNe (mOp2 gIx (mOp2 gIx (mVar 2) (M.ret (.int 0))) (M.ret (.int 0))) (M.ret (.int 0)))) (mB (mOp2 gNe (mSeal (mLc [4, 5] (mZip (mCons (mVar 2) (mCons (mCut (mVar 2) (mSo (M.ret (.int 1))) mNo) mNil))) (mGTup 2 (mGCons (mName 4) (mGCons (mName 5) mGNil))) (mOr (mB (mOp2 gGe (mOp2 gIx (mVar 4) (M.ret (.int 0))) (mOp2 gIx (mVar 5) (M.ret (.int 0))))) (mB (mOp2 gEq (mOp2 gIx (mVar 4) (M.ret (.int 1))) (mOp2 gIx (mVar 5) (M.ret (.int 1)))))) (M.ret (.int 1)))) (mSeal (mLst mNil))))) (mRet (mTup (mCons (M.ret (.str "form")) mNil))) mSkip)
    (mSeq (mSet 6 (M.ret (.int 0)))
    (mSeq (mWhile (mOr (mB (mOp2 gLe (mVar 6) (mOp2 gIx (mOp2 gIx (mVar 2) (mOp1 gNeg (M.ret (.int 1)))) (M.ret (.int 0))))) (mNot (mB (mCall den__law_is_settled (mCons (mVar 0) (mCons (mVar 1) (mCons (mVar 6) mNil))))))) (mSeq (mIf (mB (mOp2 gNe (mCall den__law_sign (mCons (mVar 0) (mCons (mVar 1) (mCons (mVar 6) mNil)))) (mOp2 gIx (mSeal (mLc [7, 8] (mSeqI (mVar 2)) (mGTup 2 (mGCons (mName 7) (mGCons (mName 8) mGNil))) (mB (mOp2 gLe (mVar 7) (mVar 6))) (mVar 8))) (mOp1 gNeg (M.ret (.int 1)))))) (mRet (mTup (mCons (M.ret (.str "sign")) (mCons (mVar 6) mNil)))) mSkip)
    (mSet 6 (mOp2 gAdd (mVar 6) (M.ret (.int 1))))))
    (mRet (mIf (mB (mOp2 gNe (mCall den__law_sign (mCons (mVar 0) (mCons (mVar 1) (mCons (mVar 6) mNil)))) (mOp2 gIx (mOp2 gIx (mVar 2) (mOp1 gNeg (M.ret (.int 1)))) (M.ret (.int 1))))) (mTup (mCons (M.ret (.str "sign")) (mCons (mVar 6) mNil))) (M.ret .none))))))))
noncomputable def den__law_signs_judged : Dn := denOf 9 3 b__law_signs_judged
theorem sc__law_signs_judged : FnScope ["p", "powers", "value", "pair", "one", "late", "n", "at", "sign"] ["p", "powers", "value"] (defScope s__law_signs_judged) := ⟨rfl, rfl, rfl, by decide +kernel, rfl, by decide +kernel, by decide +kernel⟩
theorem ok__law_signs_judged {f : Addr} {fd : FuncData} (F : Fun K "_law_signs_judged" "_law_signs_judged" s__law_signs_judged f fd) (hm : mg "_law_signs_judged" = some (.ref f)) (hB : Binds K fd ["p", "powers", "value"] []) (c__law_is_int : Cal P w K mg base 1 "_law_is_int" ["value", "least", "most"] (spD K noX den__law_is_int)) (c__law_is_settled : Cal P w K mg base 3 "_law_is_settled" ["p", "powers", "n"] (spD K noX den__law_is_settled)) (c__law_sign : Cal P w K mg base 3 "_law_sign" ["p", "powers", "n"] (spD K noX den__law_sign)) (z_isinstance : mg "isinstance" = none) (z_tuple : mg "tuple" = none) (z_len : mg "len" = none) (z_zip : mg "zip" = none)  :
    Cal P w K mg base 4 "_law_signs_judged" ["p", "powers", "value"] (spD K noX den__law_signs_judged) := by
  obtain ⟨f__law_is_int, fd__law_is_int, F__law_is_int, m__law_is_int, k__law_is_int, B__law_is_int⟩ := c__law_is_int.ex
  obtain ⟨f__law_is_settled, fd__law_is_settled, F__law_is_settled, m__law_is_settled, k__law_is_settled, B__law_is_settled⟩ := c__law_is_settled.ex
  obtain ⟨f__law_sign, fd__law_sign, F__law_sign, m__law_sign, k__law_sign, B__law_sign⟩ := c__law_sign.ex
  refine ⟨f, fd, Fun.okD F sc__law_signs_judged (fun cdv A outer s H E C hx hr => ?_), hm, F.kp, hB⟩
  · have hu1 := hu_of hr
    have hu64 := hr.units
    have hu65 := hu65_of hr
    have sc := sc__law_signs_judged
    exact (dss_cons (ds_if (dt_w (dw_or (dt_not (dt_val (de_isi (by rfl) z_isinstance (by rfl) z_tuple (by decide +kernel) (de_var 2)))) (dw_or1 (dt_eq hu64 (de_var 2) (de_tup da_nil))))) (dss_one (ds_ret (de_tup (da_cons de_str da_nil)))) dss_nil)
    (dss_cons (ds_for PassesOwn.never rfl (di_seq (de_var 2)) (dg_name sc.nd rfl (by first | exact Or.inl rfl | exact Or.inr rfl)) (dss_one (ds_if (dt_w (dw_or (dt_not (dt_val (de_isi (by rfl) z_isinstance (by rfl) z_tuple (by decide +kernel) (de_var 3)))) (dw_or (dt_ne hu64 (de_callB call_len r_len (by rfl) z_len (by decide +kernel) (da_cons (de_var 3) da_nil)) de_int) (dw_or (dt_not (dt_val (de_call F__law_is_int (hr.mono (by decide)) (by rfl) m__law_is_int k__law_is_int B__law_is_int pass0 (da_cons (de_ix (fun _ _ => rfl) (de_var 3) de_int) (da_cons de_int (da_cons de_int da_nil)))))) (dw_or1 (dt_not (dt_val (de_call F__law_is_int (hr.mono (by decide)) (by rfl) m__law_is_int k__law_is_int B__law_is_int pass0 (da_cons (de_ix (fun _ _ => rfl) (de_var 3) de_int) (da_cons (de_neg de_int) (da_cons de_int da_nil))))))))))) (dss_one (ds_ret (de_tup (da_cons de_str da_nil)))) dss_nil)))
    (dss_cons (ds_if (dt_w (dw_or (dt_ne hu64 (de_ix (fun _ _ => rfl) (de_ix (fun _ _ => rfl) (de_var 2) de_int) de_int) de_int) (dw_or1 (dt_ne hu64 (de_ofF (df_lc rfl sc.nd (di_zip (by rfl) z_zip (da_cons (de_var 2) (da_cons (de_slice (de_var 2) (do_some de_int) do_none) da_nil))) (blkOk_by (own := [("one", 4), ("late", 5)]) rfl) (by decide) (fun _ _ _ _ _ => (dg_tup rfl (dgs_cons (dg_name sc.nd rfl (by first | exact Or.inl rfl | exact Or.inr rfl)) (dgs_cons (dg_name sc.nd rfl (by first | exact Or.inl rfl | exact Or.inr rfl)) dgs_nil)))) (fun _ _ _ _ _ => (dts_one (dt_w (dw_or (dt_ge (de_ix (fun _ _ => rfl) (de_var 4) de_int) (de_ix (fun _ _ => rfl) (de_var 5) de_int)) (dw_or1 (dt_eq hu64 (de_ix (fun _ _ => rfl) (de_var 4) de_int) (de_ix (fun _ _ => rfl) (de_var 5) de_int))))))) (fun _ _ _ _ _ => de_int))) (de_ofF (df_lst da_nil)))))) (dss_one (ds_ret (de_tup (da_cons de_str da_nil)))) dss_nil)
    (dss_cons (ds_set sc.nd rfl (by first | exact Or.inl rfl | exact Or.inr rfl) de_int)
    (dss_cons (ds_while PassesOwn.never (dt_w (dw_or (dt_le (de_var 6) (de_ix (fun _ _ => rfl) (de_ix (fun _ _ => rfl) (de_var 2) (de_neg de_int)) de_int)) (dw_or1 (dt_not (dt_val (de_call F__law_is_settled (hr.mono (by decide)) (by rfl) m__law_is_settled k__law_is_settled B__law_is_settled pass0 (da_cons (de_var 0) (da_cons (de_var 1) (da_cons (de_var 6) da_nil))))))))) (dss_cons (ds_if (dt_ne hu64 (de_call F__law_sign (hr.mono (by decide)) (by rfl) m__law_sign k__law_sign B__law_sign pass0 (da_cons (de_var 0) (da_cons (de_var 1) (da_cons (de_var 6) da_nil)))) (de_ix (fun _ _ => rfl) (de_ofF (df_lc rfl sc.nd (di_seq (de_var 2)) (blkOk_by (own := [("at", 7), ("sign", 8)]) rfl) (by decide) (fun _ _ _ _ _ => (dg_tup rfl (dgs_cons (dg_name sc.nd rfl (by first | exact Or.inl rfl | exact Or.inr rfl)) (dgs_cons (dg_name sc.nd rfl (by first | exact Or.inl rfl | exact Or.inr rfl)) dgs_nil)))) (fun _ _ _ _ _ => (dts_one (dt_le (de_var 7) (de_var 6)))) (fun _ _ _ _ _ => (de_var 8)))) (de_neg de_int))) (dss_one (ds_ret (de_tup (da_cons de_str (da_cons (de_var 6) da_nil))))) dss_nil)
    (dss_one (ds_set sc.nd rfl (by first | exact Or.inl rfl | exact Or.inr rfl) (de_add (de_var 6) de_int)))))
    (dss_one (ds_ret (de_ifExp (dt_ne hu64 (de_call F__law_sign (hr.mono (by decide)) (by rfl) m__law_sign k__law_sign B__law_sign pass0 (da_cons (de_var 0) (da_cons (de_var 1) (da_cons (de_var 6) da_nil)))) (de_ix (fun _ _ => rfl) (de_ix (fun _ _ => rfl) (de_var 2) (de_neg de_int)) de_int)) (de_tup (da_cons de_str (da_cons (de_var 6) da_nil))) de_non))))))))
/-! ### _law_answers -/
abbrev s__law_answers : Stmt := top 46
noncomputable def b__law_answers : MS :=
    (mSeq (mSet 4 (mCallS den__law_of 0 (mCons (mSeal (mLst (mCons (M.ret (.int 0)) (mCons (M.ret (.int 1)) (mCons (M.ret (.int 2)) (mCons (M.ret (.int 3)) (mCons (M.ret (.int 5)) (mCons (M.ret (.int 9)) (mCons (M.ret (.int 40)) mNil))))))))) mNil)))
    (mSeq (mPar2 5 6 (mConsD (mCall den__law_at (mCons (mVar 1) (mCons (mVar 2) (mCons (mVar 4) mNil)))) (mConsD (mCall den__law_at (mCons (mVar 1) (mCons (mVar 3) (mCons (mVar 4) mNil)))) mNilV)))
    (mSeq (mSet 7 (mSeal (mLst (mCons (mTup (mCons (M.ret (.str "most")) (mCons (mVar 4) mNil))) (mCons (mTup (mCons (M.ret (.str "most")) (mCons (M.ret (.int 0)) mNil))) (mCons (mTup (mCons (M.ret (.str "most")) (mCons (M.ret (.int 1)) mNil))) (mCons (mTup (mCons (M.ret (.str "more")) (mCons (mVar 4) (mCons (mVar 5) (mCons (mVar 6) mNil))))) (mCons (mTup (mCons (M.ret (.str "more")) (mCons (mVar 4) (mCons (mVar 6) (mCons (mVar 5) mNil))))) (mCons (mTup (mCons (M.ret (.str "more")) (mCons (mVar 4) (mCons (mVar 5) mNil)))) (mCons (mTup (mCons (M.ret (.str "more")) (mCons (mVar 4) (mCons (mTup (mCons (M.ret (.int 2)) (mCons (M.ret (.int 4)) mNil))) (mCons (mVar 6) mNil))))) mNil))))))))))
    (mSeq (mSet 7 (mOp2 gAdd (mVar 7) (mSeal (mLst (mCons (mTup (mCons (M.ret (.str "most")) (mCons (M.ret (.bool true)) mNil))) (mCons (mTup (mCons (M.ret (.str "most")) (mCons (mOp1 gNeg (M.ret (.int 1))) mNil))) (mCons (mTup (mCons (M.ret (.str "most")) (mCons (M.ret (.int 2001)) mNil))) (mCons (mTup (mCons (M.ret (.str "most")) (mCons (M.ret (.int 1)) (mCons (M.ret (.int 2)) mNil)))) (mCons (mTup (mCons (M.ret (.str "more")) (mCons (M.ret (.bool true)) (mCons (mVar 5) (mCons (mVar 6) mNil))))) (mCons (mTup (mCons (M.ret (.str "more")) (mCons (mVar 4) (mCons (mVar 5) (mCons (mTup (mCons (M.ret (.int 1)) (mCons (M.ret (.int 0)) mNil))) mNil))))) mNil))))))))))
    (mSeq (mSet 7 (mOp2 gAdd (mVar 7) (mSeal (mLst (mCons (M.ret .none) (mCons (M.ret (.str "most")) (mCons (mTup (mCons (M.ret (.str "same")) (mCons (M.ret (.int 1)) mNil))) (mCons (mTup (mCons (M.ret (.int 1)) (mCons (M.ret (.int 2)) mNil))) (mCons (mSeal (mLst (mCons (M.ret (.str "most")) (mCons (M.ret (.int 0)) mNil)))) (mCons (mTup (mCons (M.ret (.str "most")) mNil)) (mCons (mTup mNil) (mCons (mTup (mCons (M.ret (.str "more")) (mCons (mVar 4) (mCons (mSeal (mArgsF gListOf (mCons (mVar 5) mNil))) (mCons (mVar 6) mNil))))) (mCons (mTup (mCons (mTup (mCons (M.ret (.str "most")) mNil)) (mCons (M.ret (.int 0)) mNil))) mNil)))))))))))))
    (mRet (mOp2 gAdd (mVar 7) (mSeal (mLst (mCons (mTup (mCons (M.ret (.str "more")) (mCons (mVar 4) (mCons (mTup (mCons (mOp2 gIx (mVar 5) (M.ret (.int 0))) (mCons (mOp2 gIx (mVar 5) (M.ret (.int 1))) (mCons (M.ret (.int 1)) mNil)))) (mCons (mVar 6) mNil))))) (mCons (mTup (mCons (M.ret (.str "more")) (mCons (mVar 4) (mCons (mTup (mCons (M.ret (.bool true)) (mCons (M.ret (.int 1)) mNil))) (mCons (mVar 6) mNil))))) (mCons (mTup (mCons (M.ret (.str "more")) (mCons (mVar 4) (mCons (mVar 5) (mCons (mTup (mCons (mOp1 gNeg (mOp2 gIx (mVar 6) (M.ret (.int 0)))) (mCons (mOp1 gNeg (mOp2 gIx (mVar 6) (M.ret (.int 1)))) mNil))) mNil))))) (mCons (mTup (mCons (M.ret .none) (mCons (M.ret (.int 0)) mNil))) mNil)))))))))))))
noncomputable def den__law_answers : Dn := denOf 8 4 b__law_answers
theorem sc__law_answers : FnScope ["source", "p", "a", "b", "n", "x", "y", "some"] ["source", "p", "a", "b"] (defScope s__law_answers) := ⟨rfl, rfl, rfl, by decide +kernel, rfl, by decide +kernel, by decide +kernel⟩
theorem ok__law_answers {f : Addr} {fd : FuncData} (F : Fun K "_law_answers" "_law_answers" s__law_answers f fd) (hm : mg "_law_answers" = some (.ref f)) (hB : Binds K fd ["source", "p", "a", "b"] []) (c__law_of : Cal P w K mg base 2 "_law_of" ["source", "some"] (spD K noX den__law_of)) (c__law_at : Cal P w K mg base 2 "_law_at" ["p", "powers", "n"] (spD K noX den__law_at)) (z_list : mg "list" = none)  :
    Cal P w K mg base 3 "_law_answers" ["source", "p", "a", "b"] (spD K noX den__law_answers) := by
  obtain ⟨f__law_of, fd__law_of, F__law_of, m__law_of, k__law_of, B__law_of⟩ := c__law_of.ex
  obtain ⟨f__law_at, fd__law_at, F__law_at, m__law_at, k__law_at, B__law_at⟩ := c__law_at.ex
  refine ⟨f, fd, Fun.okD F sc__law_answers (fun cdv A outer s H E C hx hr => ?_), hm, F.kp, hB⟩
  · have hu1 := hu_of hr
    have hu64 := hr.units
    have hu65 := hu65_of hr
    have sc := sc__law_answers
    exact (dss_cons (ds_set sc.nd rfl (by first | exact Or.inl rfl | exact Or.inr rfl) (de_callS 0 F__law_of (hr.mono (by decide)) (by rfl) m__law_of k__law_of B__law_of pass0 (da_cons (de_ofF (df_lst (da_cons de_int (da_cons de_int (da_cons de_int (da_cons de_int (da_cons de_int (da_cons de_int (da_cons de_int da_nil))))))))) da_nil)))
    (dss_cons (ds_par2 rfl sc.nd rfl rfl (by decide) rfl rfl (dv_d (de_call F__law_at (hr.mono (by decide)) (by rfl) m__law_at k__law_at B__law_at pass0 (da_cons (de_var 1) (da_cons (de_var 2) (da_cons (de_var 4) da_nil)))) (dv_d (de_call F__law_at (hr.mono (by decide)) (by rfl) m__law_at k__law_at B__law_at pass0 (da_cons (de_var 1) (da_cons (de_var 3) (da_cons (de_var 4) da_nil)))) dv_nil)) rfl)
    (dss_cons (ds_set sc.nd rfl (by first | exact Or.inl rfl | exact Or.inr rfl) (de_ofF (df_lst (da_cons (de_tup (da_cons de_str (da_cons (de_var 4) da_nil))) (da_cons (de_tup (da_cons de_str (da_cons de_int da_nil))) (da_cons (de_tup (da_cons de_str (da_cons de_int da_nil))) (da_cons (de_tup (da_cons de_str (da_cons (de_var 4) (da_cons (de_var 5) (da_cons (de_var 6) da_nil))))) (da_cons (de_tup (da_cons de_str (da_cons (de_var 4) (da_cons (de_var 6) (da_cons (de_var 5) da_nil))))) (da_cons (de_tup (da_cons de_str (da_cons (de_var 4) (da_cons (de_var 5) da_nil)))) (da_cons (de_tup (da_cons de_str (da_cons (de_var 4) (da_cons (de_tup (da_cons de_int (da_cons de_int da_nil))) (da_cons (de_var 6) da_nil))))) da_nil))))))))))
    (dss_cons (ds_set sc.nd rfl (by first | exact Or.inl rfl | exact Or.inr rfl) (de_add (de_var 7) (de_ofF (df_lst (da_cons (de_tup (da_cons de_str (da_cons de_bl da_nil))) (da_cons (de_tup (da_cons de_str (da_cons (de_neg de_int) da_nil))) (da_cons (de_tup (da_cons de_str (da_cons de_int da_nil))) (da_cons (de_tup (da_cons de_str (da_cons de_int (da_cons de_int da_nil)))) (da_cons (de_tup (da_cons de_str (da_cons de_bl (da_cons (de_var 5) (da_cons (de_var 6) da_nil))))) (da_cons (de_tup (da_cons de_str (da_cons (de_var 4) (da_cons (de_var 5) (da_cons (de_tup (da_cons de_int (da_cons de_int da_nil))) da_nil))))) da_nil))))))))))
    (dss_cons (ds_set sc.nd rfl (by first | exact Or.inl rfl | exact Or.inr rfl) (de_add (de_var 7) (de_ofF (df_lst (da_cons de_non (da_cons de_str (da_cons (de_tup (da_cons de_str (da_cons de_int da_nil))) (da_cons (de_tup (da_cons de_int (da_cons de_int da_nil))) (da_cons (de_ofF (df_lst (da_cons de_str (da_cons de_int da_nil)))) (da_cons (de_tup (da_cons de_str da_nil)) (da_cons (de_tup da_nil) (da_cons (de_tup (da_cons de_str (da_cons (de_var 4) (da_cons (de_ofF (df_listOf (by rfl) z_list (da_cons (de_var 5) da_nil))) (da_cons (de_var 6) da_nil))))) (da_cons (de_tup (da_cons (de_tup (da_cons de_str da_nil)) (da_cons de_int da_nil))) da_nil)))))))))))))
    (dss_one (ds_ret (de_add (de_var 7) (de_ofF (df_lst (da_cons (de_tup (da_cons de_str (da_cons (de_var 4) (da_cons (de_tup (da_cons (de_ix (fun _ _ => rfl) (de_var 5) de_int) (da_cons (de_ix (fun _ _ => rfl) (de_var 5) de_int) (da_cons de_int da_nil)))) (da_cons (de_var 6) da_nil))))) (da_cons (de_tup (da_cons de_str (da_cons (de_var 4) (da_cons (de_tup (da_cons de_bl (da_cons de_int da_nil))) (da_cons (de_var 6) da_nil))))) (da_cons (de_tup (da_cons de_str (da_cons (de_var 4) (da_cons (de_var 5) (da_cons (de_tup (da_cons (de_neg (de_ix (fun _ _ => rfl) (de_var 6) de_int)) (da_cons (de_neg (de_ix (fun _ _ => rfl) (de_var 6) de_int)) da_nil))) da_nil))))) (da_cons (de_tup (da_cons de_non (da_cons de_int da_nil))) da_nil))))))))))))))
/-! ### _law_sign_things -/
abbrev s__law_sign_things : Stmt := top 47
noncomputable def b__law_sign_things : MS :=
    (mSeq (mSet 2 (mCallS den__law_pick 0 (mCons (mArgs gLen (mCons (mVar 1) mNil)) mNil)))
    (mSeq (mAsg (mOp2 gIx (mVar 1) (mVar 2)) (mGTup 2 (mGCons (mName 3) (mGCons (mName 4) mGNil))))
    (mSeq (mSet 5 (mSeal (mLst (mCons (mVar 1) (mCons (mOp2 gAdd (mOp2 gAdd (mCut (mVar 1) mNo (mSo (mVar 2))) (mTup (mCons (mTup (mCons (mOp2 gAdd (mVar 3) (M.ret (.int 1))) (mCons (mVar 4) mNil))) mNil))) (mCut (mVar 1) (mSo (mOp2 gAdd (mVar 2) (M.ret (.int 1)))) mNo)) (mCons (mOp2 gAdd (mOp2 gAdd (mCut (mVar 1) mNo (mSo (mVar 2))) (mTup (mCons (mTup (mCons (mVar 3) (mCons (mOp1 gNeg (mVar 4)) mNil))) mNil))) (mCut (mVar 1) (mSo (mOp2 gAdd (mVar 2) (M.ret (.int 1)))) mNo)) (mCons (mCut (mVar 1) mNo (mSo (mOp1 gNeg (M.ret (.int 1))))) (mCons (mCut (mVar 1) (mSo (M.ret (.int 1))) mNo) (mCons (mSeal (mArgsF gListOf (mCons (mVar 1) mNil))) mNil)))))))))
    (mSeq (mSet 5 (mOp2 gAdd (mVar 5) (mSeal (mLst (mCons (mOp2 gAdd (mVar 1) (mTup (mCons (mTup (mCons (mOp2 gAdd (mOp2 gIx (mOp2 gIx (mVar 1) (mOp1 gNeg (M.ret (.int 1)))) (M.ret (.int 0))) (M.ret (.int 3))) (mCons (mOp2 gSub (M.ret (.int 0)) (mOp2 gIx (mOp2 gIx (mVar 1) (mOp1 gNeg (M.ret (.int 1)))) (M.ret (.int 1)))) mNil))) mNil))) (mCons (mOp2 gAdd (mVar 1) (mCut (mVar 1) (mSo (mOp1 gNeg (M.ret (.int 1)))) mNo)) (mCons (mTup (mCons (mTup (mCons (M.ret (.int 0)) (mCons (M.ret (.int 1)) mNil))) mNil)) (mCons (mTup (mCons (mTup (mCons (M.ret (.int 0)) (mCons (M.ret (.int 2)) mNil))) mNil)) (mCons (mTup (mCons (mTup (mCons (M.ret (.int 0)) (mCons (M.ret (.bool true)) mNil))) mNil)) (mCons (mTup (mCons (mTup (mCons (M.ret (.int 1)) (mCons (M.ret (.int 1)) mNil))) mNil)) (mCons (M.ret .none) mNil)))))))))))
    (mRet (mOp2 gAdd (mVar 5) (mSeal (mLst (mCons (mTup (mCons (mTup (mCons (M.ret (.int 0)) (mCons (M.ret (.int 0)) mNil))) mNil)) (mCons (mTup (mCons (mTup (mCons (M.ret (.int 0)) (mCons (M.ret (.int 1)) (mCons (M.ret (.int 2)) mNil)))) mNil)) (mCons (mTup (mCons (mSeal (mLst (mCons (M.ret (.int 0)) (mCons (M.ret (.int 1)) mNil)))) mNil)) (mCons (mTup (mCons (mTup (mCons (M.ret (.int 0)) (mCons (M.ret (.int 1)) mNil))) (mCons (mTup (mCons (M.ret (.int 3)) (mCons (M.ret (.int 1)) mNil))) mNil))) (mCons (mTup (mCons (mTup (mCons (M.ret (.int 0)) (mCons (M.ret (.int 1)) mNil))) (mCons (mTup (mCons (M.ret (.int 0)) (mCons (mOp1 gNeg (M.ret (.int 1))) mNil))) mNil))) (mCons (mTup (mCons (mTup (mCons (M.ret (.int 0)) (mCons (mOp1 gNeg (M.ret (.int 1))) mNil))) (mCons (mTup (mCons (M.ret (.int 2001)) (mCons (M.ret (.int 1)) mNil))) mNil))) (mCons (M.ret (.int 7)) (mCons (mTup (mCons (mTup (mCons (M.ret (.int 0)) (mCons (M.ret (.int 0)) mNil))) (mCons (mTup (mCons (M.ret (.int 20)) (mCons (M.ret (.int 1)) mNil))) mNil))) mNil))))))))))))))))
noncomputable def den__law_sign_things : Dn := denOf 6 2 b__law_sign_things
theorem sc__law_sign_things : FnScope ["source", "due", "at", "n", "sign", "some"] ["source", "due"] (defScope s__law_sign_things) := ⟨rfl, rfl, rfl, by decide +kernel, rfl, by decide +kernel, by decide +kernel⟩
theorem ok__law_sign_things {f : Addr} {fd : FuncData} (F : Fun K "_law_sign_things" "_law_sign_things" s__law_sign_things f fd) (hm : mg "_law_sign_things" = some (.ref f)) (hB : Binds K fd ["source", "due"] []) (c__law_pick : Cal P w K mg base 1 "_law_pick" ["source", "many"] (spD K noX den__law_pick)) (z_len : mg "len" = none) (z_list : mg "list" = none)  :
    Cal P w K mg base 2 "_law_sign_things" ["source", "due"] (spD K noX den__law_sign_things) := by
  obtain ⟨f__law_pick, fd__law_pick, F__law_pick, m__law_pick, k__law_pick, B__law_pick⟩ := c__law_pick.ex
  refine ⟨f, fd, Fun.okD F sc__law_sign_things (fun cdv A outer s H E C hx hr => ?_), hm, F.kp, hB⟩
  · have hu1 := hu_of hr
    have hu64 := hr.units
    have hu65 := hu65_of hr
    have sc := sc__law_sign_things
    exact (dss_cons (ds_set sc.nd rfl (by first | exact Or.inl rfl | exact Or.inr rfl) (de_callS 0 F__law_pick (hr.mono (by decide)) (by rfl) m__law_pick k__law_pick B__law_pick pass0 (da_cons (de_callB call_len r_len (by rfl) z_len (by decide +kernel) (da_cons (de_var 1) da_nil)) da_nil)))
    (dss_cons (ds_asg (de_ix (fun _ _ => rfl) (de_var 1) (de_var 2)) (dg_tup rfl (dgs_cons (dg_name sc.nd rfl (by first | exact Or.inl rfl | exact Or.inr rfl)) (dgs_cons (dg_name sc.nd rfl (by first | exact Or.inl rfl | exact Or.inr rfl)) dgs_nil))))
    (dss_cons (ds_set sc.nd rfl (by first | exact Or.inl rfl | exact Or.inr rfl) (de_ofF (df_lst (da_cons (de_var 1) (da_cons (de_add (de_add (de_slice (de_var 1) do_none (do_some (de_var 2))) (de_tup (da_cons (de_tup (da_cons (de_add (de_var 3) de_int) (da_cons (de_var 4) da_nil))) da_nil))) (de_slice (de_var 1) (do_some (de_add (de_var 2) de_int)) do_none)) (da_cons (de_add (de_add (de_slice (de_var 1) do_none (do_some (de_var 2))) (de_tup (da_cons (de_tup (da_cons (de_var 3) (da_cons (de_neg (de_var 4)) da_nil))) da_nil))) (de_slice (de_var 1) (do_some (de_add (de_var 2) de_int)) do_none)) (da_cons (de_slice (de_var 1) do_none (do_some (de_neg de_int))) (da_cons (de_slice (de_var 1) (do_some de_int) do_none) (da_cons (de_ofF (df_listOf (by rfl) z_list (da_cons (de_var 1) da_nil))) da_nil)))))))))
    (dss_cons (ds_set sc.nd rfl (by first | exact Or.inl rfl | exact Or.inr rfl) (de_add (de_var 5) (de_ofF (df_lst (da_cons (de_add (de_var 1) (de_tup (da_cons (de_tup (da_cons (de_add (de_ix (fun _ _ => rfl) (de_ix (fun _ _ => rfl) (de_var 1) (de_neg de_int)) de_int) de_int) (da_cons (de_sub de_int (de_ix (fun _ _ => rfl) (de_ix (fun _ _ => rfl) (de_var 1) (de_neg de_int)) de_int)) da_nil))) da_nil))) (da_cons (de_add (de_var 1) (de_slice (de_var 1) (do_some (de_neg de_int)) do_none)) (da_cons (de_tup (da_cons (de_tup (da_cons de_int (da_cons de_int da_nil))) da_nil)) (da_cons (de_tup (da_cons (de_tup (da_cons de_int (da_cons de_int da_nil))) da_nil)) (da_cons (de_tup (da_cons (de_tup (da_cons de_int (da_cons de_bl da_nil))) da_nil)) (da_cons (de_tup (da_cons (de_tup (da_cons de_int (da_cons de_int da_nil))) da_nil)) (da_cons de_non da_nil)))))))))))
    (dss_one (ds_ret (de_add (de_var 5) (de_ofF (df_lst (da_cons (de_tup (da_cons (de_tup (da_cons de_int (da_cons de_int da_nil))) da_nil)) (da_cons (de_tup (da_cons (de_tup (da_cons de_int (da_cons de_int (da_cons de_int da_nil)))) da_nil)) (da_cons (de_tup (da_cons (de_ofF (df_lst (da_cons de_int (da_cons de_int da_nil)))) da_nil)) (da_cons (de_tup (da_cons (de_tup (da_cons de_int (da_cons de_int da_nil))) (da_cons (de_tup (da_cons de_int (da_cons de_int da_nil))) da_nil))) (da_cons (de_tup (da_cons (de_tup (da_cons de_int (da_cons de_int da_nil))) (da_cons (de_tup (da_cons de_int (da_cons (de_neg de_int) da_nil))) da_nil))) (da_cons (de_tup (da_cons (de_tup (da_cons de_int (da_cons (de_neg de_int) da_nil))) (da_cons (de_tup (da_cons de_int (da_cons de_int da_nil))) da_nil))) (da_cons de_int (da_cons (de_tup (da_cons (de_tup (da_cons de_int (da_cons de_int da_nil))) (da_cons (de_tup (da_cons de_int (da_cons de_int da_nil))) da_nil))) da_nil)))))))))))))))))
/-! ### law -/
abbrev s_law : Stmt := top 48
noncomputable def b_law : MS :=
    (mSeq (mNewSrc 1 0 den__law_source)
    (mSeq (mFor (mRange1 (mCons (M.ret (.int 3)) mNil)) (mName 2) (mSeq (mAsg (mTup (mCons (mOp2 gAdd (M.ret (.int 2)) (mCallS den__law_pick 1 (mCons (M.ret (.int 2)) mNil))) (mCons (mCallS den__law_powers 1 mNil) (mCons (mCallS den__law_powers 1 mNil) mNil)))) (mGTup 3 (mGCons (mName 3) (mGCons (mName 4) (mGCons (mName 5) mGNil)))))
    (mSeq (mIf (mB (mOp2 gEq (mCallS den__law_pick 1 (mCons (M.ret (.int 2)) mNil)) (M.ret (.int 0)))) (mSet 5 (mCall den__law_less (mCons (mVar 4) (mCons (mCallS den__law_rooted 1 (mCons (mVar 3) mNil)) mNil)))) mSkip)
    (mSeq (mSet 6 (mCall den_most_answer (mCons (mVar 3) (mCons (mVar 4) (mCons (mVar 5) mNil)))))
    (mSeq (mFor (mSeqI (mOp2 gAdd (mSeal (mLst (mCons (mVar 6) mNil))) (mSeal (mLc [7] (mRange1 (mCons (M.ret (.int 7)) mNil)) (mName 7) mYes (mCallS den__law_of 1 (mCons (mCallS den__law_answers 1 (mCons (mVar 3) (mCons (mVar 4) (mCons (mVar 5) mNil)))) mNil)))))) (mName 8) (mSeq (mSet 9 (mArgs gRepr (mCons (mVar 8) mNil)))
    (mIf (mOr (mB (mOp2 gNe (mArgs gRepr (mCons (mCall den_judge_most (mCons (mVar 3) (mCons (mVar 4) (mCons (mVar 5) (mCons (mVar 8) mNil))))) mNil)) (mArgs gRepr (mCons (mCall den__law_judged (mCons (mVar 3) (mCons (mVar 4) (mCons (mVar 5) (mCons (mVar 8) mNil))))) mNil)))) (mB (mOp2 gNe (mArgs gRepr (mCons (mVar 8) mNil)) (mVar 9)))) (mRet (M.ret (.bool false))) mSkip)))
    (mSeq (mSet 10 (mCall den__law_less (mCons (mVar 4) (mCons (mVar 5) mNil))))
    (mSeq (mSet 11 (mCall den_signs_of (mCons (mVar 3) (mCons (mVar 10) mNil))))
    (mSeq (mIf (mOr (mB (mOp2 gNotN (mCall den_judge_most (mCons (mVar 3) (mCons (mVar 4) (mCons (mVar 5) (mCons (mVar 6) mNil))))) (M.ret .none))) (mB (mOp2 gNotN (mCall den_judge_signs (mCons (mVar 3) (mCons (mVar 10) (mCons (mVar 11) mNil)))) (M.ret .none)))) (mRet (M.ret (.bool false))) mSkip)
    (mFor (mRange1 (mCons (M.ret (.int 6)) mNil)) (mName 7) (mSeq (mSet 8 (mCallS den__law_of 1 (mCons (mCallS den__law_sign_things 1 (mCons (mVar 11) mNil)) mNil)))
    (mIf (mB (mOp2 gNe (mArgs gRepr (mCons (mCall den_judge_signs (mCons (mVar 3) (mCons (mVar 10) (mCons (mVar 8) mNil)))) mNil)) (mArgs gRepr (mCons (mCall den__law_signs_judged (mCons (mVar 3) (mCons (mVar 10) (mCons (mVar 8) mNil)))) mNil)))) (mRet (M.ret (.bool false))) mSkip)))))))))))
    (mRet (M.ret (.bool true)))))
theorem sc_law : FnScope ["script", "source", "lap", "p", "a", "b", "told", "turn", "value", "shown", "powers", "due"] ["script"] (defScope s_law) := ⟨rfl, rfl, rfl, by decide +kernel, rfl, by decide +kernel, by decide +kernel⟩
theorem ok_law {f : Addr} {fd : FuncData} (F : Fun K "law" "law" s_law f fd) (c__law_source : Cal P w K mg base 1 "_law_source" ["script"] (spSrc K den__law_source)) (c__law_powers : Cal P w K mg base 3 "_law_powers" ["source"] (spD K noX den__law_powers)) (c__law_pick : Cal P w K mg base 1 "_law_pick" ["source", "many"] (spD K noX den__law_pick)) (c__law_less : Cal P w K mg base 1 "_law_less" ["a", "b"] (spD K noX den__law_less)) (c__law_rooted : Cal P w K mg base 3 "_law_rooted" ["source", "p"] (spD K noX den__law_rooted)) (c_most_answer : Cal P w K mg base 4 "most_answer" ["p", "a", "b"] (spD K noX den_most_answer)) (c__law_of : Cal P w K mg base 2 "_law_of" ["source", "some"] (spD K noX den__law_of)) (c__law_answers : Cal P w K mg base 3 "_law_answers" ["source", "p", "a", "b"] (spD K noX den__law_answers)) (c_judge_most : Cal P w K mg base 5 "judge_most" ["p", "a", "b", "value"] (spD K noX den_judge_most)) (c__law_judged : Cal P w K mg base 4 "_law_judged" ["p", "a", "b", "value"] (spD K noX den__law_judged)) (c_signs_of : Cal P w K mg base 3 "signs_of" ["p", "powers"] (spD K noX den_signs_of)) (c_judge_signs : Cal P w K mg base 5 "judge_signs" ["p", "powers", "value"] (spD K noX den_judge_signs)) (c__law_sign_things : Cal P w K mg base 2 "_law_sign_things" ["source", "due"] (spD K noX den__law_sign_things)) (c__law_signs_judged : Cal P w K mg base 4 "_law_signs_judged" ["p", "powers", "value"] (spD K noX den__law_signs_judged)) (z_range : mg "range" = none) (z_repr : mg "repr" = none) 
    (fact : ∀ ns : List Int, ns.length ≤ 63 → ∃ s', b_law ⟨.scr ns :: List.replicate 11 .un, none⟩ = some (.ok (.rt (.bool true)) s')) : FnG P w K mg base 6 f fd ["script"] (spLaw K 63) := by
  obtain ⟨f__law_source, fd__law_source, F__law_source, m__law_source, k__law_source, B__law_source⟩ := c__law_source.ex
  obtain ⟨f__law_powers, fd__law_powers, F__law_powers, m__law_powers, k__law_powers, B__law_powers⟩ := c__law_powers.ex
  obtain ⟨f__law_pick, fd__law_pick, F__law_pick, m__law_pick, k__law_pick, B__law_pick⟩ := c__law_pick.ex
  obtain ⟨f__law_less, fd__law_less, F__law_less, m__law_less, k__law_less, B__law_less⟩ := c__law_less.ex
  obtain ⟨f__law_rooted, fd__law_rooted, F__law_rooted, m__law_rooted, k__law_rooted, B__law_rooted⟩ := c__law_rooted.ex
  obtain ⟨f_most_answer, fd_most_answer, F_most_answer, m_most_answer, k_most_answer, B_most_answer⟩ := c_most_answer.ex
  obtain ⟨f__law_of, fd__law_of, F__law_of, m__law_of, k__law_of, B__law_of⟩ := c__law_of.ex
  obtain ⟨f__law_answers, fd__law_answers, F__law_answers, m__law_answers, k__law_answers, B__law_answers⟩ := c__law_answers.ex
  obtain ⟨f_judge_most, fd_judge_most, F_judge_most, m_judge_most, k_judge_most, B_judge_most⟩ := c_judge_most.ex
  obtain ⟨f__law_judged, fd__law_judged, F__law_judged, m__law_judged, k__law_judged, B__law_judged⟩ := c__law_judged.ex
  obtain ⟨f_signs_of, fd_signs_of, F_signs_of, m_signs_of, k_signs_of, B_signs_of⟩ := c_signs_of.ex
  obtain ⟨f_judge_signs, fd_judge_signs, F_judge_signs, m_judge_signs, k_judge_signs, B_judge_signs⟩ := c_judge_signs.ex
  obtain ⟨f__law_sign_things, fd__law_sign_things, F__law_sign_things, m__law_sign_things, k__law_sign_things, B__law_sign_things⟩ := c__law_sign_things.ex
  obtain ⟨f__law_signs_judged, fd__law_signs_judged, F__law_signs_judged, m__law_signs_judged, k__law_signs_judged, B__law_signs_judged⟩ := c__law_signs_judged.ex
  refine Fun.okLaw F sc_law (by decide) (fun cdv A outer s H E C hx hg hr => ?_) fact
  · have hu1 := hu_of hr
    have hu64 := hr.units
    have hu65 := hu65_of hr
    have sc := sc_law
    have hu66 := hu66_of hr
    exact (dss_cons (ds_newSrc 1 0 sc.nd rfl (by first | exact Or.inl rfl | exact Or.inr rfl) F__law_source (hr.mono (by decide)) rfl m__law_source k__law_source B__law_source pass0)
    (dss_cons (ds_for PassesOwn.never rfl (di_range1 (by rfl) z_range (da_cons de_int da_nil)) (dg_name sc.nd rfl (by first | exact Or.inl rfl | exact Or.inr rfl)) (dss_cons (ds_asg (de_tup (da_cons (de_add de_int (de_callS 1 F__law_pick (hr.mono (by decide)) (by rfl) m__law_pick k__law_pick B__law_pick pass0 (da_cons de_int da_nil))) (da_cons (de_callS 1 F__law_powers (hr.mono (by decide)) (by rfl) m__law_powers k__law_powers B__law_powers pass0 da_nil) (da_cons (de_callS 1 F__law_powers (hr.mono (by decide)) (by rfl) m__law_powers k__law_powers B__law_powers pass0 da_nil) da_nil)))) (dg_tup rfl (dgs_cons (dg_name sc.nd rfl (by first | exact Or.inl rfl | exact Or.inr rfl)) (dgs_cons (dg_name sc.nd rfl (by first | exact Or.inl rfl | exact Or.inr rfl)) (dgs_cons (dg_name sc.nd rfl (by first | exact Or.inl rfl | exact Or.inr rfl)) dgs_nil)))))
    (dss_cons (ds_if (dt_eq hu64 (de_callS 1 F__law_pick (hr.mono (by decide)) (by rfl) m__law_pick k__law_pick B__law_pick pass0 (da_cons de_int da_nil)) de_int) (dss_one (ds_set sc.nd rfl (by first | exact Or.inl rfl | exact Or.inr rfl) (de_call F__law_less (hr.mono (by decide)) (by rfl) m__law_less k__law_less B__law_less pass0 (da_cons (de_var 4) (da_cons (de_callS 1 F__law_rooted (hr.mono (by decide)) (by rfl) m__law_rooted k__law_rooted B__law_rooted pass0 (da_cons (de_var 3) da_nil)) da_nil))))) dss_nil)
    (dss_cons (ds_set sc.nd rfl (by first | exact Or.inl rfl | exact Or.inr rfl) (de_call F_most_answer (hr.mono (by decide)) (by rfl) m_most_answer k_most_answer B_most_answer pass0 (da_cons (de_var 3) (da_cons (de_var 4) (da_cons (de_var 5) da_nil)))))
    (dss_cons (ds_for PassesOwn.never rfl (di_seq (de_add (de_ofF (df_lst (da_cons (de_var 6) da_nil))) (de_ofF (df_lc rfl sc.nd (di_range1 (by rfl) z_range (da_cons de_int da_nil)) (blkOk_by (own := [("turn", 7)]) rfl) (by decide) (fun _ _ _ _ _ => (dg_name sc.nd rfl (by first | exact Or.inl rfl | exact Or.inr rfl))) (fun _ _ _ _ _ => dts_nil) (fun _ _ _ _ _ => (de_callS 1 F__law_of (hr.mono (by decide)) (by rfl) m__law_of k__law_of B__law_of pass0 (da_cons (de_callS 1 F__law_answers (hr.mono (by decide)) (by rfl) m__law_answers k__law_answers B__law_answers pass0 (da_cons (de_var 3) (da_cons (de_var 4) (da_cons (de_var 5) da_nil)))) da_nil))))))) (dg_name sc.nd rfl (by first | exact Or.inl rfl | exact Or.inr rfl)) (dss_cons (ds_set sc.nd rfl (by first | exact Or.inl rfl | exact Or.inr rfl) (de_callB (call_reprD hg hu66) r_repr (by rfl) z_repr (by decide +kernel) (da_cons (de_var 8) da_nil)))
    (dss_one (ds_if (dt_w (dw_or (dt_ne hu64 (de_callB (call_reprD hg hu66) r_repr (by rfl) z_repr (by decide +kernel) (da_cons (de_call F_judge_most (hr.mono (by decide)) (by rfl) m_judge_most k_judge_most B_judge_most pass0 (da_cons (de_var 3) (da_cons (de_var 4) (da_cons (de_var 5) (da_cons (de_var 8) da_nil))))) da_nil)) (de_callB (call_reprD hg hu66) r_repr (by rfl) z_repr (by decide +kernel) (da_cons (de_call F__law_judged (hr.mono (by decide)) (by rfl) m__law_judged k__law_judged B__law_judged pass0 (da_cons (de_var 3) (da_cons (de_var 4) (da_cons (de_var 5) (da_cons (de_var 8) da_nil))))) da_nil))) (dw_or1 (dt_ne hu64 (de_callB (call_reprD hg hu66) r_repr (by rfl) z_repr (by decide +kernel) (da_cons (de_var 8) da_nil)) (de_var 9))))) (dss_one (ds_ret de_bl)) dss_nil))))
    (dss_cons (ds_set sc.nd rfl (by first | exact Or.inl rfl | exact Or.inr rfl) (de_call F__law_less (hr.mono (by decide)) (by rfl) m__law_less k__law_less B__law_less pass0 (da_cons (de_var 4) (da_cons (de_var 5) da_nil))))
    (dss_cons (ds_set sc.nd rfl (by first | exact Or.inl rfl | exact Or.inr rfl) (de_call F_signs_of (hr.mono (by decide)) (by rfl) m_signs_of k_signs_of B_signs_of pass0 (da_cons (de_var 3) (da_cons (de_var 10) da_nil))))
    (dss_cons (ds_if (dt_w (dw_or (dt_notN (de_call F_judge_most (hr.mono (by decide)) (by rfl) m_judge_most k_judge_most B_judge_most pass0 (da_cons (de_var 3) (da_cons (de_var 4) (da_cons (de_var 5) (da_cons (de_var 6) da_nil))))) de_non) (dw_or1 (dt_notN (de_call F_judge_signs (hr.mono (by decide)) (by rfl) m_judge_signs k_judge_signs B_judge_signs pass0 (da_cons (de_var 3) (da_cons (de_var 10) (da_cons (de_var 11) da_nil)))) de_non)))) (dss_one (ds_ret de_bl)) dss_nil)
    (dss_one (ds_for PassesOwn.never rfl (di_range1 (by rfl) z_range (da_cons de_int da_nil)) (dg_name sc.nd rfl (by first | exact Or.inl rfl | exact Or.inr rfl)) (dss_cons (ds_set sc.nd rfl (by first | exact Or.inl rfl | exact Or.inr rfl) (de_callS 1 F__law_of (hr.mono (by decide)) (by rfl) m__law_of k__law_of B__law_of pass0 (da_cons (de_callS 1 F__law_sign_things (hr.mono (by decide)) (by rfl) m__law_sign_things k__law_sign_things B__law_sign_things pass0 (da_cons (de_var 11) da_nil)) da_nil)))
    (dss_one (ds_if (dt_ne hu64 (de_callB (call_reprD hg hu66) r_repr (by rfl) z_repr (by decide +kernel) (da_cons (de_call F_judge_signs (hr.mono (by decide)) (by rfl) m_judge_signs k_judge_signs B_judge_signs pass0 (da_cons (de_var 3) (da_cons (de_var 10) (da_cons (de_var 8) da_nil)))) da_nil)) (de_callB (call_reprD hg hu66) r_repr (by rfl) z_repr (by decide +kernel) (da_cons (de_call F__law_signs_judged (hr.mono (by decide)) (by rfl) m__law_signs_judged k__law_signs_judged B__law_signs_judged pass0 (da_cons (de_var 3) (da_cons (de_var 10) (da_cons (de_var 8) da_nil)))) da_nil))) (dss_one (ds_ret de_bl)) dss_nil)))))))))))))
    (dss_one (ds_ret de_bl))))
end
/-! ### what the top has written -/
theorem all_mk {l : PySem.W.OpenLaw} {w : World} {K : PySem.W.Frag} {h : Heap} {mg : Str → Option Value} {fa : Addr} (X : K.In h) (G : h.Ns mainGlobals mg) (hfa : mg "law" = some (.ref fa))
    {od1 an1 : Option Addr} {sl1 : Array (Option Value)} {oc1 kV1 dc1 pm1 cd1 ct1 : Value} {f1 : Addr} (a1 : PySem.W.nsIn K mainGlobals "powers_of" = some (some (.ref f1))) (l1 : K.lookup f1 = some ⟨oc1, od1, .func (PySem.W.fnOf "powers_of" "powers_of" (defArgs s_powers_of) (defBody s_powers_of) (defScope s_powers_of) .none kV1 dc1 pm1 an1 cd1 ct1), sl1⟩) (c1 : PySem.W.codeIn K cd1 "powers_of" = true) (k1 : PySem.W.keepIn K (.ref f1) = true)
    {od2 an2 : Option Addr} {sl2 : Array (Option Value)} {oc2 kV2 dc2 pm2 cd2 ct2 : Value} {f2 : Addr} (a2 : PySem.W.nsIn K mainGlobals "powers_sum" = some (some (.ref f2))) (l2 : K.lookup f2 = some ⟨oc2, od2, .func (PySem.W.fnOf "powers_sum" "powers_sum" (defArgs s_powers_sum) (defBody s_powers_sum) (defScope s_powers_sum) .none kV2 dc2 pm2 an2 cd2 ct2), sl2⟩) (c2 : PySem.W.codeIn K cd2 "powers_sum" = true) (k2 : PySem.W.keepIn K (.ref f2) = true)
    {od3 an3 : Option Addr} {sl3 : Array (Option Value)} {oc3 kV3 dc3 pm3 cd3 ct3 : Value} {f3 : Addr} (a3 : PySem.W.nsIn K mainGlobals "powers_scaled" = some (some (.ref f3))) (l3 : K.lookup f3 = some ⟨oc3, od3, .func (PySem.W.fnOf "powers_scaled" "powers_scaled" (defArgs s_powers_scaled) (defBody s_powers_scaled) (defScope s_powers_scaled) .none kV3 dc3 pm3 an3 cd3 ct3), sl3⟩) (c3 : PySem.W.codeIn K cd3 "powers_scaled" = true) (k3 : PySem.W.keepIn K (.ref f3) = true)
    {od4 an4 : Option Addr} {sl4 : Array (Option Value)} {oc4 kV4 dc4 pm4 cd4 ct4 : Value} {f4 : Addr} (a4 : PySem.W.nsIn K mainGlobals "powers_less" = some (some (.ref f4))) (l4 : K.lookup f4 = some ⟨oc4, od4, .func (PySem.W.fnOf "powers_less" "powers_less" (defArgs s_powers_less) (defBody s_powers_less) (defScope s_powers_less) .none kV4 dc4 pm4 an4 cd4 ct4), sl4⟩) (c4 : PySem.W.codeIn K cd4 "powers_less" = true) (k4 : PySem.W.keepIn K (.ref f4) = true)
    {od5 an5 : Option Addr} {sl5 : Array (Option Value)} {oc5 kV5 dc5 pm5 cd5 ct5 : Value} {f5 : Addr} (a5 : PySem.W.nsIn K mainGlobals "whole_power" = some (some (.ref f5))) (l5 : K.lookup f5 = some ⟨oc5, od5, .func (PySem.W.fnOf "whole_power" "whole_power" (defArgs s_whole_power) (defBody s_whole_power) (defScope s_whole_power) .none kV5 dc5 pm5 an5 cd5 ct5), sl5⟩) (c5 : PySem.W.codeIn K cd5 "whole_power" = true) (k5 : PySem.W.keepIn K (.ref f5) = true)
    {od6 an6 : Option Addr} {sl6 : Array (Option Value)} {oc6 kV6 dc6 pm6 cd6 ct6 : Value} {f6 : Addr} (a6 : PySem.W.nsIn K mainGlobals "powers_at" = some (some (.ref f6))) (l6 : K.lookup f6 = some ⟨oc6, od6, .func (PySem.W.fnOf "powers_at" "powers_at" (defArgs s_powers_at) (defBody s_powers_at) (defScope s_powers_at) .none kV6 dc6 pm6 an6 cd6 ct6), sl6⟩) (c6 : PySem.W.codeIn K cd6 "powers_at" = true) (k6 : PySem.W.keepIn K (.ref f6) = true)
    {od7 an7 : Option Addr} {sl7 : Array (Option Value)} {oc7 kV7 dc7 pm7 cd7 ct7 : Value} {f7 : Addr} (a7 : PySem.W.nsIn K mainGlobals "raised" = some (some (.ref f7))) (l7 : K.lookup f7 = some ⟨oc7, od7, .func (PySem.W.fnOf "raised" "raised" (defArgs s_raised) (defBody s_raised) (defScope s_raised) .none kV7 dc7 pm7 an7 cd7 ct7), sl7⟩) (c7 : PySem.W.codeIn K cd7 "raised" = true) (k7 : PySem.W.keepIn K (.ref f7) = true)
    {od8 an8 : Option Addr} {sl8 : Array (Option Value)} {oc8 kV8 dc8 pm8 cd8 ct8 : Value} {f8 : Addr} (a8 : PySem.W.nsIn K mainGlobals "sign_at" = some (some (.ref f8))) (l8 : K.lookup f8 = some ⟨oc8, od8, .func (PySem.W.fnOf "sign_at" "sign_at" (defArgs s_sign_at) (defBody s_sign_at) (defScope s_sign_at) .none kV8 dc8 pm8 an8 cd8 ct8), sl8⟩) (c8 : PySem.W.codeIn K cd8 "sign_at" = true) (k8 : PySem.W.keepIn K (.ref f8) = true)
    {od9 an9 : Option Addr} {sl9 : Array (Option Value)} {oc9 kV9 dc9 pm9 cd9 ct9 : Value} {f9 : Addr} (a9 : PySem.W.nsIn K mainGlobals "weight_against" = some (some (.ref f9))) (l9 : K.lookup f9 = some ⟨oc9, od9, .func (PySem.W.fnOf "weight_against" "weight_against" (defArgs s_weight_against) (defBody s_weight_against) (defScope s_weight_against) .none kV9 dc9 pm9 an9 cd9 ct9), sl9⟩) (c9 : PySem.W.codeIn K cd9 "weight_against" = true) (k9 : PySem.W.keepIn K (.ref f9) = true)
    {od10 an10 : Option Addr} {sl10 : Array (Option Value)} {oc10 kV10 dc10 pm10 cd10 ct10 : Value} {f10 : Addr} (a10 : PySem.W.nsIn K mainGlobals "is_settled" = some (some (.ref f10))) (l10 : K.lookup f10 = some ⟨oc10, od10, .func (PySem.W.fnOf "is_settled" "is_settled" (defArgs s_is_settled) (defBody s_is_settled) (defScope s_is_settled) .none kV10 dc10 pm10 an10 cd10 ct10), sl10⟩) (c10 : PySem.W.codeIn K cd10 "is_settled" = true) (k10 : PySem.W.keepIn K (.ref f10) = true)
    {od11 an11 : Option Addr} {sl11 : Array (Option Value)} {oc11 kV11 dc11 pm11 cd11 ct11 : Value} {f11 : Addr} (a11 : PySem.W.nsIn K mainGlobals "is_seen" = some (some (.ref f11))) (l11 : K.lookup f11 = some ⟨oc11, od11, .func (PySem.W.fnOf "is_seen" "is_seen" (defArgs s_is_seen) (defBody s_is_seen) (defScope s_is_seen) .none kV11 dc11 pm11 an11 cd11 ct11), sl11⟩) (c11 : PySem.W.codeIn K cd11 "is_seen" = true) (k11 : PySem.W.keepIn K (.ref f11) = true)
    {od12 an12 : Option Addr} {sl12 : Array (Option Value)} {oc12 kV12 dc12 pm12 cd12 ct12 : Value} {f12 : Addr} (a12 : PySem.W.nsIn K mainGlobals "signs_of" = some (some (.ref f12))) (l12 : K.lookup f12 = some ⟨oc12, od12, .func (PySem.W.fnOf "signs_of" "signs_of" (defArgs s_signs_of) (defBody s_signs_of) (defScope s_signs_of) .none kV12 dc12 pm12 an12 cd12 ct12), sl12⟩) (c12 : PySem.W.codeIn K cd12 "signs_of" = true) (k12 : PySem.W.keepIn K (.ref f12) = true)
    {od13 an13 : Option Addr} {sl13 : Array (Option Value)} {oc13 kV13 dc13 pm13 cd13 ct13 : Value} {f13 : Addr} (a13 : PySem.W.nsIn K mainGlobals "most_answer" = some (some (.ref f13))) (l13 : K.lookup f13 = some ⟨oc13, od13, .func (PySem.W.fnOf "most_answer" "most_answer" (defArgs s_most_answer) (defBody s_most_answer) (defScope s_most_answer) .none kV13 dc13 pm13 an13 cd13 ct13), sl13⟩) (c13 : PySem.W.codeIn K cd13 "most_answer" = true) (k13 : PySem.W.keepIn K (.ref f13) = true)
    {od14 an14 : Option Addr} {sl14 : Array (Option Value)} {oc14 kV14 dc14 pm14 cd14 ct14 : Value} {f14 : Addr} (a14 : PySem.W.nsIn K mainGlobals "is_integer" = some (some (.ref f14))) (l14 : K.lookup f14 = some ⟨oc14, od14, .func (PySem.W.fnOf "is_integer" "is_integer" (defArgs s_is_integer) (defBody s_is_integer) (defScope s_is_integer) .none kV14 dc14 pm14 an14 cd14 ct14), sl14⟩) (c14 : PySem.W.codeIn K cd14 "is_integer" = true) (k14 : PySem.W.keepIn K (.ref f14) = true)
    {od15 an15 : Option Addr} {sl15 : Array (Option Value)} {oc15 kV15 dc15 pm15 cd15 ct15 : Value} {f15 : Addr} (a15 : PySem.W.nsIn K mainGlobals "is_count" = some (some (.ref f15))) (l15 : K.lookup f15 = some ⟨oc15, od15, .func (PySem.W.fnOf "is_count" "is_count" (defArgs s_is_count) (defBody s_is_count) (defScope s_is_count) .none kV15 dc15 pm15 an15 cd15 ct15), sl15⟩) (c15 : PySem.W.codeIn K cd15 "is_count" = true) (k15 : PySem.W.keepIn K (.ref f15) = true)
    {od16 an16 : Option Addr} {sl16 : Array (Option Value)} {oc16 kV16 dc16 pm16 cd16 ct16 : Value} {f16 : Addr} (a16 : PySem.W.nsIn K mainGlobals "common_divisor" = some (some (.ref f16))) (l16 : K.lookup f16 = some ⟨oc16, od16, .func (PySem.W.fnOf "common_divisor" "common_divisor" (defArgs s_common_divisor) (defBody s_common_divisor) (defScope s_common_divisor) .none kV16 dc16 pm16 an16 cd16 ct16), sl16⟩) (c16 : PySem.W.codeIn K cd16 "common_divisor" = true) (k16 : PySem.W.keepIn K (.ref f16) = true)
    {od17 an17 : Option Addr} {sl17 : Array (Option Value)} {oc17 kV17 dc17 pm17 cd17 ct17 : Value} {f17 : Addr} (a17 : PySem.W.nsIn K mainGlobals "is_fraction" = some (some (.ref f17))) (l17 : K.lookup f17 = some ⟨oc17, od17, .func (PySem.W.fnOf "is_fraction" "is_fraction" (defArgs s_is_fraction) (defBody s_is_fraction) (defScope s_is_fraction) .none kV17 dc17 pm17 an17 cd17 ct17), sl17⟩) (c17 : PySem.W.codeIn K cd17 "is_fraction" = true) (k17 : PySem.W.keepIn K (.ref f17) = true)
    {od18 an18 : Option Addr} {sl18 : Array (Option Value)} {oc18 kV18 dc18 pm18 cd18 ct18 : Value} {f18 : Addr} (a18 : PySem.W.nsIn K mainGlobals "judge_seen" = some (some (.ref f18))) (l18 : K.lookup f18 = some ⟨oc18, od18, .func (PySem.W.fnOf "judge_seen" "judge_seen" (defArgs s_judge_seen) (defBody s_judge_seen) (defScope s_judge_seen) .none kV18 dc18 pm18 an18 cd18 ct18), sl18⟩) (c18 : PySem.W.codeIn K cd18 "judge_seen" = true) (k18 : PySem.W.keepIn K (.ref f18) = true)
    {od19 an19 : Option Addr} {sl19 : Array (Option Value)} {oc19 kV19 dc19 pm19 cd19 ct19 : Value} {f19 : Addr} (a19 : PySem.W.nsIn K mainGlobals "judge_more" = some (some (.ref f19))) (l19 : K.lookup f19 = some ⟨oc19, od19, .func (PySem.W.fnOf "judge_more" "judge_more" (defArgs s_judge_more) (defBody s_judge_more) (defScope s_judge_more) .none kV19 dc19 pm19 an19 cd19 ct19), sl19⟩) (c19 : PySem.W.codeIn K cd19 "judge_more" = true) (k19 : PySem.W.keepIn K (.ref f19) = true)
    {od20 an20 : Option Addr} {sl20 : Array (Option Value)} {oc20 kV20 dc20 pm20 cd20 ct20 : Value} {f20 : Addr} (a20 : PySem.W.nsIn K mainGlobals "judge_most" = some (some (.ref f20))) (l20 : K.lookup f20 = some ⟨oc20, od20, .func (PySem.W.fnOf "judge_most" "judge_most" (defArgs s_judge_most) (defBody s_judge_most) (defScope s_judge_most) .none kV20 dc20 pm20 an20 cd20 ct20), sl20⟩) (c20 : PySem.W.codeIn K cd20 "judge_most" = true) (k20 : PySem.W.keepIn K (.ref f20) = true)
    {od21 an21 : Option Addr} {sl21 : Array (Option Value)} {oc21 kV21 dc21 pm21 cd21 ct21 : Value} {f21 : Addr} (a21 : PySem.W.nsIn K mainGlobals "is_sign_pair" = some (some (.ref f21))) (l21 : K.lookup f21 = some ⟨oc21, od21, .func (PySem.W.fnOf "is_sign_pair" "is_sign_pair" (defArgs s_is_sign_pair) (defBody s_is_sign_pair) (defScope s_is_sign_pair) .none kV21 dc21 pm21 an21 cd21 ct21), sl21⟩) (c21 : PySem.W.codeIn K cd21 "is_sign_pair" = true) (k21 : PySem.W.keepIn K (.ref f21) = true)
    {od22 an22 : Option Addr} {sl22 : Array (Option Value)} {oc22 kV22 dc22 pm22 cd22 ct22 : Value} {f22 : Addr} (a22 : PySem.W.nsIn K mainGlobals "is_signs_form" = some (some (.ref f22))) (l22 : K.lookup f22 = some ⟨oc22, od22, .func (PySem.W.fnOf "is_signs_form" "is_signs_form" (defArgs s_is_signs_form) (defBody s_is_signs_form) (defScope s_is_signs_form) .none kV22 dc22 pm22 an22 cd22 ct22), sl22⟩) (c22 : PySem.W.codeIn K cd22 "is_signs_form" = true) (k22 : PySem.W.keepIn K (.ref f22) = true)
    {od23 an23 : Option Addr} {sl23 : Array (Option Value)} {oc23 kV23 dc23 pm23 cd23 ct23 : Value} {f23 : Addr} (a23 : PySem.W.nsIn K mainGlobals "judge_signs" = some (some (.ref f23))) (l23 : K.lookup f23 = some ⟨oc23, od23, .func (PySem.W.fnOf "judge_signs" "judge_signs" (defArgs s_judge_signs) (defBody s_judge_signs) (defScope s_judge_signs) .none kV23 dc23 pm23 an23 cd23 ct23), sl23⟩) (c23 : PySem.W.codeIn K cd23 "judge_signs" = true) (k23 : PySem.W.keepIn K (.ref f23) = true)
    {od24 an24 : Option Addr} {sl24 : Array (Option Value)} {oc24 kV24 dc24 pm24 cd24 ct24 : Value} {f24 : Addr} (a24 : PySem.W.nsIn K mainGlobals "_law_source" = some (some (.ref f24))) (l24 : K.lookup f24 = some ⟨oc24, od24, .func (PySem.W.fnOf "_law_source" "_law_source" (defArgs s__law_source) (defBody s__law_source) (defScope s__law_source) .none kV24 dc24 pm24 an24 cd24 ct24), sl24⟩) (c24 : PySem.W.codeIn K cd24 "_law_source" = true) (k24 : PySem.W.keepIn K (.ref f24) = true)
    {od25 an25 : Option Addr} {sl25 : Array (Option Value)} {oc25 kV25 dc25 pm25 cd25 ct25 : Value} {f25 : Addr} (a25 : PySem.W.nsIn K mainGlobals "_law_pick" = some (some (.ref f25))) (l25 : K.lookup f25 = some ⟨oc25, od25, .func (PySem.W.fnOf "_law_pick" "_law_pick" (defArgs s__law_pick) (defBody s__law_pick) (defScope s__law_pick) .none kV25 dc25 pm25 an25 cd25 ct25), sl25⟩) (c25 : PySem.W.codeIn K cd25 "_law_pick" = true) (k25 : PySem.W.keepIn K (.ref f25) = true)
    {od26 an26 : Option Addr} {sl26 : Array (Option Value)} {oc26 kV26 dc26 pm26 cd26 ct26 : Value} {f26 : Addr} (a26 : PySem.W.nsIn K mainGlobals "_law_of" = some (some (.ref f26))) (l26 : K.lookup f26 = some ⟨oc26, od26, .func (PySem.W.fnOf "_law_of" "_law_of" (defArgs s__law_of) (defBody s__law_of) (defScope s__law_of) .none kV26 dc26 pm26 an26 cd26 ct26), sl26⟩) (c26 : PySem.W.codeIn K cd26 "_law_of" = true) (k26 : PySem.W.keepIn K (.ref f26) = true)
    {od27 an27 : Option Addr} {sl27 : Array (Option Value)} {oc27 kV27 dc27 pm27 cd27 ct27 : Value} {f27 : Addr} (a27 : PySem.W.nsIn K mainGlobals "_law_power" = some (some (.ref f27))) (l27 : K.lookup f27 = some ⟨oc27, od27, .func (PySem.W.fnOf "_law_power" "_law_power" (defArgs s__law_power) (defBody s__law_power) (defScope s__law_power) .none kV27 dc27 pm27 an27 cd27 ct27), sl27⟩) (c27 : PySem.W.codeIn K cd27 "_law_power" = true) (k27 : PySem.W.keepIn K (.ref f27) = true)
    {od28 an28 : Option Addr} {sl28 : Array (Option Value)} {oc28 kV28 dc28 pm28 cd28 ct28 : Value} {f28 : Addr} (a28 : PySem.W.nsIn K mainGlobals "_law_cut" = some (some (.ref f28))) (l28 : K.lookup f28 = some ⟨oc28, od28, .func (PySem.W.fnOf "_law_cut" "_law_cut" (defArgs s__law_cut) (defBody s__law_cut) (defScope s__law_cut) .none kV28 dc28 pm28 an28 cd28 ct28), sl28⟩) (c28 : PySem.W.codeIn K cd28 "_law_cut" = true) (k28 : PySem.W.keepIn K (.ref f28) = true)
    {od29 an29 : Option Addr} {sl29 : Array (Option Value)} {oc29 kV29 dc29 pm29 cd29 ct29 : Value} {f29 : Addr} (a29 : PySem.W.nsIn K mainGlobals "_law_at" = some (some (.ref f29))) (l29 : K.lookup f29 = some ⟨oc29, od29, .func (PySem.W.fnOf "_law_at" "_law_at" (defArgs s__law_at) (defBody s__law_at) (defScope s__law_at) .none kV29 dc29 pm29 an29 cd29 ct29), sl29⟩) (c29 : PySem.W.codeIn K cd29 "_law_at" = true) (k29 : PySem.W.keepIn K (.ref f29) = true)
    {od30 an30 : Option Addr} {sl30 : Array (Option Value)} {oc30 kV30 dc30 pm30 cd30 ct30 : Value} {f30 : Addr} (a30 : PySem.W.nsIn K mainGlobals "_law_less" = some (some (.ref f30))) (l30 : K.lookup f30 = some ⟨oc30, od30, .func (PySem.W.fnOf "_law_less" "_law_less" (defArgs s__law_less) (defBody s__law_less) (defScope s__law_less) .none kV30 dc30 pm30 an30 cd30 ct30), sl30⟩) (c30 : PySem.W.codeIn K cd30 "_law_less" = true) (k30 : PySem.W.keepIn K (.ref f30) = true)
    {od31 an31 : Option Addr} {sl31 : Array (Option Value)} {oc31 kV31 dc31 pm31 cd31 ct31 : Value} {f31 : Addr} (a31 : PySem.W.nsIn K mainGlobals "_law_sign" = some (some (.ref f31))) (l31 : K.lookup f31 = some ⟨oc31, od31, .func (PySem.W.fnOf "_law_sign" "_law_sign" (defArgs s__law_sign) (defBody s__law_sign) (defScope s__law_sign) .none kV31 dc31 pm31 an31 cd31 ct31), sl31⟩) (c31 : PySem.W.codeIn K cd31 "_law_sign" = true) (k31 : PySem.W.keepIn K (.ref f31) = true)
    {od32 an32 : Option Addr} {sl32 : Array (Option Value)} {oc32 kV32 dc32 pm32 cd32 ct32 : Value} {f32 : Addr} (a32 : PySem.W.nsIn K mainGlobals "_law_weights" = some (some (.ref f32))) (l32 : K.lookup f32 = some ⟨oc32, od32, .func (PySem.W.fnOf "_law_weights" "_law_weights" (defArgs s__law_weights) (defBody s__law_weights) (defScope s__law_weights) .none kV32 dc32 pm32 an32 cd32 ct32), sl32⟩) (c32 : PySem.W.codeIn K cd32 "_law_weights" = true) (k32 : PySem.W.keepIn K (.ref f32) = true)
    {od33 an33 : Option Addr} {sl33 : Array (Option Value)} {oc33 kV33 dc33 pm33 cd33 ct33 : Value} {f33 : Addr} (a33 : PySem.W.nsIn K mainGlobals "_law_is_settled" = some (some (.ref f33))) (l33 : K.lookup f33 = some ⟨oc33, od33, .func (PySem.W.fnOf "_law_is_settled" "_law_is_settled" (defArgs s__law_is_settled) (defBody s__law_is_settled) (defScope s__law_is_settled) .none kV33 dc33 pm33 an33 cd33 ct33), sl33⟩) (c33 : PySem.W.codeIn K cd33 "_law_is_settled" = true) (k33 : PySem.W.keepIn K (.ref f33) = true)
    {od34 an34 : Option Addr} {sl34 : Array (Option Value)} {oc34 kV34 dc34 pm34 cd34 ct34 : Value} {f34 : Addr} (a34 : PySem.W.nsIn K mainGlobals "_law_is_seen" = some (some (.ref f34))) (l34 : K.lookup f34 = some ⟨oc34, od34, .func (PySem.W.fnOf "_law_is_seen" "_law_is_seen" (defArgs s__law_is_seen) (defBody s__law_is_seen) (defScope s__law_is_seen) .none kV34 dc34 pm34 an34 cd34 ct34), sl34⟩) (c34 : PySem.W.codeIn K cd34 "_law_is_seen" = true) (k34 : PySem.W.keepIn K (.ref f34) = true)
    {od35 an35 : Option Addr} {sl35 : Array (Option Value)} {oc35 kV35 dc35 pm35 cd35 ct35 : Value} {f35 : Addr} (a35 : PySem.W.nsIn K mainGlobals "_law_powers" = some (some (.ref f35))) (l35 : K.lookup f35 = some ⟨oc35, od35, .func (PySem.W.fnOf "_law_powers" "_law_powers" (defArgs s__law_powers) (defBody s__law_powers) (defScope s__law_powers) .none kV35 dc35 pm35 an35 cd35 ct35), sl35⟩) (c35 : PySem.W.codeIn K cd35 "_law_powers" = true) (k35 : PySem.W.keepIn K (.ref f35) = true)
    {od36 an36 : Option Addr} {sl36 : Array (Option Value)} {oc36 kV36 dc36 pm36 cd36 ct36 : Value} {f36 : Addr} (a36 : PySem.W.nsIn K mainGlobals "_law_rooted" = some (some (.ref f36))) (l36 : K.lookup f36 = some ⟨oc36, od36, .func (PySem.W.fnOf "_law_rooted" "_law_rooted" (defArgs s__law_rooted) (defBody s__law_rooted) (defScope s__law_rooted) .none kV36 dc36 pm36 an36 cd36 ct36), sl36⟩) (c36 : PySem.W.codeIn K cd36 "_law_rooted" = true) (k36 : PySem.W.keepIn K (.ref f36) = true)
    {od37 an37 : Option Addr} {sl37 : Array (Option Value)} {oc37 kV37 dc37 pm37 cd37 ct37 : Value} {f37 : Addr} (a37 : PySem.W.nsIn K mainGlobals "_law_is_int" = some (some (.ref f37))) (l37 : K.lookup f37 = some ⟨oc37, od37, .func (PySem.W.fnOf "_law_is_int" "_law_is_int" (defArgs s__law_is_int) (defBody s__law_is_int) (defScope s__law_is_int) .none kV37 dc37 pm37 an37 cd37 ct37), sl37⟩) (c37 : PySem.W.codeIn K cd37 "_law_is_int" = true) (k37 : PySem.W.keepIn K (.ref f37) = true)
    {od38 an38 : Option Addr} {sl38 : Array (Option Value)} {oc38 kV38 dc38 pm38 cd38 ct38 : Value} {f38 : Addr} (a38 : PySem.W.nsIn K mainGlobals "_law_is_fraction" = some (some (.ref f38))) (l38 : K.lookup f38 = some ⟨oc38, od38, .func (PySem.W.fnOf "_law_is_fraction" "_law_is_fraction" (defArgs s__law_is_fraction) (defBody s__law_is_fraction) (defScope s__law_is_fraction) .none kV38 dc38 pm38 an38 cd38 ct38), sl38⟩) (c38 : PySem.W.codeIn K cd38 "_law_is_fraction" = true) (k38 : PySem.W.keepIn K (.ref f38) = true)
    {od39 an39 : Option Addr} {sl39 : Array (Option Value)} {oc39 kV39 dc39 pm39 cd39 ct39 : Value} {f39 : Addr} (a39 : PySem.W.nsIn K mainGlobals "_law_judged" = some (some (.ref f39))) (l39 : K.lookup f39 = some ⟨oc39, od39, .func (PySem.W.fnOf "_law_judged" "_law_judged" (defArgs s__law_judged) (defBody s__law_judged) (defScope s__law_judged) .none kV39 dc39 pm39 an39 cd39 ct39), sl39⟩) (c39 : PySem.W.codeIn K cd39 "_law_judged" = true) (k39 : PySem.W.keepIn K (.ref f39) = true)
    {od40 an40 : Option Addr} {sl40 : Array (Option Value)} {oc40 kV40 dc40 pm40 cd40 ct40 : Value} {f40 : Addr} (a40 : PySem.W.nsIn K mainGlobals "_law_signs_judged" = some (some (.ref f40))) (l40 : K.lookup f40 = some ⟨oc40, od40, .func (PySem.W.fnOf "_law_signs_judged" "_law_signs_judged" (defArgs s__law_signs_judged) (defBody s__law_signs_judged) (defScope s__law_signs_judged) .none kV40 dc40 pm40 an40 cd40 ct40), sl40⟩) (c40 : PySem.W.codeIn K cd40 "_law_signs_judged" = true) (k40 : PySem.W.keepIn K (.ref f40) = true)
    {od41 an41 : Option Addr} {sl41 : Array (Option Value)} {oc41 kV41 dc41 pm41 cd41 ct41 : Value} {f41 : Addr} (a41 : PySem.W.nsIn K mainGlobals "_law_answers" = some (some (.ref f41))) (l41 : K.lookup f41 = some ⟨oc41, od41, .func (PySem.W.fnOf "_law_answers" "_law_answers" (defArgs s__law_answers) (defBody s__law_answers) (defScope s__law_answers) .none kV41 dc41 pm41 an41 cd41 ct41), sl41⟩) (c41 : PySem.W.codeIn K cd41 "_law_answers" = true) (k41 : PySem.W.keepIn K (.ref f41) = true)
    {od42 an42 : Option Addr} {sl42 : Array (Option Value)} {oc42 kV42 dc42 pm42 cd42 ct42 : Value} {f42 : Addr} (a42 : PySem.W.nsIn K mainGlobals "_law_sign_things" = some (some (.ref f42))) (l42 : K.lookup f42 = some ⟨oc42, od42, .func (PySem.W.fnOf "_law_sign_things" "_law_sign_things" (defArgs s__law_sign_things) (defBody s__law_sign_things) (defScope s__law_sign_things) .none kV42 dc42 pm42 an42 cd42 ct42), sl42⟩) (c42 : PySem.W.codeIn K cd42 "_law_sign_things" = true) (k42 : PySem.W.keepIn K (.ref f42) = true)
    {od43 an43 : Option Addr} {sl43 : Array (Option Value)} {oc43 kV43 dc43 pm43 cd43 ct43 : Value} {f43 : Addr} (a43 : PySem.W.nsIn K mainGlobals "law" = some (some (.ref f43))) (l43 : K.lookup f43 = some ⟨oc43, od43, .func (PySem.W.fnOf "law" "law" (defArgs s_law) (defBody s_law) (defScope s_law) .none kV43 dc43 pm43 an43 cd43 ct43), sl43⟩) (c43 : PySem.W.codeIn K cd43 "law" = true) (k43 : PySem.W.keepIn K (.ref f43) = true)
    (z_sorted : PySem.W.nsIn K mainGlobals "sorted" = some none) (z_tuple : PySem.W.nsIn K mainGlobals "tuple" = some none) (z_range : PySem.W.nsIn K mainGlobals "range" = some none) (z_min : PySem.W.nsIn K mainGlobals "min" = some none) (z_sum : PySem.W.nsIn K mainGlobals "sum" = some none) (z_int : PySem.W.nsIn K mainGlobals "int" = some none) (z_abs : PySem.W.nsIn K mainGlobals "abs" = some none) (z_isinstance : PySem.W.nsIn K mainGlobals "isinstance" = some none) (z_bool : PySem.W.nsIn K mainGlobals "bool" = some none) (z_all : PySem.W.nsIn K mainGlobals "all" = some none) (z_len : PySem.W.nsIn K mainGlobals "len" = some none) (z_str : PySem.W.nsIn K mainGlobals "str" = some none) (z_zip : PySem.W.nsIn K mainGlobals "zip" = some none) (z_dict : PySem.W.nsIn K mainGlobals "dict" = some none) (z_list : PySem.W.nsIn K mainGlobals "list" = some none) (z_repr : PySem.W.nsIn K mainGlobals "repr" = some none) (w_gcd : PySem.W.nsIn K mainGlobals "gcd" = some (some (.builtin "math.gcd"))) {t_MOST_STEPS : Tok} (w_MOST_STEPS : PySem.W.nsIn K mainGlobals "MOST_STEPS" = some (some (.int 2000 t_MOST_STEPS)))
    (fact : ∀ ns : List Int, ns.length ≤ 63 → ∃ s', b_law ⟨.scr ns :: List.replicate 11 .un, none⟩ = some (.ok (.rt (.bool true)) s')) :
    ∃ fd : FuncData, (∀ (s : Shared) (v : Value), BindsTo s fd ⟨[v], []⟩ [("script", v)]) ∧ ∀ base : Heap, K.In base → base.Ns mainGlobals mg → FnG l.prog w K mg base 6 fa fd ["script"] (spLaw K 63) := by
  have e := hfa.symm.trans (PySem.W.mg_of X G a43)
  cases e
  refine ⟨PySem.W.fnOf "law" "law" (defArgs s_law) (defBody s_law) (defScope s_law) .none kV43 dc43 pm43 an43 cd43 ct43, fun s v => .of_eq rfl, fun base _ _ => ?_⟩
  have y_sorted := PySem.W.mg_none_of X G z_sorted
  have y_tuple := PySem.W.mg_none_of X G z_tuple
  have y_range := PySem.W.mg_none_of X G z_range
  have y_min := PySem.W.mg_none_of X G z_min
  have y_sum := PySem.W.mg_none_of X G z_sum
  have y_int := PySem.W.mg_none_of X G z_int
  have y_abs := PySem.W.mg_none_of X G z_abs
  have y_isinstance := PySem.W.mg_none_of X G z_isinstance
  have y_bool := PySem.W.mg_none_of X G z_bool
  have y_all := PySem.W.mg_none_of X G z_all
  have y_len := PySem.W.mg_none_of X G z_len
  have y_str := PySem.W.mg_none_of X G z_str
  have y_zip := PySem.W.mg_none_of X G z_zip
  have y_dict := PySem.W.mg_none_of X G z_dict
  have y_list := PySem.W.mg_none_of X G z_list
  have y_repr := PySem.W.mg_none_of X G z_repr
  have u_gcd := PySem.W.mg_of X G w_gcd
  have u_MOST_STEPS := PySem.W.mg_of X G w_MOST_STEPS
  have F1 := fun_mk (st := s_powers_of) l1 c1 k1
  have C1 := ok_powers_of (P := l.prog) (w := w) (base := base) F1 (PySem.W.mg_of X G a1) (F1.binds (ps := ["pairs"]) fun _ _ _ _ _ _ us hl => match us, hl with | [_], _ => rfl) y_sorted y_tuple
  have F2 := fun_mk (st := s_powers_sum) l2 c2 k2
  have C2 := ok_powers_sum (P := l.prog) (w := w) (base := base) F2 (PySem.W.mg_of X G a2) (F2.binds (ps := ["a", "b"]) fun _ _ _ _ _ _ us hl => match us, hl with | [_, _], _ => rfl) C1
  have F3 := fun_mk (st := s_powers_scaled) l3 c3 k3
  have C3 := ok_powers_scaled (P := l.prog) (w := w) (base := base) F3 (PySem.W.mg_of X G a3) (F3.binds (ps := ["c", "a"]) fun _ _ _ _ _ _ us hl => match us, hl with | [_, _], _ => rfl) C1
  have F4 := fun_mk (st := s_powers_less) l4 c4 k4
  have C4 := ok_powers_less (P := l.prog) (w := w) (base := base) F4 (PySem.W.mg_of X G a4) (F4.binds (ps := ["a", "b"]) fun _ _ _ _ _ _ us hl => match us, hl with | [_, _], _ => rfl) C2 C3
  have F5 := fun_mk (st := s_whole_power) l5 c5 k5
  have C5 := ok_whole_power (P := l.prog) (w := w) (base := base) F5 (PySem.W.mg_of X G a5) (F5.binds (ps := ["p", "n"]) fun _ _ _ _ _ _ us hl => match us, hl with | [_, _], _ => rfl) y_range
  have F6 := fun_mk (st := s_powers_at) l6 c6 k6
  have C6 := ok_powers_at (P := l.prog) (w := w) (base := base) F6 (PySem.W.mg_of X G a6) (F6.binds (ps := ["p", "powers", "n"]) fun _ _ _ _ _ _ us hl => match us, hl with | [_, _, _], _ => rfl) C5 y_min y_sum u_gcd
  have F7 := fun_mk (st := s_raised) l7 c7 k7
  have C7 := ok_raised (P := l.prog) (w := w) (base := base) F7 (PySem.W.mg_of X G a7) (F7.binds (ps := ["q", "n"]) fun _ _ _ _ _ _ us hl => match us, hl with | [_, _], _ => rfl) 
  have F8 := fun_mk (st := s_sign_at) l8 c8 k8
  have C8 := ok_sign_at (P := l.prog) (w := w) (base := base) F8 (PySem.W.mg_of X G a8) (F8.binds (ps := ["p", "powers", "n"]) fun _ _ _ _ _ _ us hl => match us, hl with | [_, _, _], _ => rfl) C7 y_int
  have F9 := fun_mk (st := s_weight_against) l9 c9 k9
  have C9 := ok_weight_against (P := l.prog) (w := w) (base := base) F9 (PySem.W.mg_of X G a9) (F9.binds (ps := ["powers"]) fun _ _ _ _ _ _ us hl => match us, hl with | [_], _ => rfl) y_abs y_sum
  have F10 := fun_mk (st := s_is_settled) l10 c10 k10
  have C10 := ok_is_settled (P := l.prog) (w := w) (base := base) F10 (PySem.W.mg_of X G a10) (F10.binds (ps := ["p", "powers", "n"]) fun _ _ _ _ _ _ us hl => match us, hl with | [_, _, _], _ => rfl) C7 C9 y_abs
  have F11 := fun_mk (st := s_is_seen) l11 c11 k11
  have C11 := ok_is_seen (P := l.prog) (w := w) (base := base) F11 (PySem.W.mg_of X G a11) (F11.binds (ps := ["p", "powers", "n"]) fun _ _ _ _ _ _ us hl => match us, hl with | [_, _, _], _ => rfl) C7 C9
  have F12 := fun_mk (st := s_signs_of) l12 c12 k12
  have C12 := ok_signs_of (P := l.prog) (w := w) (base := base) F12 (PySem.W.mg_of X G a12) (F12.binds (ps := ["p", "powers"]) fun _ _ _ _ _ _ us hl => match us, hl with | [_, _], _ => rfl) C8 C10 y_tuple
  have F13 := fun_mk (st := s_most_answer) l13 c13 k13
  have C13 := ok_most_answer (P := l.prog) (w := w) (base := base) F13 (PySem.W.mg_of X G a13) (F13.binds (ps := ["p", "a", "b"]) fun _ _ _ _ _ _ us hl => match us, hl with | [_, _, _], _ => rfl) C4 C11 C8 C6
  have F14 := fun_mk (st := s_is_integer) l14 c14 k14
  have C14 := ok_is_integer (P := l.prog) (w := w) (base := base) F14 (PySem.W.mg_of X G a14) (F14.binds (ps := ["value"]) fun _ _ _ _ _ _ us hl => match us, hl with | [_], _ => rfl) y_isinstance y_bool y_int
  have F15 := fun_mk (st := s_is_count) l15 c15 k15
  have C15 := ok_is_count (P := l.prog) (w := w) (base := base) F15 (PySem.W.mg_of X G a15) (F15.binds (ps := ["value"]) fun _ _ _ _ _ _ us hl => match us, hl with | [_], _ => rfl) C14 u_MOST_STEPS
  have F16 := fun_mk (st := s_common_divisor) l16 c16 k16
  have C16 := ok_common_divisor (P := l.prog) (w := w) (base := base) F16 (PySem.W.mg_of X G a16) (F16.binds (ps := ["a", "b"]) fun _ _ _ _ _ _ us hl => match us, hl with | [_, _], _ => rfl) y_abs
  have F17 := fun_mk (st := s_is_fraction) l17 c17 k17
  have C17 := ok_is_fraction (P := l.prog) (w := w) (base := base) F17 (PySem.W.mg_of X G a17) (F17.binds (ps := ["value"]) fun _ _ _ _ _ _ us hl => match us, hl with | [_], _ => rfl) C14 C16 y_all y_len y_isinstance y_tuple
  have F18 := fun_mk (st := s_judge_seen) l18 c18 k18
  have C18 := ok_judge_seen (P := l.prog) (w := w) (base := base) F18 (PySem.W.mg_of X G a18) (F18.binds (ps := ["p", "powers", "n"]) fun _ _ _ _ _ _ us hl => match us, hl with | [_, _, _], _ => rfl) C8 C11 y_range
  have F19 := fun_mk (st := s_judge_more) l19 c19 k19
  have C19 := ok_judge_more (P := l.prog) (w := w) (base := base) F19 (PySem.W.mg_of X G a19) (F19.binds (ps := ["p", "a", "b", "value"]) fun _ _ _ _ _ _ us hl => match us, hl with | [_, _, _, _], _ => rfl) C6 C8 C4
  have F20 := fun_mk (st := s_judge_most) l20 c20 k20
  have C20 := ok_judge_most (P := l.prog) (w := w) (base := base) F20 (PySem.W.mg_of X G a20) (F20.binds (ps := ["p", "a", "b", "value"]) fun _ _ _ _ _ _ us hl => match us, hl with | [_, _, _, _], _ => rfl) C15 C18 C4 C17 C19 y_isinstance y_str y_len y_tuple y_all
  have F21 := fun_mk (st := s_is_sign_pair) l21 c21 k21
  have C21 := ok_is_sign_pair (P := l.prog) (w := w) (base := base) F21 (PySem.W.mg_of X G a21) (F21.binds (ps := ["value"]) fun _ _ _ _ _ _ us hl => match us, hl with | [_], _ => rfl) C15 C14 y_len y_isinstance y_tuple
  have F22 := fun_mk (st := s_is_signs_form) l22 c22 k22
  have C22 := ok_is_signs_form (P := l.prog) (w := w) (base := base) F22 (PySem.W.mg_of X G a22) (F22.binds (ps := ["value"]) fun _ _ _ _ _ _ us hl => match us, hl with | [_], _ => rfl) C21 y_all y_isinstance y_tuple y_zip
  have F23 := fun_mk (st := s_judge_signs) l23 c23 k23
  have C23 := ok_judge_signs (P := l.prog) (w := w) (base := base) F23 (PySem.W.mg_of X G a23) (F23.binds (ps := ["p", "powers", "value"]) fun _ _ _ _ _ _ us hl => match us, hl with | [_, _, _], _ => rfl) C22 C10 C8 y_dict
  have F24 := fun_mk (st := s__law_source) l24 c24 k24
  have C24 := ok__law_source (P := l.prog) (w := w) (base := base) F24 (PySem.W.mg_of X G a24) (F24.binds (ps := ["script"]) fun _ _ _ _ _ _ us hl => match us, hl with | [_], _ => rfl) y_int y_abs
  have F25 := fun_mk (st := s__law_pick) l25 c25 k25
  have C25 := ok__law_pick (P := l.prog) (w := w) (base := base) F25 (PySem.W.mg_of X G a25) (F25.binds (ps := ["source", "many"]) fun _ _ _ _ _ _ us hl => match us, hl with | [_, _], _ => rfl) y_len y_int
  have F26 := fun_mk (st := s__law_of) l26 c26 k26
  have C26 := ok__law_of (P := l.prog) (w := w) (base := base) F26 (PySem.W.mg_of X G a26) (F26.binds (ps := ["source", "some"]) fun _ _ _ _ _ _ us hl => match us, hl with | [_, _], _ => rfl) C25 y_len
  have F27 := fun_mk (st := s__law_power) l27 c27 k27
  have C27 := ok__law_power (P := l.prog) (w := w) (base := base) F27 (PySem.W.mg_of X G a27) (F27.binds (ps := ["p", "n"]) fun _ _ _ _ _ _ us hl => match us, hl with | [_, _], _ => rfl) y_range
  have F28 := fun_mk (st := s__law_cut) l28 c28 k28
  have C28 := ok__law_cut (P := l.prog) (w := w) (base := base) F28 (PySem.W.mg_of X G a28) (F28.binds (ps := ["a", "b"]) fun _ _ _ _ _ _ us hl => match us, hl with | [_, _], _ => rfl) y_abs
  have F29 := fun_mk (st := s__law_at) l29 c29 k29
  have C29 := ok__law_at (P := l.prog) (w := w) (base := base) F29 (PySem.W.mg_of X G a29) (F29.binds (ps := ["p", "powers", "n"]) fun _ _ _ _ _ _ us hl => match us, hl with | [_, _, _], _ => rfl) C28 C27 y_min y_sum
  have F30 := fun_mk (st := s__law_less) l30 c30 k30
  have C30 := ok__law_less (P := l.prog) (w := w) (base := base) F30 (PySem.W.mg_of X G a30) (F30.binds (ps := ["a", "b"]) fun _ _ _ _ _ _ us hl => match us, hl with | [_, _], _ => rfl) y_list y_dict y_sorted y_tuple
  have F31 := fun_mk (st := s__law_sign) l31 c31 k31
  have C31 := ok__law_sign (P := l.prog) (w := w) (base := base) F31 (PySem.W.mg_of X G a31) (F31.binds (ps := ["p", "powers", "n"]) fun _ _ _ _ _ _ us hl => match us, hl with | [_, _, _], _ => rfl) C29 y_int
  have F32 := fun_mk (st := s__law_weights) l32 c32 k32
  have C32 := ok__law_weights (P := l.prog) (w := w) (base := base) F32 (PySem.W.mg_of X G a32) (F32.binds (ps := ["p", "powers", "n"]) fun _ _ _ _ _ _ us hl => match us, hl with | [_, _, _], _ => rfl) C27 y_abs y_sum
  have F33 := fun_mk (st := s__law_is_settled) l33 c33 k33
  have C33 := ok__law_is_settled (P := l.prog) (w := w) (base := base) F33 (PySem.W.mg_of X G a33) (F33.binds (ps := ["p", "powers", "n"]) fun _ _ _ _ _ _ us hl => match us, hl with | [_, _, _], _ => rfl) C32
  have F34 := fun_mk (st := s__law_is_seen) l34 c34 k34
  have C34 := ok__law_is_seen (P := l.prog) (w := w) (base := base) F34 (PySem.W.mg_of X G a34) (F34.binds (ps := ["p", "powers", "n"]) fun _ _ _ _ _ _ us hl => match us, hl with | [_, _, _], _ => rfl) C32
  have F35 := fun_mk (st := s__law_powers) l35 c35 k35
  have C35 := ok__law_powers (P := l.prog) (w := w) (base := base) F35 (PySem.W.mg_of X G a35) (F35.binds (ps := ["source"]) fun _ _ _ _ _ _ us hl => match us, hl with | [_], _ => rfl) C25 C26 y_range y_sorted y_tuple
  have F36 := fun_mk (st := s__law_rooted) l36 c36 k36
  have C36 := ok__law_rooted (P := l.prog) (w := w) (base := base) F36 (PySem.W.mg_of X G a36) (F36.binds (ps := ["source", "p"]) fun _ _ _ _ _ _ us hl => match us, hl with | [_, _], _ => rfl) C26 C25 C27 y_range y_list y_dict y_sorted y_tuple
  have F37 := fun_mk (st := s__law_is_int) l37 c37 k37
  have C37 := ok__law_is_int (P := l.prog) (w := w) (base := base) F37 (PySem.W.mg_of X G a37) (F37.binds (ps := ["value", "least", "most"]) fun _ _ _ _ _ _ us hl => match us, hl with | [_, _, _], _ => rfl) y_isinstance y_bool y_int
  have F38 := fun_mk (st := s__law_is_fraction) l38 c38 k38
  have C38 := ok__law_is_fraction (P := l.prog) (w := w) (base := base) F38 (PySem.W.mg_of X G a38) (F38.binds (ps := ["value"]) fun _ _ _ _ _ _ us hl => match us, hl with | [_], _ => rfl) C28 y_isinstance y_int y_all y_len y_tuple y_bool
  have F39 := fun_mk (st := s__law_judged) l39 c39 k39
  have C39 := ok__law_judged (P := l.prog) (w := w) (base := base) F39 (PySem.W.mg_of X G a39) (F39.binds (ps := ["p", "a", "b", "value"]) fun _ _ _ _ _ _ us hl => match us, hl with | [_, _, _, _], _ => rfl) C37 C30 C34 C31 C38 C29 y_len y_isinstance y_tuple y_range
  have F40 := fun_mk (st := s__law_signs_judged) l40 c40 k40
  have C40 := ok__law_signs_judged (P := l.prog) (w := w) (base := base) F40 (PySem.W.mg_of X G a40) (F40.binds (ps := ["p", "powers", "value"]) fun _ _ _ _ _ _ us hl => match us, hl with | [_, _, _], _ => rfl) C37 C33 C31 y_isinstance y_tuple y_len y_zip
  have F41 := fun_mk (st := s__law_answers) l41 c41 k41
  have C41 := ok__law_answers (P := l.prog) (w := w) (base := base) F41 (PySem.W.mg_of X G a41) (F41.binds (ps := ["source", "p", "a", "b"]) fun _ _ _ _ _ _ us hl => match us, hl with | [_, _, _, _], _ => rfl) C26 C29 y_list
  have F42 := fun_mk (st := s__law_sign_things) l42 c42 k42
  have C42 := ok__law_sign_things (P := l.prog) (w := w) (base := base) F42 (PySem.W.mg_of X G a42) (F42.binds (ps := ["source", "due"]) fun _ _ _ _ _ _ us hl => match us, hl with | [_, _], _ => rfl) C25 y_len y_list
  exact ok_law (fun_mk (st := s_law) l43 c43 k43) C24 C35 C25 C30 C36 C13 C26 C41 C20 C39 C12 C23 C42 C40 y_range y_repr fact
end K56
namespace K56
open PySem L2 DL
/-- |i| ≤ 2^k -/
def Le (k : Nat) (i : Int) : Prop := i.natAbs ≤ 2 ^ k
theorem Le.mul {a b : Nat} {i j : Int} (h : Le a i) (h' : Le b j) : Le (a + b) (i * j) := by
  unfold Le at *
  rw [Int.natAbs_mul, Nat.pow_add]
  exact Nat.mul_le_mul h h'
theorem Le.mono {a b : Nat} {i : Int} (h : Le a i) (k : a ≤ b) : Le b i := Nat.le_trans h (Nat.pow_le_pow_right (by decide) k)
theorem Le.add {a b : Nat} {i j : Int} (h : Le a i) (h' : Le b j) : Le (a + b + 1) (i + j) := by
  have h1 := h.mono (Nat.le_add_right a b)
  have h2 := h'.mono (Nat.le_add_left b a)
  unfold Le at *
  have := Int.natAbs_add_le i j
  rw [Nat.pow_succ]
  omega
theorem Le.pow {a : Nat} {i : Int} (h : Le a i) : ∀ n : Nat, Le (a * n) (i ^ n)
  | 0 => by simp [Le]
  | n + 1 => by
    rw [Int.pow_succ, Nat.mul_succ]
    exact (Le.pow h n).mul h
theorem Le.log {a : Nat} {i : Int} (h : Le a i) : i.natAbs.log2 ≤ a := by
  unfold Le at h
  by_cases z : i.natAbs = 0
  · rw [z]; simp
  · have := Nat.log2_lt (n := i.natAbs) (k := a + 1) z |>.mpr (Nat.lt_of_le_of_lt h (by rw [Nat.pow_succ]; have := Nat.two_pow_pos a; omega))
    omega
theorem mulOk_of {a b : Nat} {i j : Int} (h : Le a i) (h' : Le b j) (k : a + b < 1000000) : mulOk i j = true := by
  unfold mulOk
  rw [decide_eq_true_eq]
  have := h.log
  have := h'.log
  exact .inr (.inr (by omega))
theorem divOk_of {a : Nat} {i j : Int} (h0 : 0 < j) (h : Le a j) (k : a < 9000) : divOk i j = true := by
  unfold divOk
  rw [decide_eq_true_eq]
  have := h.log
  exact ⟨h0, by omega⟩
theorem odd_step (f g : Int) (k : Nat) : f * g * (g * g) ^ k = f * g ^ (2 * k + 1) := by
  rw [Int.pow_succ, Int.pow_mul]
  grind
theorem even_step (f g : Int) (k : Nat) : f * (g * g) ^ k = f * g ^ (2 * k) := by
  rw [Int.pow_mul]
  grind
theorem t_raised {q n : Int} {B : Nat} (hn : 0 ≤ n) (hq : Le B q) (hb : 2 * B * n.toNat < 1000000) : gets (den_raised [.d (.int q), .d (.int n)] none) fun d so => so = none ∧ d = .int (q ^ n.toNat) := by
  refine gets_den rfl rfl ?_
  unfold b_raised
  simp
  refine wp_while (fun m s => ∃ (n' f g : Int) (F G : Nat), s = ⟨[.d (.int q), .d (.int n'), .d (.int f), .d (.int g)], none⟩ ∧ m = n'.toNat ∧ 0 ≤ n' ∧ f * g ^ n'.toNat = q ^ n.toNat ∧ Le F f ∧ Le G g ∧ F + 2 * G * n'.toNat < 1000000) ?_ n.toNat _ ⟨n, 1, q, 0, B, rfl, rfl, hn, by simp, by simp [Le], hq, by omega⟩
  rintro m s ⟨n', f, g, F, G, rfl, rfl, h0, he, hF, hG, hb⟩
  simp
  by_cases hz : 0 < n'
  · simp [hz]
    have hb1 : 2 * G ≤ 2 * G * n'.toNat := Nat.le_mul_of_pos_right _ (by omega)
    have d2 : divOk n' 2 = true := divOk_of (a := 1) (by decide) (by unfold Le; decide) (by decide)
    have mg : mulOk g g = true := mulOk_of hG hG (by omega)
    split
    · rename_i ho
      have ek : n'.toNat = 2 * (n' / 2).toNat + 1 := by omega
      rw [ek] at he hb hb1
      refine ⟨mulOk_of hF hG (by omega), mg, d2, (n' / 2).toNat, by omega, n' / 2, _, _, ⟨rfl, rfl, rfl⟩, rfl, by omega, ?_, F + G, hF.mul hG, G + G, hG.mul hG, ?_⟩
      · rw [odd_step]; exact he
      · have : 2 * (G + G) * (n' / 2).toNat = 2 * G * (2 * (n' / 2).toNat + 1) - 2 * G := by grind
        omega
    · rename_i ho
      have ek : n'.toNat = 2 * (n' / 2).toNat := by omega
      rw [ek] at he hb hb1
      refine ⟨mg, d2, (n' / 2).toNat, by omega, n' / 2, _, _, ⟨rfl, rfl, rfl⟩, rfl, by omega, ?_, F, hF, G + G, hG.mul hG, ?_⟩
      · rw [even_step]; exact he
      · have : 2 * (G + G) * (n' / 2).toNat = 2 * G * (2 * (n' / 2).toNat) := by grind
        omega
  · have : n' = 0 := by omega
    subst this
    simp at he
    simp [hz, he]
/-! ### rows of pairs -/
def pp (ps : List (Int × Int)) : List D := ps.map fun q => .tuple [.int q.1, .int q.2]
def tp (ps : List (Int × Int)) : D := .tuple (pp ps)
theorem canLay_pp : ∀ ps, PyData.canLayAll0 (pp ps) = true
  | [] => rfl
  | q :: ps => by
    show ((PyData.tuple [.int q.1, .int q.2]).canLay0 && PyData.canLayAll0 (pp ps)) = true
    rw [canLay_pp ps]; rfl
theorem depth_pp : ∀ ps, PyData.depthAll (pp ps) ≤ 1
  | [] => by simp [pp, PyData.depthAll]
  | q :: ps => by
    have h := depth_pp ps
    show max (PyData.depth (.tuple [.int q.1, .int q.2])) (PyData.depthAll (pp ps)) ≤ 1
    have : PyData.depth (.tuple [.int q.1, .int q.2]) = 1 := rfl
    omega
theorem noDict_pp : ∀ ps, noDict.noDicts (pp ps) = true
  | [] => rfl
  | q :: ps => by
    show (noDict (.tuple [.int q.1, .int q.2]) && noDict.noDicts (pp ps)) = true
    rw [noDict_pp ps]; rfl
theorem shaped_tp (ps : List (Int × Int)) : SeqAt.shaped (tp ps) = true := by
  unfold SeqAt.shaped
  rw [Bool.and_eq_true, decide_eq_true_eq]
  refine ⟨canLay_pp ps, ?_⟩
  show PyData.depthAll (pp ps) + 1 ≤ 64
  have := depth_pp ps
  omega
theorem noDict_tp (ps : List (Int × Int)) : noDict (tp ps) = true := noDict_pp ps
theorem eqv_nil (ps : List (Int × Int)) : PyData.eqv (tp ps) (.tuple []) = ps.isEmpty := by cases ps <;> rfl
section
variable {s : S} {Q : D → S → Prop} {ps : List (Int × Int)}
@[simp] theorem wp_neN : wp (M.opt (gNe (tp ps) (.tuple []))) s Q ↔ Q (.bool (!ps.isEmpty)) s := by
  have e : gNe (tp ps) (.tuple []) = some (.bool (!ps.isEmpty)) := by
    show gNeD (tp ps) (.tuple []) = _
    unfold gNeD
    rw [shaped_tp, noDict_tp, eqv_nil]
    rfl
  rw [e]; exact wp_some
@[simp] theorem wp_eqN : wp (M.opt (gEq (tp ps) (.tuple []))) s Q ↔ Q (.bool ps.isEmpty) s := by
  have e : gEq (tp ps) (.tuple []) = some (.bool ps.isEmpty) := by
    show gEqD (tp ps) (.tuple []) = _
    unfold gEqD
    rw [shaped_tp, noDict_tp, eqv_nil]
    rfl
  rw [e]; exact wp_some
end
/-- Σ c * P^(i - lo) -/
def val (P : Int) (lo : Int) : List (Int × Int) → Int
  | [] => 0
  | (i, c) :: r => c * P ^ (i - lo).toNat + val P lo r
def sgn (x : Int) : Int := (if 0 < x then 1 else 0) - (if x < 0 then 1 else 0)
def lo (ps : List (Int × Int)) : Int := match ps with
  | [] => 0
  | q :: _ => q.1
theorem val_shift {P : Int} {a b : Int} (h : a ≤ b) : ∀ ps : List (Int × Int), (∀ q ∈ ps, b ≤ q.1) → val P b ps * P ^ (b - a).toNat = val P a ps
  | [], _ => by simp [val]
  | (i, c) :: r, hb => by
    have h1 := val_shift (P := P) h r fun q hq => hb q (List.mem_cons_of_mem _ hq)
    have h2 : b ≤ i := hb (i, c) List.mem_cons_self
    unfold val
    rw [Int.add_mul, h1, Int.mul_assoc, ← Int.pow_add]
    have e : (i - b).toNat + (b - a).toNat = (i - a).toNat := by omega
    rw [e]
/-- what is asked of powers, as far as reckoning goes -/
structure Fit (p n : Int) (b G B w : Nat) (ps : List (Int × Int)) : Prop where
  asc : ps.Pairwise (fun q r => q.1 < r.1)
  wid : ∀ q ∈ ps, ∀ r ∈ ps, r.1 - q.1 ≤ w
  co : ∀ q ∈ ps, Le B q.2
  n0 : 0 ≤ n
  lp : Le b p
  lb : 2 * b * n.toNat < 1000000
  lg : Le G (p ^ n.toNat)
  lim : (ps.length + 2) * (2 * w * G + B + 1) < 1000000
theorem tp_rev (ps : List (Int × Int)) : (pp ps).reverse = pp ps.reverse := by unfold pp; rw [List.map_reverse]
@[simp] theorem dOf_nil : dOf [] = [] := rfl
@[simp] theorem dOf_cons {d : D} {ds : List D} : dOf (d :: ds) = .d d :: dOf ds := rfl
@[simp] theorem at20 {a b : D} : atI [a, b] 0 = some a := rfl
@[simp] theorem at21 {a b : D} : atI [a, b] 1 = some b := rfl
theorem pp_append (xs ys : List (Int × Int)) : pp (xs ++ ys) = pp xs ++ pp ys := by unfold pp; rw [List.map_append]
theorem wp_ixLast {s : S} {Q : D → S → Prop} {ps pre : List (Int × Int)} {t c : Int} (h : ps = pre ++ [(t, c)]) : wp (M.opt (gIx (tp ps) (.int (-1)))) s Q ↔ Q (.tuple [.int t, .int c]) s := by
  subst h
  have e : gIx (tp (pre ++ [(t, c)])) (.int (-1)) = some (.tuple [.int t, .int c]) := by
    show atI (pp (pre ++ [(t, c)])) (-1) = _
    rw [pp_append]
    exact atI_last _ _
  rw [e]; exact wp_some
@[simp] theorem wp_revTp {s : S} {Q : D → S → Prop} {ps : List (Int × Int)} : wp (M.opt (gRev (tp ps))) s Q ↔ Q (tp ps.reverse) s := by
  have e : gRev (tp ps) = some (tp ps.reverse) := by unfold tp; rw [← tp_rev]; rfl
  rw [e]; exact wp_some
@[simp] theorem wp_seqTp {s : S} {Q : List D → S → Prop} {ps : List (Int × Int)} : wp (M.opt (seqOf (tp ps))) s Q ↔ Q (pp ps) s := wp_ok rfl
theorem ends {ps : List (Int × Int)} (h : ps ≠ []) : ∃ pre t c, ps = pre ++ [(t, c)] := ⟨ps.dropLast, (ps.getLast h).1, (ps.getLast h).2, (List.dropLast_concat_getLast h).symm⟩
theorem lim_mul {a b X : Nat} (h : a * X < 1000000) (k : b ≤ a) : b * X < 1000000 := Nat.lt_of_le_of_lt (Nat.mul_le_mul_right X k) h
/-- Horner's walk from the greatest down -/
theorem horner {p n : Int} {b G B w : Nat} {ps : List (Int × Int)} (F : Fit p n b G B w ps) {Q : Fl → S → Prop} {x y : SV} {t : Int} (ht : (∀ q ∈ ps, q.1 ≤ t ∧ t - q.1 ≤ w)) (h0 : ps = [] → t = 0)
    (k : ∀ x y ab, Q .nx ⟨[.d (.int p), .d (tp ps), .d (.int n), .d (.int (val (p ^ n.toNat) (lo ps) ps)), .d (.int ab), .d (.int (p ^ n.toNat)), x, y], none⟩) :
    wp (loopF (mGTup 2 (mGCons (mName 6) (mGCons (mName 7) mGNil))) (mPar2 3 4 (mConsD (mOp2 gAdd (mOp2 gMul (mVar 3) (mCall den_raised (mCons (mVar 5) (mCons (mOp2 DL.gSub (mVar 4) (mVar 6)) mNil)))) (mVar 7)) (mConsD (mVar 6) mNilV))) (pp ps.reverse))
      ⟨[.d (.int p), .d (tp ps), .d (.int n), .d (.int 0), .d (.int t), .d (.int (p ^ n.toNat)), x, y], none⟩ Q := by
  refine wp_loop (fun ds s => ∃ pre suf tot ab x y, ps = pre ++ suf ∧ ds = pp pre.reverse ∧ s = ⟨[.d (.int p), .d (tp ps), .d (.int n), .d (.int tot), .d (.int ab), .d (.int (p ^ n.toNat)), x, y], none⟩ ∧ tot = val (p ^ n.toNat) ab suf ∧
    (∀ q ∈ suf, ab ≤ q.1) ∧ (∀ q ∈ pre, q.1 ≤ ab ∧ ab - q.1 ≤ w) ∧ Le (suf.length * (w * G + B + 1)) tot ∧ (suf ≠ [] → ab = lo suf)) ?_ ?_ _ _ ⟨ps, [], 0, t, x, y, by simp, rfl, rfl, rfl, by simp, ht, by simp [Le], by simp⟩
  · rintro d ds s ⟨pre, suf, tot, ab, x, y, e1, e2, rfl, e3, h1, h2, h3, h4⟩
    have hpre : pre ≠ [] := fun z => by rw [z] at e2; cases e2
    obtain ⟨pre', i, c, rfl⟩ := ends hpre
    rw [List.reverse_append] at e2
    have e2 : d :: ds = .tuple [.int i, .int c] :: pp pre'.reverse := e2
    cases e2
    have hi := h2 (i, c) (by simp)
    have hm : (i, c) ∈ ps := by rw [e1]; simp
    have hl : suf.length + 1 ≤ ps.length := by rw [e1]; simp
    simp
    refine wp_call ?_
    simp
    have gw : (ab - i).toNat ≤ w := by omega
    have lim := F.lim
    have lw : 2 * w * G < 1000000 := by
      have := lim_mul lim (b := 1) (by omega)
      omega
    have lr : 2 * G * (ab - i).toNat ≤ 2 * w * G := by
      have : 2 * G * (ab - i).toNat ≤ 2 * G * w := Nat.mul_le_mul_left _ gw
      have e : 2 * G * w = 2 * w * G := by grind
      omega
    refine gets_mono (t_raised (by omega) F.lg (by omega)) ?_
    rintro _ _ ⟨rfl, rfl⟩
    refine ⟨rfl, ?_⟩
    have lP : Le (w * G) ((p ^ n.toNat) ^ (ab - i).toNat) := (F.lg.pow _).mono (by rw [Nat.mul_comm]; exact Nat.mul_le_mul_right _ gw)
    have lt := h3.mul lP
    have l1 : suf.length * (w * G + B + 1) + w * G < 1000000 := by
      have a1 := lim_mul lim (b := suf.length + 1) (by omega)
      have a2 : (suf.length + 1) * (w * G + B + 1) ≤ (suf.length + 1) * (2 * w * G + B + 1) := Nat.mul_le_mul_left _ (by grind)
      have a3 : (suf.length + 1) * (w * G + B + 1) = suf.length * (w * G + B + 1) + (w * G + B + 1) := Nat.succ_mul _ _
      omega
    have lB := F.co (i, c) hm
    simp
    refine ⟨mulOk_of h3 lP l1, pre', (i, c) :: suf, by simp [e1], rfl, _, _, ⟨rfl, rfl⟩, ?_, ?_, ?_, ?_, ?_⟩
    · have hs := val_shift (P := p ^ n.toNat) hi.1 suf h1
      unfold val
      rw [e3, hs]
      simp
      omega
    · intro u v hq
      rcases List.mem_cons.mp hq with e | hq
      · cases e; exact Int.le_refl _
      · have := h1 (u, v) hq
        have := hi.1
        omega
    · intro u v hq
      have := F.asc
      rw [e1] at this
      have h5 := (List.pairwise_append.mp (List.pairwise_append.mp this).1).2.2 (u, v) hq (i, c) (by simp)
      have h6 := F.wid (u, v) (by rw [e1]; simp [hq]) (i, c) hm
      simp at h5 h6
      omega
    · have := lt.add lB
      refine this.mono ?_
      rw [List.length_cons, Nat.succ_mul]
      omega
    · intro _; rfl
  · rintro s ⟨pre, suf, tot, ab, x, y, e1, e2, rfl, e3, h1, h2, h3, h4⟩
    have hp : pre = [] := by
      cases pre with
      | nil => rfl
      | cons a b => simp [pp] at e2
    subst hp
    simp at e1
    subst e1
    rw [e3]
    by_cases hn : ps = []
    · subst hn
      have := k x y ab
      exact this
    · rw [h4 hn]
      exact k x y _
theorem t_sign_at {p n : Int} {b G B w : Nat} {ps : List (Int × Int)} (F : Fit p n b G B w ps) : gets (den_sign_at [.d (.int p), .d (tp ps), .d (.int n)] none) fun d so => so = none ∧ d = .int (sgn (val (p ^ n.toNat) (lo ps) ps)) := by
  refine gets_den rfl rfl ?_
  unfold b_sign_at
  by_cases hn : ps = []
  · have he : ps.isEmpty = true := by rw [hn]; rfl
    simp [he]
    refine wp_call ?_
    simp
    refine gets_mono (t_raised F.n0 F.lp F.lb) ?_
    rintro _ _ ⟨rfl, rfl⟩
    simp
    refine horner F (by rw [hn]; simp) (fun _ => rfl) fun x y ab => ?_
    simp [sgn]
  · obtain ⟨pre, t, c, hp⟩ := ends hn
    have he : ps.isEmpty = false := by rw [hp]; simp
    simp [he, wp_ixLast hp]
    refine wp_call ?_
    simp
    refine gets_mono (t_raised F.n0 F.lp F.lb) ?_
    rintro _ _ ⟨rfl, rfl⟩
    simp
    refine horner F ?_ (fun h => absurd h hn) fun x y ab => ?_
    · intro q hq
      have hm : (t, c) ∈ ps := by rw [hp]; simp
      have h6 := F.wid q hq (t, c) hm
      have h7 := F.asc
      rw [hp] at h7 hq
      rcases List.mem_append.mp hq with h | h
      · have := (List.pairwise_append.mp h7).2.2 q h (t, c) (by simp)
        simp at this h6
        omega
      · simp at h
        subst h
        simp
    · simp [sgn]
end K56
namespace K56
open PySem L2 DL
def aw (x : Int) : Int := if x < 0 then -x else x
def enc2 (q : Int × Int) : D := .tuple [.int q.1, .int q.2]
theorem pp_enc (ps : List (Int × Int)) : pp ps = ps.map enc2 := rfl
/-- what weighs against the last -/
def wa (l : Int) (ps : List (Int × Int)) : Int := ((ps.filter fun q => decide (q.2 * l < 0)).map fun q => aw q.2).sum
theorem sizeLine_ge {n : Nat} (h : n ≤ 1000000) : n ≤ sizeLine := by rw [sizeLine_eq]; omega
theorem ints_map {α : Type} (f : α → Int) (xs : List α) : (xs.map fun x => PyData.int (f x)) = (xs.map f).map .int := by rw [List.map_map]; rfl
theorem t_weight {ps pre : List (Int × Int)} {t l : Int} {B : Nat} (hp : ps = pre ++ [(t, l)]) (co : ∀ q ∈ ps, Le B q.2) (hb : 2 * B < 1000000) (hl : ps.length ≤ 1000000) : gets (den_weight_against [.d (tp ps)] none) fun d so => so = none ∧ d = .int (wa l ps) := by
  refine gets_den rfl rfl ?_
  unfold b_weight_against
  simp
  rw [pp_enc]
  refine runC_enc enc2 (fun q => decide (q.2 * l < 0)) (fun q => .int (aw q.2)) ps [] (by simpa using sizeLine_ge hl) ?_ ?_
  · rintro ⟨i, c⟩ hq
    have h1 := co _ hq
    have h2 := co (t, l) (by rw [hp]; simp)
    refine ⟨_, rfl, ?_⟩
    simp [wp_ixLast hp]
    refine ⟨mulOk_of h1 h2 (by omega), ?_⟩
    split <;> simp [aw] <;> (intro _ _; omega)
  · simp
    rfl
/-- settled, seen -/
def stl (P : Int) (ps : List (Int × Int)) : Bool := match ps.getLast? with
  | none => true
  | some q => decide (wa q.2 ps < aw q.2 * P)
def seen (P : Int) (ps : List (Int × Int)) : Bool := match ps.getLast? with
  | none => true
  | some q => decide (0 < q.2) && decide (wa q.2 ps ≤ q.2 * P)
theorem Le.aw {a : Nat} {x : Int} (h : Le a x) : Le a (aw x) := by
  unfold Le K56.aw at *
  split <;> omega
theorem t_settled {p n : Int} {b G B w : Nat} {ps : List (Int × Int)} (F : Fit p n b G B w ps) (hl : ps.length ≤ 1000000) (hG : B + G < 1000000) : gets (den_is_settled [.d (.int p), .d (tp ps), .d (.int n)] none) fun d so => so = none ∧ d = .bool (stl (p ^ n.toNat) ps) := by
  refine gets_den rfl rfl ?_
  unfold b_is_settled
  by_cases hn : ps = []
  · subst hn
    simp
    rfl
  · obtain ⟨pre, t, c, hp⟩ := ends hn
    have he : ps.isEmpty = false := by rw [hp]; simp
    have hs : stl (p ^ n.toNat) ps = decide (wa c ps < aw c * p ^ n.toNat) := by unfold stl; rw [show ps.getLast? = some (t, c) by rw [hp]; simp]
    have lB := F.co (t, c) (by rw [hp]; simp)
    have lim := F.lim
    have hB : 2 * B < 1000000 := by
      have := lim_mul lim (b := 2) (by omega)
      omega
    simp [he, wp_ixLast hp]
    refine wp_call ?_
    simp
    refine gets_mono (t_raised F.n0 F.lp F.lb) ?_
    rintro _ _ ⟨rfl, rfl⟩
    refine ⟨rfl, ?_⟩
    simp
    refine ⟨mulOk_of lB.aw F.lg hG, ?_⟩
    refine wp_call ?_
    simp
    refine gets_mono (t_weight hp F.co hB hl) ?_
    rintro _ _ ⟨rfl, rfl⟩
    simp [hs]
    rfl
theorem t_seen {p n : Int} {b G B w : Nat} {ps : List (Int × Int)} (F : Fit p n b G B w ps) (hl : ps.length ≤ 1000000) (hG : B + G < 1000000) : gets (den_is_seen [.d (.int p), .d (tp ps), .d (.int n)] none) fun d so => so = none ∧ d = .bool (seen (p ^ n.toNat) ps) := by
  refine gets_den rfl rfl ?_
  unfold b_is_seen
  by_cases hn : ps = []
  · subst hn
    simp
    rfl
  · obtain ⟨pre, t, c, hp⟩ := ends hn
    have he : ps.isEmpty = false := by rw [hp]; simp
    have hs : seen (p ^ n.toNat) ps = (decide (0 < c) && decide (wa c ps ≤ c * p ^ n.toNat)) := by unfold seen; rw [show ps.getLast? = some (t, c) by rw [hp]; simp]
    have lB := F.co (t, c) (by rw [hp]; simp)
    have lim := F.lim
    have hB : 2 * B < 1000000 := by
      have := lim_mul lim (b := 2) (by omega)
      omega
    simp [he, wp_ixLast hp]
    by_cases hc : 0 < c
    · simp [hc]
      refine wp_call ?_
      simp
      refine gets_mono (t_raised F.n0 F.lp F.lb) ?_
      rintro _ _ ⟨rfl, rfl⟩
      refine ⟨rfl, ?_⟩
      simp
      refine ⟨mulOk_of lB F.lg hG, ?_⟩
      refine wp_call ?_
      simp
      refine gets_mono (t_weight hp F.co hB hl) ?_
      rintro _ _ ⟨rfl, rfl⟩
      simp [hs, hc]
    · simp [hc, hs]
/-! ### the law's own words -/
theorem t_power {p n : Int} (hp : -(2 ^ 64) < p ∧ p < 2 ^ 64) (h1 : -(2 ^ 62) ≤ n) (h2 : n < 2 ^ 62) : gets (den__law_power [.d (.int p), .d (.int n)] none) fun d so => so = none ∧ d = .int (p ^ n.toNat) := by
  refine gets_den rfl rfl ?_
  unfold b__law_power
  simp
  refine ⟨by omega, ?_⟩
  refine wp_loop (fun ds s => ∃ k x, k + ds.length = n.toNat ∧ s = ⟨[.d (.int p), .d (.int n), .d (.int (p ^ k)), x], none⟩) ?_ ?_ _ _ ⟨0, .un, by simp [rangeD_length], by simp⟩
  · rintro d ds s ⟨k, x, hk, rfl⟩
    refine ⟨_, rfl, ?_⟩
    simp
    refine ⟨?_, k + 1, ?_, ?_⟩
    · unfold mulOk
      rw [decide_eq_true_eq]
      exact .inr (.inl hp)
    · simp at hk; omega
    · rw [Int.pow_succ]
  · rintro s ⟨k, x, hk, rfl⟩
    simp at hk
    simp [hk]
theorem t_cut {a b : Int} {A : Nat} (hb : 0 < b) (lb : Le 8000 b) (la : Le A a) (hA : A < 900000) : gets (den__law_cut [.d (.int a), .d (.int b)] none) fun d so => so = none ∧ ∃ g : Int, 0 < g ∧ g ∣ a ∧ g ∣ b ∧ d = .tuple [.int (a / g), .int (b / g)] := by
  refine gets_den rfl rfl ?_
  unfold b__law_cut
  simp
  refine wp_while (fun m s => ∃ one other : Int, s = ⟨[.d (.int a), .d (.int b), .d (.int one), .d (.int other)], none⟩ ∧ m = other.toNat ∧ 0 ≤ one ∧ 0 ≤ other ∧ Le 8000 other ∧ Le (A + 8001) one ∧ (0 < one ∨ 0 < other) ∧ (other = 0 → Le 8000 one) ∧ ∀ g : Int, g ∣ one → g ∣ other → g ∣ a ∧ g ∣ b) ?_ b.toNat _ ⟨aw a, b, rfl, rfl, ?_, by omega, lb, la.aw.mono (by omega), .inr hb, by omega, ?_⟩
  · rintro m s ⟨one, other, rfl, rfl, h1, h2, l2, l1, h3, h4, hg⟩
    simp
    by_cases hz : 0 < other
    · simp [hz]
      have e : one - one / other * other = one % other := by rw [Int.emod_def, Int.mul_comm]
      have r0 := Int.emod_nonneg one (show other ≠ 0 by omega)
      have r1 := Int.emod_lt_of_pos one hz
      have lq : Le (A + 8001) (one / other) := by
        unfold Le at *
        have := Int.natAbs_ediv_le_natAbs one other
        omega
      refine ⟨divOk_of hz l2 (by decide), mulOk_of lq l2 (by omega), other.toNat - 1 - (other - 1 - one % other).toNat, by omega, other, one % other, ⟨rfl, e⟩, by omega, h2, r0, ?_, l2.mono (by omega), .inl hz, fun _ => l2, fun g g1 g2 => ?_⟩
      · unfold Le at *; omega
      · refine hg g ?_ g1
        have h8 : g ∣ other * (one / other) := Int.dvd_trans g1 (Int.dvd_mul_right _ _)
        have := Int.dvd_add h8 g2
        rw [Int.mul_ediv_add_emod] at this
        exact this
    · simp [hz]
      have z : other = 0 := by omega
      have ho : 0 < one := by omega
      obtain ⟨d1, d2⟩ := hg one (Int.dvd_refl _) (by rw [z]; exact Int.dvd_zero _)
      exact ⟨divOk_of ho (h4 z) (by decide), divOk_of ho (h4 z) (by decide), sizeLine_ge (by decide), one, ho, d1, d2, rfl, rfl⟩
  · unfold aw; split <;> omega
  · intro g h5 h6
    refine ⟨?_, h6⟩
    unfold aw at h5
    split at h5
    · exact (Int.dvd_neg).mp h5
    · exact h5
/-! ### the law's signs -/
theorem sgn_pos {x y : Int} (h : 0 < y) : sgn (x * y) = sgn x := by
  unfold sgn
  rcases Int.lt_trichotomy x 0 with hx | hx | hx
  · have := Int.mul_neg_of_neg_of_pos hx h
    rw [if_neg (by omega), if_pos this, if_neg (by omega), if_pos hx]
  · subst hx; simp
  · have := Int.mul_pos hx h
    rw [if_pos this, if_neg (by omega), if_pos hx, if_neg (by omega)]
theorem sgn_div {a g : Int} (h0 : 0 < g) (h : g ∣ a) : sgn (a / g) = sgn a := by
  have := sgn_pos (x := a / g) h0
  rw [Int.ediv_mul_cancel h] at this
  exact this.symm
theorem val_pow {p n lo : Int} (hn : 0 ≤ n) : ∀ ps : List (Int × Int), (∀ q ∈ ps, lo ≤ q.1) → (ps.map fun q => q.2 * p ^ ((q.1 - lo) * n).toNat).sum = val (p ^ n.toNat) lo ps
  | [], _ => rfl
  | (i, c) :: r, h => by
    have h1 : lo ≤ i := h (i, c) List.mem_cons_self
    have e : ((i - lo) * n).toNat = n.toNat * (i - lo).toNat := by
      have := Int.toNat_mul (show 0 ≤ i - lo by omega) hn
      rw [this, Nat.mul_comm]
    rw [List.map_cons, List.sum_cons, val_pow hn r fun q hq => h q (List.mem_cons_of_mem _ hq)]
    show c * p ^ ((i - lo) * n).toNat + val (p ^ n.toNat) lo r = val (p ^ n.toNat) lo ((i, c) :: r)
    rw [e, Int.pow_mul]
    rfl
/-- what is asked of the law's powers -/
structure Gd (ps : List (Int × Int)) : Prop where
  asc : ps.Pairwise (fun q r => q.1 < r.1)
  ex : ∀ q ∈ ps, -5 ≤ q.1 ∧ q.1 ≤ 5
  co : ∀ q ∈ ps, Le 31 q.2
  nz : ∀ q ∈ ps, q.2 ≠ 0
  len : ps.length ≤ 11
theorem Le.val {P lo : Int} {G : Nat} (hP : Le G P) : ∀ ps : List (Int × Int), (∀ q ∈ ps, (q.1 - lo).toNat ≤ 10 ∧ Le 31 q.2) → Le (ps.length * (10 * G + 32)) (val P lo ps)
  | [], _ => by simp [Le, K56.val]
  | (i, c) :: r, h => by
    obtain ⟨h1, h2⟩ := h (i, c) List.mem_cons_self
    have ih := Le.val hP r fun q hq => h q (List.mem_cons_of_mem _ hq)
    have a1 := h2.mul ((hP.pow (i - lo).toNat).mono (show G * (i - lo).toNat ≤ 10 * G by rw [Nat.mul_comm]; exact Nat.mul_le_mul_right _ h1))
    have a2 := a1.add ih
    refine a2.mono ?_
    have e : (r.length + 1) * (10 * G + 32) = r.length * (10 * G + 32) + (10 * G + 32) := Nat.succ_mul _ _
    rw [List.length_cons, e]
    omega
theorem e_min {α : Type} (f : α → Int) (x : Int) (xs : List α) : gMinL [.list (.int x :: xs.map fun y => .int (f y))] = some (.int (minI x (xs.map f))) := by
  have e : asInts (.int x :: xs.map fun y => .int (f y)) = some (x :: xs.map f) := by
    show (asInts (xs.map fun y => .int (f y))).map (x :: ·) = _
    rw [ints_map, asInts_map]
    rfl
  unfold gMinL
  simp only [e]
theorem filter_yes {α : Type} (xs : List α) : xs.filter (fun _ => true) = xs := List.filter_eq_self.mpr fun _ _ => rfl
theorem lo_least {p : Int} {ps : List (Int × Int)} {m : Int} (asc : ps.Pairwise (fun q r => q.1 < r.1)) (hm : ∀ q ∈ ps, m ≤ q.1) (hp : 0 < p) : sgn (val p m ps) = sgn (val p (lo ps) ps) := by
  cases ps with
  | nil => rfl
  | cons q r =>
    have hl : ∀ x ∈ q :: r, lo (q :: r) ≤ x.1 := fun x hx => by
      rcases List.mem_cons.mp hx with e | h
      · rw [e]; exact Int.le_refl _
      · have := (List.pairwise_cons.mp asc).1 x h
        show q.1 ≤ x.1
        omega
    rw [← val_shift (hm q List.mem_cons_self) (q :: r) hl]
    exact sgn_pos (Int.pow_pos hp)
theorem t_at {p n : Int} {ps : List (Int × Int)} (hg : Gd ps) (h2 : 2 ≤ p) (h3 : p ≤ 3) (n0 : 0 ≤ n) (n1 : n ≤ 60) : gets (den__law_at [.d (.int p), .d (tp ps), .d (.int n)] none) fun d so => so = none ∧ ∃ x y : Int, d = .tuple [.int x, .int y] ∧ sgn x = sgn (val (p ^ n.toNat) (lo ps) ps) := by
  refine gets_den rfl rfl ?_
  unfold b__law_at
  have hl := hg.len
  have lp : Le 2 p := by unfold Le; omega
  have pn : -(2 ^ 64) < p ∧ p < 2 ^ 64 := by omega
  simp
  refine ⟨by rw [sizeLine_eq]; decide, ?_⟩
  rw [pp_enc]
  refine runC_enc enc2 (fun q => true) (fun q => .int q.1) ps [] (sizeLine_ge (by simp; omega)) ?_ ?_
  · rintro ⟨i, c⟩ hq
    refine ⟨_, rfl, ?_⟩
    simp
  · simp
    rw [filter_yes, e_min]
    refine ⟨sizeLine_ge (by omega), ?_⟩
    simp
    obtain ⟨m1, m2⟩ := minI_le (ps.map (·.1)) 0
    have m3 := minI_mem (ps.map (·.1)) 0
    generalize hm : minI 0 (ps.map (·.1)) = m at m1 m2 m3 ⊢
    have m4 : ∀ q ∈ ps, m ≤ q.1 := fun q hq => m2 q.1 (List.mem_map_of_mem hq)
    have m5 : -5 ≤ m := by
      rcases List.mem_cons.mp m3 with e | h
      · omega
      · obtain ⟨q, hq, e⟩ := List.mem_map.mp h
        have := hg.ex q hq
        omega
    have bd : ∀ i : Int, m ≤ i → i ≤ 5 → 0 ≤ (i - m) * n ∧ (i - m) * n ≤ 600 := fun i h4 h5 => by
      refine ⟨Int.mul_nonneg (by omega) n0, ?_⟩
      have := Int.mul_le_mul (show i - m ≤ 10 by omega) n1 n0 (by decide)
      omega
    have b2 : 0 ≤ -m * n ∧ -m * n ≤ 600 := ⟨Int.mul_nonneg (by omega) n0, by have := Int.mul_le_mul (show -m ≤ 10 by omega) n1 n0 (by decide); omega⟩
    refine wp_call ?_
    simp
    rw [pp_enc]
    refine runC_enc enc2 (fun q => true) (fun q => .int (q.2 * p ^ ((q.1 - m) * n).toNat)) ps [] (sizeLine_ge (by simp; omega)) ?_ ?_
    · rintro ⟨i, c⟩ hq
      have hi := hg.ex (i, c) hq
      have hc := hg.co (i, c) hq
      have b3 := bd i (m4 (i, c) hq) hi.2
      refine ⟨_, rfl, ?_⟩
      simp
      refine wp_call ?_
      simp
      refine ⟨?_, ?_⟩
      · refine mulOk_of (a := 4) (b := 6) ?_ ?_ (by decide)
        · have := m4 (i, c) hq
          unfold Le
          simp at this hi
          omega
        · unfold Le; omega
      · refine gets_mono (t_power pn (by omega) (by omega)) ?_
        rintro _ _ ⟨rfl, rfl⟩
        refine ⟨rfl, ?_⟩
        simp
        refine mulOk_of hc (lp.pow _) ?_
        omega
    · simp
      rw [filter_yes, val_pow n0 ps m4]
      refine wp_call ?_
      simp
      refine ⟨?_, ?_⟩
      · refine mulOk_of (a := 3) (b := 6) ?_ ?_ (by decide) <;> unfold Le <;> omega
      · have e : -(m * n) = -m * n := by rw [Int.neg_mul]
        rw [e]
        refine gets_mono (t_power pn (by omega) (by omega)) ?_
        rintro _ _ ⟨rfl, rfl⟩
        refine ⟨rfl, ?_⟩
        have hy : 0 < p ^ (-m * n).toNat := Int.pow_pos (by omega)
        have lP : Le 120 (p ^ n.toNat) := (lp.pow _).mono (by omega)
        have lv := Le.val (lo := m) lP ps fun q hq => ⟨by have := hg.ex q hq; have := m4 q hq; omega, hg.co q hq⟩
        have lA : ps.length * (10 * 120 + 32) ≤ 11 * 1232 := Nat.mul_le_mul hl (by decide)
        refine gets_mono (t_cut hy ((lp.pow _).mono (by omega)) lv (by omega)) ?_
        rintro _ _ ⟨rfl, g, g0, g1, g2, rfl⟩
        simp
        rw [sgn_div g0 g1]
        exact lo_least hg.asc m4 (Int.pow_pos (by omega))
theorem t_law_sign {p n : Int} {ps : List (Int × Int)} (hg : Gd ps) (h2 : 2 ≤ p) (h3 : p ≤ 3) (n0 : 0 ≤ n) (n1 : n ≤ 60) : gets (den__law_sign [.d (.int p), .d (tp ps), .d (.int n)] none) fun d so => so = none ∧ d = .int (sgn (val (p ^ n.toNat) (lo ps) ps)) := by
  refine gets_den rfl rfl ?_
  unfold b__law_sign
  simp
  refine wp_call ?_
  simp
  refine gets_mono (t_at hg h2 h3 n0 n1) ?_
  rintro _ _ ⟨rfl, x, y, rfl, e⟩
  simp
  rw [← e]
  rfl
end K56
namespace K56
open PySem L2 DL
@[simp] theorem szLine : sizeLine = 16777216 := sizeLine_eq
theorem Gd.lA {ps : List (Int × Int)} (hg : Gd ps) : ps.length ≤ 1000000 := by have := hg.len; omega
theorem t_law_weights {p n t l : Int} {ps pre : List (Int × Int)} (hg : Gd ps) (hp : ps = pre ++ [(t, l)]) (h2 : 2 ≤ p) (h3 : p ≤ 3) (n0 : 0 ≤ n) (n1 : n ≤ 60) : gets (den__law_weights [.d (.int p), .d (tp ps), .d (.int n)] none) fun d so => so = none ∧ d = .tuple [.int (aw l * p ^ n.toNat), .int (wa l ps)] := by
  refine gets_den rfl rfl ?_
  unfold b__law_weights
  have lp : Le 2 p := by unfold Le; omega
  have ll := hg.co (t, l) (by rw [hp]; simp)
  have lz := hg.nz (t, l) (by rw [hp]; simp)
  simp [wp_ixLast hp]
  refine wp_call ?_
  simp
  refine gets_mono (t_power (by omega) (by omega) (by omega)) ?_
  rintro _ _ ⟨rfl, rfl⟩
  refine ⟨rfl, ?_⟩
  simp
  refine ⟨mulOk_of ll.aw (lp.pow _) (by omega), ?_⟩
  rw [pp_enc]
  refine runC_enc enc2 (fun q => decide (q.2 * l < 0)) (fun q => .int (aw q.2)) ps [] (by simpa using sizeLine_ge hg.lA) ?_ ?_
  · rintro ⟨i, c⟩ hq
    have cz := hg.nz (i, c) hq
    refine ⟨_, rfl, ?_⟩
    simp
    have e : (decide (0 < c) != decide (0 < l)) = decide (c * l < 0) := by
      simp at cz lz
      rcases Int.lt_trichotomy c 0 with h | h | h
      · rcases Int.lt_trichotomy l 0 with k | k | k
        · have := Int.mul_pos_of_neg_of_neg h k
          simp [show ¬ 0 < c by omega, show ¬ 0 < l by omega, show ¬ c * l < 0 by omega]
        · omega
        · have := Int.mul_neg_of_neg_of_pos h k
          simp [show ¬ 0 < c by omega, k, this]
      · omega
      · rcases Int.lt_trichotomy l 0 with k | k | k
        · have := Int.mul_neg_of_pos_of_neg h k
          simp [h, show ¬ 0 < l by omega, this]
        · omega
        · have := Int.mul_pos h k
          simp [h, k, show ¬ c * l < 0 by omega]
    exact ⟨e, fun _ => rfl⟩
  · simp
    exact ⟨rfl, rfl⟩
theorem t_law_settled {p n : Int} {ps : List (Int × Int)} (hg : Gd ps) (h2 : 2 ≤ p) (h3 : p ≤ 3) (n0 : 0 ≤ n) (n1 : n ≤ 60) : gets (den__law_is_settled [.d (.int p), .d (tp ps), .d (.int n)] none) fun d so => so = none ∧ d = .bool (stl (p ^ n.toNat) ps) := by
  refine gets_den rfl rfl ?_
  unfold b__law_is_settled
  by_cases hn : ps = []
  · subst hn
    simp
    rfl
  · obtain ⟨pre, t, c, hp⟩ := ends hn
    have he : ps.isEmpty = false := by rw [hp]; simp
    have hs : stl (p ^ n.toNat) ps = decide (wa c ps < aw c * p ^ n.toNat) := by unfold stl; rw [show ps.getLast? = some (t, c) by rw [hp]; simp]
    simp [he]
    refine wp_call ?_
    simp
    refine gets_mono (t_law_weights hg hp h2 h3 n0 n1) ?_
    rintro _ _ ⟨rfl, rfl⟩
    refine ⟨rfl, ?_⟩
    simp [hs]
theorem t_law_seen {p n : Int} {ps : List (Int × Int)} (hg : Gd ps) (h2 : 2 ≤ p) (h3 : p ≤ 3) (n0 : 0 ≤ n) (n1 : n ≤ 60) : gets (den__law_is_seen [.d (.int p), .d (tp ps), .d (.int n)] none) fun d so => so = none ∧ d = .bool (seen (p ^ n.toNat) ps) := by
  refine gets_den rfl rfl ?_
  unfold b__law_is_seen
  by_cases hn : ps = []
  · subst hn
    simp
    rfl
  · obtain ⟨pre, t, c, hp⟩ := ends hn
    have he : ps.isEmpty = false := by rw [hp]; simp
    have hs : seen (p ^ n.toNat) ps = (decide (0 < c) && decide (wa c ps ≤ c * p ^ n.toNat)) := by unfold seen; rw [show ps.getLast? = some (t, c) by rw [hp]; simp]
    simp [he]
    refine wp_call ?_
    simp
    refine gets_mono (t_law_weights hg hp h2 h3 n0 n1) ?_
    rintro _ _ ⟨rfl, rfl⟩
    refine ⟨rfl, ?_⟩
    simp [hs, wp_ixLast hp]
    by_cases hc : 0 < c
    · simp [hc, aw, show ¬ c < 0 by omega]
    · simp [hc]
/-! ### signs n by n -/
def chg (sg : Nat → Int) : Nat → List (Int × Int)
  | 0 => [(0, sg 0)]
  | n + 1 => chg sg n ++ if sg (n + 1) ≠ sg n then [(((n + 1 : Nat) : Int), sg (n + 1))] else []
theorem chg_succ (sg : Nat → Int) (n : Nat) : chg sg (n + 1) = chg sg n ++ if sg (n + 1) ≠ sg n then [(((n + 1 : Nat) : Int), sg (n + 1))] else [] := rfl
theorem chg_last (sg : Nat → Int) : ∀ n, ∃ pre t, chg sg n = pre ++ [(t, sg n)]
  | 0 => ⟨[], 0, rfl⟩
  | n + 1 => by
    obtain ⟨pre, t, e⟩ := chg_last sg n
    unfold chg
    by_cases h : sg (n + 1) ≠ sg n
    · rw [if_pos h]; exact ⟨_, _, rfl⟩
    · rw [if_neg h]
      have : sg (n + 1) = sg n := by omega
      exact ⟨pre, t, by rw [this, List.append_nil, e]⟩
theorem chg_len (sg : Nat → Int) : ∀ n, (chg sg n).length ≤ n + 1
  | 0 => by simp [chg]
  | n + 1 => by
    have := chg_len sg n
    unfold chg
    rw [List.length_append]
    split <;> simp <;> omega
theorem chg_congr {sg sg' : Nat → Int} : ∀ n, (∀ m, m ≤ n → sg m = sg' m) → chg sg n = chg sg' n
  | 0, h => by unfold chg; rw [h 0 (Nat.le_refl _)]
  | n + 1, h => by
    unfold chg
    rw [chg_congr n fun m hm => h m (by omega), h (n + 1) (Nat.le_refl _), h n (by omega)]
/-- the body of both defs that tell the signs -/
noncomputable def bSigns (dg dt : Dn) : MS :=
    (mSeq (mPar2 2 3 (mConsF (mLst (mCons (mTup (mCons (M.ret (.int 0)) (mCons (mCall dg (mCons (mVar 0) (mCons (mVar 1) (mCons (M.ret (.int 0)) mNil)))) mNil))) mNil)) (mConsD (M.ret (.int 0)) mNilV)))
    (mSeq (mWhile (mNot (mB (mCall dt (mCons (mVar 0) (mCons (mVar 1) (mCons (mVar 3) mNil)))))) (mSeq (mSet 3 (mOp2 gAdd (mVar 3) (M.ret (.int 1))))
    (mIf (mB (mOp2 gNe (mCall dg (mCons (mVar 0) (mCons (mVar 1) (mCons (mVar 3) mNil)))) (mOp2 gIx (mIxO 2 (mOp1 gNeg (M.ret (.int 1)))) (M.ret (.int 1))))) (mAppend 2 (mTup (mCons (mVar 3) (mCons (mCall dg (mCons (mVar 0) (mCons (mVar 1) (mCons (mVar 3) mNil)))) mNil)))) mSkip)))
    (mRet (mArgs gTuple (mCons (mVar 2) mNil)))))
theorem wp_atLast {s : S} {Q : D → S → Prop} {ps pre : List (Int × Int)} {t c : Int} (h : ps = pre ++ [(t, c)]) : wp (M.opt (atI (pp ps) (-1))) s Q ↔ Q (.tuple [.int t, .int c]) s := wp_ixLast h
theorem t_signs {dg dt : Dn} {P X : D} {sg : Nat → Int} {st : Nat → Bool} {N : Nat} (hN : N ≤ 1000000) (h1 : ∀ n : Nat, n ≤ N → gets (dg [.d P, .d X, .d (.int n)] none) fun d so => so = none ∧ d = .int (sg n)) (h2 : ∀ n : Nat, n ≤ N → gets (dt [.d P, .d X, .d (.int n)] none) fun d so => so = none ∧ d = .bool (st n))
    (h3 : ∀ n, n < N → st n = false) (h4 : st N = true) : gets (denOf 4 2 (bSigns dg dt) [.d P, .d X] none) fun d so => so = none ∧ d = tp (chg sg N) := by
  refine gets_den rfl rfl ?_
  unfold bSigns
  simp
  refine wp_call ?_
  simp
  refine gets_mono (h1 0 (Nat.zero_le _)) ?_
  rintro _ _ ⟨rfl, rfl⟩
  refine ⟨rfl, ?_⟩
  refine wp_while (fun m s => ∃ n : Nat, n ≤ N ∧ m = N - n ∧ s = ⟨[.d P, .d X, .ol (pp (chg sg n)), .d (.int n)], none⟩) ?_ N _ ⟨0, Nat.zero_le _, rfl, rfl⟩
  rintro m s ⟨n, hn, rfl, rfl⟩
  simp
  refine wp_call ?_
  simp
  refine gets_mono (h2 n hn) ?_
  rintro _ _ ⟨rfl, rfl⟩
  refine ⟨rfl, ?_⟩
  simp
  by_cases hz : n = N
  · rw [hz, h4]
    simp
    rfl
  · rw [h3 n (by omega)]
    simp
    refine wp_call ?_
    simp
    have e : ((n : Int) + 1) = ((n + 1 : Nat) : Int) := by omega
    rw [e]
    refine gets_mono (h1 (n + 1) (by omega)) ?_
    rintro _ _ ⟨rfl, rfl⟩
    refine ⟨rfl, ?_⟩
    refine wp_ixO ⟨_, rfl⟩ ?_
    obtain ⟨pre, t, el⟩ := chg_last sg n
    simp
    rw [wp_atLast el]
    simp
    by_cases hc : sg (n + 1) = sg n
    · simp [hc]
      refine ⟨N - (n + 1), by omega, n + 1, by omega, rfl, ?_, by simp⟩
      rw [chg_succ, if_neg (by simp [hc]), List.append_nil]
    · simp [hc]
      refine wp_append ⟨_, rfl⟩ ?_
      simp
      refine wp_call ?_
      simp
      have e : ((n : Int) + 1) = ((n + 1 : Nat) : Int) := by omega
      rw [e]
      refine gets_mono (h1 (n + 1) (by omega)) ?_
      rintro _ _ ⟨rfl, rfl⟩
      refine ⟨rfl, ?_⟩
      simp
      refine ⟨?_, N - (n + 1), by omega, n + 1, by omega, rfl, ?_, by simp⟩
      · have := chg_len sg n
        have e2 : (pp (chg sg n)).length = (chg sg n).length := by unfold pp; rw [List.length_map]
        omega
      · rw [chg_succ, if_pos hc, pp_append]
        simp [pp]
end K56
namespace K56
open PySem L2 DL
/-! ### drawn numbers -/
theorem t_pick {u : Src} {many : Int} (h1 : 1 ≤ many) (h2 : many < 2 ^ 60) : gets (den__law_pick [.src, .d (.int many)] (some u)) fun d so => ∃ u' r, so = some u' ∧ d = .int r ∧ 0 ≤ r ∧ r < many := by
  refine gets_den rfl rfl ?_
  unfold b__law_pick
  simp
  by_cases hm : many < 2
  · simp [hm]
    omega
  · simp [hm]
    refine wp_while (fun m s => ∃ (u : Src) (x y : SV), m = u.cells.length ∧ s = ⟨[.src, .d (.int many), x, y], some u⟩) ?_ u.cells.length _ ⟨u, .un, .un, rfl, rfl⟩
    rintro m s ⟨u, x, y, rfl, rfl⟩
    by_cases hl : u.left < 2
    · simp [hl]
      by_cases hc : 0 < u.cells.length
      · simp [hc]
        refine wp_popI ?_
        simp
        exact ⟨⟨_, List.getElem?_eq_getElem (by omega)⟩, by omega⟩
      · have hz : u.cells.length = 0 := by omega
        simp [hc, show ¬ 1 < u.left by omega]
        have r0 := Int.emod_nonneg (u.mixed + (u.turn + 1) * 92821) (show (998244353 : Int) ≠ 0 by decide)
        have r1 := Int.emod_lt_of_pos (u.mixed + (u.turn + 1) * 92821) (show (0 : Int) < 998244353 by decide)
        refine ⟨?_, ?_, ?_, divOk_of (a := 5) (by decide) (by unfold Le; decide) (by decide), by omega, Int.emod_nonneg _ (by omega), Int.emod_lt_of_pos _ (by omega)⟩ <;> (unfold mulOk; rw [decide_eq_true_eq]; omega)
    · simp [hl, show 1 < u.left by omega]
      exact ⟨divOk_of (a := 60) (by omega) (by unfold Le; omega) (by decide), by omega, Int.emod_nonneg _ (by omega), Int.emod_lt_of_pos _ (by omega)⟩
theorem t_of {u : Src} {ds : List D} (h1 : ds ≠ []) (h2 : ds.length < 2 ^ 60) : gets (den__law_of [.src, .d (.list ds)] (some u)) fun d so => ∃ u', so = some u' ∧ d ∈ ds := by
  refine gets_den rfl rfl ?_
  unfold b__law_of
  have h0 : 1 ≤ ds.length := List.length_pos_iff.mpr h1
  simp
  refine wp_callS rfl ?_
  simp
  refine gets_mono (t_pick (by omega) (by omega)) ?_
  rintro _ _ ⟨u', r, rfl, rfl, r0, r1⟩
  obtain ⟨j, rfl⟩ : ∃ j : Nat, r = (j : Int) := ⟨r.toNat, by omega⟩
  have hj : j < ds.length := by omega
  have e : atI ds (j : Int) = some ds[j] := atI_nat (List.getElem?_eq_getElem hj)
  simp [wp_opt e]
theorem t_source (ns : List Int) (hl : ns.length ≤ 63) : ∃ u, den__law_source ns = some u := by
  refine denS_of ?_
  unfold b__law_source
  simp
  refine wp_loop (fun ds s => ∃ (xs : List Int) (m : Int) (x : SV), ds = xs.map .int ∧ s = ⟨[.scr ns, .d (.int m), x], none⟩) ?_ ?_ _ _ ⟨ns, 31, .un, rfl, rfl⟩
  · rintro d ds s ⟨xs, m, x, e, rfl⟩
    cases xs with
    | nil => cases e
    | cons y ys =>
      cases e
      refine ⟨_, rfl, ?_⟩
      simp
      refine ⟨by unfold mulOk; rw [decide_eq_true_eq]; omega, by unfold mulOk; rw [decide_eq_true_eq]; omega, ?_⟩
      exact ⟨ys, rfl⟩
  · rintro s ⟨xs, m, x, e, rfl⟩
    simp
    refine wp_retSrc ?_
    simp
    refine runC_enc PyData.int (fun _ => true) (fun n => .int (if n < 0 then -n else n)) ns [] (sizeLine_ge (by simp; omega)) ?_ ?_
    · intro n hn
      refine ⟨_, rfl, ?_⟩
      simp
    · simp
      refine ⟨(ns.map fun n => if n < 0 then -n else n).reverse, ?_⟩
      rw [filter_yes, ← List.map_reverse, ← List.map_reverse, List.map_map]
      rfl
end K56
namespace K56
open PySem L2 DL
/-! ### dicts of ints -/
def kI (m : List (Int × Int)) : List (Key × D) := m.map fun q => (.inl q.1, .int q.2)
def getI (m : List (Int × Int)) (i : Int) : Option Int := (m.find? fun q => decide (q.1 = i)).map (·.2)
def putI (m : List (Int × Int)) (i c : Int) : List (Int × Int) := if (m.any fun q => decide (q.1 = i)) = true then m.map (fun q => if q.1 = i then (q.1, c) else q) else m ++ [(i, c)]
theorem valD_kI (m : List (Int × Int)) (i : Int) : valD (kI m) (.inl i) = (getI m i).map .int := by
  unfold valD getI kI
  induction m with
  | nil => rfl
  | cons q m ih =>
    rw [List.map_cons, List.find?_cons, List.find?_cons]
    by_cases h : q.1 = i
    · have h' : (Sum.inl q.1 : Key) = .inl i := by rw [h]
      simp [h, h']
    · have h' : ¬ (Sum.inl q.1 : Key) = .inl i := fun e => h (by cases e; rfl)
      simp only [decide_eq_false h, decide_eq_false h']
      exact ih
theorem any_kI (m : List (Int × Int)) (i : Int) : ((kI m).any fun kv => decide (kv.1 = .inl i)) = m.any fun q => decide (q.1 = i) := by
  unfold kI
  induction m with
  | nil => rfl
  | cons q m ih =>
    rw [List.map_cons, List.any_cons, List.any_cons, ih]
    by_cases h : q.1 = i
    · simp [h]
    · have h' : ¬ (Sum.inl q.1 : Key) = .inl i := fun e => h (by cases e; rfl)
      simp only [decide_eq_false h, decide_eq_false h']
theorem putD_kI (m : List (Int × Int)) (i c : Int) : putD (kI m) (.inl i) (.int c) = kI (putI m i c) := by
  unfold putD putI
  rw [any_kI]
  split
  · unfold kI
    rw [List.map_map, List.map_map]
    refine List.map_congr_left fun q _ => ?_
    by_cases h : q.1 = i
    · simp [h]
    · have h' : ¬ (Sum.inl q.1 : Key) = .inl i := fun e => h (by cases e; rfl)
      simp [h, h']
  · unfold kI
    rw [List.map_append]
    rfl
theorem intKeys_kI (m : List (Int × Int)) : intKeys (kI m) = some (m.map (·.1)) := by
  induction m with
  | nil => rfl
  | cons q m ih =>
    show (intKeys (kI m)).map (q.1 :: ·) = _
    rw [ih]
    rfl
theorem kI_len (m : List (Int × Int)) : (kI m).length = m.length := by unfold kI; rw [List.length_map]
theorem putI_mem {m : List (Int × Int)} {i c : Int} {q : Int × Int} (h : q ∈ putI m i c) : q ∈ m ∨ q = (i, c) := by
  unfold putI at h
  split at h
  · obtain ⟨r, hr, e⟩ := List.mem_map.mp h
    split at e
    · rename_i hi
      right; rw [← e, hi]
    · left; rw [← e]; exact hr
  · rcases List.mem_append.mp h with h | h
    · exact .inl h
    · simp at h; exact .inr h
theorem putI_keys {m : List (Int × Int)} {i c : Int} : (putI m i c).map (·.1) = if i ∈ m.map (·.1) then m.map (·.1) else m.map (·.1) ++ [i] := by
  have ha : (m.any fun q => decide (q.1 = i)) = true ↔ i ∈ m.map (·.1) := by
    rw [List.any_eq_true, List.mem_map]
    exact ⟨fun ⟨q, h, e⟩ => ⟨q, h, of_decide_eq_true e⟩, fun ⟨q, h, e⟩ => ⟨q, h, decide_eq_true e⟩⟩
  unfold putI
  by_cases h : i ∈ m.map (·.1)
  · rw [if_pos (ha.mpr h), if_pos h, List.map_map]
    refine List.map_congr_left fun q _ => ?_
    show (if q.1 = i then (q.1, c) else q).1 = q.1
    split <;> rfl
  · rw [if_neg (fun z => h (ha.mp z)), if_neg h, List.map_append]
    rfl
theorem putI_nd {m : List (Int × Int)} {i c : Int} (h : (m.map (·.1)).Nodup) : ((putI m i c).map (·.1)).Nodup := by
  rw [putI_keys]
  split
  · exact h
  · rename_i hn
    exact List.nodup_append.mpr ⟨h, by simp, fun a ha b hb => by simp at hb; subst hb; intro e; subst e; exact hn ha⟩
theorem putI_len {m : List (Int × Int)} {i c : Int} : (putI m i c).length ≤ m.length + 1 := by
  unfold putI
  split
  · rw [List.length_map]; omega
  · rw [List.length_append]; exact Nat.le_refl _
theorem getI_mem {m : List (Int × Int)} {i c : Int} (h : getI m i = some c) : (i, c) ∈ m := by
  unfold getI at h
  cases e : m.find? fun q => decide (q.1 = i) with
  | none => rw [e] at h; cases h
  | some q =>
    rw [e] at h
    have h1 := List.mem_of_find?_eq_some e
    have h2 := List.find?_some e
    simp at h2 h
    rw [← h, ← h2]
    exact h1
theorem getI_key {m : List (Int × Int)} {i : Int} (h : i ∈ m.map (·.1)) : ∃ c, getI m i = some c := by
  unfold getI
  obtain ⟨q, hq, e⟩ := List.mem_map.mp h
  cases e2 : m.find? fun q => decide (q.1 = i) with
  | none => exact absurd (List.find?_eq_none.mp e2 q hq) (by simp [e])
  | some r => exact ⟨r.2, rfl⟩
/-- what a dict's pairs make, in the sequence of their keys -/
def rows (m : List (Int × Int)) (sh : Int) : List (Int × Int) := ((sortI (m.map (·.1))).filter fun i => decide ((getI m i).getD 0 ≠ 0)).map fun i => (i - sh, (getI m i).getD 0)
theorem rows_gd {m : List (Int × Int)} {sh : Int} (nd : (m.map (·.1)).Nodup) (hk : ∀ q ∈ m, -5 ≤ q.1 - sh ∧ q.1 - sh ≤ 5 ∧ Le 31 q.2) (hl : m.length ≤ 11) : Gd (rows m sh) := by
  have key : ∀ i, i ∈ sortI (m.map (·.1)) → ∃ c, getI m i = some c ∧ (i, c) ∈ m := fun i hi => by
    obtain ⟨c, e⟩ := getI_key ((sortI_perm _).mem_iff.mp hi)
    exact ⟨c, e, getI_mem e⟩
  have el : ∀ q ∈ rows m sh, ∃ i c, (i, c) ∈ m ∧ q = (i - sh, c) ∧ c ≠ 0 := fun q hq => by
    obtain ⟨i, hi, e⟩ := List.mem_map.mp hq
    obtain ⟨h1, h2⟩ := List.mem_filter.mp hi
    obtain ⟨c, e1, e2⟩ := key i h1
    rw [e1] at h2 e
    exact ⟨i, c, e2, e.symm, by simpa using h2⟩
  refine ⟨?_, fun q hq => ?_, fun q hq => ?_, fun q hq => ?_, ?_⟩
  · refine List.pairwise_map.mpr (List.Pairwise.filter _ ?_)
    have nd2 : (sortI (m.map (·.1))).Nodup := (sortI_perm _).nodup_iff.mpr nd
    refine List.Pairwise.imp₂ ?_ (sortI_sorted (m.map (·.1))) nd2
    intro a b h1 h2
    show a - sh < b - sh
    omega
  · obtain ⟨i, c, h, rfl, _⟩ := el q hq
    obtain ⟨h1, h2, _⟩ := hk _ h
    exact ⟨h1, h2⟩
  · obtain ⟨i, c, h, rfl, _⟩ := el q hq
    exact (hk _ h).2.2
  · obtain ⟨i, c, h, rfl, h0⟩ := el q hq
    exact h0
  · unfold rows
    rw [List.length_map]
    refine Nat.le_trans (List.length_filter_le _ _) ?_
    rw [(sortI_perm _).length_eq, List.length_map]
    exact hl
end K56
namespace K56
open PySem L2 DL
theorem pp_len (ps : List (Int × Int)) : (pp ps).length = ps.length := by unfold pp; rw [List.length_map]
theorem dictAt_oK {g : List SV} {i : Nat} {m : List (Int × Int)} (h : g[i]? = some (.oK (kI m))) : dictAt g i = some (kI m) := by unfold dictAt; rw [h]
/-- [(i, d[i]) for i in sorted(d) if ..] -/
theorem t_powers {u : Src} : gets (den__law_powers [.src] (some u)) fun d so => ∃ u' ps, so = some u' ∧ d = tp ps ∧ Gd ps ∧ (∀ q ∈ ps, -4 ≤ q.1 ∧ q.1 ≤ 3 ∧ Le 7 q.2) ∧ ps.length ≤ 5 := by
  refine gets_den rfl rfl ?_
  unfold b__law_powers
  simp
  refine wp_callS rfl ?_
  simp
  refine gets_mono (t_pick (by decide) (by decide)) ?_
  rintro _ _ ⟨u', r, rfl, rfl, r0, r1⟩
  simp
  refine ⟨by omega, ?_⟩
  refine wp_loop (fun ds s => ∃ (u : Src) (m : List (Int × Int)) (x y : SV), s = ⟨[.src, .oK (kI m), x, y], some u⟩ ∧ m.length + ds.length ≤ 5 ∧ (m.map (·.1)).Nodup ∧ ∀ q ∈ m, -4 ≤ q.1 ∧ q.1 ≤ 3 ∧ Le 7 q.2 ∧ q.2 ≠ 0) ?_ ?_ _ _ ⟨u', [], .un, .un, rfl, by simp [rangeD_length]; omega, by simp, by simp⟩
  · rintro d ds s ⟨u, m, x, y, rfl, h1, h2, h3⟩
    refine ⟨_, rfl, ?_⟩
    refine wp_dput ?_
    simp
    refine wp_callS rfl ?_
    simp
    refine gets_mono (t_of (by simp) (by simp)) ?_
    rintro d' _ ⟨u', rfl, hd⟩
    obtain ⟨c, rfl, lc, nc⟩ : ∃ c : Int, d' = .int c ∧ Le 7 c ∧ c ≠ 0 := by
      simp at hd
      rcases hd with rfl | rfl | rfl | rfl | rfl | rfl | rfl | rfl | rfl | rfl | rfl | rfl | rfl | rfl <;> exact ⟨_, rfl, by unfold Le; decide, by decide⟩
    refine wp_callS rfl ?_
    simp
    refine gets_mono (t_pick (by decide) (by decide)) ?_
    rintro _ _ ⟨u', r, rfl, rfl, r0, r1⟩
    simp
    refine ⟨_, rfl, ?_, u', putI m (r - 4) c, ⟨putD_kI _ _ _, rfl⟩, ?_, putI_nd h2, ?_⟩
    · rw [kI_len]; simp at h1; omega
    · have := putI_len (m := m) (i := r - 4) (c := c)
      simp at h1
      omega
    · intro a b hq
      rcases putI_mem hq with h | h
      · exact h3 _ h
      · cases h
        exact ⟨by omega, by omega, lc, nc⟩
  · rintro s ⟨u, m, x, y, rfl, h1, h2, h3⟩
    simp
    rw [wp_sortedK (dictAt_oK rfl) (intKeys_kI m) (by rw [List.length_map]; simp at h1; omega)]
    simp
    refine runC_enc PyData.int (fun i => decide ((getI m i).getD 0 ≠ 0)) (fun i => .tuple [.int (i - 0), .int ((getI m i).getD 0)]) _ [] ?_ ?_ ?_
    · simp
      rw [(sortI_perm _).length_eq, List.length_map]
      simp at h1
      omega
    · intro i hi
      obtain ⟨c, e⟩ := getI_key ((sortI_perm _).mem_iff.mp hi)
      have hc := h3 _ (getI_mem e)
      refine ⟨_, rfl, ?_⟩
      simp [e, hc.2.2.2]
      refine wp_dget ⟨_, dictAt_oK rfl⟩ ?_
      simp
      exact ⟨_, dictAt_oK rfl, _, rfl, by rw [valD_kI, e]; rfl⟩
    · simp
      refine ⟨rows m 0, ?_, rows_gd h2 (fun q hq => ?_) ?_, ?_, ?_⟩
      · unfold tp pp rows
        simp
      · have := h3 q hq
        refine ⟨by omega, by omega, this.2.2.1.mono (by decide)⟩
      · simp at h1; omega
      · intro a b hq
        obtain ⟨i, hi, e⟩ := List.mem_map.mp hq
        obtain ⟨c, e1⟩ := getI_key ((sortI_perm _).mem_iff.mp (List.mem_filter.mp hi).1)
        have := h3 _ (getI_mem e1)
        rw [e1] at e
        cases e
        simp at this ⊢
        exact ⟨this.1, this.2.1, this.2.2.1⟩
      · unfold rows
        rw [List.length_map]
        refine Nat.le_trans (List.length_filter_le _ _) ?_
        rw [(sortI_perm _).length_eq, List.length_map]
        simp at h1
        exact h1
theorem pairsOf_pp (ps : List (Int × Int)) : pairsOf (pp ps) = some (kI ps) := by
  induction ps with
  | nil => rfl
  | cons q ps ih =>
    show pairsOf (.tuple [.int q.1, .int q.2] :: pp ps) = _
    unfold pairsOf
    rw [ih]
    rfl
theorem merge_nd : ∀ (ps m : List (Int × Int)), ((m ++ ps).map (·.1)).Nodup → mergeD (kI m) (kI ps) = kI (m ++ ps)
  | [], m, _ => by simp [mergeD, kI]
  | q :: ps, m, h => by
    have hn : q.1 ∉ m.map (·.1) := by
      rw [List.map_append, List.map_cons] at h
      intro z
      exact (List.nodup_append.mp h).2.2 q.1 z q.1 (by simp) rfl
    have e : putI m q.1 q.2 = m ++ [q] := by
      unfold putI
      rw [if_neg]
      rw [List.any_eq_true]
      rintro ⟨r, hr, e⟩
      exact hn (List.mem_map.mpr ⟨r, hr, of_decide_eq_true e⟩)
    show mergeD (putD (kI m) (.inl q.1) (.int q.2)) (kI ps) = _
    rw [putD_kI, e, merge_nd ps (m ++ [q]) (by rw [List.append_assoc]; exact h), List.append_assoc]
    rfl
theorem asc_nd {ps : List (Int × Int)} (h : ps.Pairwise (fun q r => q.1 < r.1)) : (ps.map (·.1)).Nodup := List.pairwise_map.mpr (h.imp fun {a b} k e => by omega)
/-- two given pairs taken away -/
theorem t_less {ps : List (Int × Int)} {c : Int} (hg : Gd ps) (hp : ∀ q ∈ ps, -4 ≤ q.1 ∧ q.1 ≤ 3 ∧ Le 7 q.2) (hc : Le 30 c) (hl : ps.length ≤ 9) : gets (den__law_less [.d (tp ps), .d (tp [(4, -1), (3, c)])] none) fun d so => so = none ∧ ∃ rs, d = tp rs ∧ Gd rs := by
  refine gets_den rfl rfl ?_
  unfold b__law_less
  simp [wp_dictOf]
  refine ⟨pp ps, rfl, kI ps, ?_, ?_⟩
  · show (pairsOf (pp ps)).map (fun ps => mergeD [] ps) = _
    rw [pairsOf_pp]
    have := merge_nd ps [] (by simpa using asc_nd hg.asc)
    exact congrArg some this
  refine wp_loop (fun ds s => ∃ (m : List (Int × Int)) (rest : List (Int × Int)) (x y : SV), ds = pp rest ∧ s = ⟨[.d (tp ps), .d (tp [(4, -1), (3, c)]), .oK (kI m), x, y], none⟩ ∧ m.length + rest.length ≤ 11 ∧ (m.map (·.1)).Nodup ∧ (∀ q ∈ rest, -4 ≤ q.1 ∧ q.1 ≤ 4) ∧ (rest.map fun q => q.2.natAbs).sum ≤ 2 ^ 31 ∧
    ∀ q ∈ m, -4 ≤ q.1 ∧ q.1 ≤ 4 ∧ q.2.natAbs + (rest.map fun q => q.2.natAbs).sum ≤ 2 ^ 31) ?_ ?_ _ _ ⟨ps, [(4, -1), (3, c)], .un, .un, rfl, rfl, ?_, asc_nd hg.asc, by simp, ?_, ?_⟩
  · rintro d ds s ⟨m, rest, x, y, e, rfl, h1, h2, h3, h4, h5⟩
    cases rest with
    | nil => cases e
    | cons q rest =>
      obtain ⟨i, c'⟩ := q
      cases e
      refine ⟨_, rfl, ?_⟩
      refine wp_dput ?_
      simp
      refine wp_dgetOr ⟨_, dictAt_oK rfl⟩ ?_
      simp
      refine ⟨_, dictAt_oK rfl, _, rfl, ?_⟩
      have ki := h3 (i, c') (by simp)
      obtain ⟨v, ev, lv⟩ : ∃ v : Int, (valD (kI m) (.inl i)).getD (.int 0) = .int v ∧ v.natAbs + (((i, c') :: rest).map fun q => q.2.natAbs).sum ≤ 2 ^ 31 := by
        rw [valD_kI]
        cases e : getI m i with
        | none => exact ⟨0, rfl, by simpa using h4⟩
        | some v => exact ⟨v, rfl, (h5 _ (getI_mem e)).2.2⟩
      rw [ev]
      simp
      refine ⟨_, rfl, ?_, putI m i (v - c'), rest, rfl, putD_kI _ _ _, ?_, putI_nd h2, ?_, ?_, ?_⟩
      · rw [kI_len]; simp at h1; omega
      · have := putI_len (m := m) (i := i) (c := v - c')
        simp at h1
        omega
      · intro a b hq
        exact h3 (a, b) (List.mem_cons_of_mem _ hq)
      · simp at h4; omega
      · intro a b hq
        simp at h4 lv
        rcases putI_mem hq with h | h
        · have := h5 _ h
          simp at this
          omega
        · cases h
          simp at ki
          omega
  · rintro s ⟨m, rest, x, y, e, rfl, h1, h2, h3, h4, h5⟩
    have hr : rest = [] := by
      cases rest with
      | nil => rfl
      | cons a b => simp [pp] at e
    subst hr
    simp
    rw [wp_sortedK (dictAt_oK rfl) (intKeys_kI m) (by rw [List.length_map]; simp at h1; omega)]
    simp
    refine runC_enc PyData.int (fun i => decide ((getI m i).getD 0 ≠ 0)) (fun i => .tuple [.int (i - 0), .int ((getI m i).getD 0)]) _ [] ?_ ?_ ?_
    · simp
      rw [(sortI_perm _).length_eq, List.length_map]
      simp at h1
      omega
    · intro i hi
      obtain ⟨c, e⟩ := getI_key ((sortI_perm _).mem_iff.mp hi)
      refine ⟨_, rfl, ?_⟩
      simp [e]
      refine wp_dget ⟨_, dictAt_oK rfl⟩ ?_
      simp
      refine ⟨_, dictAt_oK rfl, _, rfl, _, by rw [valD_kI, e]; rfl, ?_⟩
      simp [e]
      intro hc
      refine wp_dget ⟨_, dictAt_oK rfl⟩ ?_
      simp [e]
      exact ⟨_, dictAt_oK rfl, _, rfl, by rw [valD_kI, e]; rfl⟩
    · simp
      refine ⟨rows m 0, ?_, rows_gd h2 (fun q hq => ?_) ?_⟩
      · unfold tp pp rows
        simp
      · have := h5 q hq
        refine ⟨by omega, by omega, ?_⟩
        unfold Le
        simp at this
        omega
      · simp at h1; omega
  · simp; omega
  · unfold Le at hc
    simp
    omega
  · intro q hq
    have := hp q hq
    have h7 := this.2.2
    unfold Le at h7 hc
    simp
    omega
theorem keyOf_int {i : Int} : keyOf (.int i) = some (.inl i) := rfl
def tot (m : List (Int × Int)) : Nat := (m.map fun q => q.2.natAbs).sum
theorem tot_cons (q : Int × Int) (m : List (Int × Int)) : tot (q :: m) = q.2.natAbs + tot m := rfl
theorem tot_append (m n : List (Int × Int)) : tot (m ++ n) = tot m + tot n := by unfold tot; rw [List.map_append, List.sum_append]
theorem tot_mem {m : List (Int × Int)} {q : Int × Int} (h : q ∈ m) : q.2.natAbs ≤ tot m := by
  induction m with
  | nil => cases h
  | cons r m ih =>
    rw [tot_cons]
    rcases List.mem_cons.mp h with e | h
    · rw [e]; omega
    · have := ih h; omega
theorem map_out {m : List (Int × Int)} {i c : Int} (h : i ∉ m.map (·.1)) : m.map (fun q => if q.1 = i then (q.1, c) else q) = m := by
  induction m with
  | nil => rfl
  | cons q m ih =>
    rw [List.map_cons] at h ⊢
    rw [ih fun z => h (List.mem_cons_of_mem _ z), if_neg fun e => h (by rw [← e]; exact List.mem_cons_self)]
theorem tot_map {m : List (Int × Int)} {i c : Int} (nd : (m.map (·.1)).Nodup) (x : Int) (h : c = (getI m i).getD 0 + x) : tot (m.map fun q => if q.1 = i then (q.1, c) else q) ≤ tot m + x.natAbs := by
  induction m with
  | nil => simp [tot]
  | cons q m ih =>
    rw [List.map_cons] at nd ⊢
    obtain ⟨n1, n2⟩ := List.nodup_cons.mp nd
    by_cases e : q.1 = i
    · rw [if_pos e]
      have hg : getI (q :: m) i = some q.2 := by unfold getI; rw [List.find?_cons]; simp [e]
      rw [hg] at h
      rw [map_out (by rw [← e]; exact n1), tot_cons, tot_cons]
      simp at h ⊢
      omega
    · rw [if_neg e, tot_cons, tot_cons]
      have hg : getI (q :: m) i = getI m i := by unfold getI; rw [List.find?_cons]; simp [e]
      rw [hg] at h
      have := ih n2 h
      omega
theorem tot_put {m : List (Int × Int)} {i : Int} (nd : (m.map (·.1)).Nodup) (x : Int) : tot (putI m i ((getI m i).getD 0 + x)) ≤ tot m + x.natAbs := by
  unfold putI
  split
  · exact tot_map nd x rfl
  · rename_i hn
    have hg : getI m i = none := by
      cases e : getI m i with
      | none => rfl
      | some c => exact absurd (List.any_eq_true.mpr ⟨_, getI_mem e, decide_eq_true rfl⟩) hn
    rw [hg, tot_append]
    simp [tot]
theorem getI_of {m : List (Int × Int)} {i c : Int} (nd : (m.map (·.1)).Nodup) (h : (i, c) ∈ m) : getI m i = some c := by
  induction m with
  | nil => cases h
  | cons q m ih =>
    rw [List.map_cons] at nd
    obtain ⟨n1, n2⟩ := List.nodup_cons.mp nd
    rcases List.mem_cons.mp h with e | h
    · subst e; unfold getI; rw [List.find?_cons]; simp
    · have hq : ¬ q.1 = i := fun e => n1 (by rw [e]; exact List.mem_map.mpr ⟨_, h, rfl⟩)
      have := ih n2 h
      unfold getI at this ⊢
      rw [List.find?_cons]
      simpa [hq] using this
theorem items_pp (m : List (Int × Int)) : (kI m).map pairD = pp m := by unfold kI pp; rw [List.map_map]; rfl
theorem keys_ints (m : List (Int × Int)) : ((kI m).map fun kv => keyD kv.1) = (m.map (·.1)).map .int := by unfold kI; rw [List.map_map, List.map_map]; rfl
theorem dictAt_dat {g : List SV} {i : Nat} {m : List (Int × Int)} (h : g[i]? = some (.d (.dict ((kI m).map kvD)))) : dictAt g i = some (kI m) := by unfold dictAt; rw [h]; exact keysOf_kvD _
theorem valD_get {m : List (Int × Int)} {i : Int} : (valD (kI m) (.inl i)).getD (.int 0) = .int ((getI m i).getD 0) := by rw [valD_kI]; cases getI m i <;> rfl
theorem rows_el {m : List (Int × Int)} {sh : Int} : ∀ q ∈ rows m sh, ∃ i, (i, q.2) ∈ m ∧ q.1 = i - sh := fun q hq => by
  obtain ⟨i, hi, e⟩ := List.mem_map.mp hq
  obtain ⟨h1, h2⟩ := List.mem_filter.mp hi
  obtain ⟨c, e1⟩ := getI_key ((sortI_perm _).mem_iff.mp h1)
  rw [e1] at e
  subst e
  exact ⟨i, getI_mem e1, rfl⟩
theorem t_rooted {u : Src} {p : Int} (h2 : 2 ≤ p) (h3 : p ≤ 3) : gets (den__law_rooted [.src, .d (.int p)] (some u)) fun d so => ∃ u' ps, so = some u' ∧ d = tp ps ∧ Gd ps ∧ ∀ q ∈ ps, -3 ≤ q.1 ∧ q.1 ≤ 3 ∧ Le 21 q.2 := by
  refine gets_den rfl rfl ?_
  unfold b__law_rooted
  simp [keyOf_int]
  refine wp_callS rfl ?_
  simp
  refine gets_mono (t_of (by simp) (by simp)) ?_
  rintro d' _ ⟨u', rfl, hd⟩
  obtain ⟨c, rfl, lc⟩ : ∃ c : Int, d' = .int c ∧ c.natAbs ≤ 3 := by
    simp at hd
    rcases hd with rfl | rfl | rfl | rfl <;> exact ⟨_, rfl, by decide⟩
  refine wp_callS rfl ?_
  simp
  refine gets_mono (t_pick (by decide) (by decide)) ?_
  rintro _ _ ⟨u', r, rfl, rfl, r0, r1⟩
  simp
  refine ⟨by omega, ?_⟩
  refine wp_loop (fun ds s => ∃ (u : Src) (m : List (Int × Int)) (k : Nat) (x3 x4 x5 x6 x7 : SV), s = ⟨[.src, .d (.int p), .oK (kI m), x3, x4, x5, x6, x7], some u⟩ ∧ k + ds.length ≤ 3 ∧ (m.map (·.1)).Nodup ∧ (∀ q ∈ m, 0 ≤ q.1 ∧ q.1 ≤ k) ∧ m.length ≤ 2 ^ k ∧ tot m ≤ 3 * 82 ^ k) ?_ ?_ _ _
    ⟨u', [(0, c)], 0, .un, .un, .un, .un, .un, rfl, by simp [rangeD_length]; omega, by simp, by simp, by simp, by simp [tot]; omega⟩
  · rintro d ds s ⟨u, m, k, x3, x4, x5, x6, x7, rfl, h1, hn, hk, hm, ht⟩
    refine ⟨_, rfl, ?_⟩
    simp
    refine wp_call ?_
    simp
    refine wp_callS rfl ?_
    simp
    refine gets_mono (t_pick (by decide) (by decide)) ?_
    rintro _ _ ⟨u', r, rfl, rfl, r0, r1⟩
    refine gets_mono (t_power (by omega) (by omega) (by omega)) ?_
    rintro _ _ ⟨rfl, rfl⟩
    refine ⟨rfl, ?_⟩
    have hroot : (p ^ r.toNat).natAbs ≤ 81 := by
      have hp : p = 2 ∨ p = 3 := by omega
      have hr : r = 0 ∨ r = 1 ∨ r = 2 ∨ r = 3 ∨ r = 4 := by omega
      rcases hp with rfl | rfl <;> rcases hr with rfl | rfl | rfl | rfl | rfl <;> decide
    rw [wp_forK rfl]
    simp
    rw [keys_ints]
    refine wp_loop (fun ds s => ∃ (late rest : List (Int × Int)) (x6 : SV), ds = (rest.map (·.1)).map .int ∧ s = ⟨[.src, .d (.int p), .d (.dict ((kI m).map kvD)), .d d, .d (.int (p ^ r.toNat)), .oK (kI late), x6, x7], some u'⟩ ∧ (∀ q ∈ rest, q ∈ m) ∧ (late.map (·.1)).Nodup ∧ (∀ q ∈ late, 0 ≤ q.1 ∧ q.1 ≤ k + 1) ∧ late.length + 2 * rest.length ≤ 2 * m.length ∧ tot late + 82 * tot rest ≤ 82 * tot m) ?_ ?_ _ _
      ⟨[], m, x6, rfl, rfl, fun _ h => h, by simp, by simp, by simp, by simp [tot]⟩
    · rintro d2 ds2 s ⟨late, rest, x6, e, rfl, g1, g2, g3, g4, g5⟩
      cases rest with
      | nil => cases e
      | cons q rest =>
        obtain ⟨i, v⟩ := q
        cases e
        refine ⟨_, rfl, ?_⟩
        have gv : getI m i = some v := getI_of hn (g1 _ List.mem_cons_self)
        have ki := hk (i, v) (g1 _ List.mem_cons_self)
        have lv : v.natAbs ≤ 3 * 82 ^ k := Nat.le_trans (tot_mem (g1 _ List.mem_cons_self)) ht
        have hk3 : 3 * 82 ^ k ≤ 3 * 82 ^ 3 := Nat.mul_le_mul_left _ (Nat.pow_le_pow_right (by decide) (by omega))
        have m2 : 2 ^ k ≤ 2 ^ 3 := Nat.pow_le_pow_right (by decide) (by omega)
        simp
        refine wp_dput ?_
        simp
        refine wp_dgetOr ⟨_, dictAt_oK rfl⟩ ?_
        simp
        refine ⟨_, dictAt_oK rfl, _, rfl, ?_⟩
        rw [valD_get]
        refine wp_dget ⟨_, dictAt_dat rfl⟩ ?_
        simp
        refine ⟨_, dictAt_dat rfl, _, rfl, .int v, by rw [valD_kI, gv]; rfl, ?_⟩
        simp
        refine ⟨_, rfl, ?_, ?_⟩
        · rw [kI_len]; simp at g4; omega
        rw [putD_kI]
        have n1 := putI_nd (i := i + 1) (c := (getI late (i + 1)).getD 0 + v) g2
        have l1 := putI_len (m := late) (i := i + 1) (c := (getI late (i + 1)).getD 0 + v)
        have t1 := tot_put (i := i + 1) g2 v
        have k1 : ∀ q ∈ putI late (i + 1) ((getI late (i + 1)).getD 0 + v), 0 ≤ q.1 ∧ q.1 ≤ k + 1 := fun q hq => by
          rcases putI_mem hq with h | h
          · exact g3 _ h
          · rw [h]
            simp at ki ⊢
            omega
        generalize putI late (i + 1) ((getI late (i + 1)).getD 0 + v) = late1 at n1 l1 t1 k1 ⊢
        refine wp_dput ?_
        simp
        refine wp_dgetOr ⟨_, dictAt_oK rfl⟩ ?_
        simp
        refine ⟨_, dictAt_oK rfl, _, rfl, ?_⟩
        rw [valD_get]
        refine wp_dget ⟨_, dictAt_dat rfl⟩ ?_
        simp
        refine ⟨_, dictAt_dat rfl, _, rfl, .int v, by rw [valD_kI, gv]; rfl, ?_⟩
        simp
        refine ⟨?_, _, rfl, ?_, ?_⟩
        · unfold mulOk
          rw [decide_eq_true_eq]
          omega
        · rw [kI_len]; simp at g4; omega
        rw [putD_kI]
        have hx : (getI late1 i).getD 0 - v * p ^ r.toNat = (getI late1 i).getD 0 + -(v * p ^ r.toNat) := by omega
        rw [hx]
        have t2 := tot_put (i := i) n1 (-(v * p ^ r.toNat))
        have l2 := putI_len (m := late1) (i := i) (c := (getI late1 i).getD 0 + -(v * p ^ r.toNat))
        have hv : (-(v * p ^ r.toNat)).natAbs ≤ v.natAbs * 81 := by
          rw [Int.natAbs_neg, Int.natAbs_mul]
          exact Nat.mul_le_mul_left _ hroot
        refine ⟨_, rest, rfl, rfl, ?_, putI_nd n1, ?_, ?_, ?_⟩
        · intro a b hq
          exact g1 _ (List.mem_cons_of_mem _ hq)
        · intro a b hq
          rcases putI_mem hq with h | h
          · exact k1 _ h
          · cases h
            simp at ki
            omega
        · simp at g4
          omega
        · rw [tot_cons] at g5
          simp at g5
          omega
    · rintro s ⟨late, rest, x6, e, rfl, g1, g2, g3, g4, g5⟩
      have hr : rest = [] := by
        cases rest with
        | nil => rfl
        | cons a b => simp at e
      subst hr
      simp [wp_dictOf]
      rw [wp_items rfl]
      simp
      refine ⟨kI late, ?_, ?_⟩
      · show (pairsOf ((kI late).map pairD)).map (fun ps => mergeD [] ps) = _
        rw [items_pp, pairsOf_pp]
        have := merge_nd late [] (by simpa using g2)
        exact congrArg some this
      · refine ⟨u', late, ⟨rfl, rfl⟩, k + 1, by simp at h1; omega, g2, ?_, ?_, ?_⟩
        · intro a b hq
          exact g3 _ hq
        · simp at g4
          rw [Nat.pow_succ]
          omega
        · have e0 : tot [] = 0 := rfl
          rw [Nat.pow_succ]
          omega
  · rintro s ⟨u, m, k, x3, x4, x5, x6, x7, rfl, h1, hn, hk, hm, ht⟩
    simp
    refine wp_callS rfl ?_
    simp
    refine gets_mono (t_pick (by decide) (by decide)) ?_
    rintro _ _ ⟨u', r, rfl, rfl, r0, r1⟩
    have hk3 : 3 * 82 ^ k ≤ 3 * 82 ^ 3 := Nat.mul_le_mul_left _ (Nat.pow_le_pow_right (by decide) (by simp at h1; omega))
    have m2 : 2 ^ k ≤ 2 ^ 3 := Nat.pow_le_pow_right (by decide) (by simp at h1; omega)
    rw [wp_sortedK (dictAt_oK rfl) (intKeys_kI m) (by rw [List.length_map]; simp at h1; omega)]
    simp
    refine runC_enc PyData.int (fun i => decide ((getI m i).getD 0 ≠ 0)) (fun i => .tuple [.int (i - r), .int ((getI m i).getD 0)]) _ [] ?_ ?_ ?_
    · simp
      rw [(sortI_perm _).length_eq, List.length_map]
      omega
    · intro i hi
      obtain ⟨c, e⟩ := getI_key ((sortI_perm _).mem_iff.mp hi)
      refine ⟨_, rfl, ?_⟩
      simp [e]
      refine wp_dget ⟨_, dictAt_oK rfl⟩ ?_
      simp
      refine ⟨_, dictAt_oK rfl, _, rfl, _, by rw [valD_kI, e]; rfl, ?_⟩
      simp [e]
      intro hc
      refine wp_dget ⟨_, dictAt_oK rfl⟩ ?_
      simp [e]
      exact ⟨_, dictAt_oK rfl, _, rfl, by rw [valD_kI, e]; rfl⟩
    · simp
      refine ⟨rows m r, ?_, rows_gd hn (fun q hq => ?_) (by omega), fun i c hq => ?_⟩
      · unfold tp pp rows
        simp
      · have := hk q hq
        have h5 := tot_mem hq
        refine ⟨by omega, by simp at h1; omega, ?_⟩
        unfold Le
        omega
      · obtain ⟨j, hj, e⟩ := rows_el _ hq
        have := hk _ hj
        have h5 := tot_mem hj
        refine ⟨by simp at e this; omega, by simp at h1 e this; omega, ?_⟩
        unfold Le
        omega
end K56
namespace K56
open PySem L2 DL
/-! ### the mathematics -/
theorem wa_cons (l : Int) (q : Int × Int) (r : List (Int × Int)) : wa l (q :: r) = (if q.2 * l < 0 then aw q.2 else 0) + wa l r := by
  unfold wa
  rw [List.filter_cons]
  by_cases h : q.2 * l < 0
  · simp [h]
  · simp [h]
theorem wa_append (l : Int) (a b : List (Int × Int)) : wa l (a ++ b) = wa l a + wa l b := by
  unfold wa
  rw [List.filter_append, List.map_append, List.sum_append]
theorem aw_nonneg (x : Int) : 0 ≤ aw x := by unfold aw; split <;> omega
theorem wa_nonneg (l : Int) : ∀ ps : List (Int × Int), 0 ≤ wa l ps
  | [] => Int.le_refl _
  | q :: r => by
    rw [wa_cons]
    have h1 := wa_nonneg l r
    have h2 := aw_nonneg q.2
    split <;> omega
theorem pow_ge {P : Int} (h : 1 ≤ P) {a b : Nat} (k : a ≤ b) : P ^ a ≤ P ^ b := by
  obtain ⟨d, rfl⟩ : ∃ d, b = a + d := ⟨b - a, by omega⟩
  rw [Int.pow_add]
  have h1 : 0 < P ^ a := Int.pow_pos (by omega)
  have h2 : 0 < P ^ d := Int.pow_pos (by omega)
  have := Int.mul_le_mul_of_nonneg_left (show 1 ≤ P ^ d by omega) (Int.le_of_lt h1)
  omega
theorem val_low {P l m : Int} {T : Nat} (hP : 1 ≤ P) (hl : 0 < l) : ∀ ps : List (Int × Int), (∀ q ∈ ps, (q.1 - m).toNat ≤ T) → -(wa l ps * P ^ T) ≤ val P m ps
  | [], _ => by simp [wa, val]
  | (i, c) :: r, h => by
    have ih := val_low hP hl r fun q hq => h q (List.mem_cons_of_mem _ hq)
    have hk : (i - m).toNat ≤ T := h (i, c) List.mem_cons_self
    have p1 := pow_ge hP hk
    have p0 : 0 < P ^ (i - m).toNat := Int.pow_pos (by omega)
    rw [wa_cons]
    unfold val
    by_cases hc : c * l < 0
    · have c0 : c < 0 := by
        rcases Int.lt_or_le c 0 with h | h
        · exact h
        · have := Int.mul_nonneg h (Int.le_of_lt hl); omega
      have e : aw c = -c := by unfold aw; rw [if_pos c0]
      rw [if_pos hc, e, Int.add_mul]
      have := Int.mul_le_mul_of_nonneg_left p1 (show 0 ≤ -c by omega)
      rw [Int.neg_mul] at this
      have e2 : -c * P ^ T = -(c * P ^ T) := Int.neg_mul _ _
      omega
    · have c0 : 0 ≤ c := by
        rcases Int.lt_or_le c 0 with h | h
        · exact absurd (Int.mul_neg_of_neg_of_pos h hl) hc
        · exact h
      rw [if_neg hc, Int.zero_add]
      have := Int.mul_nonneg c0 (Int.le_of_lt p0)
      omega
/-- the value against the last one's weight -/
theorem val_top {P m t l : Int} {pre : List (Int × Int)} (hP : 1 ≤ P) (hl : 0 < l) (asc : (pre ++ [(t, l)]).Pairwise (fun q r => q.1 < r.1)) (hm : ∀ q ∈ pre ++ [(t, l)], m ≤ q.1) :
    (wa l pre ≤ l * P → 0 ≤ val P m (pre ++ [(t, l)])) ∧ (wa l pre < l * P → 0 < val P m (pre ++ [(t, l)])) := by
  have va : ∀ a b : List (Int × Int), val P m (a ++ b) = val P m a + val P m b := by
    intro a b
    induction a with
    | nil => simp [val]
    | cons q a ih =>
      show q.2 * P ^ (q.1 - m).toNat + val P m (a ++ b) = q.2 * P ^ (q.1 - m).toNat + val P m a + val P m b
      rw [ih]
      omega
  have vl : val P m [(t, l)] = l * P ^ (t - m).toNat := by simp [val]
  rw [va, vl]
  have ht := hm (t, l) (by simp)
  by_cases hn : pre = []
  · subst hn
    have : 0 < l * P ^ (t - m).toNat := Int.mul_pos hl (Int.pow_pos (by omega))
    have e : val P m [] = 0 := rfl
    rw [e]
    exact ⟨fun _ => by omega, fun _ => by omega⟩
  · have hlt : ∀ q ∈ pre, q.1 < t := fun q hq => (List.pairwise_append.mp asc).2.2 q hq (t, l) (by simp)
    obtain ⟨q0, hq0⟩ := List.exists_mem_of_ne_nil pre hn
    have h0 := hlt q0 hq0
    have h1 := hm q0 (List.mem_append_left _ hq0)
    obtain ⟨T, hT⟩ : ∃ T : Nat, (t - m).toNat = T + 1 := ⟨(t - m).toNat - 1, by simp at ht; omega⟩
    have lw := val_low (m := m) (T := T) hP hl pre fun q hq => by have := hlt q hq; omega
    rw [hT, Int.pow_succ]
    have pT : 0 < P ^ T := Int.pow_pos (by omega)
    have e : l * (P ^ T * P) = (l * P) * P ^ T := by rw [Int.mul_comm (P ^ T) P, Int.mul_assoc]
    rw [e]
    refine ⟨fun h => ?_, fun h => ?_⟩
    · have := Int.mul_le_mul_of_nonneg_right h (Int.le_of_lt pT)
      omega
    · have := Int.mul_lt_mul_of_pos_right h pT
      omega
def neg (ps : List (Int × Int)) : List (Int × Int) := ps.map fun q => (q.1, -q.2)
theorem val_neg (P m : Int) : ∀ ps, val P m (neg ps) = -val P m ps
  | [] => rfl
  | (i, c) :: r => by
    show -c * P ^ (i - m).toNat + val P m (neg r) = -(c * P ^ (i - m).toNat + val P m r)
    rw [val_neg P m r, Int.neg_mul]
    omega
theorem wa_neg (l : Int) : ∀ ps, wa (-l) (neg ps) = wa l ps
  | [] => rfl
  | (i, c) :: r => by
    show wa (-l) ((i, -c) :: neg r) = _
    rw [wa_cons, wa_cons, wa_neg l r]
    show (if -c * -l < 0 then aw (-c) else 0) + _ = (if c * l < 0 then aw c else 0) + _
    rw [Int.neg_mul_neg]
    have e : aw (-c) = aw c := by unfold aw; split <;> split <;> omega
    rw [e]
theorem wa_self {l : Int} (pre : List (Int × Int)) (t : Int) : wa l (pre ++ [(t, l)]) = wa l pre := by
  rw [wa_append]
  have h : ¬ l * l < 0 := by
    rcases Int.lt_or_le l 0 with h | h
    · have := Int.mul_pos_of_neg_of_neg h h; omega
    · have := Int.mul_nonneg h h; omega
  have : wa l [(t, l)] = 0 := by rw [wa_cons, if_neg h]; rfl
  omega
theorem sgn_neg (x : Int) : sgn (-x) = -sgn x := by unfold sgn; split <;> split <;> split <;> split <;> omega
theorem sgn_of_pos {x : Int} (h : 0 < x) : sgn x = 1 := by unfold sgn; rw [if_pos h, if_neg (by omega)]; rfl
/-- settled: the sign is the last one's -/
theorem settled_sgn {P m t l : Int} {pre : List (Int × Int)} (hP : 1 ≤ P) (hl : l ≠ 0) (asc : (pre ++ [(t, l)]).Pairwise (fun q r => q.1 < r.1)) (hm : ∀ q ∈ pre ++ [(t, l)], m ≤ q.1) (h : wa l (pre ++ [(t, l)]) < aw l * P) : sgn (val P m (pre ++ [(t, l)])) = sgn l := by
  rw [wa_self] at h
  rcases Int.lt_trichotomy l 0 with h0 | h0 | h0
  · have e : neg (pre ++ [(t, l)]) = neg pre ++ [(t, -l)] := by unfold neg; rw [List.map_append]; rfl
    have asc' : (neg pre ++ [(t, -l)]).Pairwise (fun q r => q.1 < r.1) := by
      rw [← e]
      unfold neg
      exact List.pairwise_map.mpr asc
    have hm' : ∀ q ∈ neg pre ++ [(t, -l)], m ≤ q.1 := by
      rw [← e]
      intro q hq
      obtain ⟨r, hr, e2⟩ := List.mem_map.mp hq
      rw [← e2]
      exact hm r hr
    have ha : aw l = -l := by unfold aw; rw [if_pos h0]
    rw [ha] at h
    have := (val_top hP (show 0 < -l by omega) asc' hm').2 (by rw [wa_neg]; exact h)
    rw [← e, val_neg] at this
    have s1 := sgn_of_pos this
    have s2 := sgn_of_pos (show 0 < -l by omega)
    rw [sgn_neg] at s1 s2
    omega
  · exact absurd h0 hl
  · have ha : aw l = l := by unfold aw; rw [if_neg (by omega)]
    rw [ha] at h
    rw [sgn_of_pos ((val_top hP h0 asc hm).2 h), sgn_of_pos h0]
theorem seen_sgn {P m t l : Int} {pre : List (Int × Int)} (hP : 1 ≤ P) (hl : 0 < l) (asc : (pre ++ [(t, l)]).Pairwise (fun q r => q.1 < r.1)) (hm : ∀ q ∈ pre ++ [(t, l)], m ≤ q.1) (h : wa l (pre ++ [(t, l)]) ≤ l * P) : sgn (val P m (pre ++ [(t, l)])) ≠ -1 := by
  rw [wa_self] at h
  have := (val_top hP hl asc hm).1 h
  unfold sgn
  split <;> split <;> omega
end K56
namespace K56
open PySem L2 DL
def SG (p : Int) (ps : List (Int × Int)) (n : Nat) : Int := sgn (val (p ^ n) (lo ps) ps)
def ST (p : Int) (ps : List (Int × Int)) (n : Nat) : Bool := stl (p ^ n) ps
def SE (p : Int) (ps : List (Int × Int)) (n : Nat) : Bool := seen (p ^ n) ps
theorem lo_le {ps : List (Int × Int)} (asc : ps.Pairwise (fun q r => q.1 < r.1)) : ∀ q ∈ ps, lo ps ≤ q.1 := by
  cases ps with
  | nil => intro q h; cases h
  | cons r ps =>
    intro q hq
    rcases List.mem_cons.mp hq with e | h
    · rw [e]; exact Int.le_refl _
    · have := (List.pairwise_cons.mp asc).1 q h
      show r.1 ≤ q.1
      omega
theorem stl_app {P t l : Int} {pre : List (Int × Int)} : stl P (pre ++ [(t, l)]) = decide (wa l (pre ++ [(t, l)]) < aw l * P) := by unfold stl; rw [List.getLast?_concat]
theorem seen_app {P t l : Int} {pre : List (Int × Int)} : seen P (pre ++ [(t, l)]) = (decide (0 < l) && decide (wa l (pre ++ [(t, l)]) ≤ l * P)) := by unfold seen; rw [List.getLast?_concat]
theorem pow1 {p : Int} (h : 1 ≤ p) (n : Nat) : 1 ≤ p ^ n := by have : 0 < p ^ n := Int.pow_pos (by omega); omega
theorem st_mono {p : Int} {ps : List (Int × Int)} (hp : 1 ≤ p) {n m : Nat} (k : n ≤ m) (h : ST p ps n = true) : ST p ps m = true := by
  unfold ST at *
  by_cases hn : ps = []
  · subst hn; rfl
  · obtain ⟨pre, t, l, rfl⟩ := ends hn
    rw [stl_app, decide_eq_true_eq] at h ⊢
    have := Int.mul_le_mul_of_nonneg_left (pow_ge hp k) (aw_nonneg l)
    omega
theorem se_mono {p : Int} {ps : List (Int × Int)} (hp : 1 ≤ p) {n m : Nat} (k : n ≤ m) (h : SE p ps n = true) : SE p ps m = true := by
  unfold SE at *
  by_cases hn : ps = []
  · subst hn; rfl
  · obtain ⟨pre, t, l, rfl⟩ := ends hn
    rw [seen_app, Bool.and_eq_true, decide_eq_true_eq, decide_eq_true_eq] at h ⊢
    have := Int.mul_le_mul_of_nonneg_left (pow_ge hp k) (Int.le_of_lt h.1)
    exact ⟨h.1, by omega⟩
structure Nice (ps : List (Int × Int)) : Prop where
  asc : ps.Pairwise (fun q r => q.1 < r.1)
  nz : ∀ q ∈ ps, q.2 ≠ 0
theorem st_sg {p : Int} {ps : List (Int × Int)} (hg : Nice ps) (hp : 1 ≤ p) {n m : Nat} (k : n ≤ m) (h : ST p ps n = true) : SG p ps m = SG p ps n := by
  have hm := st_mono hp k h
  unfold ST at h hm
  unfold SG
  by_cases hn : ps = []
  · subst hn; rfl
  · obtain ⟨pre, t, l, rfl⟩ := ends hn
    rw [stl_app, decide_eq_true_eq] at h hm
    have nz := hg.nz (t, l) (by simp)
    rw [settled_sgn (pow1 hp n) nz hg.asc (lo_le hg.asc) h, settled_sgn (pow1 hp m) nz hg.asc (lo_le hg.asc) hm]
theorem se_sg {p : Int} {ps : List (Int × Int)} (hg : Nice ps) (hp : 1 ≤ p) {n m : Nat} (k : n ≤ m) (h : SE p ps n = true) : SG p ps m ≠ -1 := by
  have hm := se_mono hp k h
  unfold SE at hm
  unfold SG
  by_cases hn : ps = []
  · subst hn; show sgn 0 ≠ -1; decide
  · obtain ⟨pre, t, l, rfl⟩ := ends hn
    rw [seen_app, Bool.and_eq_true, decide_eq_true_eq, decide_eq_true_eq] at hm
    exact seen_sgn (pow1 hp m) hm.1 hg.asc (lo_le hg.asc) hm.2
theorem first (st : Nat → Bool) : ∀ B, st B = true → ∃ N, N ≤ B ∧ st N = true ∧ ∀ n, n < N → st n = false := by
  intro B
  induction B using Nat.strongRecOn with
  | ind B ih =>
    intro h
    by_cases hx : ∃ n, n < B ∧ st n = true
    · obtain ⟨n, h1, h2⟩ := hx
      obtain ⟨N, h3, h4, h5⟩ := ih n h1 h2
      exact ⟨N, by omega, h4, h5⟩
    · refine ⟨B, Nat.le_refl _, h, fun n hn => ?_⟩
      cases e : st n with
      | false => rfl
      | true => exact absurd ⟨n, hn, e⟩ hx
theorem wa_le {l : Int} {B : Nat} : ∀ ps : List (Int × Int), (∀ q ∈ ps, Le B q.2) → wa l ps ≤ (ps.length * 2 ^ B : Nat)
  | [], _ => by simp [wa]
  | q :: r, h => by
    have ih := wa_le (l := l) r fun q hq => h q (List.mem_cons_of_mem _ hq)
    have h1 := h q List.mem_cons_self
    have h2 : aw q.2 ≤ (2 ^ B : Nat) := by unfold Le at h1; unfold aw; split <;> omega
    have h3 := aw_nonneg q.2
    rw [wa_cons, List.length_cons, Nat.succ_mul]
    split <;> omega
theorem st_some {p : Int} {ps : List (Int × Int)} (hg : Gd ps) (hp : 2 ≤ p) : ST p ps 35 = true := by
  unfold ST
  by_cases hn : ps = []
  · subst hn; rfl
  · have hw := fun l => wa_le (l := l) ps hg.co
    have hl := hg.len
    obtain ⟨pre, t, l, e⟩ := ends hn
    have nz := hg.nz (t, l) (by rw [e]; simp)
    have hw := hw l
    rw [e] at hw hl ⊢
    rw [stl_app, decide_eq_true_eq]
    have a1 : 1 ≤ aw l := by unfold aw; simp at nz; split <;> omega
    have a2 : (2 : Int) ^ 35 ≤ p ^ 35 := by
      have : ∀ n : Nat, (2 : Int) ^ n ≤ p ^ n := by
        intro n
        induction n with
        | zero => simp
        | succ n ih =>
          rw [Int.pow_succ, Int.pow_succ]
          have z : (0 : Int) ≤ p ^ n := by have := pow1 (show 1 ≤ p by omega) n; omega
          exact Int.mul_le_mul ih hp (by decide) z
      exact this 35
    have a3 : (pre ++ [(t, l)]).length * 2 ^ 31 ≤ 11 * 2 ^ 31 := Nat.mul_le_mul_right _ hl
    have a4 := Int.mul_le_mul_of_nonneg_right a1 (show 0 ≤ p ^ 35 by omega)
    omega
theorem Gd.nice {ps : List (Int × Int)} (hg : Gd ps) : Nice ps := ⟨hg.asc, hg.nz⟩
theorem fit_of {p n : Int} {ps : List (Int × Int)} (hg : Gd ps) (h2 : 2 ≤ p) (h3 : p ≤ 3) (n0 : 0 ≤ n) (n1 : n ≤ 60) : Fit p n 2 120 31 10 ps := by
  have lp : Le 2 p := by unfold Le; omega
  have hl := hg.len
  refine ⟨hg.asc, fun q hq r hr => ?_, hg.co, n0, lp, by omega, (lp.pow _).mono (by omega), ?_⟩
  · have := hg.ex q hq
    have := hg.ex r hr
    omega
  · have : (ps.length + 2) * (2 * 10 * 120 + 31 + 1) ≤ 13 * (2 * 10 * 120 + 31 + 1) := Nat.mul_le_mul_right _ (by omega)
    omega
/-! ### the row of signs -/
theorem chg_at (sg : Nat → Int) : ∀ N, ∀ q ∈ chg sg N, 0 ≤ q.1 ∧ q.1 ≤ N
  | 0, q, h => by unfold chg at h; simp at h; subst h; simp
  | N + 1, q, h => by
    rw [chg_succ] at h
    rcases List.mem_append.mp h with h | h
    · have := chg_at sg N q h
      omega
    · split at h
      · simp at h; subst h; simp; omega
      · cases h
theorem chg_upto (sg : Nat → Int) : ∀ (N n : Nat), n ≤ N → (chg sg N).filter (fun q => decide (q.1 ≤ (n : Int))) = chg sg n
  | 0, n, h => by
    have : n = 0 := by omega
    subst this
    rfl
  | N + 1, n, h => by
    by_cases e : n = N + 1
    · subst e
      exact List.filter_eq_self.mpr fun q hq => by have := chg_at sg (N + 1) q hq; exact decide_eq_true this.2
    · rw [chg_succ, List.filter_append, chg_upto sg N n (by omega)]
      have : (if sg (N + 1) ≠ sg N then [(((N + 1 : Nat) : Int), sg (N + 1))] else []).filter (fun q => decide (q.1 ≤ (n : Int))) = [] := by
        split
        · have : ¬ (((N + 1 : Nat) : Int) ≤ (n : Int)) := by omega
          simp [List.filter_cons]
          omega
        · rfl
      rw [this, List.append_nil]
/-- the last sign told up to n -/
theorem chg_told {sg : Nat → Int} {N : Nat} (hN : ∀ n, N ≤ n → sg n = sg N) (n : Nat) : ∃ pre t, (chg sg N).filter (fun q => decide (q.1 ≤ (n : Int))) = pre ++ [(t, sg n)] := by
  by_cases h : n ≤ N
  · rw [chg_upto sg N n h]
    exact chg_last sg n
  · have : (chg sg N).filter (fun q => decide (q.1 ≤ (n : Int))) = chg sg N := List.filter_eq_self.mpr fun q hq => by have := chg_at sg N q hq; exact decide_eq_true (by omega)
    rw [this, hN n (by omega)]
    exact chg_last sg N
end K56
namespace K56
open PySem L2 DL
/-! ### rows of pairs put together -/
def addI (m : List (Int × Int)) (q : Int × Int) : List (Int × Int) := putI m q.1 ((getI m q.1).getD 0 + q.2)
def addsI (m ps : List (Int × Int)) : List (Int × Int) := ps.foldl addI m
theorem addI_new {m : List (Int × Int)} {q : Int × Int} (h : q.1 ∉ m.map (·.1)) : addI m q = m ++ [q] := by
  have hg : getI m q.1 = none := by
    cases e : getI m q.1 with
    | none => rfl
    | some c => exact absurd (List.mem_map.mpr ⟨_, getI_mem e, rfl⟩) h
  unfold addI putI
  rw [hg, if_neg]
  · simp
  · rw [List.any_eq_true]
    rintro ⟨r, hr, e⟩
    exact h (List.mem_map.mpr ⟨r, hr, of_decide_eq_true e⟩)
theorem addsI_new : ∀ (ps m : List (Int × Int)), ((m ++ ps).map (·.1)).Nodup → addsI m ps = m ++ ps
  | [], m, _ => by simp [addsI]
  | q :: ps, m, h => by
    have hn : q.1 ∉ m.map (·.1) := by
      rw [List.map_append, List.map_cons] at h
      intro z
      exact (List.nodup_append.mp h).2.2 q.1 z q.1 (by simp) rfl
    show addsI (addI m q) ps = _
    rw [addI_new hn, addsI_new ps (m ++ [q]) (by rw [List.append_assoc]; exact h), List.append_assoc]
    rfl
theorem addI_nd {m : List (Int × Int)} {q : Int × Int} (h : (m.map (·.1)).Nodup) : ((addI m q).map (·.1)).Nodup := putI_nd h
theorem addsI_nd : ∀ (ps m : List (Int × Int)), (m.map (·.1)).Nodup → ((addsI m ps).map (·.1)).Nodup
  | [], _, h => h
  | q :: ps, m, h => addsI_nd ps (addI m q) (addI_nd h)
theorem addsI_len : ∀ (ps m : List (Int × Int)), (addsI m ps).length ≤ m.length + ps.length
  | [], _ => Nat.le_refl _
  | q :: ps, m => by
    have h1 := addsI_len ps (addI m q)
    have h2 := putI_len (m := m) (i := q.1) (c := (getI m q.1).getD 0 + q.2)
    show (addsI (addI m q) ps).length ≤ m.length + (ps.length + 1)
    unfold addI at h1 ⊢
    omega
theorem rows_0 (m : List (Int × Int)) : tp (rows m 0) = .tuple (((sortI (m.map (·.1))).filter fun i => decide ((getI m i).getD 0 ≠ 0)).map fun i => .tuple [.int i, .int ((getI m i).getD 0)]) := by
  unfold tp pp rows
  simp
theorem t_powers_of {x : D} {ps : List (Int × Int)} (hx : seqOf x = some (pp ps)) (hl : ps.length < 64) : gets (den_powers_of [.d x] none) fun d so => so = none ∧ d = tp (rows (addsI [] ps) 0) := by
  refine gets_den rfl rfl ?_
  unfold b_powers_of
  simp
  rw [wp_opt hx]
  refine wp_loop (fun ds s => ∃ (m rest : List (Int × Int)) (x2 x3 : SV), ds = pp rest ∧ s = ⟨[.d x, .oK (kI m), x2, x3], none⟩ ∧ m.length + rest.length < 64 ∧ (m.map (·.1)).Nodup ∧ addsI m rest = addsI [] ps) ?_ ?_ _ _ ⟨[], ps, .un, .un, rfl, rfl, by simpa using hl, by simp, rfl⟩
  · rintro d ds s ⟨m, rest, x2, x3, e, rfl, h1, h2, h3⟩
    cases rest with
    | nil => cases e
    | cons q rest =>
      obtain ⟨i, c⟩ := q
      cases e
      refine ⟨_, rfl, ?_⟩
      refine wp_dput ?_
      simp
      refine wp_dgetOr ⟨_, dictAt_oK rfl⟩ ?_
      simp
      refine ⟨_, dictAt_oK rfl, _, rfl, ?_⟩
      rw [valD_get]
      simp
      have := putI_len (m := m) (i := i) (c := (getI m i).getD 0 + c)
      simp at h1
      exact ⟨_, rfl, by rw [kI_len]; omega, addI m (i, c), rest, rfl, putD_kI _ _ _, (by show (putI m i ((getI m i).getD 0 + c)).length + _ < 64; omega), addI_nd h2, h3⟩
  · rintro s ⟨m, rest, x2, x3, e, rfl, h1, h2, h3⟩
    have hr : rest = [] := by
      cases rest with
      | nil => rfl
      | cons a b => simp [pp] at e
    subst hr
    have h3 : m = addsI [] ps := h3
    subst h3
    generalize addsI [] ps = m at h1 h2 ⊢
    simp
    simp at h1
    rw [wp_sortedK (dictAt_oK rfl) (intKeys_kI m) (by rw [List.length_map]; omega)]
    simp
    refine runC_enc PyData.int (fun i => decide ((getI m i).getD 0 ≠ 0)) (fun i => .tuple [.int i, .int ((getI m i).getD 0)]) _ [] ?_ ?_ ?_
    · simp
      rw [(sortI_perm _).length_eq, List.length_map]
      omega
    · intro i hi
      obtain ⟨c, e⟩ := getI_key ((sortI_perm _).mem_iff.mp hi)
      refine ⟨_, rfl, ?_⟩
      simp [e]
      refine wp_dget ⟨_, dictAt_oK rfl⟩ ?_
      simp
      refine ⟨_, dictAt_oK rfl, _, rfl, _, by rw [valD_kI, e]; rfl, ?_⟩
      simp [e]
      intro hc
      refine wp_dget ⟨_, dictAt_oK rfl⟩ ?_
      simp [e]
      exact ⟨_, dictAt_oK rfl, _, rfl, by rw [valD_kI, e]; rfl⟩
    · simp [rows_0]
end K56
namespace K56
open PySem L2 DL
/-! ### powers less others -/
theorem sortI_asc {xs : List Int} (h : xs.Pairwise (· < ·)) : sortI xs = xs := (sortI_is (List.Perm.refl xs) (h.imp fun k => Int.le_of_lt k)).symm
theorem rows_asc {ps : List (Int × Int)} (h : Nice ps) : rows ps 0 = ps := by
  have hs : sortI (ps.map (·.1)) = ps.map (·.1) := sortI_asc (List.pairwise_map.mpr h.asc)
  have gv : ∀ q ∈ ps, getI ps q.1 = some q.2 := fun q hq => getI_of (asc_nd h.asc) hq
  unfold rows
  rw [hs, List.filter_eq_self.mpr, List.map_map]
  · conv => rhs; rw [← List.map_id ps]
    refine List.map_congr_left fun q hq => ?_
    show (q.1 - 0, (getI ps q.1).getD 0) = q
    rw [gv q hq]
    simp
  · intro i hi
    obtain ⟨q, hq, rfl⟩ := List.mem_map.mp hi
    rw [gv q hq]
    have := h.nz q hq
    simpa using this
theorem neg_nice {ps : List (Int × Int)} (h : Nice ps) : Nice (neg ps) := by
  refine ⟨List.pairwise_map.mpr h.asc, fun q hq => ?_⟩
  obtain ⟨r, hr, rfl⟩ := List.mem_map.mp hq
  have := h.nz r hr
  show -r.2 ≠ 0
  omega
theorem asc_len : ∀ (xs : List Int) (lo hi : Int), xs.Pairwise (· < ·) → (∀ x ∈ xs, lo ≤ x ∧ x < hi) → xs.length ≤ (hi - lo).toNat
  | [], _, _, _, _ => Nat.zero_le _
  | x :: xs, lo, hi, h, hb => by
    obtain ⟨h1, h2⟩ := List.pairwise_cons.mp h
    have hx := hb x List.mem_cons_self
    have := asc_len xs (x + 1) hi h2 fun y hy => ⟨by have := h1 y hy; omega, (hb y (List.mem_cons_of_mem _ hy)).2⟩
    rw [List.length_cons]
    omega
theorem nd_len {xs : List Int} {lo hi : Int} (nd : xs.Nodup) (hb : ∀ x ∈ xs, lo ≤ x ∧ x < hi) : xs.length ≤ (hi - lo).toNat := by
  have nd2 : (sortI xs).Nodup := (sortI_perm _).nodup_iff.mpr nd
  have h1 : (sortI xs).Pairwise (· < ·) := List.Pairwise.imp₂ (fun a b h1 h2 => by omega) (sortI_sorted xs) nd2
  rw [← (sortI_perm xs).length_eq]
  exact asc_len _ lo hi h1 fun x hx => hb x ((sortI_perm _).mem_iff.mp hx)
/-- powers with numbers up to 2^B -/
structure Sm (B : Nat) (ps : List (Int × Int)) : Prop where
  asc : ps.Pairwise (fun q r => q.1 < r.1)
  nz : ∀ q ∈ ps, q.2 ≠ 0
  ex : ∀ q ∈ ps, -4 ≤ q.1 ∧ q.1 ≤ 3
  co : ∀ q ∈ ps, Le B q.2
theorem Sm.nice {B : Nat} {ps : List (Int × Int)} (h : Sm B ps) : Nice ps := ⟨h.asc, h.nz⟩
theorem Sm.len {B : Nat} {ps : List (Int × Int)} (h : Sm B ps) : ps.length ≤ 8 := by
  have := asc_len (ps.map (·.1)) (-4) 4 (List.pairwise_map.mpr h.asc) (fun x hx => by
    obtain ⟨q, hq, rfl⟩ := List.mem_map.mp hx
    have := h.ex q hq
    omega)
  rw [List.length_map] at this
  omega
theorem Sm.gd {B : Nat} {ps : List (Int × Int)} (h : Sm B ps) (hB : B ≤ 31) : Gd ps := ⟨h.asc, fun q hq => by have := h.ex q hq; omega, fun q hq => (h.co q hq).mono hB, h.nz, by have := h.len; omega⟩
theorem Sm.mono {B C : Nat} {ps : List (Int × Int)} (h : Sm B ps) (k : B ≤ C) : Sm C ps := ⟨h.asc, h.nz, h.ex, fun q hq => (h.co q hq).mono k⟩
/-- the difference -/
def Df (a b : List (Int × Int)) : List (Int × Int) := rows (addsI a (neg b)) 0
theorem addsI_ex {lo hi : Int} : ∀ (ps m : List (Int × Int)), (∀ q ∈ m, lo ≤ q.1 ∧ q.1 ≤ hi) → (∀ q ∈ ps, lo ≤ q.1 ∧ q.1 ≤ hi) → ∀ q ∈ addsI m ps, lo ≤ q.1 ∧ q.1 ≤ hi
  | [], _, h, _ => h
  | r :: ps, m, h, k => by
    refine addsI_ex ps (addI m r) (fun q hq => ?_) fun q hq => k q (List.mem_cons_of_mem _ hq)
    rcases putI_mem hq with e | e
    · exact h q e
    · rw [e]; exact k r List.mem_cons_self
theorem getI_nil_le {m : List (Int × Int)} {i : Int} {X : Nat} (h : ∀ q ∈ m, q.2.natAbs ≤ X) : ((getI m i).getD 0).natAbs ≤ X := by
  cases e : getI m i with
  | none => simp
  | some c => exact h _ (getI_mem e)
/-- a row without a key twice, added: each number comes to at most one more -/
theorem addsI_co {X Y : Nat} : ∀ (ps m : List (Int × Int)), (ps.map (·.1)).Nodup → (m.map (·.1)).Nodup → (∀ q ∈ ps, q.2.natAbs ≤ Y) → (∀ q ∈ m, q.2.natAbs ≤ X + Y ∧ (q.1 ∈ ps.map (·.1) → q.2.natAbs ≤ X)) → ∀ q ∈ addsI m ps, q.2.natAbs ≤ X + Y
  | [], _, _, _, _, h => fun q hq => (h q hq).1
  | r :: ps, m, nd, ndm, hp, h => by
    rw [List.map_cons] at nd
    obtain ⟨n1, n2⟩ := List.nodup_cons.mp nd
    have hr := hp r List.mem_cons_self
    have hg : ((getI m r.1).getD 0).natAbs ≤ X := by
      cases e : getI m r.1 with
      | none => simp
      | some c => exact (h _ (getI_mem e)).2 (by simp)
    refine addsI_co ps (addI m r) n2 (addI_nd ndm) (fun q hq => hp q (List.mem_cons_of_mem _ hq)) fun q hq => ?_
    rcases putI_mem hq with e | e
    · exact ⟨(h q e).1, fun z => (h q e).2 (List.mem_cons_of_mem _ z)⟩
    · rw [e]
      refine ⟨?_, fun z => absurd z n1⟩
      show ((getI m r.1).getD 0 + r.2).natAbs ≤ X + Y
      omega
theorem rows_sm {m : List (Int × Int)} {B : Nat} (nd : (m.map (·.1)).Nodup) (he : ∀ q ∈ m, -4 ≤ q.1 ∧ q.1 ≤ 3) (hc : ∀ q ∈ m, Le B q.2) : Sm B (rows m 0) := by
  have key : ∀ i, i ∈ sortI (m.map (·.1)) → ∃ c, getI m i = some c ∧ (i, c) ∈ m := fun i hi => by
    obtain ⟨c, e⟩ := getI_key ((sortI_perm _).mem_iff.mp hi)
    exact ⟨c, e, getI_mem e⟩
  have el : ∀ q ∈ rows m 0, ∃ i c, (i, c) ∈ m ∧ q = (i - 0, c) ∧ c ≠ 0 := fun q hq => by
    obtain ⟨i, hi, e⟩ := List.mem_map.mp hq
    obtain ⟨h1, h2⟩ := List.mem_filter.mp hi
    obtain ⟨c, e1, e2⟩ := key i h1
    rw [e1] at h2 e
    exact ⟨i, c, e2, e.symm, by simpa using h2⟩
  refine ⟨?_, fun q hq => ?_, fun q hq => ?_, fun q hq => ?_⟩
  · refine List.pairwise_map.mpr (List.Pairwise.filter _ ?_)
    have nd2 : (sortI (m.map (·.1))).Nodup := (sortI_perm _).nodup_iff.mpr nd
    refine List.Pairwise.imp₂ ?_ (sortI_sorted (m.map (·.1))) nd2
    intro a b h1 h2
    show a - 0 < b - 0
    omega
  · obtain ⟨i, c, h, rfl, h0⟩ := el q hq
    exact h0
  · obtain ⟨i, c, h, rfl, _⟩ := el q hq
    have := he _ h
    simp at this ⊢
    exact this
  · obtain ⟨i, c, h, rfl, _⟩ := el q hq
    have := hc _ h
    exact this
theorem df_sm {A B C : Nat} {a b : List (Int × Int)} (ha : Sm A a) (hb : Sm B b) (hC : 2 ^ A + 2 ^ B ≤ 2 ^ C) : Sm C (Df a b) := by
  refine rows_sm (addsI_nd _ _ (asc_nd ha.asc)) (addsI_ex _ _ ha.ex fun q hq => ?_) fun q hq => ?_
  · obtain ⟨r, hr, rfl⟩ := List.mem_map.mp hq
    exact hb.ex r hr
  · have := addsI_co (X := 2 ^ A) (Y := 2 ^ B) (neg b) a (by
      have e : (neg b).map (·.1) = b.map (·.1) := by unfold neg; rw [List.map_map]; rfl
      rw [e]; exact asc_nd hb.asc) (asc_nd ha.asc) (fun q hq => by
      obtain ⟨r, hr, rfl⟩ := List.mem_map.mp hq
      have := hb.co r hr
      unfold Le at this
      show (-r.2).natAbs ≤ _
      omega) (fun q hq => by
      have := ha.co q hq
      unfold Le at this
      exact ⟨Nat.le_trans this (Nat.le_add_right _ _), fun _ => this⟩) q hq
    unfold Le
    omega
/-- the law's own -/
theorem subs_neg : ∀ (ps m : List (Int × Int)), addsI m (neg ps) = ps.foldl (fun m q => putI m q.1 ((getI m q.1).getD 0 - q.2)) m
  | [], _ => rfl
  | q :: ps, m => by
    show addsI (putI m q.1 ((getI m q.1).getD 0 + -q.2)) (neg ps) = _
    rw [← Int.sub_eq_add_neg, subs_neg ps]
    rfl
theorem t_law_less {a b : List (Int × Int)} (ha : (a.map (·.1)).Nodup) (hl : a.length + b.length < 64) : gets (den__law_less [.d (tp a), .d (tp b)] none) fun d so => so = none ∧ d = tp (Df a b) := by
  refine gets_den rfl rfl ?_
  unfold b__law_less
  simp [wp_dictOf]
  refine ⟨pp a, rfl, kI a, ?_, ?_⟩
  · show (pairsOf (pp a)).map (fun ps => mergeD [] ps) = _
    rw [pairsOf_pp]
    have := merge_nd a [] (by simpa using ha)
    exact congrArg some this
  refine wp_loop (fun ds s => ∃ (m rest : List (Int × Int)) (x y : SV), ds = pp rest ∧ s = ⟨[.d (tp a), .d (tp b), .oK (kI m), x, y], none⟩ ∧ m.length + rest.length < 64 ∧ (m.map (·.1)).Nodup ∧ addsI m (neg rest) = addsI a (neg b)) ?_ ?_ _ _ ⟨a, b, .un, .un, rfl, rfl, hl, ha, rfl⟩
  · rintro d ds s ⟨m, rest, x, y, e, rfl, h1, h2, h3⟩
    cases rest with
    | nil => cases e
    | cons q rest =>
      obtain ⟨i, c⟩ := q
      cases e
      refine ⟨_, rfl, ?_⟩
      refine wp_dput ?_
      simp
      refine wp_dgetOr ⟨_, dictAt_oK rfl⟩ ?_
      simp
      refine ⟨_, dictAt_oK rfl, _, rfl, ?_⟩
      rw [valD_get]
      simp
      have := putI_len (m := m) (i := i) (c := (getI m i).getD 0 - c)
      simp at h1
      refine ⟨_, rfl, by rw [kI_len]; omega, putI m i ((getI m i).getD 0 - c), rest, rfl, putD_kI _ _ _, by omega, putI_nd h2, ?_⟩
      rw [subs_neg] at h3 ⊢
      exact h3
  · rintro s ⟨m, rest, x, y, e, rfl, h1, h2, h3⟩
    have hr : rest = [] := by
      cases rest with
      | nil => rfl
      | cons a b => simp [pp] at e
    subst hr
    have h3 : m = addsI a (neg b) := h3
    unfold Df
    rw [← h3]
    clear h3
    simp
    simp at h1
    rw [wp_sortedK (dictAt_oK rfl) (intKeys_kI m) (by rw [List.length_map]; omega)]
    simp
    refine runC_enc PyData.int (fun i => decide ((getI m i).getD 0 ≠ 0)) (fun i => .tuple [.int i, .int ((getI m i).getD 0)]) _ [] ?_ ?_ ?_
    · simp
      rw [(sortI_perm _).length_eq, List.length_map]
      omega
    · intro i hi
      obtain ⟨c, e⟩ := getI_key ((sortI_perm _).mem_iff.mp hi)
      refine ⟨_, rfl, ?_⟩
      simp [e]
      refine wp_dget ⟨_, dictAt_oK rfl⟩ ?_
      simp
      refine ⟨_, dictAt_oK rfl, _, rfl, _, by rw [valD_kI, e]; rfl, ?_⟩
      simp [e]
      intro hc
      refine wp_dget ⟨_, dictAt_oK rfl⟩ ?_
      simp [e]
      exact ⟨_, dictAt_oK rfl, _, rfl, by rw [valD_kI, e]; rfl⟩
    · simp [rows_0]
/-- the program's -/
theorem t_scaled {B : Nat} {b : List (Int × Int)} (hb : Sm B b) (hB : B ≤ 1000) : gets (den_powers_scaled [.d (.int (-1)), .d (tp b)] none) fun d so => so = none ∧ d = tp (neg b) := by
  refine gets_den rfl rfl ?_
  unfold b_powers_scaled
  have hl := hb.len
  simp
  refine wp_call ?_
  simp
  rw [pp_enc]
  refine runC_enc enc2 (fun _ => true) (fun q => enc2 (q.1, -q.2)) b [] (by simp; omega) ?_ ?_
  · rintro ⟨i, c⟩ hq
    have hc := hb.co _ hq
    refine ⟨_, rfl, ?_⟩
    simp
    exact ⟨mulOk_of (a := 1) (by unfold Le; decide) hc (by omega), by simp [enc2]⟩
  · simp
    rw [filter_yes]
    have e : (b.map fun q => enc2 (q.1, -q.2)) = pp (neg b) := by unfold neg; rw [pp_enc, List.map_map]; rfl
    rw [e]
    refine gets_mono (t_powers_of rfl (by unfold neg; rw [List.length_map]; omega)) ?_
    rintro _ _ ⟨rfl, rfl⟩
    have nn := neg_nice hb.nice
    rw [addsI_new _ _ (by simpa using asc_nd nn.asc)]
    simp [rows_asc nn]
theorem t_sum {a b : List (Int × Int)} (hl : a.length + b.length < 64) : gets (den_powers_sum [.d (tp a), .d (tp b)] none) fun d so => so = none ∧ d = tp (rows (addsI [] (a ++ b)) 0) := by
  refine gets_den rfl rfl ?_
  unfold b_powers_sum
  simp
  refine wp_call ?_
  simp [tp]
  rw [← pp_append]
  refine ⟨by unfold pp; rw [List.length_map, List.length_map]; omega, ?_⟩
  refine gets_mono (t_powers_of (x := .list (pp (a ++ b))) rfl (by rw [List.length_append]; exact hl)) ?_
  rintro _ _ ⟨rfl, rfl⟩
  exact ⟨rfl, rfl⟩
theorem t_powers_less {A B : Nat} {a b : List (Int × Int)} (ha : Sm A a) (hb : Sm B b) (hB : B ≤ 1000) : gets (den_powers_less [.d (tp a), .d (tp b)] none) fun d so => so = none ∧ d = tp (Df a b) := by
  refine gets_den rfl rfl ?_
  unfold b_powers_less
  have la := ha.len
  have lb := hb.len
  simp
  refine wp_call ?_
  simp
  refine wp_call ?_
  simp
  refine gets_mono (t_scaled hb hB) ?_
  rintro _ _ ⟨rfl, rfl⟩
  refine ⟨rfl, ?_⟩
  refine gets_mono (t_sum (by unfold neg; rw [List.length_map]; omega)) ?_
  rintro _ _ ⟨rfl, rfl⟩
  refine ⟨rfl, ?_⟩
  unfold Df
  have e : addsI [] (a ++ neg b) = addsI a (neg b) := by
    unfold addsI
    rw [List.foldl_append]
    have := addsI_new a [] (by simpa using asc_nd ha.asc)
    unfold addsI at this
    rw [this]
    rfl
  rw [e]
end K56
namespace K56
open PySem L2 DL
/-! ### fractions -/
theorem gcd_step (a b : Int) : Int.gcd b (a % b) = Int.gcd a b := by
  refine Nat.dvd_antisymm ?_ ?_
  · refine Int.dvd_gcd ?_ (Int.gcd_dvd_left b _) |> fun h => (by exact_mod_cast h)
    have h1 := Int.gcd_dvd_left b (a % b)
    have h2 := Int.gcd_dvd_right b (a % b)
    have := Int.dvd_add (Int.dvd_trans h1 (Int.dvd_mul_right b (a / b))) h2
    rwa [Int.mul_ediv_add_emod] at this
  · refine Int.dvd_gcd (Int.gcd_dvd_right a b) ?_ |> fun h => (by exact_mod_cast h)
    have h1 := Int.gcd_dvd_left a b
    have h2 := Int.gcd_dvd_right a b
    rw [Int.emod_def]
    exact Int.dvd_sub h1 (Int.dvd_trans h2 (Int.dvd_mul_right b (a / b)))
theorem gcd_aw (a b : Int) : Int.gcd (aw a) b = Int.gcd a b := by
  unfold aw
  split
  · exact Int.neg_gcd
  · rfl
theorem gcd_pos {a b : Int} (h : 0 < b) : 0 < Int.gcd a b := Nat.pos_of_ne_zero fun z => by
  have := (Int.gcd_eq_zero_iff.mp z).2
  omega
def frc (a b : Int) : Int × Int := (a / (Int.gcd a b : Int), b / (Int.gcd a b : Int))
theorem frc_pos {a b : Int} (h : 0 < b) : 0 < (frc a b).2 := by
  have g0 := gcd_pos (a := a) h
  have gd := Int.gcd_dvd_right a b
  have e := Int.ediv_mul_cancel gd
  unfold frc
  rcases Int.lt_or_le 0 (b / (Int.gcd a b : Int)) with k | k
  · exact k
  · have := Int.mul_nonneg (show 0 ≤ -(b / (Int.gcd a b : Int)) by omega) (show (0 : Int) ≤ (Int.gcd a b : Int) by omega)
    rw [Int.neg_mul] at this
    omega
theorem frc_gcd {a b : Int} (h : 0 < b) : Int.gcd (frc a b).1 (frc a b).2 = 1 := Int.gcd_ediv_gcd_ediv_gcd (gcd_pos h)
theorem frc_le {A B : Nat} {a b : Int} (ha : Le A a) (hb : Le B b) : Le A (frc a b).1 ∧ Le B (frc a b).2 := by
  unfold Le at *
  exact ⟨Nat.le_trans (Int.natAbs_ediv_le_natAbs _ _) ha, Nat.le_trans (Int.natAbs_ediv_le_natAbs _ _) hb⟩
theorem gcd_le {B : Nat} {a b : Int} (h : 0 < b) (hb : Le B b) : Le B (Int.gcd a b : Int) := by
  have := Int.le_of_dvd h (Int.gcd_dvd_right a b)
  unfold Le at *
  omega
theorem t_cutG {a b : Int} {A : Nat} (hb : 0 < b) (lb : Le 8000 b) (la : Le A a) (hA : A < 900000) : gets (den__law_cut [.d (.int a), .d (.int b)] none) fun d so => so = none ∧ d = enc2 (frc a b) := by
  refine gets_den rfl rfl ?_
  unfold b__law_cut
  simp
  refine wp_while (fun m s => ∃ one other : Int, s = ⟨[.d (.int a), .d (.int b), .d (.int one), .d (.int other)], none⟩ ∧ m = other.toNat ∧ 0 ≤ one ∧ 0 ≤ other ∧ Le 8000 other ∧ Le (A + 8001) one ∧ Int.gcd one other = Int.gcd a b) ?_ b.toNat _ ⟨aw a, b, rfl, rfl, ?_, by omega, lb, la.aw.mono (by omega), gcd_aw a b⟩
  · rintro m s ⟨one, other, rfl, rfl, h1, h2, l2, l1, hg⟩
    simp
    by_cases hz : 0 < other
    · simp [hz]
      have e : one - one / other * other = one % other := by rw [Int.emod_def, Int.mul_comm]
      have r0 := Int.emod_nonneg one (show other ≠ 0 by omega)
      have r1 := Int.emod_lt_of_pos one hz
      have lq : Le (A + 8001) (one / other) := by
        unfold Le at *
        have := Int.natAbs_ediv_le_natAbs one other
        omega
      refine ⟨divOk_of hz l2 (by decide), mulOk_of lq l2 (by omega), other.toNat - 1 - (other - 1 - one % other).toNat, by omega, other, one % other, ⟨rfl, e⟩, by omega, h2, r0, ?_, l2.mono (by omega), by rw [gcd_step, hg]⟩
      · unfold Le at *; omega
    · simp [hz]
      have z : other = 0 := by omega
      subst z
      have ho : one = (Int.gcd a b : Int) := by
        rw [Int.gcd_zero_right] at hg
        omega
      subst ho
      have g0 := gcd_pos (a := a) hb
      have lg := gcd_le (a := a) hb lb
      exact ⟨divOk_of (by omega) lg (by decide), divOk_of (by omega) lg (by decide), rfl⟩
  · unfold aw; split <;> omega
def topv (p n m : Int) (ps : List (Int × Int)) : Int := (ps.map fun q => q.2 * p ^ ((q.1 - m) * n).toNat).sum
def lst (ps : List (Int × Int)) : Int := minI 0 (ps.map (·.1))
def AT (p n : Int) (ps : List (Int × Int)) : Int × Int := frc (topv p n (lst ps) ps) (p ^ (-(lst ps) * n).toNat)
theorem sum_le {T : Nat} : ∀ xs : List Int, (∀ x ∈ xs, Le T x) → xs.sum.natAbs ≤ xs.length * 2 ^ T
  | [], _ => by simp
  | x :: xs, h => by
    have h1 := sum_le xs fun y hy => h y (List.mem_cons_of_mem _ hy)
    have h2 := h x List.mem_cons_self
    unfold Le at h2
    rw [List.sum_cons, List.length_cons, Nat.succ_mul]
    have := Int.natAbs_add_le x xs.sum
    omega
theorem lst_le {B : Nat} {ps : List (Int × Int)} (hs : Sm B ps) : lst ps ≤ 0 ∧ -4 ≤ lst ps ∧ ∀ q ∈ ps, lst ps ≤ q.1 := by
  unfold lst
  obtain ⟨m1, m2⟩ := minI_le (ps.map (·.1)) 0
  have m3 := minI_mem (ps.map (·.1)) 0
  refine ⟨m1, ?_, fun q hq => m2 q.1 (List.mem_map_of_mem hq)⟩
  rcases List.mem_cons.mp m3 with e | h
  · omega
  · obtain ⟨q, hq, e⟩ := List.mem_map.mp h
    have := hs.ex q hq
    omega
theorem topv_le {B : Nat} {p n : Int} {ps : List (Int × Int)} (hs : Sm B ps) (h2 : 2 ≤ p) (h3 : p ≤ 3) (n0 : 0 ≤ n) (n1 : n ≤ 60) : Le (B + 843) (topv p n (lst ps) ps) := by
  obtain ⟨m1, m5, m4⟩ := lst_le hs
  have lp : Le 2 p := by unfold Le; omega
  have := sum_le (T := B + 840) (ps.map fun q => q.2 * p ^ ((q.1 - lst ps) * n).toNat) (fun x hx => by
    obtain ⟨q, hq, rfl⟩ := List.mem_map.mp hx
    have hi := hs.ex q hq
    have hm := m4 q hq
    refine (hs.co q hq).mul ((lp.pow _).mono ?_)
    have b1 : (q.1 - lst ps) * n ≤ 7 * 60 := Int.mul_le_mul (show q.1 - lst ps ≤ 7 by omega) n1 n0 (by decide)
    omega)
  rw [List.length_map] at this
  have hl := hs.len
  have e : ps.length * 2 ^ (B + 840) ≤ 8 * 2 ^ (B + 840) := Nat.mul_le_mul_right _ hl
  unfold Le topv
  rw [show B + 843 = 3 + (B + 840) by omega, Nat.pow_add]
  omega
theorem t_law_atG {B : Nat} {p n : Int} {ps : List (Int × Int)} (hs : Sm B ps) (hB : B ≤ 31) (h2 : 2 ≤ p) (h3 : p ≤ 3) (n0 : 0 ≤ n) (n1 : n ≤ 60) : gets (den__law_at [.d (.int p), .d (tp ps), .d (.int n)] none) fun d so => so = none ∧ d = enc2 (AT p n ps) := by
  refine gets_den rfl rfl ?_
  unfold b__law_at
  have hl := hs.len
  have lp : Le 2 p := by unfold Le; omega
  have pn : -(2 ^ 64) < p ∧ p < 2 ^ 64 := by omega
  simp
  rw [pp_enc]
  refine runC_enc enc2 (fun q => true) (fun q => .int q.1) ps [] (sizeLine_ge (by simp; omega)) ?_ ?_
  · rintro ⟨i, c⟩ hq
    refine ⟨_, rfl, ?_⟩
    simp
  · simp
    rw [filter_yes, e_min]
    refine ⟨by omega, ?_⟩
    simp
    obtain ⟨m1, m5, m4⟩ := lst_le hs
    have tl := topv_le hs h2 h3 n0 n1
    have ea : AT p n ps = frc (topv p n (lst ps) ps) (p ^ (-(lst ps) * n).toNat) := rfl
    have el : minI 0 (ps.map (·.1)) = lst ps := rfl
    have el2 : minI 0 (ps.map fun q => q.1) = lst ps := rfl
    simp only [el, el2]
    generalize lst ps = m at m1 m5 m4 tl ea ⊢
    have bd : ∀ i : Int, m ≤ i → i ≤ 3 → 0 ≤ (i - m) * n ∧ (i - m) * n ≤ 420 := fun i h4 h5 => by
      refine ⟨Int.mul_nonneg (by omega) n0, ?_⟩
      have := Int.mul_le_mul (show i - m ≤ 7 by omega) n1 n0 (by decide)
      omega
    have b2 : 0 ≤ -m * n ∧ -m * n ≤ 420 := ⟨Int.mul_nonneg (by omega) n0, by have := Int.mul_le_mul (show -m ≤ 7 by omega) n1 n0 (by decide); omega⟩
    refine wp_call ?_
    simp
    rw [pp_enc]
    refine runC_enc enc2 (fun q => true) (fun q => .int (q.2 * p ^ ((q.1 - m) * n).toNat)) ps [] (sizeLine_ge (by simp; omega)) ?_ ?_
    · rintro ⟨i, c⟩ hq
      have hi := hs.ex (i, c) hq
      have hc := hs.co (i, c) hq
      have b3 := bd i (m4 (i, c) hq) hi.2
      refine ⟨_, rfl, ?_⟩
      simp
      refine wp_call ?_
      simp
      refine ⟨?_, ?_⟩
      · refine mulOk_of (a := 4) (b := 6) ?_ ?_ (by decide)
        · have := m4 (i, c) hq
          unfold Le
          simp at this hi
          omega
        · unfold Le; omega
      · refine gets_mono (t_power pn (by omega) (by omega)) ?_
        rintro _ _ ⟨rfl, rfl⟩
        refine ⟨rfl, ?_⟩
        simp
        refine mulOk_of hc (lp.pow _) ?_
        omega
    · simp
      rw [filter_yes]
      refine wp_call ?_
      simp
      refine ⟨?_, ?_⟩
      · refine mulOk_of (a := 3) (b := 6) ?_ ?_ (by decide) <;> unfold Le <;> omega
      · have e : -(m * n) = -m * n := by rw [Int.neg_mul]
        rw [e]
        refine gets_mono (t_power pn (by omega) (by omega)) ?_
        rintro _ _ ⟨rfl, rfl⟩
        refine ⟨rfl, ?_⟩
        have hy : 0 < p ^ (-m * n).toNat := Int.pow_pos (by omega)
        refine gets_mono (t_cutG hy ((lp.pow _).mono (by omega)) tl (by omega)) ?_
        rintro _ _ ⟨rfl, rfl⟩
        exact ⟨rfl, by rw [ea]; rfl⟩
theorem t_whole {p n : Int} (hp : -(2 ^ 64) < p ∧ p < 2 ^ 64) (h1 : -(2 ^ 62) ≤ n) (h2 : n < 2 ^ 62) : gets (den_whole_power [.d (.int p), .d (.int n)] none) fun d so => so = none ∧ d = .int (p ^ n.toNat) := t_power hp h1 h2
theorem t_powers_at {B : Nat} {p n : Int} {ps : List (Int × Int)} (hs : Sm B ps) (hB : B ≤ 31) (h2 : 2 ≤ p) (h3 : p ≤ 3) (n0 : 0 ≤ n) (n1 : n ≤ 60) : gets (den_powers_at [.d (.int p), .d (tp ps), .d (.int n)] none) fun d so => so = none ∧ d = enc2 (AT p n ps) := by
  refine gets_den rfl rfl ?_
  unfold b_powers_at
  have hl := hs.len
  have lp : Le 2 p := by unfold Le; omega
  have pn : -(2 ^ 64) < p ∧ p < 2 ^ 64 := by omega
  simp
  rw [pp_enc]
  refine runC_enc enc2 (fun q => true) (fun q => .int q.1) ps [] (sizeLine_ge (by simp; omega)) ?_ ?_
  · rintro ⟨i, c⟩ hq
    refine ⟨_, rfl, ?_⟩
    simp
  · simp
    rw [filter_yes, e_min]
    refine ⟨by omega, ?_⟩
    simp
    obtain ⟨m1, m5, m4⟩ := lst_le hs
    have tl := topv_le hs h2 h3 n0 n1
    have ea : AT p n ps = frc (topv p n (lst ps) ps) (p ^ (-(lst ps) * n).toNat) := rfl
    have el : minI 0 (ps.map (·.1)) = lst ps := rfl
    have el2 : minI 0 (ps.map fun q => q.1) = lst ps := rfl
    simp only [el, el2]
    have et : ∀ m, topv p n m ps = (ps.map fun q => q.2 * p ^ ((q.1 - m) * n).toNat).sum := fun _ => rfl
    generalize lst ps = m at m1 m5 m4 tl ea ⊢
    have bd : ∀ i : Int, m ≤ i → i ≤ 3 → 0 ≤ (i - m) * n ∧ (i - m) * n ≤ 420 := fun i h4 h5 => by
      refine ⟨Int.mul_nonneg (by omega) n0, ?_⟩
      have := Int.mul_le_mul (show i - m ≤ 7 by omega) n1 n0 (by decide)
      omega
    have b2 : 0 ≤ -m * n ∧ -m * n ≤ 420 := ⟨Int.mul_nonneg (by omega) n0, by have := Int.mul_le_mul (show -m ≤ 7 by omega) n1 n0 (by decide); omega⟩
    rw [pp_enc]
    refine runC_enc enc2 (fun q => true) (fun q => .int (q.2 * p ^ ((q.1 - m) * n).toNat)) ps [] (sizeLine_ge (by simp; omega)) ?_ ?_
    · rintro ⟨i, c⟩ hq
      have hi := hs.ex (i, c) hq
      have hc := hs.co (i, c) hq
      have b3 := bd i (m4 (i, c) hq) hi.2
      refine ⟨_, rfl, ?_⟩
      simp
      refine wp_call ?_
      simp
      refine ⟨?_, ?_⟩
      · refine mulOk_of (a := 4) (b := 6) ?_ ?_ (by decide)
        · have := m4 (i, c) hq
          unfold Le
          simp at this hi
          omega
        · unfold Le; omega
      · refine gets_mono (t_whole pn (by omega) (by omega)) ?_
        rintro _ _ ⟨rfl, rfl⟩
        refine ⟨rfl, ?_⟩
        simp
        refine mulOk_of hc (lp.pow _) ?_
        omega
    · simp
      rw [filter_yes, ← et]
      refine wp_call ?_
      simp
      refine ⟨?_, ?_⟩
      · refine mulOk_of (a := 3) (b := 6) ?_ ?_ (by decide) <;> unfold Le <;> omega
      · refine gets_mono (t_whole pn (by omega) (by omega)) ?_
        rintro _ _ ⟨rfl, rfl⟩
        refine ⟨rfl, ?_⟩
        have hy : 0 < p ^ (-m * n).toNat := Int.pow_pos (by omega)
        have lg := gcd_le (a := topv p n m ps) hy ((lp.pow _).mono (show 2 * (-m * n).toNat ≤ 8000 by omega))
        have g0 := gcd_pos (a := topv p n m ps) hy
        generalize p ^ (-m * n).toNat = y at ea hy lg g0 ⊢
        generalize topv p n m ps = x at ea lg g0 ⊢
        simp
        have g1 : (0 : Int) < (x.natAbs.gcd y.natAbs : Nat) := by
          have : x.natAbs.gcd y.natAbs = Int.gcd x y := rfl
          omega
        exact ⟨divOk_of g1 lg (by decide), divOk_of g1 lg (by decide), by rw [ea]; rfl⟩
theorem AT_pos {p n : Int} {ps : List (Int × Int)} (h2 : 2 ≤ p) : 0 < (AT p n ps).2 := frc_pos (Int.pow_pos (by omega))
theorem AT_gcd {p n : Int} {ps : List (Int × Int)} (h2 : 2 ≤ p) : Int.gcd (AT p n ps).1 (AT p n ps).2 = 1 := frc_gcd (Int.pow_pos (by omega))
theorem AT_le {B : Nat} {p n : Int} {ps : List (Int × Int)} (hs : Sm B ps) (h2 : 2 ≤ p) (h3 : p ≤ 3) (n0 : 0 ≤ n) (n1 : n ≤ 60) : Le (B + 843) (AT p n ps).1 ∧ Le 600 (AT p n ps).2 := by
  have lp : Le 2 p := by unfold Le; omega
  obtain ⟨m1, m5, m4⟩ := lst_le hs
  have b2 : -(lst ps) * n ≤ 4 * 60 := Int.mul_le_mul (show -(lst ps) ≤ 4 by omega) n1 n0 (by decide)
  exact frc_le (topv_le hs h2 h3 n0 n1) ((lp.pow _).mono (by omega))
end K56
namespace K56
open PySem L2 DL
def isI (d : D) : Bool := isTy "int" d && !isTy "bool" d
@[simp] theorem isI_int (i : Int) : isI (.int i) = true := by simp [isI]
@[simp] theorem isI_bool (b : Bool) : isI (.bool b) = false := by simp [isI]
@[simp] theorem isI_tuple (b : List D) : isI (.tuple b) = false := by simp [isI]
@[simp] theorem isI_list (b : List D) : isI (.list b) = false := by simp [isI]
@[simp] theorem isI_str (b : Str) : isI (.str b) = false := by simp [isI]
@[simp] theorem isI_dict (b : List (D × D)) : isI (.dict b) = false := by simp [isI]
@[simp] theorem wp_all1 {s : S} {Q : D → S → Prop} {a : Bool} : wp (M.opt (gAll [.list [.bool a]])) s Q ↔ Q (.bool a) s := by cases a <;> exact wp_ok rfl
@[simp] theorem wp_all2 {s : S} {Q : D → S → Prop} {a b : Bool} : wp (M.opt (gAll [.list [.bool a, .bool b]])) s Q ↔ Q (.bool (a && b)) s := by cases a <;> cases b <;> exact wp_ok rfl
@[simp] theorem isI_none : isI .none = false := by simp [isI]
theorem t_isint (d : D) : gets (den_is_integer [.d d] none) fun r so => so = none ∧ r = .bool (isI d) := by
  refine gets_den rfl rfl ?_
  unfold b_is_integer
  cases d <;> simp
def isC (d : D) : Bool := match d with
  | .int i => decide (0 ≤ i) && decide (i ≤ 2000)
  | _ => false
theorem t_iscount (d : D) : gets (den_is_count [.d d] none) fun r so => so = none ∧ r = .bool (isC d) := by
  refine gets_den rfl rfl ?_
  unfold b_is_count
  simp
  refine wp_call ?_
  simp
  refine gets_mono (t_isint d) ?_
  rintro _ _ ⟨rfl, rfl⟩
  refine ⟨rfl, ?_⟩
  cases d <;> simp [isC]
  rename_i i
  by_cases h : 0 ≤ i <;> simp [h]
theorem t_cd {a b : Int} (hb : 0 < b) (lb : Le 8000 b) : gets (den_common_divisor [.d (.int a), .d (.int b)] none) fun d so => so = none ∧ d = .int (Int.gcd a b : Int) := by
  refine gets_den rfl rfl ?_
  unfold b_common_divisor
  simp
  refine wp_while (fun m s => ∃ one other : Int, s = ⟨[.d (.int one), .d (.int other)], none⟩ ∧ m = other.toNat ∧ 0 ≤ other ∧ Le 8000 other ∧ Int.gcd one other = Int.gcd a b) ?_ b.toNat _ ⟨a, b, rfl, rfl, by omega, lb, rfl⟩
  rintro m s ⟨one, other, rfl, rfl, h2, l2, hg⟩
  simp
  by_cases hz : 0 < other
  · simp [hz]
    have r0 := Int.emod_nonneg one (show other ≠ 0 by omega)
    have r1 := Int.emod_lt_of_pos one hz
    refine ⟨other.toNat - 1 - (other - 1 - one % other).toNat, by omega, other, one % other, ⟨rfl, rfl⟩, by omega, r0, ?_, by rw [gcd_step, hg]⟩
    unfold Le at *; omega
  · simp [hz]
    have z : other = 0 := by omega
    subst z
    rw [Int.gcd_zero_right] at hg
    rw [← hg]
    split <;> omega
def isF (q : Int × Int) : Bool := decide (0 < q.2) && decide (Int.gcd q.1 q.2 = 1)
theorem t_isfr {x y : Int} (ly : Le 8000 y) : gets (den_is_fraction [.d (enc2 (x, y))] none) fun r so => so = none ∧ r = .bool (isF (x, y)) := by
  refine gets_den rfl rfl ?_
  unfold b_is_fraction
  unfold enc2
  simp
  refine runC_enc id (fun _ => true) (fun d => .bool (isI d)) [.int x, .int y] [] (sizeLine_ge (by simp)) ?_ ?_
  · intro d hd
    refine ⟨_, rfl, ?_⟩
    simp
    refine wp_call ?_
    simp
    refine gets_mono (t_isint d) ?_
    rintro _ _ ⟨rfl, rfl⟩
    simp
  · simp [filter_yes]
    by_cases hy : 0 < y
    · simp [hy]
      refine wp_call ?_
      simp
      refine gets_mono (t_cd hy ly) ?_
      rintro _ _ ⟨rfl, rfl⟩
      refine ⟨rfl, ?_⟩
      simp [isF, hy]
      omega
    · simp [hy, isF]
theorem eq_enc (a b c d : Int) : gEq (enc2 (a, b)) (enc2 (c, d)) = some (.bool (decide ((a, b) = (c, d)))) := by
  show gEqD (enc2 (a, b)) (enc2 (c, d)) = _
  unfold gEqD
  have h1 : ∀ a b : Int, SeqAt.shaped (enc2 (a, b)) = true := fun a b => rfl
  have h2 : ∀ a b : Int, noDict (enc2 (a, b)) = true := fun a b => rfl
  rw [h1, h2, h1, h2]
  simp [enc2, PyData.eqv, PyData.eqvAll]
  rfl
theorem isF_cut {x y : Int} (hy : 0 < y) : (decide (x / (Int.gcd x y : Int) = x) && decide (y / (Int.gcd x y : Int) = y)) = isF (x, y) := by
  unfold isF
  rw [decide_eq_true hy, Bool.true_and]
  by_cases h : Int.gcd x y = 1
  · simp [h]
  · have : ¬ y / (Int.gcd x y : Int) = y := fun e => by
      have e2 := Int.ediv_mul_cancel (Int.gcd_dvd_right x y)
      rw [e] at e2
      have g0 := gcd_pos (a := x) hy
      have h1 : y * 2 ≤ y * (Int.gcd x y : Int) := Int.mul_le_mul_of_nonneg_left (by omega) (by omega)
      omega
    simp [h, this]
theorem t_law_isfr {x y : Int} {A : Nat} (lx : Le A x) (hA : A < 900000) (ly : Le 8000 y) : gets (den__law_is_fraction [.d (enc2 (x, y))] none) fun r so => so = none ∧ r = .bool (isF (x, y)) := by
  refine gets_den rfl rfl ?_
  unfold b__law_is_fraction
  unfold enc2
  simp
  refine runC_enc id (fun _ => true) (fun d => .bool true) [.int x, .int y] [] (sizeLine_ge (by simp)) ?_ ?_
  · intro d hd
    refine ⟨_, rfl, ?_⟩
    simp at hd
    rcases hd with rfl | rfl <;> simp
  · simp [filter_yes]
    by_cases hy : y < 1
    · simp [hy, isF, show ¬ 0 < y by omega]
    · simp [hy]
      refine wp_call ?_
      simp
      refine gets_mono (t_cutG (by omega) ly lx hA) ?_
      rintro _ _ ⟨rfl, rfl⟩
      refine ⟨rfl, ?_⟩
      refine (wp_opt (eq_enc _ _ _ _)).mpr ?_
      simp
      exact isF_cut (by omega)
/-! ### the shapes that are no answers -/
end K56
namespace K56
open PySem L2 DL
theorem sg_prog {p : Int} {ps : List (Int × Int)} {n : Nat} (hg : Gd ps) (h2 : 2 ≤ p) (h3 : p ≤ 3) (hn : n ≤ 60) : gets (den_sign_at [.d (.int p), .d (tp ps), .d (.int n)] none) fun d so => so = none ∧ d = .int (SG p ps n) := t_sign_at (fit_of hg h2 h3 (by omega) (by omega))
theorem st_prog {p : Int} {ps : List (Int × Int)} {n : Nat} (hg : Gd ps) (h2 : 2 ≤ p) (h3 : p ≤ 3) (hn : n ≤ 60) : gets (den_is_settled [.d (.int p), .d (tp ps), .d (.int n)] none) fun d so => so = none ∧ d = .bool (ST p ps n) := t_settled (fit_of hg h2 h3 (by omega) (by omega)) hg.lA (by decide)
theorem se_prog {p : Int} {ps : List (Int × Int)} {n : Nat} (hg : Gd ps) (h2 : 2 ≤ p) (h3 : p ≤ 3) (hn : n ≤ 60) : gets (den_is_seen [.d (.int p), .d (tp ps), .d (.int n)] none) fun d so => so = none ∧ d = .bool (SE p ps n) := t_seen (fit_of hg h2 h3 (by omega) (by omega)) hg.lA (by decide)
theorem sg_law {p : Int} {ps : List (Int × Int)} {n : Nat} (hg : Gd ps) (h2 : 2 ≤ p) (h3 : p ≤ 3) (hn : n ≤ 60) : gets (den__law_sign [.d (.int p), .d (tp ps), .d (.int n)] none) fun d so => so = none ∧ d = .int (SG p ps n) := t_law_sign hg h2 h3 (by omega) (by omega)
theorem st_law {p : Int} {ps : List (Int × Int)} {n : Nat} (hg : Gd ps) (h2 : 2 ≤ p) (h3 : p ≤ 3) (hn : n ≤ 60) : gets (den__law_is_settled [.d (.int p), .d (tp ps), .d (.int n)] none) fun d so => so = none ∧ d = .bool (ST p ps n) := t_law_settled hg h2 h3 (by omega) (by omega)
theorem se_law {p : Int} {ps : List (Int × Int)} {n : Nat} (hg : Gd ps) (h2 : 2 ≤ p) (h3 : p ≤ 3) (hn : n ≤ 60) : gets (den__law_is_seen [.d (.int p), .d (tp ps), .d (.int n)] none) fun d so => so = none ∧ d = .bool (SE p ps n) := t_law_seen hg h2 h3 (by omega) (by omega)
abbrev mm : D := .tuple [.str "most", .str "more"]
section
variable {s : S} {Q : D → S → Prop}
theorem sh_mm : SeqAt.shaped (.list [.str "most", .str "more"]) = true := by decide +kernel
theorem ni_any {x : D} (h1 : SeqAt.shaped x = true) (h2 : noDict x = true) : gNotInX x mm = some (.bool (!([PyData.str "most", .str "more"].any fun z => PyData.eqv z x))) := by
  have e : memD x [.str "most", .str "more"] = some ([PyData.str "most", .str "more"].any fun z => PyData.eqv z x) := by
    unfold memD
    rw [sh_mm, h1, h2]
    rfl
  show (memD x [.str "most", .str "more"]).map _ = _
  rw [e]
  rfl
theorem ni1 : gNotInX (.str "most") mm = some (.bool false) := by
  rw [ni_any (by decide +kernel) rfl]
  have : ([PyData.str "most", .str "more"].any fun z => PyData.eqv z (.str "most")) = true := by decide +kernel
  rw [this]; rfl
theorem ni2 : gNotInX (.str "more") mm = some (.bool false) := by
  rw [ni_any (by decide +kernel) rfl]
  have : ([PyData.str "most", .str "more"].any fun z => PyData.eqv z (.str "more")) = true := by decide +kernel
  rw [this]; rfl
theorem ni3 : gNotInX (.str "same") mm = some (.bool true) := by
  rw [ni_any (by decide +kernel) rfl]
  have : ([PyData.str "most", .str "more"].any fun z => PyData.eqv z (.str "same")) = false := by decide +kernel
  rw [this]; rfl
theorem ni4 (i : Int) : gNotInX (.int i) mm = some (.bool true) := by rw [ni_any rfl rfl]; rfl
theorem ni5 : gNotInX (.tuple [.str "most"]) mm = some (.bool true) := by rw [ni_any (by decide +kernel) rfl]; rfl
theorem ni6 : gNotInX .none mm = some (.bool true) := by rw [ni_any rfl rfl]; rfl
@[simp] theorem wp_ni1 : wp (M.opt (gNotInX (.str "most") mm)) s Q ↔ Q (.bool false) s := wp_opt ni1
@[simp] theorem wp_ni2 : wp (M.opt (gNotInX (.str "more") mm)) s Q ↔ Q (.bool false) s := wp_opt ni2
@[simp] theorem wp_ni3 : wp (M.opt (gNotInX (.str "same") mm)) s Q ↔ Q (.bool true) s := wp_opt ni3
@[simp] theorem wp_ni4 {i : Int} : wp (M.opt (gNotInX (.int i) mm)) s Q ↔ Q (.bool true) s := wp_opt (ni4 i)
@[simp] theorem wp_ni5 : wp (M.opt (gNotInX (.tuple [.str "most"]) mm)) s Q ↔ Q (.bool true) s := wp_opt ni5
@[simp] theorem wp_ni6 : wp (M.opt (gNotInX .none mm)) s Q ↔ Q (.bool true) s := wp_opt ni6
end
theorem rangeD_succ (i : Int) (k : Nat) : rangeD i (k + 1) = .int i :: rangeD (i + 1) k := by
  unfold rangeD
  rw [List.range_succ_eq_map, List.map_cons, List.map_map]
  refine List.cons_eq_cons.mpr ⟨by simp, List.map_congr_left fun a _ => ?_⟩
  show PyData.int (i + ((a + 1 : Nat) : Int)) = .int (i + 1 + (a : Int))
  congr 1
  omega
/-! ### at most: what is seen -/
def word (w : String) (n : Nat) : D := .tuple [.str w, .int n]
def js (p : Int) (w : List (Int × Int)) : Nat → Nat → D
  | 0, n => if SG p w n < 0 then word "below" n else if SE p w n = true then .none else word "late" n
  | k + 1, i => if SG p w i < 0 then word "below" i else if SE p w i = true then word "early" i else js p w k (i + 1)
theorem js0 {p : Int} {w : List (Int × Int)} {n : Nat} : js p w 0 n = if SG p w n < 0 then word "below" n else if SE p w n = true then .none else word "late" n := rfl
theorem js1 {p : Int} {w : List (Int × Int)} {k i : Nat} : js p w (k + 1) i = if SG p w i < 0 then word "below" i else if SE p w i = true then word "early" i else js p w k (i + 1) := rfl
theorem t_judge_seen {p : Int} {w : List (Int × Int)} {n : Nat} (hg : Gd w) (h2 : 2 ≤ p) (h3 : p ≤ 3) (hn : n ≤ 60) : gets (den_judge_seen [.d (.int p), .d (tp w), .d (.int n)] none) fun d so => so = none ∧ d = js p w n 0 := by
  refine gets_den rfl rfl ?_
  unfold b_judge_seen
  simp
  refine ⟨by omega, ?_⟩
  refine wp_loop (fun ds s => ∃ (i k : Nat) (x : SV), ds = rangeD i k ∧ i + k = n ∧ s = ⟨[.d (.int p), .d (tp w), .d (.int n), x], none⟩ ∧ js p w k i = js p w n 0) ?_ ?_ _ _ ⟨0, n, .un, rfl, by omega, rfl, rfl⟩
  · rintro d ds s ⟨i, k, x, e, hk, rfl, hj⟩
    cases k with
    | zero => cases e
    | succ k =>
      rw [rangeD_succ] at e
      cases e
      refine ⟨_, rfl, ?_⟩
      simp
      refine wp_call ?_
      simp
      refine gets_mono (sg_prog hg h2 h3 (by omega)) ?_
      rintro _ _ ⟨rfl, rfl⟩
      refine ⟨rfl, ?_⟩
      rw [js1] at hj
      simp
      by_cases hs : SG p w i < 0
      · rw [if_pos hs] at hj
        simp [hs, ← hj, word]
      · rw [if_neg hs] at hj
        simp [hs]
        refine wp_call ?_
        simp
        refine gets_mono (se_prog hg h2 h3 (by omega)) ?_
        rintro _ _ ⟨rfl, rfl⟩
        refine ⟨rfl, ?_⟩
        by_cases he : SE p w i = true
        · rw [if_pos he] at hj
          simp [he, ← hj, word]
        · rw [if_neg he] at hj
          simp [he]
          exact ⟨i + 1, k, rfl, by omega, hj⟩
  · rintro s ⟨i, k, x, e, hk, rfl, hj⟩
    cases k with
    | succ k => rw [rangeD_succ] at e; cases e
    | zero =>
      have hi : i = n := by omega
      subst hi
      rw [js0] at hj
      simp
      refine wp_call ?_
      simp
      refine gets_mono (sg_prog hg h2 h3 (by omega)) ?_
      rintro _ _ ⟨rfl, rfl⟩
      refine ⟨rfl, ?_⟩
      simp
      by_cases hs : SG p w i < 0
      · rw [if_pos hs] at hj
        simp [hs, ← hj, word]
      · rw [if_neg hs] at hj
        simp [hs]
        refine wp_call ?_
        simp
        refine gets_mono (se_prog hg h2 h3 (by omega)) ?_
        rintro _ _ ⟨rfl, rfl⟩
        refine ⟨rfl, ?_⟩
        by_cases he : SE p w i = true
        · rw [if_pos he] at hj
          simp [he, ← hj, word]
        · rw [if_neg he] at hj
          simp [he, ← hj, word]
/-- the judge of a row told as most -/
theorem t_most_most {p : Int} {A B : Nat} {a b : List (Int × Int)} {n : Nat} (ha : Sm A a) (hb : Sm B b) (hA : A ≤ 25) (hB : B ≤ 25) (h2 : 2 ≤ p) (h3 : p ≤ 3) (hn : n ≤ 60) : gets (den_judge_most [.d (.int p), .d (tp a), .d (tp b), .d (.tuple [.str "most", .int n])] none) fun d so => so = none ∧ d = js p (Df b a) n 0 := by
  refine gets_den rfl rfl ?_
  unfold b_judge_most
  have hw : Sm 30 (Df b a) := df_sm (hb.mono hB) (ha.mono hA) (by decide)
  simp
  refine wp_call ?_
  simp
  refine gets_mono (t_iscount _) ?_
  rintro _ _ ⟨rfl, rfl⟩
  refine ⟨rfl, ?_⟩
  have hc : isC (.int n) = true := by simp [isC]; omega
  simp [hc]
  refine wp_call ?_
  simp
  refine wp_call ?_
  simp
  refine gets_mono (t_powers_less hb ha (by omega)) ?_
  rintro _ _ ⟨rfl, rfl⟩
  refine ⟨rfl, ?_⟩
  refine gets_mono (t_judge_seen (hw.gd (by decide)) h2 h3 hn) ?_
  rintro _ _ ⟨rfl, rfl⟩
  exact ⟨rfl, rfl⟩
theorem t_lawint (d : D) (l h : Int) : gets (den__law_is_int [.d d, .d (.int l), .d (.int h)] none) fun r so => so = none ∧ r = .bool (match d with | .int i => decide (l ≤ i) && decide (i ≤ h) | _ => false) := by
  refine gets_den rfl rfl ?_
  unfold b__law_is_int
  cases d <;> simp
  rename_i i
  by_cases h : l ≤ i <;> simp [h]
theorem t_law_most {p : Int} {A B : Nat} {a b : List (Int × Int)} {n : Nat} (ha : Sm A a) (hb : Sm B b) (hA : A ≤ 25) (hB : B ≤ 25) (h2 : 2 ≤ p) (h3 : p ≤ 3) (hn : n ≤ 60) : gets (den__law_judged [.d (.int p), .d (tp a), .d (tp b), .d (.tuple [.str "most", .int n])] none) fun d so => so = none ∧ d = js p (Df b a) n 0 := by
  refine gets_den rfl rfl ?_
  unfold b__law_judged
  have hw : Sm 30 (Df b a) := df_sm (hb.mono hB) (ha.mono hA) (by decide)
  have hg := hw.gd (by decide)
  have la := ha.len
  have lb := hb.len
  simp
  refine wp_call ?_
  simp
  refine gets_mono (t_lawint _ _ _) ?_
  rintro _ _ ⟨rfl, rfl⟩
  refine ⟨rfl, ?_⟩
  have hc : (n : Int) ≤ 2000 := by omega
  simp [hc]
  refine wp_call ?_
  simp
  refine gets_mono (t_law_less (asc_nd hb.asc) (by omega)) ?_
  rintro _ _ ⟨rfl, rfl⟩
  refine ⟨rfl, ?_⟩
  generalize Df b a = w at hw hg ⊢
  refine ⟨by omega, ?_⟩
  refine wp_loop (fun ds s => ∃ (i k : Nat) (x : SV), ds = rangeD i k ∧ i + k = n ∧ s = ⟨[.d (.int p), .d (tp a), .d (tp b), .d (.tuple [.str "most", .int n]), .d (tp w), .d (.int n), x, .un], none⟩ ∧ js p w k i = js p w n 0) ?_ ?_ _ _ ⟨0, n, .un, rfl, by omega, rfl, rfl⟩
  · rintro d ds s ⟨i, k, x, e, hk, rfl, hj⟩
    cases k with
    | zero => cases e
    | succ k =>
      rw [rangeD_succ] at e
      cases e
      refine ⟨_, rfl, ?_⟩
      simp
      refine wp_call ?_
      simp
      refine gets_mono (sg_law hg h2 h3 (by omega)) ?_
      rintro _ _ ⟨rfl, rfl⟩
      refine ⟨rfl, ?_⟩
      rw [js1] at hj
      simp
      by_cases hs : SG p w i < 0
      · rw [if_pos hs] at hj
        simp [hs]
        refine wp_call ?_
        simp
        refine gets_mono (sg_law hg h2 h3 (by omega)) ?_
        rintro _ _ ⟨rfl, rfl⟩
        refine ⟨rfl, ?_⟩
        simp [hs, ← hj, word]
      · rw [if_neg hs] at hj
        simp [hs]
        refine wp_call ?_
        simp
        refine gets_mono (se_law hg h2 h3 (by omega)) ?_
        rintro _ _ ⟨rfl, rfl⟩
        refine ⟨rfl, ?_⟩
        by_cases he : SE p w i = true
        · rw [if_pos he] at hj
          simp [he]
          refine wp_call ?_
          simp
          refine gets_mono (sg_law hg h2 h3 (by omega)) ?_
          rintro _ _ ⟨rfl, rfl⟩
          refine ⟨rfl, ?_⟩
          simp [hs, ← hj, word]
        · rw [if_neg he] at hj
          simp [he]
          exact ⟨i + 1, k, rfl, by omega, hj⟩
  · rintro s ⟨i, k, x, e, hk, rfl, hj⟩
    cases k with
    | succ k => rw [rangeD_succ] at e; cases e
    | zero =>
      have hi : i = n := by omega
      subst hi
      rw [js0] at hj
      simp
      refine wp_call ?_
      simp
      refine gets_mono (sg_law hg h2 h3 (by omega)) ?_
      rintro _ _ ⟨rfl, rfl⟩
      refine ⟨rfl, ?_⟩
      simp
      by_cases hs : SG p w i < 0
      · rw [if_pos hs] at hj
        simp [hs, ← hj, word]
      · rw [if_neg hs] at hj
        simp [hs]
        refine wp_call ?_
        simp
        refine gets_mono (se_law hg h2 h3 (by omega)) ?_
        rintro _ _ ⟨rfl, rfl⟩
        refine ⟨rfl, ?_⟩
        by_cases he : SE p w i = true
        · rw [if_pos he] at hj
          simp [he, ← hj, word]
        · rw [if_neg he] at hj
          simp [he, ← hj, word]
end K56
namespace K56
open PySem L2 DL
theorem eqvAll_pp : ∀ xs ys : List (Int × Int), PyData.eqvAll (pp xs) (pp ys) = decide (xs = ys)
  | [], [] => rfl
  | [], _ :: _ => rfl
  | _ :: _, [] => rfl
  | (a, b) :: xs, (c, d) :: ys => by
    show (PyData.eqv (enc2 (a, b)) (enc2 (c, d)) && PyData.eqvAll (pp xs) (pp ys)) = _
    rw [eqvAll_pp xs ys]
    have : PyData.eqv (enc2 (a, b)) (enc2 (c, d)) = (decide (a = c) && decide (b = d)) := by
      simp [enc2, PyData.eqv, PyData.eqvAll]
      rfl
    rw [this]
    simp
theorem eq_tp (xs ys : List (Int × Int)) : gEq (tp xs) (tp ys) = some (.bool (decide (xs = ys))) := by
  show gEqD (tp xs) (tp ys) = _
  unfold gEqD
  rw [shaped_tp, noDict_tp, shaped_tp, noDict_tp]
  have : PyData.eqv (tp xs) (tp ys) = decide (xs = ys) := eqvAll_pp xs ys
  rw [this]
  rfl
theorem ne_tp (xs ys : List (Int × Int)) : gNe (tp xs) (tp ys) = some (.bool (decide (xs ≠ ys))) := by
  show gNeD (tp xs) (tp ys) = _
  unfold gNeD
  rw [shaped_tp, noDict_tp, shaped_tp, noDict_tp]
  have : PyData.eqv (tp xs) (tp ys) = decide (xs = ys) := eqvAll_pp xs ys
  rw [this]
  simp
@[simp] theorem at10 {a : D} : atI [a] 0 = some a := rfl
@[simp] theorem at30 {a b c : D} : atI [a, b, c] 0 = some a := rfl
@[simp] theorem at31 {a b c : D} : atI [a, b, c] 1 = some b := rfl
@[simp] theorem at32 {a b c : D} : atI [a, b, c] 2 = some c := rfl
@[simp] theorem at40 {a b c d : D} : atI [a, b, c, d] 0 = some a := rfl
@[simp] theorem at41 {a b c d : D} : atI [a, b, c, d] 1 = some b := rfl
@[simp] theorem at42 {a b c d : D} : atI [a, b, c, d] 2 = some c := rfl
@[simp] theorem at43 {a b c d : D} : atI [a, b, c, d] 3 = some d := rfl
abbrev form : D := .tuple [.str "form"]
def more (n : Nat) (x y : Int × Int) : D := .tuple [.str "more", .int n, enc2 x, enc2 y]
def ne2 (x y x' y' : Int × Int) : Bool := decide (¬ (x = x' ∧ y = y'))
def jmr (p : Int) (a b : List (Int × Int)) (n : Nat) (x y : Int × Int) : D := if ne2 x y (AT p n a) (AT p n b) = true then .tuple [.str "fractions", enc2 (AT p n a), enc2 (AT p n b)] else (if 0 ≤ SG p (Df b a) n then .tuple [.str "most"] else .none)
def jm (p : Int) (a b : List (Int × Int)) (n : Nat) (x y : Int × Int) : D := if (isF x && isF y) = true then jmr p a b n x y else form
theorem cut4 (a b c d : D) : gCut (some 2) none (.tuple [a, b, c, d]) = some (.tuple [c, d]) := rfl
@[simp] theorem wp_cut4 {s : S} {Q : D → S → Prop} {a b c d : D} : wp (M.opt (gCut (some 2) none (.tuple [a, b, c, d]))) s Q ↔ Q (.tuple [c, d]) s := wp_opt (cut4 a b c d)
theorem ne_two (x y x' y' : Int × Int) : gNe (.tuple [enc2 x, enc2 y]) (.tuple [enc2 x', enc2 y']) = some (.bool (decide (¬ (x = x' ∧ y = y')))) := by
  have := ne_tp [x, y] [x', y']
  simp only [tp, pp_enc, List.map_cons, List.map_nil] at this
  rw [this]
  simp
@[simp] theorem wp_neTwo {s : S} {Q : D → S → Prop} {x y x' y' : Int × Int} : wp (M.opt (gNe (.tuple [enc2 x, enc2 y]) (.tuple [enc2 x', enc2 y']))) s Q ↔ Q (.bool (ne2 x y x' y')) s := wp_opt (ne_two _ _ _ _)
theorem t_judge_more {p : Int} {A B : Nat} {a b : List (Int × Int)} {n : Nat} {x y : Int × Int} (ha : Sm A a) (hb : Sm B b) (hA : A ≤ 25) (hB : B ≤ 25) (h2 : 2 ≤ p) (h3 : p ≤ 3) (hn : n ≤ 60) : gets (den_judge_more [.d (.int p), .d (tp a), .d (tp b), .d (more n x y)] none) fun d so => so = none ∧ d = jmr p a b n x y := by
  refine gets_den rfl rfl ?_
  unfold b_judge_more
  have hw : Sm 30 (Df b a) := df_sm (hb.mono hB) (ha.mono hA) (by decide)
  unfold more jmr
  simp
  refine wp_call ?_
  simp
  refine gets_mono (t_powers_at ha (by omega) h2 h3 (by omega) (by omega)) ?_
  rintro _ _ ⟨rfl, rfl⟩
  refine ⟨rfl, ?_⟩
  refine wp_call ?_
  simp
  refine gets_mono (t_powers_at hb (by omega) h2 h3 (by omega) (by omega)) ?_
  rintro _ _ ⟨rfl, rfl⟩
  refine ⟨rfl, ?_⟩
  simp
  by_cases hx : ne2 x y (AT p n a) (AT p n b) = true
  · simp [hx]
  · simp [hx]
    refine wp_call ?_
    simp
    refine wp_call ?_
    simp
    refine gets_mono (t_powers_less hb ha (by omega)) ?_
    rintro _ _ ⟨rfl, rfl⟩
    refine ⟨rfl, ?_⟩
    refine gets_mono (sg_prog (hw.gd (by decide)) h2 h3 hn) ?_
    rintro _ _ ⟨rfl, rfl⟩
    refine ⟨rfl, ?_⟩
    simp
    split <;> simp
theorem t_more {p : Int} {A B : Nat} {a b : List (Int × Int)} {n : Nat} {x y : Int × Int} (ha : Sm A a) (hb : Sm B b) (hA : A ≤ 25) (hB : B ≤ 25) (h2 : 2 ≤ p) (h3 : p ≤ 3) (hn : n ≤ 60) (lx : Le 8000 x.2) (ly : Le 8000 y.2) : gets (den_judge_most [.d (.int p), .d (tp a), .d (tp b), .d (more n x y)] none) fun d so => so = none ∧ d = jm p a b n x y := by
  refine gets_den rfl rfl ?_
  unfold b_judge_most
  have em : more n x y = .tuple [.str "more", .int n, enc2 x, enc2 y] := rfl
  rw [em]
  simp
  refine wp_call ?_
  simp
  refine gets_mono (t_iscount _) ?_
  rintro _ _ ⟨rfl, rfl⟩
  refine ⟨rfl, ?_⟩
  have hc : isC (.int n) = true := by simp [isC]; omega
  simp [hc]
  refine runC_enc enc2 (fun _ => true) (fun q => .bool (isF q)) [x, y] [] (sizeLine_ge (by simp)) ?_ ?_
  · rintro q hq
    refine ⟨_, rfl, ?_⟩
    have lq : Le 8000 q.2 := by
      simp at hq
      rcases hq with rfl | rfl <;> assumption
    simp
    refine wp_call ?_
    simp
    refine gets_mono (t_isfr (x := q.1) (y := q.2) lq) ?_
    rintro _ _ ⟨rfl, rfl⟩
    simp
  · simp [filter_yes]
    unfold jm
    by_cases hf : (isF x && isF y) = true
    · rw [if_pos hf]
      rw [Bool.and_eq_true] at hf
      simp [hf]
      refine wp_call ?_
      simp
      refine gets_mono (t_judge_more ha hb hA hB h2 h3 hn) ?_
      rintro _ _ ⟨rfl, rfl⟩
      exact ⟨rfl, rfl⟩
    · rw [if_neg hf]
      have hf' : isF x = true → isF y = false := fun h => by
        cases e : isF y with
        | false => rfl
        | true => rw [h, e] at hf; exact absurd rfl hf
      simp
      intro h k
      rw [hf' h] at k
      cases k
theorem t_law_more {p : Int} {A B X : Nat} {a b : List (Int × Int)} {n : Nat} {x y : Int × Int} (ha : Sm A a) (hb : Sm B b) (hA : A ≤ 25) (hB : B ≤ 25) (h2 : 2 ≤ p) (h3 : p ≤ 3) (hn : n ≤ 60) (lx : Le 8000 x.2) (ly : Le 8000 y.2) (lx' : Le X x.1) (ly' : Le X y.1) (hX : X < 900000) : gets (den__law_judged [.d (.int p), .d (tp a), .d (tp b), .d (more n x y)] none) fun d so => so = none ∧ d = jm p a b n x y := by
  refine gets_den rfl rfl ?_
  unfold b__law_judged
  have hw : Sm 30 (Df b a) := df_sm (hb.mono hB) (ha.mono hA) (by decide)
  have hg := hw.gd (by decide)
  have la := ha.len
  have lb := hb.len
  have em : more n x y = .tuple [.str "more", .int n, enc2 x, enc2 y] := rfl
  rw [em]
  simp
  refine wp_call ?_
  simp
  refine gets_mono (t_lawint _ _ _) ?_
  rintro _ _ ⟨rfl, rfl⟩
  refine ⟨rfl, ?_⟩
  have hc : (n : Int) ≤ 2000 := by omega
  simp [hc]
  refine wp_call ?_
  simp
  refine gets_mono (t_law_less (asc_nd hb.asc) (by omega)) ?_
  rintro _ _ ⟨rfl, rfl⟩
  refine ⟨rfl, ?_⟩
  refine wp_call ?_
  simp
  refine gets_mono (t_law_isfr (x := x.1) (y := x.2) lx' hX lx) ?_
  rintro _ _ ⟨rfl, rfl⟩
  refine ⟨rfl, ?_⟩
  simp
  unfold jm
  by_cases hf : isF x = true
  · simp [hf]
    refine wp_call ?_
    simp
    refine gets_mono (t_law_isfr (x := y.1) (y := y.2) ly' hX ly) ?_
    rintro _ _ ⟨rfl, rfl⟩
    refine ⟨rfl, ?_⟩
    by_cases hf2 : isF y = true
    · simp [hf2]
      refine wp_call ?_
      simp
      refine gets_mono (t_law_atG ha (by omega) h2 h3 (by omega) (by omega)) ?_
      rintro _ _ ⟨rfl, rfl⟩
      refine ⟨rfl, ?_⟩
      refine wp_call ?_
      simp
      refine gets_mono (t_law_atG hb (by omega) h2 h3 (by omega) (by omega)) ?_
      rintro _ _ ⟨rfl, rfl⟩
      refine ⟨rfl, ?_⟩
      simp
      unfold jmr
      by_cases hx : ne2 x y (AT p n a) (AT p n b) = true
      · simp [hx, hf]
      · simp [hx]
        refine wp_call ?_
        simp
        refine gets_mono (sg_law hg h2 h3 hn) ?_
        rintro _ _ ⟨rfl, rfl⟩
        refine ⟨rfl, ?_⟩
        simp
        split <;> simp
    · simp [hf2]
  · simp [hf]
end K56
namespace K56
open PySem L2 DL
theorem sme : (Str.ofString "same" = Str.ofString "most") = False := eq_false (by decide +kernel)
theorem mme : (Str.ofString "more" = Str.ofString "most") = False := eq_false (by decide +kernel)
/-! ### values that are no answers -/
def badF (v : D) : Prop := ∀ p A B : D, (gets (den_judge_most [.d p, .d A, .d B, .d v] none) fun d so => so = none ∧ d = form) ∧ gets (den__law_judged [.d p, .d A, .d B, .d v] none) fun d so => so = none ∧ d = form
theorem bad_none : badF .none := fun p A B => by
  constructor
  · refine gets_den rfl rfl ?_
    unfold b_judge_most
    simp
  · refine gets_den rfl rfl ?_
    unfold b__law_judged
    simp
theorem bad_str (x : Str) : badF (.str x) := fun p A B => by
  constructor
  · refine gets_den rfl rfl ?_
    unfold b_judge_most
    simp
  · refine gets_den rfl rfl ?_
    unfold b__law_judged
    simp
theorem bad_list (xs : List D) : badF (.list xs) := fun p A B => by
  constructor
  · refine gets_den rfl rfl ?_
    unfold b_judge_most
    simp
  · refine gets_den rfl rfl ?_
    unfold b__law_judged
    simp
theorem bad_t0 : badF (.tuple []) := fun p A B => by
  constructor
  · refine gets_den rfl rfl ?_
    unfold b_judge_most
    simp
  · refine gets_den rfl rfl ?_
    unfold b__law_judged
    simp
theorem bad_t1 (d : D) : badF (.tuple [d]) := fun p A B => by
  constructor
  · refine gets_den rfl rfl ?_
    unfold b_judge_most
    simp
  · refine gets_den rfl rfl ?_
    unfold b__law_judged
    simp
theorem bad_int (i : Int) (d : D) : badF (.tuple [.int i, d]) := fun p A B => by
  constructor
  · refine gets_den rfl rfl ?_
    unfold b_judge_most
    simp
  · refine gets_den rfl rfl ?_
    unfold b__law_judged
    simp
theorem bad_non (d : D) : badF (.tuple [.none, d]) := fun p A B => by
  constructor
  · refine gets_den rfl rfl ?_
    unfold b_judge_most
    simp
  · refine gets_den rfl rfl ?_
    unfold b__law_judged
    simp
theorem bad_tup (d : D) : badF (.tuple [.tuple [.str "most"], d]) := fun p A B => by
  constructor
  · refine gets_den rfl rfl ?_
    unfold b_judge_most
    simp
  · refine gets_den rfl rfl ?_
    unfold b__law_judged
    simp
theorem bad_count2 {d : D} (h1 : isC d = false) (h2 : ∀ i, d = .int i → i < 0 ∨ 2000 < i) : badF (.tuple [.str "most", d]) := fun p A B => by
  constructor
  · refine gets_den rfl rfl ?_
    unfold b_judge_most
    simp
    refine wp_call ?_
    simp
    refine gets_mono (t_iscount _) ?_
    rintro _ _ ⟨rfl, rfl⟩
    simp [h1]
  · refine gets_den rfl rfl ?_
    unfold b__law_judged
    simp
    refine wp_call ?_
    simp
    refine gets_mono (t_lawint _ _ _) ?_
    rintro _ _ ⟨rfl, rfl⟩
    cases d <;> simp
    rename_i i
    have := h2 i rfl
    omega
theorem bad_count4 (b : Bool) (x y : D) : badF (.tuple [.str "more", .bool b, x, y]) := fun p A B => by
  constructor
  · refine gets_den rfl rfl ?_
    unfold b_judge_most
    simp
    refine wp_call ?_
    simp
    refine gets_mono (t_iscount _) ?_
    rintro _ _ ⟨rfl, rfl⟩
    simp [isC]
  · refine gets_den rfl rfl ?_
    unfold b__law_judged
    simp
    refine wp_call ?_
    simp
    refine gets_mono (t_lawint _ _ _) ?_
    rintro _ _ ⟨rfl, rfl⟩
    simp
theorem bad_same : badF (.tuple [.str "same", .int 1]) := fun p A B => by
  constructor
  · refine gets_den rfl rfl ?_
    unfold b_judge_most
    simp
    refine wp_call ?_
    simp
    refine gets_mono (t_iscount _) ?_
    rintro _ _ ⟨rfl, rfl⟩
    simp [isC, sme]
  · refine gets_den rfl rfl ?_
    unfold b__law_judged
    simp
section
variable {p : D} {A B : Nat} {a b : List (Int × Int)}
def badG (p : D) (a b : List (Int × Int)) (v : D) : Prop := (gets (den_judge_most [.d p, .d (tp a), .d (tp b), .d v] none) fun d so => so = none ∧ d = form) ∧ gets (den__law_judged [.d p, .d (tp a), .d (tp b), .d v] none) fun d so => so = none ∧ d = form
theorem bad_most3 (ha : Sm A a) (hb : Sm B b) : badG p a b (.tuple [.str "most", .int 1, .int 2]) := by
  have la := ha.len
  have lb := hb.len
  constructor
  · refine gets_den rfl rfl ?_
    unfold b_judge_most
    simp
    refine wp_call ?_
    simp
    refine gets_mono (t_iscount _) ?_
    rintro _ _ ⟨rfl, rfl⟩
    simp [isC]
  · refine gets_den rfl rfl ?_
    unfold b__law_judged
    simp
    refine wp_call ?_
    simp
    refine gets_mono (t_lawint _ _ _) ?_
    rintro _ _ ⟨rfl, rfl⟩
    simp
    refine wp_call ?_
    simp
    refine gets_mono (t_law_less (asc_nd hb.asc) (by omega)) ?_
    rintro _ _ ⟨rfl, rfl⟩
    simp
theorem bad_more3 {n : Nat} (hn : n ≤ 60) (x : D) (ha : Sm A a) (hb : Sm B b) : badG p a b (.tuple [.str "more", .int n, x]) := by
  have la := ha.len
  have lb := hb.len
  constructor
  · refine gets_den rfl rfl ?_
    unfold b_judge_most
    simp
    refine wp_call ?_
    simp
    refine gets_mono (t_iscount _) ?_
    rintro _ _ ⟨rfl, rfl⟩
    have hc : isC (.int n) = true := by simp [isC]; omega
    simp [hc]
  · refine gets_den rfl rfl ?_
    unfold b__law_judged
    simp
    refine wp_call ?_
    simp
    refine gets_mono (t_lawint _ _ _) ?_
    rintro _ _ ⟨rfl, rfl⟩
    have hc : (n : Int) ≤ 2000 := by omega
    simp [hc]
    refine wp_call ?_
    simp
    refine gets_mono (t_law_less (asc_nd hb.asc) (by omega)) ?_
    rintro _ _ ⟨rfl, rfl⟩
    simp
/-- things that are no fractions -/
def noF (d : D) : Prop := (gets (den_is_fraction [.d d] none) fun r so => so = none ∧ r = .bool false) ∧ gets (den__law_is_fraction [.d d] none) fun r so => so = none ∧ r = .bool false
theorem noF_list (xs : List D) : noF (.list xs) := by
  constructor
  · refine gets_den rfl rfl ?_
    unfold b_is_fraction
    simp
  · refine gets_den rfl rfl ?_
    unfold b__law_is_fraction
    simp
theorem noF_three (x y z : D) : noF (.tuple [x, y, z]) := by
  constructor
  · refine gets_den rfl rfl ?_
    unfold b_is_fraction
    simp
  · refine gets_den rfl rfl ?_
    unfold b__law_is_fraction
    simp
theorem noF_bool (c : Bool) (i : Int) : noF (.tuple [.bool c, .int i]) := by
  constructor
  · refine gets_den rfl rfl ?_
    unfold b_is_fraction
    simp
    refine runC_enc id (fun _ => true) (fun d => .bool (isI d)) [.bool c, .int i] [] (sizeLine_ge (by simp)) ?_ ?_
    · intro d hd
      refine ⟨_, rfl, ?_⟩
      simp
      refine wp_call ?_
      simp
      refine gets_mono (t_isint d) ?_
      rintro _ _ ⟨rfl, rfl⟩
      simp
    · simp [filter_yes]
  · refine gets_den rfl rfl ?_
    unfold b__law_is_fraction
    simp
    refine runC_enc id (fun _ => true) (fun d => .bool true) [.bool c, .int i] [] (sizeLine_ge (by simp)) ?_ ?_
    · intro d hd
      refine ⟨_, rfl, ?_⟩
      simp at hd
      rcases hd with rfl | rfl <;> simp
    · simp [filter_yes]
theorem bad_fr {n : Nat} (hn : n ≤ 60) {d : D} {y : Int × Int} (hd : noF d) (ly : Le 8000 y.2) (ha : Sm A a) (hb : Sm B b) : badG p a b (.tuple [.str "more", .int n, d, enc2 y]) := by
  have la := ha.len
  have lb := hb.len
  constructor
  · refine gets_den rfl rfl ?_
    unfold b_judge_most
    simp
    refine wp_call ?_
    simp
    refine gets_mono (t_iscount _) ?_
    rintro _ _ ⟨rfl, rfl⟩
    have hc : isC (.int n) = true := by simp [isC]; omega
    simp [hc]
    refine runC_cons ⟨_, rfl, ?_⟩
    simp
    refine wp_call ?_
    simp
    refine gets_mono hd.1 ?_
    rintro _ _ ⟨rfl, rfl⟩
    simp
    refine runC_cons ⟨_, rfl, ?_⟩
    simp
    refine wp_call ?_
    simp
    refine gets_mono (t_isfr (x := y.1) (y := y.2) ly) ?_
    rintro _ _ ⟨rfl, rfl⟩
    simp
    refine runC_nil.mpr ?_
    simp
  · refine gets_den rfl rfl ?_
    unfold b__law_judged
    simp
    refine wp_call ?_
    simp
    refine gets_mono (t_lawint _ _ _) ?_
    rintro _ _ ⟨rfl, rfl⟩
    have hc : (n : Int) ≤ 2000 := by omega
    simp [hc]
    refine wp_call ?_
    simp
    refine gets_mono (t_law_less (asc_nd hb.asc) (by omega)) ?_
    rintro _ _ ⟨rfl, rfl⟩
    simp [mme]
    refine wp_call ?_
    simp
    refine gets_mono hd.2 ?_
    rintro _ _ ⟨rfl, rfl⟩
    simp
end
end K56
namespace K56
open PySem L2 DL
/-! ### texts shown -/
structure RB (d : D) (W k : Nat) : Prop where
  lay : PyData.canLay0 d = true
  dep : PyData.depth d ≤ k
  nd : noDict d = true
  sh : PyData.showable d = true
  sl : PyData.leavesShort 400 d = true
  w : PyData.weight d ≤ W
structure RBs (ds : List D) (W k : Nat) : Prop where
  lay : PyData.canLayAll0 ds = true
  dep : PyData.depthAll ds ≤ k
  nd : noDict.noDicts ds = true
  sh : PyData.showableAll ds = true
  sl : PyData.leavesShortAll 400 ds = true
  w : PyData.weightAll ds ≤ W
theorem RBs.nil {k : Nat} : RBs [] 0 k := ⟨rfl, Nat.zero_le _, rfl, rfl, rfl, Nat.le_refl _⟩
theorem RBs.cons {d : D} {ds : List D} {w w' k : Nat} (h : RB d w k) (h' : RBs ds w' k) : RBs (d :: ds) (w + 1 + w') k := by
  refine ⟨?_, ?_, ?_, ?_, ?_, ?_⟩
  · show (d.canLay0 && PyData.canLayAll0 ds) = true
    rw [h.lay, h'.lay]; rfl
  · show max (PyData.depth d) (PyData.depthAll ds) ≤ k
    have := h.dep
    have := h'.dep
    omega
  · show (noDict d && noDict.noDicts ds) = true
    rw [h.nd, h'.nd]; rfl
  · show (PyData.showable d && PyData.showableAll ds) = true
    rw [h.sh, h'.sh]; rfl
  · show (PyData.leavesShort 400 d && PyData.leavesShortAll 400 ds) = true
    rw [h.sl, h'.sl]; rfl
  · show PyData.weight d + 1 + PyData.weightAll ds ≤ _
    have := h.w
    have := h'.w
    omega
theorem RB.tup {ds : List D} {w k : Nat} (h : RBs ds w k) : RB (.tuple ds) w (k + 1) := ⟨h.lay, Nat.succ_le_succ h.dep, h.nd, h.sh, h.sl, h.w⟩
theorem RB.lst {ds : List D} {w k : Nat} (h : RBs ds w k) : RB (.list ds) w (k + 1) := ⟨h.lay, Nat.succ_le_succ h.dep, h.nd, h.sh, h.sl, h.w⟩
theorem RB.non {k : Nat} : RB .none 0 k := ⟨rfl, Nat.zero_le _, rfl, rfl, rfl, Nat.le_refl _⟩
theorem RB.bl {b : Bool} {k : Nat} : RB (.bool b) 0 k := ⟨rfl, Nat.zero_le _, rfl, rfl, rfl, Nat.le_refl _⟩
theorem p900 : (2 : Nat) ^ 900 < 10 ^ 300 := by decide +kernel
theorem RB.int {i : Int} {k : Nat} (h : Le 900 i) : RB (.int i) 901 k := by
  have hl := h.log
  refine ⟨rfl, Nat.zero_le _, rfl, ?_, ?_, ?_⟩
  · show decide (i.natAbs.log2 < 1920) = true
    rw [decide_eq_true_eq]
    omega
  · show decide ((PyData.shown (.int i)).length ≤ 400) = true
    rw [decide_eq_true_eq]
    have := int_text_length_le10 (k := 300) (by decide) (Nat.lt_of_le_of_lt h p900)
    have e : (PyData.shown (.int i)).length = (toString i).length := by
      show (Str.ofString (toString i)).length = _
      exact ofString_length _
    omega
  · show (if i == 0 then 0 else i.natAbs.log2 + 1) ≤ 901
    split <;> omega
theorem RB.str {x : Str} {k : Nat} (h : (PyData.canLay0 (.str x) && noDict (.str x) && PyData.showable (.str x) && PyData.leavesShort 400 (.str x) && decide (PyData.weight (.str x) ≤ 100)) = true) : RB (.str x) 100 k := by
  simp only [Bool.and_eq_true, decide_eq_true_eq] at h
  exact ⟨h.1.1.1.1, Nat.zero_le _, h.1.1.1.2, h.1.1.2, h.1.2, h.2⟩
theorem RB.repr {d : D} {W k : Nat} (h : RB d W k) (hw : W ≤ 40000) (hk : k ≤ 64) : gRepr [d] = some (.str d.shown) := by
  have h1 : SeqAt.shaped d = true := by
    unfold SeqAt.shaped
    rw [h.lay, Bool.true_and, decide_eq_true_eq]
    exact Nat.le_trans h.dep hk
  have h2 := PyData.shown_le 400 (by decide) d h.sl
  have h3 : (400 + 2) * PyData.weight d ≤ 402 * 40000 := Nat.mul_le_mul_left _ (Nat.le_trans h.w hw)
  have h4 : d.shown.length ≤ sizeLine := by rw [sizeLine_eq]; omega
  show (if (SeqAt.shaped d && noDict d && d.showable && decide (d.shown.length ≤ sizeLine)) = true then some (PyData.str d.shown) else none) = _
  rw [h1, h.nd, h.sh, decide_eq_true h4]
  rfl
/-- it can be shown -/
def Sh (d : D) : Prop := gRepr [d] = some (.str d.shown)
theorem sh_none : Sh .none := RB.non.repr (k := 0) (by decide) (by decide)
theorem Le.nat {n : Nat} (h : n ≤ 10000) : Le 900 (n : Int) := by
  unfold Le
  have : (10000 : Nat) ≤ 2 ^ 900 := Nat.le_trans (show (10000 : Nat) ≤ 2 ^ 14 by decide) (Nat.pow_le_pow_right (by decide) (by decide))
  exact Nat.le_trans (show (n : Int).natAbs ≤ 10000 by omega) this
theorem rb_word {w : String} {n : Nat} (hn : n ≤ 10000) (hw : (PyData.canLay0 (.str w) && noDict (.str w) && PyData.showable (.str w) && PyData.leavesShort 400 (.str w) && decide (PyData.weight (.str w) ≤ 100)) = true) : Sh (word w n) :=
  (RB.tup (.cons (.str hw) (.cons (RB.int (Le.nat hn) (k := 0)) .nil))).repr (by decide) (by decide)
theorem sh_form : Sh form := (RB.tup (.cons (RB.str (by decide +kernel) (k := 0)) .nil)).repr (by decide) (by decide)
theorem sh_most : Sh (.tuple [.str "most"]) := (RB.tup (.cons (RB.str (by decide +kernel) (k := 0)) .nil)).repr (by decide) (by decide)
def L9 (q : Int × Int) : Prop := Le 900 q.1 ∧ Le 900 q.2
theorem rb_enc {q : Int × Int} {k : Nat} (h : L9 q) : RB (enc2 q) (901 + 1 + (901 + 1 + 0)) (k + 1) := RB.tup (.cons (RB.int h.1) (.cons (RB.int h.2) .nil))
theorem sh_fr {x y : Int × Int} (hx : L9 x) (hy : L9 y) : Sh (.tuple [.str "fractions", enc2 x, enc2 y]) := (RB.tup (.cons (.str (by decide +kernel)) (.cons (rb_enc (k := 0) hx) (.cons (rb_enc hy) .nil)))).repr (by decide) (by decide)
theorem sh_more {n : Nat} {x y : Int × Int} (hn : n ≤ 10000) (hx : L9 x) (hy : L9 y) : Sh (more n x y) := (RB.tup (.cons (.str (by decide +kernel)) (.cons (.int (Le.nat hn)) (.cons (rb_enc (k := 0) hx) (.cons (rb_enc hy) .nil))))).repr (by decide) (by decide)
theorem sh_js {p : Int} {w : List (Int × Int)} : ∀ (k i : Nat), k + i ≤ 10000 → Sh (js p w k i)
  | 0, n, h => by
    rw [js0]
    split
    · exact rb_word (by omega) (by decide +kernel)
    · split
      · exact sh_none
      · exact rb_word (by omega) (by decide +kernel)
  | k + 1, i, h => by
    rw [js1]
    split
    · exact rb_word (by omega) (by decide +kernel)
    · split
      · exact rb_word (by omega) (by decide +kernel)
      · exact sh_js k (i + 1) (by omega)
theorem AT_L9 {B : Nat} {p n : Int} {ps : List (Int × Int)} (hs : Sm B ps) (hB : B ≤ 30) (h2 : 2 ≤ p) (h3 : p ≤ 3) (n0 : 0 ≤ n) (n1 : n ≤ 60) : L9 (AT p n ps) := by
  have := AT_le hs h2 h3 n0 n1
  exact ⟨this.1.mono (by omega), this.2.mono (by omega)⟩
theorem sh_jm {p : Int} {A B : Nat} {a b : List (Int × Int)} {n : Nat} {x y : Int × Int} (ha : Sm A a) (hb : Sm B b) (hA : A ≤ 25) (hB : B ≤ 25) (h2 : 2 ≤ p) (h3 : p ≤ 3) (hn : n ≤ 60) : Sh (jm p a b n x y) := by
  unfold jm jmr
  split
  · split
    · exact sh_fr (AT_L9 ha (by omega) h2 h3 (by omega) (by omega)) (AT_L9 hb (by omega) h2 h3 (by omega) (by omega))
    · split
      · exact sh_most
      · exact sh_none
  · exact sh_form
/-! ### what is told -/
def TV (p : Int) (a b : List (Int × Int)) (N : Nat) : D := if SE p (Df b a) N = true then word "most" N else more N (AT p N a) (AT p N b)
theorem t_most_answer {p : Int} {A B : Nat} {a b : List (Int × Int)} (ha : Sm A a) (hb : Sm B b) (hA : A ≤ 25) (hB : B ≤ 25) (h2 : 2 ≤ p) (h3 : p ≤ 3) : ∃ N : Nat, N ≤ 35 ∧ (∀ n, n < N → SE p (Df b a) n = false ∧ ¬ SG p (Df b a) n < 0) ∧ (SE p (Df b a) N = true ∨ SG p (Df b a) N < 0) ∧ gets (den_most_answer [.d (.int p), .d (tp a), .d (tp b)] none) fun d so => so = none ∧ d = TV p a b N := by
  have hw : Sm 30 (Df b a) := df_sm (hb.mono hB) (ha.mono hA) (by decide)
  have hg := hw.gd (by decide)
  have hst : (SE p (Df b a) 35 || decide (SG p (Df b a) 35 < 0)) = true := by
    have h35 := st_some hg h2
    generalize Df b a = w at hg h35 ⊢
    rw [Bool.or_eq_true, decide_eq_true_eq]
    unfold ST at h35
    unfold SE SG
    by_cases hn : w = []
    · subst hn; exact .inl rfl
    · obtain ⟨pre, t, l, rfl⟩ := ends hn
      rw [stl_app, decide_eq_true_eq] at h35
      have nz := hg.nz (t, l) (by simp)
      simp at nz
      rw [seen_app, Bool.and_eq_true, decide_eq_true_eq, decide_eq_true_eq]
      rcases Int.lt_or_le 0 l with h | h
      · left
        have : aw l = l := by unfold aw; rw [if_neg (by omega)]
        rw [this] at h35
        exact ⟨h, by omega⟩
      · right
        rw [settled_sgn (pow1 (by omega) 35) nz hg.asc (lo_le hg.asc) h35]
        unfold sgn
        rw [if_neg (by omega), if_pos (by omega)]
        decide
  obtain ⟨N, hN, hs, hb'⟩ := first (fun n => SE p (Df b a) n || decide (SG p (Df b a) n < 0)) 35 hst
  have hs : SE p (Df b a) N = true ∨ SG p (Df b a) N < 0 := by rw [Bool.or_eq_true, decide_eq_true_eq] at hs; exact hs
  have hlt : ∀ n, n < N → SE p (Df b a) n = false ∧ ¬ SG p (Df b a) n < 0 := fun n hn => by
    have := hb' n hn
    rw [Bool.or_eq_false_iff, decide_eq_false_iff_not] at this
    exact this
  refine ⟨N, hN, hlt, hs, ?_⟩
  refine gets_den rfl rfl ?_
  unfold b_most_answer TV
  simp
  refine wp_call ?_
  simp
  refine gets_mono (t_powers_less hb ha (by omega)) ?_
  rintro _ _ ⟨rfl, rfl⟩
  refine ⟨rfl, ?_⟩
  generalize Df b a = w at hw hg hs hlt ⊢
  refine wp_while (fun m s => ∃ n : Nat, n ≤ N ∧ m = N - n ∧ s = ⟨[.d (.int p), .d (tp a), .d (tp b), .d (tp w), .d (.int n)], none⟩) ?_ N _ ⟨0, Nat.zero_le _, rfl, rfl⟩
  rintro m s ⟨n, hn, rfl, rfl⟩
  simp
  refine wp_call ?_
  simp
  refine gets_mono (se_prog hg h2 h3 (by omega)) ?_
  rintro _ _ ⟨rfl, rfl⟩
  refine ⟨rfl, ?_⟩
  by_cases hz : n = N
  · subst hz
    by_cases he : SE p w n = true
    · simp [he, word]
    · have hs := hs.resolve_left he
      simp [he]
      refine wp_call ?_
      simp
      refine gets_mono (sg_prog hg h2 h3 (by omega)) ?_
      rintro _ _ ⟨rfl, rfl⟩
      refine ⟨rfl, ?_⟩
      simp [hs]
      refine wp_call ?_
      simp
      refine gets_mono (t_powers_at ha (by omega) h2 h3 (by omega) (by omega)) ?_
      rintro _ _ ⟨rfl, rfl⟩
      refine ⟨rfl, ?_⟩
      refine wp_call ?_
      simp
      refine gets_mono (t_powers_at hb (by omega) h2 h3 (by omega) (by omega)) ?_
      rintro _ _ ⟨rfl, rfl⟩
      exact ⟨rfl, by rw [if_neg he]; rfl⟩
  · obtain ⟨e1, e2⟩ := hlt n (by omega)
    simp [e1]
    refine wp_call ?_
    simp
    refine gets_mono (sg_prog hg h2 h3 (by omega)) ?_
    rintro _ _ ⟨rfl, rfl⟩
    refine ⟨rfl, ?_⟩
    simp [e2]
    exact ⟨N - (n + 1), by omega, n + 1, by omega, rfl, rfl⟩
/-- what is told is right -/
theorem js_told {p : Int} {w : List (Int × Int)} {N : Nat} (hg : Nice w) (hp : 1 ≤ p) (h : ∀ n, n < N → SE p w n = false ∧ ¬ SG p w n < 0) (hN : SE p w N = true) : ∀ k i : Nat, k + i = N → js p w k i = .none
  | 0, i, e => by
    have : i = N := by omega
    subst this
    have hne := se_sg hg hp (Nat.le_refl i) hN
    have : ¬ SG p w i < 0 := by
      unfold SG sgn at hne ⊢
      split <;> split <;> simp_all
    rw [js0, if_neg this, if_pos hN]
  | k + 1, i, e => by
    obtain ⟨e1, e2⟩ := h i (by omega)
    rw [js1, if_neg e2, if_neg (by rw [e1]; decide)]
    exact js_told hg hp h hN k (i + 1) (by omega)
theorem isF_AT {p n : Int} {ps : List (Int × Int)} (h2 : 2 ≤ p) : isF (AT p n ps) = true := by
  unfold isF
  rw [decide_eq_true (AT_pos h2), decide_eq_true (AT_gcd h2)]
  rfl
theorem jm_told {p : Int} {a b : List (Int × Int)} {n : Nat} (h2 : 2 ≤ p) (h : SG p (Df b a) n < 0) : jm p a b n (AT p n a) (AT p n b) = .none := by
  unfold jm jmr
  rw [isF_AT h2, isF_AT h2, if_pos (show (true && true) = true from rfl), if_neg (by unfold ne2; simp), if_neg (by omega)]
end K56
set_option maxHeartbeats 1000000
namespace K56
open PySem L2 DL
/-- both judges tell the same of it -/
def Ans (p : Int) (a b : List (Int × Int)) (v : D) : Prop := Sh v ∧ ∃ r, Sh r ∧ (gets (den_judge_most [.d (.int p), .d (tp a), .d (tp b), .d v] none) fun d so => so = none ∧ d = r) ∧ gets (den__law_judged [.d (.int p), .d (tp a), .d (tp b), .d v] none) fun d so => so = none ∧ d = r
section
variable {p : Int} {a b : List (Int × Int)}
structure Two (p : Int) (a b : List (Int × Int)) : Prop where
  a : Sm 25 a
  b : Sm 25 b
  p2 : 2 ≤ p
  p3 : p ≤ 3
theorem ans_most (T : Two p a b) {n : Nat} (hn : n ≤ 60) : Ans p a b (.tuple [.str "most", .int n]) := ⟨rb_word (w := "most") (by omega) (by decide +kernel), _, sh_js n 0 (by omega), t_most_most T.a T.b (by decide) (by decide) T.p2 T.p3 hn, t_law_most T.a T.b (by decide) (by decide) T.p2 T.p3 hn⟩
theorem ans_mostI (T : Two p a b) {i : Int} (h0 : 0 ≤ i) (h1 : i ≤ 60) : Ans p a b (.tuple [.str "most", .int i]) := by
  obtain ⟨n, rfl⟩ := Int.eq_ofNat_of_zero_le h0
  exact ans_most T (by omega)
theorem L9.y {q : Int × Int} (h : L9 q) : Le 8000 q.2 := h.2.mono (by decide)
theorem ans_more (T : Two p a b) {n : Nat} (hn : n ≤ 60) {x y : Int × Int} (hx : L9 x) (hy : L9 y) : Ans p a b (more n x y) := ⟨sh_more (by omega) hx hy, _, sh_jm T.a T.b (by decide) (by decide) T.p2 T.p3 hn, t_more T.a T.b (by decide) (by decide) T.p2 T.p3 hn hx.y hy.y, t_law_more T.a T.b (by decide) (by decide) T.p2 T.p3 hn hx.y hy.y hx.1 hy.1 (by decide)⟩
theorem ans_bad {v : D} (hs : Sh v) (h : badG (.int p) a b v) : Ans p a b v := ⟨hs, form, sh_form, h.1, h.2⟩
theorem badF.g {v : D} (h : badF v) : badG (.int p) a b v := h _ _ _
theorem ans_told (T : Two p a b) : ∃ v, (gets (den_most_answer [.d (.int p), .d (tp a), .d (tp b)] none) fun d so => so = none ∧ d = v) ∧ Ans p a b v ∧ gets (den_judge_most [.d (.int p), .d (tp a), .d (tp b), .d v] none) fun d so => so = none ∧ d = .none := by
  obtain ⟨N, hN, h1, h2, h3⟩ := t_most_answer T.a T.b (by decide) (by decide) T.p2 T.p3
  refine ⟨_, h3, ?_⟩
  have hw : Sm 30 (Df b a) := df_sm T.b T.a (by decide)
  unfold TV
  by_cases he : SE p (Df b a) N = true
  · rw [if_pos he]
    refine ⟨ans_most T (by omega), ?_⟩
    have := t_most_most T.a T.b (by decide) (by decide) T.p2 T.p3 (n := N) (by omega)
    rw [js_told hw.nice (by have := T.p2; omega) h1 he N 0 (by omega)] at this
    exact this
  · rw [if_neg he]
    have hx := AT_L9 (n := N) T.a (by decide) T.p2 T.p3 (by omega) (by omega)
    have hy := AT_L9 (n := N) T.b (by decide) T.p2 T.p3 (by omega) (by omega)
    refine ⟨ans_more T (by omega) hx hy, ?_⟩
    have := t_more T.a T.b (by decide) (by decide) T.p2 T.p3 (n := N) (by omega) hx.y hy.y
    rw [jm_told T.p2 (h2.resolve_left he)] at this
    exact this
theorem sm {d : D} {W : Nat} (h : RB d W 9) (hw : W ≤ 40000) : Sh d := h.repr hw (by decide)
theorem L9.neg {x y : Int} (h : L9 (x, y)) : L9 (-x, -y) := by
  unfold L9 Le at *
  simp only [Int.natAbs_neg]
  exact h
theorem Le1 {i : Int} (h : i.natAbs ≤ 10000) : Le 900 i := by
  have := Le.nat (n := i.natAbs) h
  unfold Le at *
  exact this
theorem t_answers {u : Src} (T : Two p a b) : gets (den__law_answers [.src, .d (.int p), .d (tp a), .d (tp b)] (some u)) fun d so => ∃ u' vs, so = some u' ∧ d = .list vs ∧ vs ≠ [] ∧ vs.length < 2 ^ 60 ∧ ∀ v ∈ vs, Ans p a b v := by
  refine gets_den rfl rfl ?_
  unfold b__law_answers
  simp
  refine wp_callS rfl ?_
  simp
  refine gets_mono (t_of (by simp) (by simp)) ?_
  rintro d' _ ⟨u', rfl, hd⟩
  obtain ⟨n, rfl, hn⟩ : ∃ n : Nat, d' = .int n ∧ n ≤ 40 := by
    simp at hd
    rcases hd with rfl | rfl | rfl | rfl | rfl | rfl | rfl
    · exact ⟨0, rfl, by decide⟩
    · exact ⟨1, rfl, by decide⟩
    · exact ⟨2, rfl, by decide⟩
    · exact ⟨3, rfl, by decide⟩
    · exact ⟨5, rfl, by decide⟩
    · exact ⟨9, rfl, by decide⟩
    · exact ⟨40, rfl, by decide⟩
  refine wp_call ?_
  simp
  refine gets_mono (t_law_atG T.a (by decide) T.p2 T.p3 (by omega) (by omega)) ?_
  rintro _ _ ⟨rfl, rfl⟩
  refine ⟨rfl, ?_⟩
  refine wp_call ?_
  simp
  refine gets_mono (t_law_atG T.b (by decide) T.p2 T.p3 (by omega) (by omega)) ?_
  rintro _ _ ⟨rfl, rfl⟩
  refine ⟨rfl, ?_⟩
  have hx := AT_L9 (n := n) T.a (by decide) T.p2 T.p3 (by omega) (by omega)
  have hy := AT_L9 (n := n) T.b (by decide) T.p2 T.p3 (by omega) (by omega)
  generalize AT p n a = x at hx ⊢
  generalize AT p n b = y at hy ⊢
  obtain ⟨x0, x1⟩ := x
  obtain ⟨y0, y1⟩ := y
  unfold enc2
  simp
  refine ⟨_, rfl, ?_, ?_, ?_, ?_, ?_, ?_, ?_, ?_, ?_, ?_, ?_, ?_, ?_, ?_, ?_, ?_, ?_, ?_, ?_, ?_, ?_, ?_, ?_, ?_, ?_, ?_⟩
  · exact ans_most T (n := n) (by omega)
  · exact ans_mostI T (by decide) (by decide)
  · exact ans_mostI T (by decide) (by decide)
  · exact ans_more T (by omega) hx hy
  · exact ans_more T (by omega) hy hx
  · exact ans_bad (sm (.tup (.cons (.str (by decide +kernel)) (.cons (.int (Le.nat (by omega))) (.cons (rb_enc (q := (x0, x1)) hx) .nil)))) (by decide)) (bad_more3 (by omega) _ T.a T.b)
  · exact ans_more T (x := (2, 4)) (by omega) ⟨Le1 (by decide), Le1 (by decide)⟩ hy
  · exact ans_bad (sm (.tup (.cons (.str (by decide +kernel)) (.cons .bl .nil))) (by decide)) (badF.g (bad_count2 rfl (by intro i e; cases e)))
  · exact ans_bad (sm (.tup (.cons (.str (by decide +kernel)) (.cons (.int (Le1 (by decide))) .nil))) (by decide)) (badF.g (bad_count2 rfl (by intro i e; cases e; omega)))
  · exact ans_bad (sm (.tup (.cons (.str (by decide +kernel)) (.cons (.int (Le1 (by decide))) .nil))) (by decide)) (badF.g (bad_count2 rfl (by intro i e; cases e; omega)))
  · exact ans_bad (sm (.tup (.cons (.str (by decide +kernel)) (.cons (.int (Le1 (by decide))) (.cons (.int (Le1 (by decide))) .nil)))) (by decide)) (bad_most3 T.a T.b)
  · exact ans_bad (sm (.tup (.cons (.str (by decide +kernel)) (.cons .bl (.cons (rb_enc (q := (x0, x1)) hx) (.cons (rb_enc (q := (y0, y1)) hy) .nil))))) (by decide)) (badF.g (bad_count4 _ _ _))
  · exact ans_more T (y := (1, 0)) (by omega) hx ⟨Le1 (by decide), Le1 (by decide)⟩
  · exact ans_bad sh_none (badF.g bad_none)
  · exact ans_bad (sm (.str (by decide +kernel)) (by decide)) (badF.g (bad_str _))
  · exact ans_bad (sm (.tup (.cons (.str (by decide +kernel)) (.cons (.int (Le1 (by decide))) .nil))) (by decide)) (badF.g bad_same)
  · exact ans_bad (sm (.tup (.cons (.int (Le1 (by decide))) (.cons (.int (Le1 (by decide))) .nil))) (by decide)) (badF.g (bad_int _ _))
  · exact ans_bad (sm (.lst (.cons (.str (by decide +kernel)) (.cons (.int (Le1 (by decide))) .nil))) (by decide)) (badF.g (bad_list _))
  · exact ans_bad (sm (.tup (.cons (.str (by decide +kernel)) .nil)) (by decide)) (badF.g (bad_t1 _))
  · exact ans_bad (sm (.tup .nil) (by decide)) (badF.g bad_t0)
  · exact ans_bad (sm (.tup (.cons (.str (by decide +kernel)) (.cons (.int (Le.nat (by omega))) (.cons (.lst (.cons (.int hx.1) (.cons (.int hx.2) .nil))) (.cons (rb_enc (q := (y0, y1)) hy) .nil))))) (by decide)) (bad_fr (y := (y0, y1)) (by omega) (noF_list _) hy.y T.a T.b)
  · exact ans_bad (sm (.tup (.cons (.tup (.cons (.str (by decide +kernel)) .nil)) (.cons (.int (Le1 (by decide))) .nil))) (by decide)) (badF.g (bad_tup _))
  · exact ans_bad (sm (.tup (.cons (.str (by decide +kernel)) (.cons (.int (Le.nat (by omega))) (.cons (.tup (.cons (.int hx.1) (.cons (.int hx.2) (.cons (.int (Le1 (by decide))) .nil)))) (.cons (rb_enc (q := (y0, y1)) hy) .nil))))) (by decide)) (bad_fr (y := (y0, y1)) (by omega) (noF_three _ _ _) hy.y T.a T.b)
  · exact ans_bad (sm (.tup (.cons (.str (by decide +kernel)) (.cons (.int (Le.nat (by omega))) (.cons (.tup (.cons .bl (.cons (.int (Le1 (by decide))) .nil))) (.cons (rb_enc (q := (y0, y1)) hy) .nil))))) (by decide)) (bad_fr (y := (y0, y1)) (by omega) (noF_bool _ _) hy.y T.a T.b)
  · exact ans_more T (y := (-y0, -y1)) (by omega) hx hy.neg
  · exact ans_bad (sm (.tup (.cons .non (.cons (.int (Le1 (by decide))) .nil))) (by decide)) (badF.g (bad_non _))
end
end K56
namespace K56
open PySem L2 DL
/-! ### signs judged: the form -/
theorem cut1 (xs : List D) : cutD xs (some 1) none = xs.tail := by
  cases xs with
  | nil => rfl
  | cons x xs =>
    unfold cutD HT.sIx
    simp
theorem cut_pp (ds : List (Int × Int)) (l h : Option Int) : ∃ es, cutD (pp ds) l h = pp es ∧ (∀ q ∈ es, q ∈ ds) ∧ es.length ≤ ds.length := by
  refine ⟨(ds.drop (HT.sIx (pp ds).length 0 l)).take (HT.sIx (pp ds).length (pp ds).length h - HT.sIx (pp ds).length 0 l), ?_, fun q hq => List.mem_of_mem_drop (List.mem_of_mem_take hq), ?_⟩
  · unfold cutD
    generalize HT.sIx (pp ds).length 0 l = x
    generalize HT.sIx (pp ds).length (pp ds).length h - x = y
    unfold pp
    rw [List.map_take, List.map_drop]
  · rw [List.length_take, List.length_drop]
    omega
def sp (q : Int × Int) : Bool := decide (0 ≤ q.1) && decide (q.1 ≤ 2000) && (decide (-1 ≤ q.2) && decide (q.2 ≤ 1))
def st2 (q r : Int × Int) : Bool := decide (q.1 < r.1) && decide (¬ q.2 = r.2)
def okF : List (Int × Int) → Bool
  | [] => false
  | q :: r => (q :: r).all sp && (decide (q.1 = 0) && ((q :: r).zip r).all fun z => st2 z.1 z.2)
theorem zip_pp : ∀ xs ys : List (Int × Int), pairUp (pp xs) (pp ys) = (xs.zip ys).map fun z => .tuple [enc2 z.1, enc2 z.2]
  | [], _ => rfl
  | _ :: _, [] => rfl
  | x :: xs, y :: ys => by
    have := zip_pp xs ys
    exact congrArg (PyData.tuple [enc2 x, enc2 y] :: ·) this
theorem t_spair (q : Int × Int) : gets (den_is_sign_pair [.d (enc2 q)] none) fun r so => so = none ∧ r = .bool (sp q) := by
  refine gets_den rfl rfl ?_
  obtain ⟨a, c⟩ := q
  unfold b_is_sign_pair enc2 sp
  simp
  refine wp_call ?_
  simp
  refine gets_mono (t_iscount _) ?_
  rintro _ _ ⟨rfl, rfl⟩
  refine ⟨rfl, ?_⟩
  have e : isC (.int a) = (decide (0 ≤ a) && decide (a ≤ 2000)) := rfl
  rw [e]
  by_cases h : (decide (0 ≤ a) && decide (a ≤ 2000)) = true
  · rw [h]
    simp
    refine wp_call ?_
    simp
    refine gets_mono (t_isint _) ?_
    rintro _ _ ⟨rfl, rfl⟩
    refine ⟨rfl, ?_⟩
    simp
    by_cases h2 : -1 ≤ c <;> simp [h2]
  · rw [Bool.not_eq_true] at h
    rw [h]
    simp
@[simp] theorem wp_cut1 {s : S} {Q : D → S → Prop} {ps : List (Int × Int)} : wp (M.opt (gCut (some 1) none (tp ps))) s Q ↔ Q (tp ps.tail) s := by
  have e : gCut (some 1) none (tp ps) = some (tp ps.tail) := by
    show some (PyData.tuple (cutD (pp ps) (some 1) none)) = _
    rw [cut1]
    unfold tp pp
    rw [List.map_tail]
  rw [e]; exact wp_some
@[simp] theorem wp_zipTp {s : S} {Q : List D → S → Prop} {xs ys : List (Int × Int)} : wp (M.opt (gZip [tp xs, tp ys])) s Q ↔ Q ((xs.zip ys).map fun z => .tuple [enc2 z.1, enc2 z.2]) s := by
  rw [← zip_pp]; exact wp_zipT
theorem gIx_head {q : Int × Int} {r : List (Int × Int)} : gIx (tp (q :: r)) (.int 0) = some (enc2 q) := by
  show atI (enc2 q :: pp r) 0 = _
  exact atI_nat (j := 0) rfl
theorem isT_tp (ps : List (Int × Int)) : isTy "tuple" (tp ps) = true := isTy_tuple_tuple _
theorem t_sform {rs : List (Int × Int)} (hl : rs.length ≤ 1000) : gets (den_is_signs_form [.d (tp rs)] none) fun r so => so = none ∧ r = .bool (okF rs) := by
  refine gets_den rfl rfl ?_
  unfold b_is_signs_form
  simp [isT_tp]
  cases rs with
  | nil => simp [okF]
  | cons q r =>
    simp
    refine runC_enc enc2 (fun _ => true) (fun q => .bool (sp q)) (q :: r) [] (sizeLine_ge (by simp at hl ⊢; omega)) ?_ ?_
    · intro q hq
      refine ⟨_, rfl, ?_⟩
      simp
      refine wp_call ?_
      simp
      refine gets_mono (t_spair q) ?_
      rintro _ _ ⟨rfl, rfl⟩
      simp
    · rw [filter_yes, List.nil_append]
      simp only [wp_all]
      by_cases h : (q :: r).all sp = true
      · have e : okF (q :: r) = (decide (q.1 = 0) && ((q :: r).zip r).all fun z => st2 z.1 z.2) := by
          show ((q :: r).all sp && _) = _
          rw [h, Bool.true_and]
        rw [h, e]
        clear e h
        simp
        rw [wp_opt gIx_head]
        obtain ⟨a, c⟩ := q
        simp [enc2]
        by_cases h0 : a = 0
        · subst h0
          simp
          refine runC_enc (fun z : (Int × Int) × (Int × Int) => PyData.tuple [.tuple [.int z.1.1, .int z.1.2], .tuple [.int z.2.1, .int z.2.2]]) (fun _ => true) (fun z => .bool (st2 z.1 z.2)) (((0, c) :: r).zip r) [] (sizeLine_ge (by simp at hl ⊢; omega)) ?_ ?_
          · rintro ⟨⟨x, y⟩, ⟨z, w⟩⟩ _
            refine ⟨_, rfl, ?_⟩
            simp
            by_cases h1 : x < z <;> simp [h1, st2]
          · rw [filter_yes, List.nil_append]
            simp only [wp_all]
            simp
        · simp [h0]
      · rw [Bool.not_eq_true] at h
        have e : okF (q :: r) = false := by
          show ((q :: r).all sp && _) = _
          rw [h, Bool.false_and]
        rw [h, e]
        simp
end K56
namespace K56
open PySem L2 DL
/-! ### signs judged: n by n -/
/-- the sign told ahead of n -/
def pre (rs : List (Int × Int)) : Nat → Int
  | 0 => 0
  | n + 1 => (getI rs n).getD (pre rs n)
def jz (p : Int) (ps rs : List (Int × Int)) : Nat → Nat → D
  | 0, n => if SG p ps n = pre rs n then .none else word "sign" n
  | k + 1, i => if SG p ps i = pre rs (i + 1) then jz p ps rs k (i + 1) else word "sign" i
section
variable {p : Int} {ps rs : List (Int × Int)}
theorem jz0 {n : Nat} : jz p ps rs 0 n = if SG p ps n = pre rs n then .none else word "sign" n := rfl
theorem jz1 {k i : Nat} : jz p ps rs (k + 1) i = if SG p ps i = pre rs (i + 1) then jz p ps rs k (i + 1) else word "sign" i := rfl
theorem sh_jz : ∀ (k i : Nat), k + i ≤ 10000 → Sh (jz p ps rs k i)
  | 0, n, h => by
    rw [jz0]
    split
    · exact sh_none
    · exact rb_word (by omega) (by decide +kernel)
  | k + 1, i, h => by
    rw [jz1]
    split
    · exact sh_jz k (i + 1) (by omega)
    · exact rb_word (by omega) (by decide +kernel)
def JZ (p : Int) (ps rs : List (Int × Int)) (E : Nat) : D := if okF rs = true then jz p ps rs E 0 else form
theorem okF_ne (h : okF rs = true) : rs ≠ [] := by
  cases rs with
  | nil => cases h
  | cons => simp
theorem st2_asc : ∀ (q : Int × Int) (r : List (Int × Int)), (((q :: r).zip r).all fun z => st2 z.1 z.2) = true → (q :: r).Pairwise fun a b => a.1 < b.1
  | q, [], _ => by simp
  | q, a :: r, h => by
    have h' : (st2 q a && ((a :: r).zip r).all fun z => st2 z.1 z.2) = true := h
    rw [Bool.and_eq_true] at h'
    have ih := st2_asc a r h'.2
    have h1 : q.1 < a.1 := by
      have := h'.1
      unfold st2 at this
      rw [Bool.and_eq_true, decide_eq_true_eq] at this
      exact this.1
    refine List.pairwise_cons.mpr ⟨fun b hb => ?_, ih⟩
    rcases List.mem_cons.mp hb with e | hb
    · rw [e]; exact h1
    · have := (List.pairwise_cons.mp ih).1 b hb
      omega
theorem okF_is (h : okF rs = true) : rs.Pairwise (fun a b => a.1 < b.1) ∧ (∀ q ∈ rs, sp q = true) ∧ ∃ c r, rs = (0, c) :: r := by
  cases rs with
  | nil => cases h
  | cons q r =>
    have h : ((q :: r).all sp && (decide (q.1 = 0) && ((q :: r).zip r).all fun z => st2 z.1 z.2)) = true := h
    rw [Bool.and_eq_true, Bool.and_eq_true, decide_eq_true_eq] at h
    refine ⟨st2_asc q r h.2.2, List.all_eq_true.mp h.1, q.2, r, ?_⟩
    rw [← h.2.1]
/-- what is told up to n -/
def fl (n : Int) (rs : List (Int × Int)) : List (Int × Int) := rs.filter fun q => decide (q.1 ≤ n)
theorem fl_none {n : Int} (h : ∀ q ∈ rs, n < q.1) : fl n rs = [] := by
  unfold fl
  rw [List.filter_eq_nil_iff]
  intro q hq
  have := h q hq
  simp
  omega
theorem getI_no {i : Int} (h : ∀ q ∈ rs, q.1 ≠ i) : getI rs i = none := by
  cases e : getI rs i with
  | none => rfl
  | some c => exact absurd rfl (h _ (getI_mem e))
theorem getI_cons {q : Int × Int} {i : Int} : getI (q :: rs) i = if q.1 = i then some q.2 else getI rs i := by
  unfold getI
  rw [List.find?_cons]
  by_cases h : q.1 = i <;> simp [h]
theorem fl_succ (n : Int) : ∀ rs : List (Int × Int), rs.Pairwise (fun a b => a.1 < b.1) → fl (n + 1) rs = fl n rs ++ (match getI rs (n + 1) with | some c => [(n + 1, c)] | none => [])
  | [], _ => rfl
  | q :: rs, h => by
    obtain ⟨h1, h2⟩ := List.pairwise_cons.mp h
    have ih := fl_succ n rs h2
    rw [getI_cons]
    rcases Int.lt_trichotomy q.1 (n + 1) with k | k | k
    · rw [if_neg (by omega)]
      have e1 : fl (n + 1) (q :: rs) = q :: fl (n + 1) rs := by
        unfold fl
        rw [List.filter_cons, if_pos (by simp; omega)]
      have e2 : fl n (q :: rs) = q :: fl n rs := by
        unfold fl
        rw [List.filter_cons, if_pos (by simp; omega)]
      rw [e1, e2, ih]
      rfl
    · rw [if_pos k]
      have a1 : fl n (q :: rs) = [] := fl_none fun b hb => by
        rcases List.mem_cons.mp hb with e | hb
        · rw [e]; omega
        · have := h1 b hb; omega
      have a2 : fl (n + 1) rs = [] := fl_none fun b hb => by have := h1 b hb; omega
      have e1 : fl (n + 1) (q :: rs) = q :: fl (n + 1) rs := by
        unfold fl
        rw [List.filter_cons, if_pos (by simp; omega)]
      rw [e1, a1, a2]
      show [q] = [(n + 1, q.2)]
      rw [← k]
    · rw [if_neg (by omega), getI_no (rs := rs) fun b hb => by have := h1 b hb; omega]
      have a1 : fl n (q :: rs) = [] := fl_none fun b hb => by
        rcases List.mem_cons.mp hb with e | hb
        · rw [e]; omega
        · have := h1 b hb; omega
      have a2 : fl (n + 1) (q :: rs) = [] := fl_none fun b hb => by
        rcases List.mem_cons.mp hb with e | hb
        · rw [e]; omega
        · have := h1 b hb; omega
      rw [a1, a2]
      rfl
theorem fl_told {c : Int} {r : List (Int × Int)} (hr : rs = (0, c) :: r) (asc : rs.Pairwise (fun a b => a.1 < b.1)) : ∀ n : Nat, ∃ pr t, fl n rs = pr ++ [(t, pre rs (n + 1))]
  | 0 => by
    refine ⟨[], 0, ?_⟩
    have e : pre rs 1 = c := by
      show (getI rs 0).getD _ = c
      rw [hr, getI_cons, if_pos rfl]
      rfl
    rw [e, hr]
    rw [hr] at asc
    have h1 := (List.pairwise_cons.mp asc).1
    have a2 : fl 0 r = [] := fl_none fun b hb => h1 b hb
    show fl 0 ((0, c) :: r) = _
    unfold fl at a2 ⊢
    rw [List.filter_cons, if_pos (by simp), a2]
    rfl
  | n + 1 => by
    obtain ⟨pr, t, e⟩ := fl_told hr asc n
    have e1 : ((n + 1 : Nat) : Int) = (n : Int) + 1 := by omega
    have e2 : pre rs (n + 1 + 1) = (getI rs ((n : Int) + 1)).getD (pre rs (n + 1)) := by
      show (getI rs ((n + 1 : Nat) : Int)).getD _ = _
      rw [e1]
    rw [e2, e1, fl_succ _ _ asc]
    cases e3 : getI rs ((n : Int) + 1) with
    | none => exact ⟨pr, t, by rw [e]; simp⟩
    | some d => exact ⟨fl n rs, _, rfl⟩
theorem fl_all {n : Int} (h : ∀ q ∈ rs, q.1 ≤ n) : fl n rs = rs := by
  unfold fl
  rw [List.filter_eq_self]
  intro q hq
  simp
  exact h q hq
theorem asc_last {pr : List (Int × Int)} {t c : Int} (h : (pr ++ [(t, c)]).Pairwise fun a b => a.1 < b.1) : ∀ q ∈ pr ++ [(t, c)], q.1 ≤ t := fun q hq => by
  rcases List.mem_append.mp hq with k | k
  · have := (List.pairwise_append.mp h).2.2 q k (t, c) (by simp)
    simp at this
    omega
  · simp at k
    rw [k]
    exact Int.le_refl _
theorem rowy_pp : ∀ {rs : List (Int × Int)}, rs ≠ [] → rowy (pp rs) = true
  | [], h => absurd rfl h
  | q :: rs, _ => by
    show ((pp (q :: rs)).all fun d => match d with
      | .tuple [.int _, .int _] => true
      | _ => false) = true
    rw [List.all_eq_true]
    intro d hd
    obtain ⟨r, _, rfl⟩ := List.mem_map.mp hd
    rfl
theorem dict_tp (h : rs.Pairwise (fun a b => a.1 < b.1)) (hn : rs ≠ []) : gDictOf [tp rs] = some (kI rs) := by
  show (if rowy (pp rs) = true then (pairsOf (pp rs)).map (fun ps => mergeD [] ps) else none) = _
  rw [rowy_pp hn, if_pos rfl, pairsOf_pp]
  have := merge_nd rs [] (by simpa using asc_nd h)
  exact congrArg some this
theorem val_pre {n : Nat} : (valD (kI rs) (.inl (n : Int))).getD (.int (pre rs n)) = .int (pre rs (n + 1)) := by
  rw [valD_kI]
  show ((getI rs n).map PyData.int).getD (.int (pre rs n)) = .int ((getI rs n).getD (pre rs n))
  cases getI rs n <;> rfl
/-- where the judges stop -/
structure Ends (p : Int) (ps : List (Int × Int)) (t : Int) (E : Nat) : Prop where
  le : E ≤ 60
  more : t < E
  st : ST p ps E = true
  go : ∀ n, n < E → (n : Int) ≤ t ∨ ST p ps n = false
theorem t_judge_signs {t c : Int} {pr : List (Int × Int)} {E : Nat} (hg : Gd ps) (h2 : 2 ≤ p) (h3 : p ≤ 3) (hl : rs.length < 500) (hp : rs = pr ++ [(t, c)]) (hE : okF rs = true → Ends p ps t E) : gets (den_judge_signs [.d (.int p), .d (tp ps), .d (tp rs)] none) fun d so => so = none ∧ d = JZ p ps rs E := by
  refine gets_den rfl rfl ?_
  unfold b_judge_signs JZ
  simp
  refine wp_call ?_
  simp
  refine gets_mono (t_sform (by omega)) ?_
  rintro _ _ ⟨rfl, rfl⟩
  refine ⟨rfl, ?_⟩
  by_cases hf : okF rs = true
  · have hE := hE hf
    obtain ⟨asc, hsp, c0, r0, hr0⟩ := okF_is hf
    rw [hf]
    simp [wp_dictOf]
    refine ⟨kI rs, dict_tp asc (okF_ne hf), ?_⟩
    have lp := asc_last (hp ▸ asc)
    rw [← hp] at lp
    refine wp_while (fun m s => ∃ n : Nat, n ≤ E ∧ m = E - n ∧ s = ⟨[.d (.int p), .d (tp ps), .d (tp rs), .oK (kI rs), .d (.int (pre rs n)), .d (.int n)], none⟩ ∧ jz p ps rs (E - n) n = jz p ps rs E 0) ?_ E _ ⟨0, Nat.zero_le _, rfl, rfl, rfl⟩
    rintro m s ⟨n, hn, rfl, rfl, hj⟩
    simp [wp_ixLast hp]
    by_cases hz : n = E
    · subst hz
      have h1 := hE.more
      simp [show ¬ (n : Int) ≤ t by omega]
      refine wp_call ?_
      simp
      refine gets_mono (st_prog hg h2 h3 hE.le) ?_
      rintro _ _ ⟨rfl, rfl⟩
      refine ⟨rfl, ?_⟩
      rw [hE.st]
      simp
      refine wp_call ?_
      simp
      refine gets_mono (sg_prog hg h2 h3 hE.le) ?_
      rintro _ _ ⟨rfl, rfl⟩
      refine ⟨rfl, ?_⟩
      rw [Nat.sub_self, jz0] at hj
      simp
      by_cases hs : SG p ps n = pre rs n
      · rw [if_pos hs] at hj
        simp [hs, ← hj]
      · rw [if_neg hs] at hj
        simp [hs, ← hj, word]
    · have hlt : n < E := by omega
      have hle := hE.le
      have ek : E - n = (E - (n + 1)) + 1 := by omega
      rw [ek, jz1] at hj
      by_cases h1 : (n : Int) ≤ t
      · simp [h1]
        refine wp_dgetOr ⟨_, dictAt_oK rfl⟩ ?_
        simp
        refine ⟨_, dictAt_oK rfl, _, rfl, ?_⟩
        rw [val_pre]
        skip
        refine wp_call ?_
        simp
        refine gets_mono (sg_prog hg h2 h3 (by omega)) ?_
        rintro _ _ ⟨rfl, rfl⟩
        refine ⟨rfl, ?_⟩
        simp
        by_cases hs : SG p ps n = pre rs (n + 1)
        · rw [if_pos hs] at hj
          simp [hs]
          exact ⟨E - (n + 1), by omega, n + 1, by omega, rfl, ⟨rfl, rfl⟩, hj⟩
        · rw [if_neg hs] at hj
          simp [hs, ← hj, word]
      · have h4 := (hE.go n hlt).resolve_left h1
        simp [h1]
        refine wp_call ?_
        simp
        refine gets_mono (st_prog hg h2 h3 (by omega)) ?_
        rintro _ _ ⟨rfl, rfl⟩
        refine ⟨rfl, ?_⟩
        rw [h4]
        simp
        refine wp_dgetOr ⟨_, dictAt_oK rfl⟩ ?_
        simp
        refine ⟨_, dictAt_oK rfl, _, rfl, ?_⟩
        rw [val_pre]
        skip
        refine wp_call ?_
        simp
        refine gets_mono (sg_prog hg h2 h3 (by omega)) ?_
        rintro _ _ ⟨rfl, rfl⟩
        refine ⟨rfl, ?_⟩
        simp
        by_cases hs : SG p ps n = pre rs (n + 1)
        · rw [if_pos hs] at hj
          simp [hs]
          exact ⟨E - (n + 1), by omega, n + 1, by omega, rfl, ⟨rfl, rfl⟩, hj⟩
        · rw [if_neg hs] at hj
          simp [hs, ← hj, word]
  · simp [hf]
end
end K56
set_option maxHeartbeats 1000000
namespace K56
open PySem L2 DL
/-! ### signs judged: the law's own -/
theorem ones_lay {γ : Type} : ∀ ys : List γ, PyData.canLayAll0 (ys.map fun _ => PyData.int 1) = true ∧ PyData.depthAll (ys.map fun _ => PyData.int 1) = 0 ∧ noDict.noDicts (ys.map fun _ => PyData.int 1) = true
  | [] => ⟨rfl, rfl, rfl⟩
  | y :: ys => by
    obtain ⟨h1, h2, h3⟩ := ones_lay ys
    refine ⟨?_, ?_, ?_⟩
    · show (true && PyData.canLayAll0 (ys.map fun _ => PyData.int 1)) = true
      rw [h1]; rfl
    · show max 0 (PyData.depthAll (ys.map fun _ => PyData.int 1)) = 0
      rw [h2]; rfl
    · show (true && noDict.noDicts (ys.map fun _ => PyData.int 1)) = true
      rw [h3]; rfl
theorem ne_ones {γ : Type} (ys : List γ) : gNe (.list (ys.map fun _ => PyData.int 1)) (.list []) = some (.bool (!ys.isEmpty)) := by
  obtain ⟨h1, h2, h3⟩ := ones_lay ys
  have sh : SeqAt.shaped (.list (ys.map fun _ => PyData.int 1)) = true := by
    unfold SeqAt.shaped
    rw [Bool.and_eq_true, decide_eq_true_eq]
    refine ⟨h1, ?_⟩
    show PyData.depthAll (ys.map fun _ => PyData.int 1) + 1 ≤ 64
    omega
  have nd : noDict (.list (ys.map fun _ => PyData.int 1)) = true := h3
  have ev : PyData.eqv (.list (ys.map fun _ => PyData.int 1)) (.list []) = ys.isEmpty := by cases ys <;> rfl
  show gNeD _ _ = _
  unfold gNeD
  rw [sh, nd, ev]
  rfl
section
variable {p : Int} {ps rs : List (Int × Int)}
theorem none_bad {γ : Type} (f : γ → Bool) : ∀ xs : List γ, (xs.filter fun z => !f z).isEmpty = xs.all f
  | [] => rfl
  | x :: xs => by
    rw [List.filter_cons, List.all_cons, ← none_bad f xs]
    cases f x <;> simp
theorem okF_cons {q : Int × Int} {r : List (Int × Int)} : okF (q :: r) = ((q :: r).all sp && (decide (q.1 = 0) && ((q :: r).zip r).all fun z => st2 z.1 z.2)) := rfl
theorem lawint_i (i l h : Int) : gets (den__law_is_int [.d (.int i), .d (.int l), .d (.int h)] none) fun r so => so = none ∧ r = .bool (decide (l ≤ i) && decide (i ≤ h)) := t_lawint (.int i) l h
theorem t_law_signs_judged {t c : Int} {pr : List (Int × Int)} {E : Nat} (hg : Gd ps) (h2 : 2 ≤ p) (h3 : p ≤ 3) (hl : rs.length < 500) (hp : rs = pr ++ [(t, c)]) (hE : okF rs = true → Ends p ps t E) : gets (den__law_signs_judged [.d (.int p), .d (tp ps), .d (tp rs)] none) fun d so => so = none ∧ d = JZ p ps rs E := by
  refine gets_den rfl rfl ?_
  unfold b__law_signs_judged
  have hn : rs ≠ [] := by rw [hp]; simp
  have he : rs.isEmpty = false := by cases rs with
    | nil => exact absurd rfl hn
    | cons => rfl
  simp [isT_tp, he]
  refine wp_loop (fun ds s => ∃ (rest : List (Int × Int)) (x : SV), ds = pp rest ∧ s = ⟨[.d (.int p), .d (tp ps), .d (tp rs), x, .un, .un, .un, .un, .un], none⟩ ∧ rs.all sp = rest.all sp) ?_ ?_ _ _ ⟨rs, .un, rfl, rfl, rfl⟩
  · rintro d ds s ⟨rest, x, e, rfl, h⟩
    cases rest with
    | nil => cases e
    | cons q rest =>
      obtain ⟨a, b⟩ := q
      cases e
      refine ⟨_, rfl, ?_⟩
      have hbad : sp (a, b) = false → JZ p ps rs E = form := fun hs => by
        have : okF rs = false := by
          rw [List.all_cons, hs, Bool.false_and] at h
          cases rs with
          | nil => rfl
          | cons q r => rw [okF_cons, h, Bool.false_and]
        unfold JZ
        rw [this]
        rfl
      simp
      refine wp_call ?_
      simp
      refine gets_mono (lawint_i _ _ _) ?_
      rintro _ _ ⟨rfl, rfl⟩
      refine ⟨rfl, ?_⟩
      by_cases k1 : (decide (0 ≤ a) && decide (a ≤ 2000)) = true
      · rw [k1]
        simp
        refine wp_call ?_
        simp
        refine gets_mono (lawint_i _ _ _) ?_
        rintro _ _ ⟨rfl, rfl⟩
        refine ⟨rfl, ?_⟩
        by_cases k2 : (decide (-1 ≤ b) && decide (b ≤ 1)) = true
        · rw [k2]
          simp
          refine ⟨rest, rfl, ?_⟩
          have : sp (a, b) = true := by
            show (decide (0 ≤ a) && decide (a ≤ 2000) && (decide (-1 ≤ b) && decide (b ≤ 1))) = true
            rw [k1, k2]; rfl
          rw [h, List.all_cons, this, Bool.true_and]
        · rw [Bool.not_eq_true] at k2
          rw [k2]
          simp
          have := hbad (by
            show (decide (0 ≤ a) && decide (a ≤ 2000) && (decide (-1 ≤ b) && decide (b ≤ 1))) = false
            rw [k2, Bool.and_false])
          rw [this]
      · rw [Bool.not_eq_true] at k1
        rw [k1]
        simp
        have := hbad (by
          show (decide (0 ≤ a) && decide (a ≤ 2000) && (decide (-1 ≤ b) && decide (b ≤ 1))) = false
          rw [k1, Bool.false_and])
        rw [this]
  · rintro s ⟨rest, x, e, rfl, h⟩
    have hr : rest = [] := by
      cases rest with
      | nil => rfl
      | cons a b => simp [pp] at e
    subst hr
    have hall : rs.all sp = true := h
    clear h e
    obtain ⟨⟨a0, c0⟩, r, hr⟩ : ∃ q r, rs = q :: r := by
      cases rs with
      | nil => exact absurd rfl hn
      | cons q r => exact ⟨q, r, rfl⟩
    have hok : okF rs = (decide (a0 = 0) && ((rs.zip r).all fun z => st2 z.1 z.2)) := by
      have h5 := hall
      rw [hr] at h5 ⊢
      rw [okF_cons, h5, Bool.true_and]
    have hix : gIx (tp rs) (.int 0) = some (enc2 (a0, c0)) := by rw [hr]; exact gIx_head
    simp
    rw [wp_opt hix]
    simp [enc2]
    by_cases h0 : a0 = 0
    · simp [h0]
      have ht : rs.tail = r := by rw [hr]; rfl
      have hrl : r.length < 500 := by rw [hr] at hl; simp at hl; omega
      rw [ht]
      refine runC_enc (fun z : (Int × Int) × (Int × Int) => PyData.tuple [.tuple [.int z.1.1, .int z.1.2], .tuple [.int z.2.1, .int z.2.2]]) (fun z => !st2 z.1 z.2) (fun _ => .int 1) (rs.zip r) [] (sizeLine_ge (by simp; omega)) ?_ ?_
      · rintro ⟨⟨x, y⟩, ⟨z, w⟩⟩ _
        refine ⟨_, rfl, ?_⟩
        simp
        by_cases k1 : z ≤ x
        · simp [k1, st2, show ¬ x < z by omega]
        · simp [k1, st2, show x < z by omega]
      · rw [List.nil_append]
        refine (wp_opt (ne_ones _)).mpr ?_
        rw [none_bad]
        by_cases hz : ((rs.zip r).all fun z => st2 z.1 z.2) = true
        · have hf : okF rs = true := by rw [hok, h0, hz]; rfl
          rw [hz]
          have hE := hE hf
          obtain ⟨asc, hsp, _⟩ := okF_is hf
          have hle := hE.le
          have lp := asc_last (hp ▸ asc)
          rw [← hp] at lp
          simp
          have ej : JZ p ps rs E = jz p ps rs E 0 := by unfold JZ; rw [if_pos hf]
          rw [ej]
          subst h0
          refine wp_while (fun m s => ∃ (n : Nat) (x4 x5 x7 x8 : SV), n ≤ E ∧ m = E - n ∧ s = ⟨[.d (.int p), .d (tp ps), .d (tp rs), x, x4, x5, .d (.int n), x7, x8], none⟩ ∧ jz p ps rs (E - n) n = jz p ps rs E 0) ?_ E _ ⟨0, .un, .un, .un, .un, Nat.zero_le _, rfl, rfl, rfl⟩
          rintro m s ⟨n, x4, x5, x7, x8, hn, rfl, rfl, hj⟩
          simp [wp_ixLast hp]
          by_cases hz : n = E
          · subst hz
            have h1 := hE.more
            simp [show ¬ (n : Int) ≤ t by omega]
            refine wp_call ?_
            simp
            refine gets_mono (st_law hg h2 h3 hE.le) ?_
            rintro _ _ ⟨rfl, rfl⟩
            refine ⟨rfl, ?_⟩
            rw [hE.st]
            simp
            refine wp_call ?_
            simp
            refine gets_mono (sg_law hg h2 h3 hE.le) ?_
            rintro _ _ ⟨rfl, rfl⟩
            refine ⟨rfl, ?_⟩
            have hc : c = pre rs n := by
              obtain ⟨m, rfl⟩ : ∃ m, n = m + 1 := ⟨n - 1, by
                have := lp (0, c0) (by rw [hr]; exact List.mem_cons_self)
                simp at this
                omega⟩
              obtain ⟨pr', t', e'⟩ := fl_told hr asc m
              rw [fl_all fun q hq => by have := lp q hq; omega] at e'
              rw [hp] at e'
              have := (List.append_inj' e' rfl).2
              simp at this
              rw [hp]
              exact this.2
            rw [Nat.sub_self, jz0, ← hc] at hj
            simp [wp_ixLast hp]
            by_cases hs : SG p ps n = c
            · rw [if_pos hs] at hj
              simp [hs, ← hj]
            · rw [if_neg hs] at hj
              simp [hs, ← hj, word]
          · have hlt : n < E := by omega
            have ek : E - n = (E - (n + 1)) + 1 := by omega
            rw [ek, jz1] at hj
            by_cases h1 : (n : Int) ≤ t
            · simp [h1]
              refine wp_call ?_
              simp
              refine gets_mono (sg_law hg h2 h3 (by omega)) ?_
              rintro _ _ ⟨rfl, rfl⟩
              refine ⟨rfl, ?_⟩
              skip
              rw [pp_enc]
              refine runC_enc enc2 (fun q => decide (q.1 ≤ (n : Int))) (fun q => .int q.2) rs [] (by rw [List.length_nil, Nat.zero_add]; exact sizeLine_ge (by omega)) ?_ ?_
              · rintro ⟨i, d⟩ _
                refine ⟨_, rfl, ?_⟩
                simp
              · obtain ⟨pr', t', e'⟩ := fl_told hr asc n
                have e2 : (rs.filter fun q => decide (q.1 ≤ (n : Int))) = pr' ++ [(t', pre rs (n + 1))] := e'
                rw [List.nil_append, e2, List.map_append]
                have e3 : gIx (.list (pr'.map (fun q : Int × Int => PyData.int q.2) ++ [PyData.int (pre rs (n + 1))])) (.int (-1)) = some (.int (pre rs (n + 1))) := atI_last _ _
                simp
                rw [wp_opt (show atI (pr'.map (fun q : Int × Int => PyData.int q.2) ++ [PyData.int (pre rs (n + 1))]) (-1) = some (.int (pre rs (n + 1))) from e3)]
                simp
                by_cases hs : SG p ps n = pre rs (n + 1)
                · rw [if_pos hs] at hj
                  simp [hs]
                  exact ⟨E - (n + 1), by omega, n + 1, by omega, rfl, rfl, hj⟩
                · rw [if_neg hs] at hj
                  simp [hs, ← hj, word]
            · have h4 := (hE.go n hlt).resolve_left h1
              simp [h1]
              refine wp_call ?_
              simp
              refine gets_mono (st_law hg h2 h3 (by omega)) ?_
              rintro _ _ ⟨rfl, rfl⟩
              refine ⟨rfl, ?_⟩
              rw [h4]
              simp
              refine wp_call ?_
              simp
              refine gets_mono (sg_law hg h2 h3 (by omega)) ?_
              rintro _ _ ⟨rfl, rfl⟩
              refine ⟨rfl, ?_⟩
              skip
              rw [pp_enc]
              refine runC_enc enc2 (fun q => decide (q.1 ≤ (n : Int))) (fun q => .int q.2) rs [] (by rw [List.length_nil, Nat.zero_add]; exact sizeLine_ge (by omega)) ?_ ?_
              · rintro ⟨i, d⟩ _
                refine ⟨_, rfl, ?_⟩
                simp
              · obtain ⟨pr', t', e'⟩ := fl_told hr asc n
                have e2 : (rs.filter fun q => decide (q.1 ≤ (n : Int))) = pr' ++ [(t', pre rs (n + 1))] := e'
                rw [List.nil_append, e2, List.map_append]
                have e3 : gIx (.list (pr'.map (fun q : Int × Int => PyData.int q.2) ++ [PyData.int (pre rs (n + 1))])) (.int (-1)) = some (.int (pre rs (n + 1))) := atI_last _ _
                simp
                rw [wp_opt (show atI (pr'.map (fun q : Int × Int => PyData.int q.2) ++ [PyData.int (pre rs (n + 1))]) (-1) = some (.int (pre rs (n + 1))) from e3)]
                simp
                by_cases hs : SG p ps n = pre rs (n + 1)
                · rw [if_pos hs] at hj
                  simp [hs]
                  exact ⟨E - (n + 1), by omega, n + 1, by omega, rfl, rfl, hj⟩
                · rw [if_neg hs] at hj
                  simp [hs, ← hj, word]
        · rw [Bool.not_eq_true] at hz
          have hf : okF rs = false := by rw [hok, hz, Bool.and_false]
          rw [hz]
          simp [JZ, hf]
    · have : okF rs = false := by rw [hok, decide_eq_false h0, Bool.false_and]
      simp [h0, JZ, this]
end
end K56
set_option maxHeartbeats 1000000
namespace K56
open PySem L2 DL
/-! ### signs told, and things like them -/
section
variable {p : Int} {ps : List (Int × Int)}
def Sig (p : Int) (ps : List (Int × Int)) (v : D) : Prop := ∃ r, Sh r ∧ (gets (den_judge_signs [.d (.int p), .d (tp ps), .d v] none) fun d so => so = none ∧ d = r) ∧ gets (den__law_signs_judged [.d (.int p), .d (tp ps), .d v] none) fun d so => so = none ∧ d = r
structure One (p : Int) (ps : List (Int × Int)) : Prop where
  gd : Gd ps
  p2 : 2 ≤ p
  p3 : p ≤ 3
theorem ends_of (T : One p ps) {t : Int} (h0 : 0 ≤ t) (h1 : t ≤ 50) : ∃ E, Ends p ps t E := by
  obtain ⟨N, h4, h5, h6⟩ := first (ST p ps) 35 (st_some T.gd T.p2)
  refine ⟨max (t.toNat + 1) N, by omega, by omega, st_mono (by have := T.p2; omega) (by omega) h5, fun n hn => ?_⟩
  by_cases k : (n : Int) ≤ t
  · exact .inl k
  · exact .inr (h6 n (by omega))
theorem sh_JZ {rs : List (Int × Int)} {E : Nat} (h : E ≤ 60) : Sh (JZ p ps rs E) := by
  unfold JZ
  split
  · exact sh_jz E 0 (by omega)
  · exact sh_form
theorem sig_tp (T : One p ps) {rs : List (Int × Int)} (hn : rs ≠ []) (hl : rs.length < 500) (hb : ∀ q ∈ rs, q.1 ≤ 50 ∨ 2000 < q.1) : Sig p ps (tp rs) := by
  obtain ⟨pr, t, c, hp⟩ := ends hn
  have key : ∃ E, E ≤ 60 ∧ (okF rs = true → Ends p ps t E) := by
    by_cases hf : okF rs = true
    · obtain ⟨asc, hsp, _⟩ := okF_is hf
      have h1 := hsp (t, c) (by rw [hp]; simp)
      unfold sp at h1
      simp at h1
      have h2 := hb (t, c) (by rw [hp]; simp)
      simp at h2
      obtain ⟨E, hE⟩ := ends_of T (t := t) (by omega) (by omega)
      exact ⟨E, hE.le, fun _ => hE⟩
    · exact ⟨0, by decide, fun h => absurd h hf⟩
  obtain ⟨E, hE, hE2⟩ := key
  exact ⟨_, sh_JZ hE, t_judge_signs T.gd T.p2 T.p3 hl hp hE2, t_law_signs_judged T.gd T.p2 T.p3 hl hp hE2⟩
theorem noform (v : D) (h : gets (den_is_signs_form [.d v] none) fun r so => so = none ∧ r = .bool false) (P A : D) : gets (den_judge_signs [.d P, .d A, .d v] none) fun d so => so = none ∧ d = form := by
  refine gets_den rfl rfl ?_
  unfold b_judge_signs
  simp
  refine wp_call ?_
  simp
  refine gets_mono h ?_
  rintro _ _ ⟨rfl, rfl⟩
  simp
theorem sig_of {v : D} (h : gets (den_is_signs_form [.d v] none) fun r so => so = none ∧ r = .bool false) (h' : ∀ P A, gets (den__law_signs_judged [.d P, .d A, .d v] none) fun d so => so = none ∧ d = form) : Sig p ps v := ⟨form, sh_form, noform v h _ _, h' _ _⟩
theorem sig_nil : Sig p ps (tp []) := by
  refine sig_of (t_sform (by decide)) fun P A => ?_
  refine gets_den rfl rfl ?_
  unfold b__law_signs_judged
  simp [isT_tp]
theorem sig_list (xs : List D) : Sig p ps (.list xs) := by
  refine sig_of ?_ fun P A => ?_
  · refine gets_den rfl rfl ?_
    unfold b_is_signs_form
    simp
  · refine gets_den rfl rfl ?_
    unfold b__law_signs_judged
    simp
theorem sig_none : Sig p ps .none := by
  refine sig_of ?_ fun P A => ?_
  · refine gets_den rfl rfl ?_
    unfold b_is_signs_form
    simp
  · refine gets_den rfl rfl ?_
    unfold b__law_signs_judged
    simp
theorem sig_int (i : Int) : Sig p ps (.int i) := by
  refine sig_of ?_ fun P A => ?_
  · refine gets_den rfl rfl ?_
    unfold b_is_signs_form
    simp
  · refine gets_den rfl rfl ?_
    unfold b__law_signs_judged
    simp
theorem eq_one {d : D} (h : SeqAt.shaped (.tuple [d]) = true) (h2 : noDict d = true) : gEq (.tuple [d]) (.tuple []) = some (.bool false) := by
  show gEqD _ _ = _
  unfold gEqD
  have e1 : noDict (.tuple [d]) = true := by
    show (noDict d && true) = true
    rw [h2]; rfl
  rw [h, e1]
  rfl
/-- a row of one thing that is no pair of signs -/
theorem sig_one {d : D} (h : SeqAt.shaped (.tuple [d]) = true) (h2 : noDict d = true) (h3 : gets (den_is_sign_pair [.d d] none) fun r so => so = none ∧ r = .bool false) (h4 : ∀ P A, gets (den__law_signs_judged [.d P, .d A, .d (.tuple [d])] none) fun d so => so = none ∧ d = form) : Sig p ps (.tuple [d]) := by
  refine sig_of ?_ h4
  refine gets_den rfl rfl ?_
  unfold b_is_signs_form
  simp
  rw [wp_opt (eq_one h h2)]
  simp
  refine runC_enc id (fun _ => true) (fun _ => .bool false) [d] [] (sizeLine_ge (by simp)) ?_ ?_
  · intro e he
    simp at he
    subst he
    refine ⟨_, rfl, ?_⟩
    simp
    refine wp_call ?_
    simp
    refine gets_mono h3 ?_
    rintro _ _ ⟨rfl, rfl⟩
    simp
  · simp [filter_yes]
theorem law_one {d : D} (h : SeqAt.shaped (.tuple [d]) = true) (h2 : noDict d = true) {P A : D} (k : ∀ x : Fl → S → Prop, x (.rt form) ⟨[.d P, .d A, .d (.tuple [d]), .d d, .un, .un, .un, .un, .un], none⟩ → wp (mIf (mOr (mNot (mB (mIsi "tuple" (mVar 3)))) (mOr (mB (mOp2 gNe (mArgs gLen (mCons (mVar 3) mNil)) (M.ret (.int 2)))) (mOr (mNot (mB (mCall den__law_is_int (mCons (mOp2 gIx (mVar 3) (M.ret (.int 0))) (mCons (M.ret (.int 0)) (mCons (M.ret (.int 2000)) mNil)))))) (mNot (mB (mCall den__law_is_int (mCons (mOp2 gIx (mVar 3) (M.ret (.int 1))) (mCons (mOp1 gNeg (M.ret (.int 1))) (mCons (M.ret (.int 1)) mNil))))))))) (mRet (mTup (mCons (M.ret (.str "form")) mNil))) mSkip)
    ⟨[.d P, .d A, .d (.tuple [d]), .d d, .un, .un, .un, .un, .un], none⟩ x) : gets (den__law_signs_judged [.d P, .d A, .d (.tuple [d])] none) fun d so => so = none ∧ d = form := by
  refine gets_den rfl rfl ?_
  unfold b__law_signs_judged
  simp
  rw [wp_opt (eq_one h h2)]
  simp
  refine wp_loop1.mpr ⟨_, rfl, ?_⟩
  refine k _ ?_
  simp [goOut]
theorem sig_bool : Sig p ps (.tuple [.tuple [.int 0, .bool true]]) := by
  refine sig_one rfl rfl ?_ fun P A => law_one rfl rfl fun x hx => ?_
  · refine gets_den rfl rfl ?_
    unfold b_is_sign_pair
    simp
    refine wp_call ?_
    simp
    refine gets_mono (t_iscount _) ?_
    rintro _ _ ⟨rfl, rfl⟩
    simp [isC]
    refine wp_call ?_
    simp
    refine gets_mono (t_isint _) ?_
    rintro _ _ ⟨rfl, rfl⟩
    simp
  · simp
    refine wp_call ?_
    simp
    refine gets_mono (lawint_i _ _ _) ?_
    rintro _ _ ⟨rfl, rfl⟩
    simp
    refine wp_call ?_
    simp
    refine gets_mono (t_lawint _ _ _) ?_
    rintro _ _ ⟨rfl, rfl⟩
    simpa using hx
theorem sig_three : Sig p ps (.tuple [.tuple [.int 0, .int 1, .int 2]]) := by
  refine sig_one rfl rfl ?_ fun P A => law_one rfl rfl fun x hx => ?_
  · refine gets_den rfl rfl ?_
    unfold b_is_sign_pair
    simp
  · simpa using hx
theorem sig_lst : Sig p ps (.tuple [.list [.int 0, .int 1]]) := by
  refine sig_one rfl rfl ?_ fun P A => law_one rfl rfl fun x hx => ?_
  · refine gets_den rfl rfl ?_
    unfold b_is_sign_pair
    simp
  · simpa using hx
/-! what is told -/
theorem t_signs_of (T : One p ps) : ∃ N : Nat, N ≤ 35 ∧ ST p ps N = true ∧ (∀ n, n < N → ST p ps n = false) ∧ (∀ n, N ≤ n → SG p ps n = SG p ps N) ∧ gets (den_signs_of [.d (.int p), .d (tp ps)] none) fun d so => so = none ∧ d = tp (chg (SG p ps) N) := by
  obtain ⟨N, h4, h5, h6⟩ := first (ST p ps) 35 (st_some T.gd T.p2)
  have h2 := T.p2
  have h3 := T.p3
  exact ⟨N, h4, h5, h6, fun n hn => st_sg T.gd.nice (by omega) hn h5, t_signs (dg := den_sign_at) (dt := den_is_settled) (st := ST p ps) (by omega) (fun n hn => sg_prog T.gd h2 h3 (by omega)) (fun n hn => st_prog T.gd h2 h3 (by omega)) h6 h5⟩
def okz : List (Int × Int) → Bool
  | [] => true
  | q :: r => ((q :: r).zip r).all fun z => st2 z.1 z.2
theorem okz_cons {q a : Int × Int} {r : List (Int × Int)} : okz (q :: a :: r) = (st2 q a && okz (a :: r)) := rfl
theorem okz_snoc {l y : Int × Int} (h : st2 l y = true) : ∀ pr : List (Int × Int), okz (pr ++ [l]) = true → okz (pr ++ [l] ++ [y]) = true
  | [], _ => by
    show (st2 l y && true) = true
    rw [h]; rfl
  | [q], k => by
    have k : (st2 q l && okz [l]) = true := k
    rw [Bool.and_eq_true] at k
    show (st2 q l && okz ([] ++ [l] ++ [y])) = true
    rw [k.1, okz_snoc h [] k.2]; rfl
  | q :: a :: pr, k => by
    have k : (st2 q a && okz (a :: pr ++ [l])) = true := k
    rw [Bool.and_eq_true] at k
    show (st2 q a && okz (a :: pr ++ [l] ++ [y])) = true
    rw [k.1, okz_snoc h (a :: pr) k.2]; rfl
theorem chg_okz (sg : Nat → Int) : ∀ N, okz (chg sg N) = true
  | 0 => rfl
  | N + 1 => by
    rw [chg_succ]
    have ih := chg_okz sg N
    by_cases h : sg (N + 1) ≠ sg N
    · rw [if_pos h]
      obtain ⟨pr, t, e⟩ := chg_last sg N
      have ht := chg_at sg N (t, sg N) (by rw [e]; simp)
      rw [e] at ih ⊢
      refine okz_snoc ?_ pr ih
      unfold st2
      rw [Bool.and_eq_true, decide_eq_true_eq, decide_eq_true_eq]
      refine ⟨?_, fun z => h z.symm⟩
      show t < ((N + 1 : Nat) : Int)
      simp at ht
      omega
    · rw [if_neg h, List.append_nil]
      exact ih
theorem chg_head (sg : Nat → Int) : ∀ N, ∃ r, chg sg N = (0, sg 0) :: r
  | 0 => ⟨[], rfl⟩
  | N + 1 => by
    obtain ⟨r, e⟩ := chg_head sg N
    rw [chg_succ, e]
    exact ⟨_, rfl⟩
theorem chg_val (sg : Nat → Int) : ∀ N, ∀ q ∈ chg sg N, ∃ n, q.2 = sg n
  | 0, q, h => by unfold chg at h; simp at h; subst h; exact ⟨0, rfl⟩
  | N + 1, q, h => by
    rw [chg_succ] at h
    rcases List.mem_append.mp h with h | h
    · exact chg_val sg N q h
    · split at h
      · simp at h; subst h; exact ⟨N + 1, rfl⟩
      · cases h
theorem sgn_one (x : Int) : -1 ≤ sgn x ∧ sgn x ≤ 1 := by unfold sgn; split <;> split <;> omega
theorem chg_okF {N : Nat} (hN : N ≤ 35) : okF (chg (SG p ps) N) = true := by
  have hz := chg_okz (SG p ps) N
  have ha := chg_at (SG p ps) N
  have hv := chg_val (SG p ps) N
  obtain ⟨r, e⟩ := chg_head (SG p ps) N
  have hs : (chg (SG p ps) N).all sp = true := List.all_eq_true.mpr fun q hq => by
    obtain ⟨n, h1⟩ := hv q hq
    have h2 := ha q hq
    have h3 := sgn_one (val (p ^ n) (lo ps) ps)
    have h4 : q.2 = sgn (val (p ^ n) (lo ps) ps) := h1
    unfold sp
    simp
    omega
  rw [e] at hs hz ⊢
  rw [okF_cons, hs]
  simpa [okz] using hz
theorem due_right (T : One p ps) {N : Nat} (hN : N ≤ 35) (h5 : ST p ps N = true) (h6 : ∀ n, n < N → ST p ps n = false) (hc : ∀ n, N ≤ n → SG p ps n = SG p ps N) : gets (den_judge_signs [.d (.int p), .d (tp ps), .d (tp (chg (SG p ps) N))] none) fun d so => so = none ∧ d = .none := by
  have hf : okF (chg (SG p ps) N) = true := chg_okF hN
  obtain ⟨asc, hsp, c0, r0, hr0⟩ := okF_is hf
  obtain ⟨pr, t, hp⟩ := chg_last (SG p ps) N
  have ha := chg_at (SG p ps) N
  have hl := chg_len (SG p ps) N
  have ht := ha (t, SG p ps N) (by rw [hp]; simp)
  simp at ht
  obtain ⟨E, hE⟩ := ends_of T (t := t) (by omega) (by omega)
  have told : ∀ n : Nat, pre (chg (SG p ps) N) (n + 1) = SG p ps n := fun n => by
    obtain ⟨p1, t1, e1⟩ := fl_told hr0 asc n
    obtain ⟨p2, t2, e2⟩ := chg_told hc n
    have e2 : fl n (chg (SG p ps) N) = p2 ++ [(t2, SG p ps n)] := e2
    rw [e1] at e2
    have := (List.append_inj' e2 rfl).2
    simp at this
    exact this.2
  have lp := asc_last (hp ▸ asc)
  rw [← hp] at lp
  have last : pre (chg (SG p ps) N) E = SG p ps E := by
    rw [← told E]
    show _ = (getI (chg (SG p ps) N) E).getD (pre (chg (SG p ps) N) E)
    rw [getI_no fun q hq => by have := lp q hq; have := hE.more; omega]
    rfl
  have all : ∀ k i : Nat, k + i = E → jz p ps (chg (SG p ps) N) k i = .none := by
    intro k
    induction k with
    | zero =>
      intro i e
      have : i = E := by omega
      subst this
      rw [jz0, if_pos last.symm]
    | succ k ih =>
      intro i e
      rw [jz1, if_pos (told i).symm]
      exact ih (i + 1) (by omega)
  refine gets_mono (t_judge_signs T.gd T.p2 T.p3 (by omega) hp fun _ => hE) ?_
  rintro _ _ ⟨rfl, rfl⟩
  refine ⟨rfl, ?_⟩
  unfold JZ
  rw [if_pos hf, all E 0 rfl]
end
end K56
set_option maxHeartbeats 4000000
namespace K56
open PySem L2 DL
def cutP (ds : List (Int × Int)) (l h : Option Int) : List (Int × Int) := (ds.drop (HT.sIx (pp ds).length 0 l)).take (HT.sIx (pp ds).length (pp ds).length h - HT.sIx (pp ds).length 0 l)
theorem cutP_is (ds : List (Int × Int)) (l h : Option Int) : gCut l h (tp ds) = some (tp (cutP ds l h)) := by
  show some (PyData.tuple (cutD (pp ds) l h)) = some (.tuple (pp (cutP ds l h)))
  unfold cutD cutP
  generalize HT.sIx (pp ds).length 0 l = x
  generalize HT.sIx (pp ds).length (pp ds).length h - x = y
  unfold pp
  rw [List.map_take, List.map_drop]
theorem cutP_sub {ds : List (Int × Int)} {l h : Option Int} : (∀ q ∈ cutP ds l h, q ∈ ds) ∧ (cutP ds l h).length ≤ ds.length := by
  unfold cutP
  refine ⟨fun q hq => List.mem_of_mem_drop (List.mem_of_mem_take hq), ?_⟩
  rw [List.length_take, List.length_drop]
  omega
section
variable {s : S} {Q : D → S → Prop}
@[simp] theorem wp_cutTp {l h : Option Int} {ds : List (Int × Int)} : wp (M.opt (gCut l h (tp ds))) s Q ↔ Q (tp (cutP ds l h)) s := wp_opt (cutP_is ds l h)
@[simp] theorem wp_addTp {xs ys : List (Int × Int)} : wp (M.opt (gAdd (tp xs) (tp ys))) s Q ↔ xs.length + ys.length ≤ sizeLine ∧ Q (tp (xs ++ ys)) s := by
  unfold tp
  rw [wp_catT, ← pp_append]
  unfold pp
  rw [List.length_map, List.length_map]
@[simp] theorem wp_addOne {xs : List (Int × Int)} {a b : Int} : wp (M.opt (gAdd (tp xs) (.tuple [.tuple [.int a, .int b]]))) s Q ↔ xs.length + 1 ≤ sizeLine ∧ Q (tp (xs ++ [(a, b)])) s := wp_addTp (ys := [(a, b)])
end
section
variable {p : Int} {ps : List (Int × Int)}
theorem sig_near (T : One p ps) {rs : List (Int × Int)} (hl : rs.length < 500) (hb : ∀ q ∈ rs, q.1 ≤ 50 ∨ 2000 < q.1) : Sig p ps (tp rs) := by
  by_cases hn : rs = []
  · subst hn; exact sig_nil
  · exact sig_tp T hn hl hb
theorem t_sign_things (T : One p ps) {u : Src} {ds pr : List (Int × Int)} {t c : Int} (hp : ds = pr ++ [(t, c)]) (hl : ds.length ≤ 40) (hb : ∀ q ∈ ds, 0 ≤ q.1 ∧ q.1 ≤ 40) : gets (den__law_sign_things [.src, .d (tp ds)] (some u)) fun d so => ∃ u' vs, so = some u' ∧ d = .list vs ∧ vs ≠ [] ∧ vs.length < 2 ^ 60 ∧ ∀ v ∈ vs, Sig p ps v := by
  refine gets_den rfl rfl ?_
  unfold b__law_sign_things
  have h0 : 1 ≤ ds.length := by rw [hp]; simp
  have elen : gLen [tp ds] = some (.int (ds.length : Int)) := by
    show some (PyData.int ((pp ds).length : Int)) = _
    unfold pp
    rw [List.length_map]
  simp
  refine wp_callS rfl ?_
  simp
  refine (wp_opt elen).mpr ?_
  simp
  refine gets_mono (t_pick (by omega) (by omega)) ?_
  rintro _ _ ⟨u', r, rfl, rfl, r0, r1⟩
  obtain ⟨j, rfl⟩ : ∃ j : Nat, r = (j : Int) := ⟨r.toNat, by omega⟩
  have hj : j < ds.length := by omega
  have ej : gIx (tp ds) (.int (j : Int)) = some (enc2 ds[j]) := by
    show atI (pp ds) (j : Int) = _
    refine atI_nat ?_
    unfold pp
    rw [List.getElem?_map, List.getElem?_eq_getElem hj]
    rfl
  have hm := hb ds[j] (List.getElem_mem hj)
  rw [wp_opt ej]
  generalize ds[j] = q at hm ⊢
  obtain ⟨n, sg⟩ := q
  unfold enc2
  have c1 := cutP_sub (ds := ds) (l := none) (h := some (j : Int))
  have c2 := cutP_sub (ds := ds) (l := some ((j : Int) + 1)) (h := none)
  have c3 := cutP_sub (ds := ds) (l := none) (h := some (-1))
  have c4 := cutP_sub (ds := ds) (l := some 1) (h := none)
  have c5 := cutP_sub (ds := ds) (l := some (-1)) (h := none)
  simp
  refine ⟨by omega, by omega, by omega, by omega, _, rfl, ?_⟩
  simp [wp_ixLast hp]
  have sub : ∀ es : List (Int × Int), (∀ q ∈ es, q ∈ ds) → es.length ≤ 100 → Sig p ps (tp es) := fun es h1 h2 => sig_near T (by omega) fun q hq => by have := hb q (h1 q hq); omega
  have mid : ∀ (xs zs : List (Int × Int)) (y : Int × Int), (∀ q ∈ xs, q ∈ ds) → (∀ q ∈ zs, q ∈ ds) → y.1 ≤ 50 → xs.length ≤ 100 → zs.length ≤ 100 → Sig p ps (tp (xs ++ y :: zs)) := fun xs zs y h1 h2 h3 h4 h5 => by
    refine sig_near T (by rw [List.length_append, List.length_cons]; omega) fun q hq => ?_
    rcases List.mem_append.mp hq with h | h
    · have := hb q (h1 q h); omega
    · rcases List.mem_cons.mp h with e | h
      · rw [e]; exact .inl h3
      · have := hb q (h2 q h); omega
  have ht := hb (t, c) (by rw [hp]; simp)
  have same : ∀ q ∈ ds, q ∈ ds := fun q h => h
  simp at ht hm
  refine ⟨by omega, by omega, sub _ same (by omega), mid _ _ _ c1.1 c2.1 (by simp; omega) (by omega) (by omega), mid _ _ _ c1.1 c2.1 (by simp; omega) (by omega) (by omega), sub _ c3.1 (by omega), sub _ c4.1 (by omega), sig_list _, ?_⟩
  rintro a ((rfl | rfl | rfl | rfl | rfl | rfl | rfl) | rfl | rfl | rfl | rfl | rfl | rfl | rfl | rfl)
  · exact mid _ [] _ same (fun q h => nomatch h) (by simp; omega) (by omega) (by simp)
  · refine sub _ (fun q hq => ?_) (by rw [List.length_append]; omega)
    rcases List.mem_append.mp hq with h | h
    · exact h
    · exact c5.1 q h
  · exact sig_near T (rs := [(0, 1)]) (by decide) (by decide)
  · exact sig_near T (rs := [(0, 2)]) (by decide) (by decide)
  · exact sig_bool
  · exact sig_near T (rs := [(1, 1)]) (by decide) (by decide)
  · exact sig_none
  · exact sig_near T (rs := [(0, 0)]) (by decide) (by decide)
  · exact sig_three
  · exact sig_lst
  · exact sig_near T (rs := [(0, 1), (3, 1)]) (by decide) (by decide)
  · exact sig_near T (rs := [(0, 1), (0, -1)]) (by decide) (by decide)
  · exact sig_near T (rs := [(0, -1), (2001, 1)]) (by decide) (by decide)
  · exact sig_int 7
  · exact sig_near T (rs := [(0, 0), (20, 1)]) (by decide) (by decide)
end
end K56
set_option maxHeartbeats 4000000
namespace K56
open PySem L2 DL
/-! ### the law -/
noncomputable def b_body8 : MS := (mSeq (mSet 9 (mArgs gRepr (mCons (mVar 8) mNil))) (mIf (mOr (mB (mOp2 gNe (mArgs gRepr (mCons (mCall den_judge_most (mCons (mVar 3) (mCons (mVar 4) (mCons (mVar 5) (mCons (mVar 8) mNil))))) mNil)) (mArgs gRepr (mCons (mCall den__law_judged (mCons (mVar 3) (mCons (mVar 4) (mCons (mVar 5) (mCons (mVar 8) mNil))))) mNil)))) (mB (mOp2 gNe (mArgs gRepr (mCons (mVar 8) mNil)) (mVar 9)))) (mRet (M.ret (.bool false))) mSkip))
noncomputable def b_for8 : MS := (mFor (mSeqI (mOp2 gAdd (mSeal (mLst (mCons (mVar 6) mNil))) (mSeal (mLc [7] (mRange1 (mCons (M.ret (.int 7)) mNil)) (mName 7) mYes (mCallS den__law_of 1 (mCons (mCallS den__law_answers 1 (mCons (mVar 3) (mCons (mVar 4) (mCons (mVar 5) mNil)))) mNil)))))) (mName 8) b_body8)
noncomputable def b_body7 : MS := (mSeq (mSet 8 (mCallS den__law_of 1 (mCons (mCallS den__law_sign_things 1 (mCons (mVar 11) mNil)) mNil))) (mIf (mB (mOp2 gNe (mArgs gRepr (mCons (mCall den_judge_signs (mCons (mVar 3) (mCons (mVar 10) (mCons (mVar 8) mNil)))) mNil)) (mArgs gRepr (mCons (mCall den__law_signs_judged (mCons (mVar 3) (mCons (mVar 10) (mCons (mVar 8) mNil)))) mNil)))) (mRet (M.ret (.bool false))) mSkip))
noncomputable def b_for7 : MS := (mFor (mRange1 (mCons (M.ret (.int 6)) mNil)) (mName 7) b_body7)
noncomputable def b_mid : MS := (mSeq (mSet 10 (mCall den__law_less (mCons (mVar 4) (mCons (mVar 5) mNil)))) (mSeq (mSet 11 (mCall den_signs_of (mCons (mVar 3) (mCons (mVar 10) mNil)))) (mSeq (mIf (mOr (mB (mOp2 gNotN (mCall den_judge_most (mCons (mVar 3) (mCons (mVar 4) (mCons (mVar 5) (mCons (mVar 6) mNil))))) (M.ret .none))) (mB (mOp2 gNotN (mCall den_judge_signs (mCons (mVar 3) (mCons (mVar 10) (mCons (mVar 11) mNil)))) (M.ret .none)))) (mRet (M.ret (.bool false))) mSkip) b_for7)))
noncomputable def b_lap : MS := (mSeq (mAsg (mTup (mCons (mOp2 gAdd (M.ret (.int 2)) (mCallS den__law_pick 1 (mCons (M.ret (.int 2)) mNil))) (mCons (mCallS den__law_powers 1 mNil) (mCons (mCallS den__law_powers 1 mNil) mNil)))) (mGTup 3 (mGCons (mName 3) (mGCons (mName 4) (mGCons (mName 5) mGNil))))) (mSeq (mIf (mB (mOp2 gEq (mCallS den__law_pick 1 (mCons (M.ret (.int 2)) mNil)) (M.ret (.int 0)))) (mSet 5 (mCall den__law_less (mCons (mVar 4) (mCons (mCallS den__law_rooted 1 (mCons (mVar 3) mNil)) mNil)))) mSkip) (mSeq (mSet 6 (mCall den_most_answer (mCons (mVar 3) (mCons (mVar 4) (mCons (mVar 5) mNil))))) (mSeq b_for8 b_mid))))
theorem law_eq : b_law = mSeq (mNewSrc 1 0 den__law_source) (mSeq (mFor (mRange1 (mCons (M.ret (.int 3)) mNil)) (mName 2) b_lap) (mRet (M.ret (.bool true)))) := rfl
section
variable {ns : List Int} {u : Src} {p : Int} {a b ps : List (Int × Int)} {x2 x3 x4 x5 x6 x7 x8 x9 x10 x11 : SV} {Q : Fl → S → Prop}
theorem t_body8 {v : D} (h : Ans p a b v) (k : ∀ x9, Q .nx ⟨[.scr ns, .src, x2, .d (.int p), .d (tp a), .d (tp b), x6, x7, .d v, x9, x10, x11], some u⟩) :
    wp b_body8 ⟨[.scr ns, .src, x2, .d (.int p), .d (tp a), .d (tp b), x6, x7, .d v, x9, x10, x11], some u⟩ Q := by
  obtain ⟨hs, r, hr, h1, h2⟩ := h
  unfold b_body8
  simp
  refine (wp_opt hs).mpr ?_
  simp
  refine wp_call ?_
  simp
  refine gets_mono h1 ?_
  rintro _ _ ⟨rfl, rfl⟩
  refine ⟨rfl, ?_⟩
  refine (wp_opt hr).mpr ?_
  simp
  refine wp_call ?_
  simp
  refine gets_mono h2 ?_
  rintro _ _ ⟨rfl, rfl⟩
  refine ⟨rfl, ?_⟩
  refine (wp_opt hr).mpr ?_
  simp
  refine (wp_opt hs).mpr ?_
  simp
  exact k _
theorem t_body7 (T : One p ps) {ds pr : List (Int × Int)} {t c : Int} (hp : ds = pr ++ [(t, c)]) (hl : ds.length ≤ 40) (hb : ∀ q ∈ ds, 0 ≤ q.1 ∧ q.1 ≤ 40) (k : ∀ u x8, Q .nx ⟨[.scr ns, .src, x2, .d (.int p), x4, x5, x6, x7, x8, x9, .d (tp ps), .d (tp ds)], some u⟩) :
    wp b_body7 ⟨[.scr ns, .src, x2, .d (.int p), x4, x5, x6, x7, x8, x9, .d (tp ps), .d (tp ds)], some u⟩ Q := by
  unfold b_body7
  simp
  refine wp_callS rfl ?_
  simp
  refine wp_callS rfl ?_
  simp
  refine gets_mono (t_sign_things T hp hl hb) ?_
  rintro _ _ ⟨u', vs, rfl, rfl, e1, e2, e3⟩
  refine gets_mono (t_of e1 e2) ?_
  rintro v _ ⟨u', rfl, hv⟩
  obtain ⟨r, hr, h1, h2⟩ := e3 v hv
  refine wp_call ?_
  simp
  refine gets_mono h1 ?_
  rintro _ _ ⟨rfl, rfl⟩
  refine ⟨rfl, ?_⟩
  refine (wp_opt hr).mpr ?_
  simp
  refine wp_call ?_
  simp
  refine gets_mono h2 ?_
  rintro _ _ ⟨rfl, rfl⟩
  refine ⟨rfl, ?_⟩
  refine (wp_opt hr).mpr ?_
  simp
  exact k _ _
end
end K56
set_option maxHeartbeats 4000000
namespace K56
open PySem L2 DL
theorem runC_inv {own : List Nat} {g : G} {ft : M Bool} {fe : M D} {Q : List D → S → Prop} (I : List D → List D → S → Prop) (step : ∀ d ds acc s, I (d :: ds) acc s → ∃ s1, g d s = some s1 ∧ wp ft s1 fun b s2 => if b = true then wp fe s2 fun x s3 => acc.length < sizeLine ∧ I ds (acc ++ [x]) (s3.wipe own) else I ds acc (s2.wipe own))
    (stop : ∀ acc s, I [] acc s → Q acc s) : ∀ (ds acc : List D) (s : S), I ds acc s → runC own g ft fe ds acc s Q := by
  intro ds
  induction ds with
  | nil => intro acc s h; exact runC_nil.mpr (stop acc s h)
  | cons d ds ih =>
    intro acc s h
    obtain ⟨s1, e, w⟩ := step d ds acc s h
    refine runC_cons ⟨s1, e, wp_mono w fun b s2 w2 => ?_⟩
    cases b with
    | false =>
      rw [if_neg Bool.false_ne_true] at w2 ⊢
      exact ih _ _ w2
    | true =>
      rw [if_pos rfl] at w2 ⊢
      exact wp_mono w2 fun x s3 ⟨h1, h2⟩ => ⟨h1, ih _ _ h2⟩
section
variable {ns : List Int} {u : Src} {p : Int} {a b ps : List (Int × Int)} {x2 x3 x4 x5 x6 x7 x8 x9 x10 x11 : SV} {Q : Fl → S → Prop}
theorem t_for8 (T : Two p a b) {v0 : D} (h0 : Ans p a b v0) (k : ∀ u x7 x8 x9, Q .nx ⟨[.scr ns, .src, x2, .d (.int p), .d (tp a), .d (tp b), .d v0, x7, x8, x9, x10, x11], some u⟩) :
    wp b_for8 ⟨[.scr ns, .src, x2, .d (.int p), .d (tp a), .d (tp b), .d v0, x7, x8, x9, x10, x11], some u⟩ Q := by
  unfold b_for8
  generalize eb : b_body8 = body
  simp
  refine runC_inv (fun ds acc s => ∃ (u : Src) (x7 : SV), (∀ v ∈ acc, Ans p a b v) ∧ acc.length + ds.length ≤ 7 ∧ s = ⟨[.scr ns, .src, x2, .d (.int p), .d (tp a), .d (tp b), .d v0, x7, x8, x9, x10, x11], some u⟩) ?_ ?_ _ _ _ ⟨u, .un, by simp, by simp [rangeD_length], rfl⟩
  · rintro d ds acc s ⟨u, x7, h1, h2, rfl⟩
    refine ⟨_, rfl, ?_⟩
    simp
    refine wp_callS rfl ?_
    simp
    refine wp_callS rfl ?_
    simp
    refine gets_mono (t_answers T) ?_
    rintro _ _ ⟨u', vs, rfl, rfl, e1, e2, e3⟩
    refine gets_mono (t_of e1 e2) ?_
    rintro v _ ⟨u', rfl, hv⟩
    simp at h2
    refine ⟨?_, ?_⟩
    · omega
    · refine ⟨?_, by omega, _, rfl⟩
      rintro w (h | h)
      · exact h1 w h
      · rw [h]; exact e3 v hv
  · rintro acc s ⟨u, x7, h1, h2, rfl⟩
    skip
    simp at h2
    refine ⟨by omega, ?_⟩
    have h3 : ∀ v ∈ v0 :: acc, Ans p a b v := fun v hv => by
      rcases List.mem_cons.mp hv with e | h
      · rw [e]; exact h0
      · exact h1 v h
    generalize v0 :: acc = vs at h3 ⊢
    refine wp_loop (fun ds s => ∃ (u : Src) (x8 x9 : SV), (∀ v ∈ ds, Ans p a b v) ∧ s = ⟨[.scr ns, .src, x2, .d (.int p), .d (tp a), .d (tp b), .d v0, x7, x8, x9, x10, x11], some u⟩) ?_ ?_ _ _ ⟨u, x8, x9, h3, rfl⟩
    · rintro d ds s ⟨u, x8, x9, h4, rfl⟩
      refine ⟨_, rfl, ?_⟩
      subst eb
      exact t_body8 (h4 d List.mem_cons_self) fun x9 => ⟨u, _, x9, fun v hv => h4 v (List.mem_cons_of_mem _ hv), rfl⟩
    · rintro s ⟨u, x8, x9, h4, rfl⟩
      exact k _ _ _ _
theorem t_for7 (T : One p ps) {ds pr : List (Int × Int)} {t c : Int} (hp : ds = pr ++ [(t, c)]) (hl : ds.length ≤ 40) (hb : ∀ q ∈ ds, 0 ≤ q.1 ∧ q.1 ≤ 40) (k : ∀ u x7 x8, Q .nx ⟨[.scr ns, .src, x2, .d (.int p), x4, x5, x6, x7, x8, x9, .d (tp ps), .d (tp ds)], some u⟩) :
    wp b_for7 ⟨[.scr ns, .src, x2, .d (.int p), x4, x5, x6, x7, x8, x9, .d (tp ps), .d (tp ds)], some u⟩ Q := by
  unfold b_for7
  generalize eb : b_body7 = body
  simp
  refine wp_loop (fun _ s => ∃ (u : Src) (x7 x8 : SV), s = ⟨[.scr ns, .src, x2, .d (.int p), x4, x5, x6, x7, x8, x9, .d (tp ps), .d (tp ds)], some u⟩) ?_ ?_ _ _ ⟨u, x7, x8, rfl⟩
  · rintro d ds s ⟨u, x7, x8, rfl⟩
    refine ⟨_, rfl, ?_⟩
    subst eb
    exact t_body7 T hp hl hb fun u x8 => ⟨u, _, x8, rfl⟩
  · rintro s ⟨u, x7, x8, rfl⟩
    exact k _ _ _
theorem t_mid (T : Two p a b) {v0 : D} (h0 : gets (den_judge_most [.d (.int p), .d (tp a), .d (tp b), .d v0] none) fun d so => so = none ∧ d = .none) (k : ∀ u x7 x8 x10 x11, Q .nx ⟨[.scr ns, .src, x2, .d (.int p), .d (tp a), .d (tp b), .d v0, x7, x8, x9, x10, x11], some u⟩) :
    wp b_mid ⟨[.scr ns, .src, x2, .d (.int p), .d (tp a), .d (tp b), .d v0, x7, x8, x9, x10, x11], some u⟩ Q := by
  unfold b_mid
  generalize eb : b_for7 = loop
  have la := T.a.len
  have lb := T.b.len
  have hw : Sm 30 (Df a b) := df_sm T.a T.b (by decide)
  have O : One p (Df a b) := ⟨hw.gd (by decide), T.p2, T.p3⟩
  obtain ⟨N, hN, h5, h6, hc, hg⟩ := t_signs_of O
  simp
  refine wp_call ?_
  simp
  refine gets_mono (t_law_less (asc_nd T.a.asc) (by omega)) ?_
  rintro _ _ ⟨rfl, rfl⟩
  refine ⟨rfl, ?_⟩
  refine wp_call ?_
  simp
  refine gets_mono hg ?_
  rintro _ _ ⟨rfl, rfl⟩
  refine ⟨rfl, ?_⟩
  refine wp_call ?_
  simp
  refine gets_mono h0 ?_
  rintro _ _ ⟨rfl, rfl⟩
  refine ⟨rfl, ?_⟩
  skip
  refine wp_call ?_
  simp
  refine gets_mono (due_right O hN h5 h6 hc) ?_
  rintro _ _ ⟨rfl, rfl⟩
  refine ⟨rfl, ?_⟩
  obtain ⟨pr, t, hp⟩ := chg_last (SG p (Df a b)) N
  subst eb
  exact t_for7 O hp (by have := chg_len (SG p (Df a b)) N; omega) (fun q hq => by have := chg_at (SG p (Df a b)) N q hq; omega) fun u x7 x8 => k _ _ _ _ _
theorem t_lap (k : ∀ u x3 x4 x5 x6 x7 x8 x9 x10 x11, Q .nx ⟨[.scr ns, .src, x2, x3, x4, x5, x6, x7, x8, x9, x10, x11], some u⟩) :
    wp b_lap ⟨[.scr ns, .src, x2, x3, x4, x5, x6, x7, x8, x9, x10, x11], some u⟩ Q := by
  unfold b_lap
  generalize eb : b_for8 = loop
  generalize ec : b_mid = rest
  simp
  refine wp_callS rfl ?_
  simp
  refine gets_mono (t_pick (by decide) (by decide)) ?_
  rintro _ _ ⟨u', r, rfl, rfl, r0, r1⟩
  simp
  refine wp_callS rfl ?_
  simp
  refine gets_mono t_powers ?_
  rintro _ _ ⟨u', a, rfl, rfl, ga, sa, la⟩
  refine wp_callS rfl ?_
  simp
  refine gets_mono t_powers ?_
  rintro _ _ ⟨u', b, rfl, rfl, gb, sb, lb⟩
  have Sa : Sm 7 a := ⟨ga.asc, ga.nz, fun q hq => ⟨(sa q hq).1, (sa q hq).2.1⟩, fun q hq => (sa q hq).2.2⟩
  have Sb : Sm 7 b := ⟨gb.asc, gb.nz, fun q hq => ⟨(sb q hq).1, (sb q hq).2.1⟩, fun q hq => (sb q hq).2.2⟩
  skip
  refine wp_callS rfl ?_
  simp
  refine gets_mono (t_pick (by decide) (by decide)) ?_
  rintro _ _ ⟨u', w, rfl, rfl, w0, w1⟩
  simp
  have fin : ∀ {u b}, Sm 25 b → wp (mSeq (mSet 6 (mCall den_most_answer (mCons (mVar 3) (mCons (mVar 4) (mCons (mVar 5) mNil))))) (mSeq loop rest)) ⟨[.scr ns, .src, x2, .d (.int (2 + r)), .d (tp a), .d (tp b), x6, x7, x8, x9, x10, x11], some u⟩ Q := fun {u b} hb => by
    have T : Two (2 + r) a b := ⟨Sa.mono (by decide), hb, by omega, by omega⟩
    obtain ⟨v0, h1, h2, h3⟩ := ans_told T
    simp
    refine wp_call ?_
    simp
    refine gets_mono h1 ?_
    rintro _ _ ⟨rfl, rfl⟩
    refine ⟨rfl, ?_⟩
    subst eb ec
    refine t_for8 T h2 fun u x7 x8 x9 => ?_
    simp
    exact t_mid T h3 fun u x7 x8 x10 x11 => k _ _ _ _ _ _ _ _ _ _
  by_cases hw : w = 0
  · simp [hw]
    refine wp_call ?_
    simp
    refine wp_callS rfl ?_
    simp
    refine gets_mono (t_rooted (by omega) (by omega)) ?_
    rintro _ _ ⟨u', rs, rfl, rfl, hg, hs⟩
    have Sr : Sm 21 rs := ⟨hg.asc, hg.nz, fun q hq => by have := hs q hq; omega, fun q hq => (hs q hq).2.2⟩
    have l1 := Sa.len
    have l2 := Sr.len
    refine gets_mono (t_law_less (asc_nd Sa.asc) (by omega)) ?_
    rintro _ _ ⟨rfl, rfl⟩
    refine ⟨rfl, ?_⟩
    have := @fin u' (Df a rs) ((df_sm Sa Sr (C := 22) (by decide)).mono (by decide))
    simpa using this
  · simp [hw]
    have := @fin u' b (Sb.mono (by decide))
    simpa using this
end
theorem fact (ns : List Int) (hl : ns.length ≤ 63) : ∃ s', b_law ⟨.scr ns :: List.replicate 11 .un, none⟩ = some (.ok (.rt (.bool true)) s') := by
  obtain ⟨u, hu⟩ := t_source ns hl
  have w : wp b_law ⟨.scr ns :: List.replicate 11 .un, none⟩ fun fl _ => fl = .rt (.bool true) := by
    rw [law_eq]
    generalize eb : b_lap = lap
    simp only [wp_seq]
    rw [wp_newSrc (ns := ns) (u := u) rfl rfl hu]
    simp
    refine wp_loop (fun ds s => ∃ u x2 x3 x4 x5 x6 x7 x8 x9 x10 x11, s = ⟨[.scr ns, .src, x2, x3, x4, x5, x6, x7, x8, x9, x10, x11], some u⟩) ?_ ?_ _ _ ⟨u, .un, .un, .un, .un, .un, .un, .un, .un, .un, .un, rfl⟩
    · rintro d ds s ⟨u, x2, x3, x4, x5, x6, x7, x8, x9, x10, x11, rfl⟩
      refine ⟨_, rfl, ?_⟩
      subst eb
      exact t_lap fun u x3 x4 x5 x6 x7 x8 x9 x10 x11 => ⟨u, _, _, _, _, _, _, _, _, _, _, rfl⟩
    · rintro s ⟨u, x2, x3, x4, x5, x6, x7, x8, x9, x10, x11, rfl⟩
      simp
  obtain ⟨fl, s', e, rfl⟩ := w
  exact ⟨s', e⟩
end K56
open PySem PySem.W PyProof.Rows in
set_option maxRecDepth 100000 in
set_option maxHeartbeats 0 in
theorem PySem.Challenge.cw_mapvalues_k56_claims_judged_holds : PySem.Challenge.rw_mapvalues_k56_claims_judged.Holds := by
  w_on; o_law; k_head; (case hw => w_witness2)
  k_fill
  refine DL.law_walk (l := PySem.Challenge.rw_mapvalues_k56_claims_judged) (n := 63) (k := 6) (x := "script") rfl (by decide) rfl ⟨rfl, by decide, by decide⟩ (fun w h Y => PySem.W.kIn_of Y) ?F
  case F =>
    intro w mg fa h KX G hmg
    refine' K56.all_mk KX G hmg ?a1 ?l1 ?c1 ?k1 ?a2 ?l2 ?c2 ?k2 ?a3 ?l3 ?c3 ?k3 ?a4 ?l4 ?c4 ?k4 ?a5 ?l5 ?c5 ?k5 ?a6 ?l6 ?c6 ?k6 ?a7 ?l7 ?c7 ?k7 ?a8 ?l8 ?c8 ?k8 ?a9 ?l9 ?c9 ?k9 ?a10 ?l10 ?c10 ?k10 ?a11 ?l11 ?c11 ?k11 ?a12 ?l12 ?c12 ?k12 ?a13 ?l13 ?c13 ?k13 ?a14 ?l14 ?c14 ?k14 ?a15 ?l15 ?c15 ?k15 ?a16 ?l16 ?c16 ?k16 ?a17 ?l17 ?c17 ?k17 ?a18 ?l18 ?c18 ?k18 ?a19 ?l19 ?c19 ?k19 ?a20 ?l20 ?c20 ?k20 ?a21 ?l21 ?c21 ?k21 ?a22 ?l22 ?c22 ?k22 ?a23 ?l23 ?c23 ?k23 ?a24 ?l24 ?c24 ?k24 ?a25 ?l25 ?c25 ?k25 ?a26 ?l26 ?c26 ?k26 ?a27 ?l27 ?c27 ?k27 ?a28 ?l28 ?c28 ?k28 ?a29 ?l29 ?c29 ?k29 ?a30 ?l30 ?c30 ?k30 ?a31 ?l31 ?c31 ?k31 ?a32 ?l32 ?c32 ?k32 ?a33 ?l33 ?c33 ?k33 ?a34 ?l34 ?c34 ?k34 ?a35 ?l35 ?c35 ?k35 ?a36 ?l36 ?c36 ?k36 ?a37 ?l37 ?c37 ?k37 ?a38 ?l38 ?c38 ?k38 ?a39 ?l39 ?c39 ?k39 ?a40 ?l40 ?c40 ?k40 ?a41 ?l41 ?c41 ?k41 ?a42 ?l42 ?c42 ?k42 ?a43 ?l43 ?c43 ?k43 ?z_sorted ?z_tuple ?z_range ?z_min ?z_sum ?z_int ?z_abs ?z_isinstance ?z_bool ?z_all ?z_len ?z_str ?z_zip ?z_dict ?z_list ?z_repr ?w_gcd ?w_MOST_STEPS K56.fact
    (case a1 => k_is)
    (case l1 => k_is)
    (case c1 => k_is)
    (case k1 => k_is)
    (case a2 => k_is)
    (case l2 => k_is)
    (case c2 => k_is)
    (case k2 => k_is)
    (case a3 => k_is)
    (case l3 => k_is)
    (case c3 => k_is)
    (case k3 => k_is)
    (case a4 => k_is)
    (case l4 => k_is)
    (case c4 => k_is)
    (case k4 => k_is)
    (case a5 => k_is)
    (case l5 => k_is)
    (case c5 => k_is)
    (case k5 => k_is)
    (case a6 => k_is)
    (case l6 => k_is)
    (case c6 => k_is)
    (case k6 => k_is)
    (case a7 => k_is)
    (case l7 => k_is)
    (case c7 => k_is)
    (case k7 => k_is)
    (case a8 => k_is)
    (case l8 => k_is)
    (case c8 => k_is)
    (case k8 => k_is)
    (case a9 => k_is)
    (case l9 => k_is)
    (case c9 => k_is)
    (case k9 => k_is)
    (case a10 => k_is)
    (case l10 => k_is)
    (case c10 => k_is)
    (case k10 => k_is)
    (case a11 => k_is)
    (case l11 => k_is)
    (case c11 => k_is)
    (case k11 => k_is)
    (case a12 => k_is)
    (case l12 => k_is)
    (case c12 => k_is)
    (case k12 => k_is)
    (case a13 => k_is)
    (case l13 => k_is)
    (case c13 => k_is)
    (case k13 => k_is)
    (case a14 => k_is)
    (case l14 => k_is)
    (case c14 => k_is)
    (case k14 => k_is)
    (case a15 => k_is)
    (case l15 => k_is)
    (case c15 => k_is)
    (case k15 => k_is)
    (case a16 => k_is)
    (case l16 => k_is)
    (case c16 => k_is)
    (case k16 => k_is)
    (case a17 => k_is)
    (case l17 => k_is)
    (case c17 => k_is)
    (case k17 => k_is)
    (case a18 => k_is)
    (case l18 => k_is)
    (case c18 => k_is)
    (case k18 => k_is)
    (case a19 => k_is)
    (case l19 => k_is)
    (case c19 => k_is)
    (case k19 => k_is)
    (case a20 => k_is)
    (case l20 => k_is)
    (case c20 => k_is)
    (case k20 => k_is)
    (case a21 => k_is)
    (case l21 => k_is)
    (case c21 => k_is)
    (case k21 => k_is)
    (case a22 => k_is)
    (case l22 => k_is)
    (case c22 => k_is)
    (case k22 => k_is)
    (case a23 => k_is)
    (case l23 => k_is)
    (case c23 => k_is)
    (case k23 => k_is)
    (case a24 => k_is)
    (case l24 => k_is)
    (case c24 => k_is)
    (case k24 => k_is)
    (case a25 => k_is)
    (case l25 => k_is)
    (case c25 => k_is)
    (case k25 => k_is)
    (case a26 => k_is)
    (case l26 => k_is)
    (case c26 => k_is)
    (case k26 => k_is)
    (case a27 => k_is)
    (case l27 => k_is)
    (case c27 => k_is)
    (case k27 => k_is)
    (case a28 => k_is)
    (case l28 => k_is)
    (case c28 => k_is)
    (case k28 => k_is)
    (case a29 => k_is)
    (case l29 => k_is)
    (case c29 => k_is)
    (case k29 => k_is)
    (case a30 => k_is)
    (case l30 => k_is)
    (case c30 => k_is)
    (case k30 => k_is)
    (case a31 => k_is)
    (case l31 => k_is)
    (case c31 => k_is)
    (case k31 => k_is)
    (case a32 => k_is)
    (case l32 => k_is)
    (case c32 => k_is)
    (case k32 => k_is)
    (case a33 => k_is)
    (case l33 => k_is)
    (case c33 => k_is)
    (case k33 => k_is)
    (case a34 => k_is)
    (case l34 => k_is)
    (case c34 => k_is)
    (case k34 => k_is)
    (case a35 => k_is)
    (case l35 => k_is)
    (case c35 => k_is)
    (case k35 => k_is)
    (case a36 => k_is)
    (case l36 => k_is)
    (case c36 => k_is)
    (case k36 => k_is)
    (case a37 => k_is)
    (case l37 => k_is)
    (case c37 => k_is)
    (case k37 => k_is)
    (case a38 => k_is)
    (case l38 => k_is)
    (case c38 => k_is)
    (case k38 => k_is)
    (case a39 => k_is)
    (case l39 => k_is)
    (case c39 => k_is)
    (case k39 => k_is)
    (case a40 => k_is)
    (case l40 => k_is)
    (case c40 => k_is)
    (case k40 => k_is)
    (case a41 => k_is)
    (case l41 => k_is)
    (case c41 => k_is)
    (case k41 => k_is)
    (case a42 => k_is)
    (case l42 => k_is)
    (case c42 => k_is)
    (case k42 => k_is)
    (case a43 => k_is)
    (case l43 => k_is)
    (case c43 => k_is)
    (case k43 => k_is)
    (case z_sorted => k_is)
    (case z_tuple => k_is)
    (case z_range => k_is)
    (case z_min => k_is)
    (case z_sum => k_is)
    (case z_int => k_is)
    (case z_abs => k_is)
    (case z_isinstance => k_is)
    (case z_bool => k_is)
    (case z_all => k_is)
    (case z_len => k_is)
    (case z_str => k_is)
    (case z_zip => k_is)
    (case z_dict => k_is)
    (case z_list => k_is)
    (case z_repr => k_is)
    (case w_gcd => k_is)
    (case w_MOST_STEPS => k_is)
#print axioms PySem.Challenge.cw_mapvalues_k56_claims_judged_holds

