import PyProof.Rows.All
import Wide.All
import OpenK.AllK
import Wide.FinOn
import HandS.ForMost
import HandS.Exc
import HandS.Evl
import HandS.TupAny
import HandS.TupMul
import HandS.Zip
import HandS.IsInst
import HandS.Conv
import HandS.ExcOwn
import HandS.WordsExc
import HandS.Lambda
import HandS.Flow
import HandS.Style
import KE.KTupSum
import HandS.Deep
import KE.SortData
import HandS.TryMany
import HandS.ExcIs
import HandS.ExcField
import HandS.EndTab
import HandS.SetFor
import KE.DataMinMax
import KE.GoesMore
import KE.GoesEnum
import KE.KRevSl
import KE.DataFind
import HandS.ExcInit
import KE.KExcIs
import HandS.Strs
import PySem.Challenge.RW_loomhouse_k57_whole_warps_wound_by_passe
set_option Elab.async false
set_option linter.all false
set_option maxRecDepth 100000
set_option maxHeartbeats 4000000
/-! Sim layer, part A0: new tuples are known objects (no dict of their own). -/
namespace Sm
open PySem PySem.Spec PyProof.Rows L2 RZ
/-- a new tuple of xs: the object is known -/
def NewT (H : Hp) (xs : List V) (Q : VK) : Prop := ∀ p o, H p = none → o.cls = .type "tuple" → o.dict = none → Q (.ref p) (upd H p (.frz o (.tup xs)))
section
variable {X : Cx} {pins : List (Addr × Obj)} {σ : L2.St} {H : Hp} {s : Shared} {Q : VK} {xs : List V} {its : List Value} {h' : Heap} {n : Nat}
theorem objN {a : Addr} (hg : h'.get? a = some { cls := .type "tuple", data := .seq its.toArray n }) (z : xs.length ≤ sizeLine) (r : Vals xs its) (H' : Hp) : ObjOk X.prog X.w H' h' a (.frz { cls := .type "tuple", data := .seq its.toArray n } (.tup xs)) :=
  ⟨hg, z, its, r, ⟨_, hg, rfl, _, rfl⟩⟩
theorem end_new (I : Inv X pins σ H s) (z : xs.length ≤ sizeLine) (r : Vals xs its) (q : NewT H xs Q) : EP X pins σ Q (.ref s.heap.objs.size) { s with heap := s.heap.push { cls := .type "tuple", data := .seq its.toArray n } } :=
  ⟨.ref s.heap.objs.size, _, I.laid (t' := s.toks) (fun b ob q => Heap.get?_push_of_some _ q) (Nat.le_refl _) (objN (Heap.get?_push_size _ rfl) z r _), rfl, q _ _ (I.hok.fresh (Nat.le_refl _)) rfl rfl⟩
variable {es : List Expr} {t : TA} {pos : Pos}
def tTupN (t : TA) : TE := fun σ H Q => t σ H fun xs H1 => xs.length ≤ sizeLine ∧ NewT H1 xs Q
theorem pe_tupN {x1} (h : PA X es t) : PE X (.Tuple es x1 pos) (tTupN t) := ⟨fun pins s σ H Q I hq =>
  wpAny_Tuple_spliced (thn (h.run pos pins s σ H _ I hq) fun us s1 ⟨xs, H1, I1, r, z, q⟩ => ⟨by rw [← r.length]; exact z, end_new I1 z r q⟩)⟩
theorem call_tupleN : CallR X (.type "tuple") (fun xs H Q => ∃ p ys, xs = [.ref p] ∧ ((SqL X.K H p ys ∧ NewT H ys Q) ∨ (SqT X.K H p ys ∧ Q (.ref p) H))) := by
  intro pins s σ H xs us Q I r h
  obtain ⟨p, ys, ex, h⟩ := h
  subst ex
  rcases h with ⟨hq, q⟩ | ⟨hq, q⟩
  · obtain ⟨u, eu, rx⟩ := vals1 r
    subst eu
    cases rx
    obtain ⟨its, rv, pl, hz⟩ := I.list hq
    have hlen := rv.length
    exact call_tuple_list pl.isList (fun h' kp => end_new (s := { s with heap := h' }) (I.kept (t' := s.toks) kp) hz rv q) (by simp only [List.size_toArray] <;> omega)
  · exact call_tuple_of pins s σ H _ us Q I r ⟨p, ys, rfl, .inr ⟨hq, q⟩⟩
def rCatN (K : PySem.W.Frag) : R2 := fun x y H Q => ∃ a b xs ys, x = .ref a ∧ y = .ref b ∧ SqT K H a xs ∧ SqT K H b ys ∧ xs.length + ys.length ≤ sizeLine ∧
  (xs = [] → Q (.ref b) H) ∧ (xs ≠ [] → ys = [] → Q (.ref a) H) ∧ (xs ≠ [] → ys ≠ [] → NewT H (xs ++ ys) Q)
theorem op_catN : OpR X (binaryOp .Add) (rCatN X.K) := by
  intro pins s σ H x y v u Q I rx ry h
  obtain ⟨a, b, xs, ys, ex, ey, ha, hb, hz, q0, q1, q2⟩ := h
  by_cases hxy : xs = [] ∨ ys = []
  · exact op_catA pins s σ H x y v u Q I rx ry ⟨a, b, xs, ys, ex, ey, ha, hb, hz, q0, q1, fun c1 c2 => by rcases hxy with c | c <;> contradiction⟩
  · subst ex ey
    cases rx
    cases ry
    obtain ⟨its, r1, p1, _⟩ := I.tuple ha
    obtain ⟨its2, r2, p2, _⟩ := I.tuple hb
    have n1 : xs ≠ [] := fun c => hxy (.inl c)
    have n2 : ys ≠ [] := fun c => hxy (.inr c)
    refine HT.cat_tup p1 p2 (fun c => n1 (r1.nil_iff.mp c)) (fun c => absurd (r2.nil_iff.mp c) n2) (fun _ => ?_) (by rw [← r1.length, ← r2.length]; exact hz)
    exact end_new I (by rw [List.length_append]; exact hz) (r1.append r2) (q2 n1 n2)
def rSlN (K : PySem.W.Frag) : V → Option Int → Option Int → Hp → VK → Prop := fun x lo hi H Q => ∃ a xs, x = .ref a ∧ SqT K H a xs ∧
  (HT.sIx xs.length 0 lo = 0 ∧ HT.sIx xs.length xs.length hi = xs.length → Q (.ref a) H) ∧ (¬ (HT.sIx xs.length 0 lo = 0 ∧ HT.sIx xs.length xs.length hi = xs.length) → NewT H (cutV xs lo hi) Q)
theorem sl_tupN : SlR X (rSlN X.K) := by
  intro pins s σ H x v vl vu lo hi sl Q I rx hs pl pu h
  obtain ⟨a, xs, ex, hx, q1, q2⟩ := h
  by_cases hw : HT.sIx xs.length 0 lo = 0 ∧ HT.sIx xs.length xs.length hi = xs.length
  · exact sl_tupA pins s σ H x v vl vu lo hi sl Q I rx hs pl pu ⟨a, xs, ex, hx, q1, fun c => absurd hw c⟩
  · subst ex
    cases rx
    obtain ⟨its, r, ht, hz⟩ := I.tuple hx
    have hlen : its.toArray.size = xs.length := by rw [List.size_toArray]; exact r.length.symm
    refine ⟨"tuple", _, PyProof.Rows.slot_tuple_getitem.lookup, ht.typeIs, ?_⟩
    refine HT.getItem_tuple_cut ht hs pl pu (by rw [hlen]; exact hw) ?_ (by rw [hlen]; exact hz)
    rw [hlen]
    exact end_new I (Nat.le_trans (cutV_length xs lo hi) hz) ((r.drop (HT.sIx xs.length 0 lo)).take (HT.sIx xs.length xs.length hi - HT.sIx xs.length 0 lo)) (q2 hw)
end
/-! ### tuple(range(..)) -/
section
variable {X : Cx} {e : Expr} {te : L2.St → Hp → (Int → Int → Hp → Prop) → Prop}
def tTupRgN (te : L2.St → Hp → (Int → Int → Hp → Prop) → Prop) : TE := fun σ H Q => te σ H fun a b H1 => RgOk a b ∧ NewT H1 (rgV a b) Q
theorem pe_tupRgN {p pos : Pos} (hc : X.calm = true) (hg : Gl X "tuple") (hm : X.mg "tuple" = none) (he : PRg X e te) (na : starEach [e] X.env = (false, eval e X.env) :: starEach [] X.env := by rfl) : PE X (.Call (.Name "tuple" p) [e] [] pos) (tTupRgN te) :=
  ⟨fun pins s σ H Q I h => Call_ (ld_blt I hg hm boot_tuple (PyProof.Rows.callWith_type1 (args_cons (thn (he pins s σ H _ I h) fun x s1 ⟨r, a, b, t, u, v, H1, ex, hr, I1, ok, q⟩ => args_nil (by
    subst ex
    obtain ⟨b1, b2, b3, b4, b5⟩ := ok
    refine call_tuple_range (n := (b - a).toNat) (I1.ok.hd hc) hr (small_one b1 b2 b3 b4) (rangeSize_nat a b) b5 fun h' tk acc hk hi => ?_
    have E := end_new (s := { s1 with heap := h', toks := tk }) (n := 0) (I1.kept hk) (by rw [rgV_length, sizeLine_eq]; omega) (vals_rg hi) q
    rw [Array.toArray_toList] at E
    exact E)) na) na))⟩
end
/-! ### zip: each pair a known object -/
def PairN (H : Hp) (v a b : V) (H' : Hp) : Prop := ∃ T o, v = .ref T ∧ H T = none ∧ H' = upd H T (.frz o (.tup [a, b])) ∧ o.cls = .type "tuple" ∧ o.dict = none
theorem pairN {X : Cx} {h : Heap} {T : Addr} {x y : V} {u w : Value} (hg : h.get? T = some { cls := .type "tuple", data := .seq #[u, w] }) (r1 : RelV x u) (r2 : RelV y w) (H' : Hp) :
    ObjOk X.prog X.w H' h T (.frz { cls := .type "tuple", data := .seq #[u, w] } (.tup [x, y])) :=
  objN (its := [u, w]) (n := 0) hg (by show 2 ≤ sizeLine; decide) (.cons r1 (.cons r2 .nil)) H'
def ItzN (K : PySem.W.Frag) (a b : Addr) : It := ⟨(Itz K a b).go, fun i H v H' => ∃ x y, PairN H v x y H' ∧ (∀ xs, SqL K H a xs → xs[i]? = some x) ∧ ∀ ys, SqL K H b ys → ys[i]? = some y, (Itz K a b).stop⟩
def ItzTN (K : PySem.W.Frag) (a b : Addr) : It := ⟨(ItzT K a b).go, fun i H v H' => ∃ x y, PairN H v x y H' ∧ (∀ xs, SqT K H a xs → xs[i]? = some x) ∧ ∀ ys, SqT K H b ys → ys[i]? = some y, (ItzT K a b).stop⟩
theorem five {z TI TO i1 i2 c : Addr} (h : c ∈ [z, TI, TO, i1, i2]) {n : Nat} (q1 : z < n) (q2 : TI < n) (q3 : TO < n) (q4 : i1 < n) (q5 : i2 < n) : c < n := by
  simp only [List.mem_cons, List.not_mem_nil, or_false] at h
  rcases h with e | e | e | e | e <;> rw [e] <;> assumption
theorem turn_zipN {P : Program} {w : World} {K : PySem.W.Frag} {elts : List Expr} {kk : Nat} {tpos : Pos} {a b z TI TO i1 i2 : Addr} (D : ZipApart z TI TO i1 i2 a b) :
    Turn P w K (.Tuple elts kk tpos) (ItzN K a b) [z, TI, TO, i1, i2] z (fun i h => IsZip h z TI TO .none ∧ IsPair h TI (.ref i1) (.ref i2) ∧ (∃ x y, IsPair h TO x y) ∧ h.IsListIter i1 a i ∧ h.IsListIter i2 b i) where
  mem := (turn_zip (P := P) (w := w) (K := K) (elts := elts) (kk := kk) (tpos := tpos) D).mem
  obj := (turn_zip (P := P) (w := w) (K := K) (elts := elts) (kk := kk) (tpos := tpos) D).obj
  keep := (turn_zip (P := P) (w := w) (K := K) (elts := elts) (kk := kk) (tpos := tpos) D).keep
  done := (turn_zip (P := P) (w := w) (K := K) (elts := elts) (kk := kk) (tpos := tpos) D).done
  self := (turn_zip (P := P) (w := w) (K := K) (elts := elts) (kk := kk) (tpos := tpos) D).self
  item := by
    intro X eP ew eK hc i pins s σ H E I hf st hg
    subst eP ew eK
    obtain ⟨zz, tI, ⟨x0, y0, tO⟩, l1, l2⟩ := st
    obtain ⟨xs, ys, x, y, g1, g2, g3, g4⟩ := hg
    obtain ⟨is1, v1, q1, _⟩ := I.list g1
    obtain ⟨is2, v2, q2, _⟩ := I.list g2
    obtain ⟨u, k1, r1⟩ := v1.get g3
    obtain ⟨u2, k2, r2⟩ := v2.get g4
    have lz := Heap.lt_size zz
    have lti := Heap.lt_size tI
    have lto := Heap.lt_size tO
    have li1 : i1 < s.heap.objs.size := by obtain ⟨_, e, _⟩ := l1; exact Heap.lt_size e
    have li2 : i2 < s.heap.objs.size := by obtain ⟨_, e, _⟩ := l2; exact Heap.lt_size e
    refine wpAny_pyNext_zip_item D zz tI tO l1 l2 q1.isList q2.isList (x := u) (y := u2) (by simpa using k1) (by simpa using k2) fun g z' t' m1 m2 nT nsz nk => ⟨_, rfl, wpAny_letOwnedTupleGo_zip (s := { s with heap := g }) z' fun g' z'' sb => ?_⟩
    have nT2 := (sb.2 _ (Nat.ne_of_gt lz)).trans nT
    have I1 := I.turnedNew (t' := s.toks) (ch := [z, TI, TO, i1, i2]) (fun c o nc q => (sb.2 c (fun e => nc (by simp [e]))).trans (nk c o (fun e => nc (by simp [e])) (fun e => nc (by simp [e])) (fun e => nc (by simp [e])) (fun e => nc (by simp [e])) q)) hf (Nat.le_refl _) (pairN nT2 r1 r2 _)
    exact ⟨.ref s.heap.objs.size, _, I1, rfl, ⟨x, y, ⟨_, _, rfl, I.hok.fresh (Nat.le_refl _), rfl, rfl, rfl⟩, fun l hl => by rw [I.list_inj hl g1]; exact g3, fun l hl => by rw [I.list_inj hl g2]; exact g4⟩,
      ⟨z'', (sb.2 _ D.TIz).trans (nk _ _ D.TIz D.TITO D.TIi1 D.TIi2 tI), ⟨u, u2, (sb.2 _ D.TOz).trans t'⟩, m1.at fun o q => (sb.2 _ D.i1z).trans q, m2.at fun o q => (sb.2 _ D.i2z).trans q⟩,
      fun c hcm => by rw [upd_ne (Nat.ne_of_lt (five hcm lz lti lto li1 li2))]; exact (hf c hcm).1⟩
theorem turn_zipTN {P : Program} {w : World} {K : PySem.W.Frag} {elts : List Expr} {kk : Nat} {tpos : Pos} {a b z TI TO i1 i2 : Addr} (D : ZipApart z TI TO i1 i2 a b) :
    Turn P w K (.Tuple elts kk tpos) (ItzTN K a b) [z, TI, TO, i1, i2] z (fun i h => IsZip h z TI TO .none ∧ IsPair h TI (.ref i1) (.ref i2) ∧ (∃ x y, IsPair h TO x y) ∧ h.IsTupleIter i1 a i ∧ h.IsTupleIter i2 b i) where
  mem := (turn_zipT (P := P) (w := w) (K := K) (elts := elts) (kk := kk) (tpos := tpos) D).mem
  obj := (turn_zipT (P := P) (w := w) (K := K) (elts := elts) (kk := kk) (tpos := tpos) D).obj
  keep := (turn_zipT (P := P) (w := w) (K := K) (elts := elts) (kk := kk) (tpos := tpos) D).keep
  done := (turn_zipT (P := P) (w := w) (K := K) (elts := elts) (kk := kk) (tpos := tpos) D).done
  self := (turn_zipT (P := P) (w := w) (K := K) (elts := elts) (kk := kk) (tpos := tpos) D).self
  item := by
    intro X eP ew eK hc i pins s σ H E I hf st hg
    subst eP ew eK
    obtain ⟨zz, tI, ⟨x0, y0, tO⟩, l1, l2⟩ := st
    obtain ⟨xs, ys, x, y, g1, g2, g3, g4⟩ := hg
    obtain ⟨is1, v1, q1, _⟩ := I.tuple g1
    obtain ⟨is2, v2, q2, _⟩ := I.tuple g2
    obtain ⟨u, k1, r1⟩ := v1.get g3
    obtain ⟨u2, k2, r2⟩ := v2.get g4
    have lz := Heap.lt_size zz
    have lti := Heap.lt_size tI
    have lto := Heap.lt_size tO
    have li1 : i1 < s.heap.objs.size := by obtain ⟨_, e, _⟩ := l1; exact Heap.lt_size e
    have li2 : i2 < s.heap.objs.size := by obtain ⟨_, e, _⟩ := l2; exact Heap.lt_size e
    refine pyNext_zipT_item D zz tI tO l1 l2 q1 q2 (x := u) (y := u2) (by simpa using k1) (by simpa using k2) fun g z' t' m1 m2 nT nsz nk => ⟨_, rfl, wpAny_letOwnedTupleGo_zip (s := { s with heap := g }) z' fun g' z'' sb => ?_⟩
    have nT2 := (sb.2 _ (Nat.ne_of_gt lz)).trans nT
    have I1 := I.turnedNew (t' := s.toks) (ch := [z, TI, TO, i1, i2]) (fun c o nc q => (sb.2 c (fun e => nc (by simp [e]))).trans (nk c o (fun e => nc (by simp [e])) (fun e => nc (by simp [e])) (fun e => nc (by simp [e])) (fun e => nc (by simp [e])) q)) hf (Nat.le_refl _) (pairN nT2 r1 r2 _)
    exact ⟨.ref s.heap.objs.size, _, I1, rfl, ⟨x, y, ⟨_, _, rfl, I.hok.fresh (Nat.le_refl _), rfl, rfl, rfl⟩, fun l hl => by rw [I.tuple_inj hl g1]; exact g3, fun l hl => by rw [I.tuple_inj hl g2]; exact g4⟩,
      ⟨z'', (sb.2 _ D.TIz).trans (nk _ _ D.TIz D.TITO D.TIi1 D.TIi2 tI), ⟨u, u2, (sb.2 _ D.TOz).trans t'⟩, m1.at fun o q => (sb.2 _ D.i1z).trans q, m2.at fun o q => (sb.2 _ D.i2z).trans q⟩,
      fun c hcm => by rw [upd_ne (Nat.ne_of_lt (five hcm lz lti lto li1 li2))]; exact (hf c hcm).1⟩
def iZipN (K : PySem.W.Frag) (ta : TA) : TI := fun σ H R => ta σ H fun vs H1 => ∃ a b xs ys, vs = [.ref a, .ref b] ∧ ((SqL K H1 a xs ∧ SqL K H1 b ys ∧ R (ItzN K a b) H1) ∨ (SqT K H1 a xs ∧ SqT K H1 b ys ∧ R (ItzTN K a b) H1))
theorem pi_zipN {X : Cx} {e e2 : Expr} {ta : TA} {p pos tpos : Pos} {elts : List Expr} {kk : Nat} (hg : Gl X "zip") (hm : X.mg "zip" = none) (ha : PA X [e, e2] ta)
    (hs : starEach [e, e2] X.env = (false, eval e X.env) :: starEach [e2] X.env := by rfl) (hpl : (backTo pos (starEach [e2] X.env)).any (·.1) = false := by rfl) :
    PI X (.Tuple elts kk tpos) (.Call (.Name "zip" p) [e, e2] [] pos) (iZipN X.K ta) := by
  refine ⟨fun pins s σ H R I h => Call_ (ld_blt I hg hm PyProof.Rows.boot_zip (PyProof.Rows.callWith_type1 (thn (ha.run pos pins s σ H _ I h) fun us s1 ⟨vs, H1, I1, r1, q1⟩ => ?_) hs hpl))⟩
  obtain ⟨a, b, xs, ys, ev, q1⟩ := q1
  subst ev
  cases r1 with
  | cons ra rr =>
    cases rr with
    | cons rb rr =>
      cases rr
      cases ra
      cases rb
      have fr : ∀ c, c ∈ [s1.heap.objs.size + 4, s1.heap.objs.size + 2, s1.heap.objs.size + 3, s1.heap.objs.size, s1.heap.objs.size + 1] → FpOk X pins H1 c := fun c hcm => by
        have hle : s1.heap.objs.size ≤ c := by
          simp only [List.mem_cons, List.not_mem_nil, or_false] at hcm
          rcases hcm with e | e | e | e | e <;> rw [e] <;> first | exact Nat.le_add_right _ _ | exact Nat.le_refl _
        exact I1.fpOk hle (I1.hok.fresh hle)
      rcases q1 with ⟨g1, g2, q⟩ | ⟨g1, g2, q⟩
      · obtain ⟨is1, v1, p1, _⟩ := I1.list g1
        obtain ⟨is2, v2, p2, _⟩ := I1.list g2
        exact call_zip_2 p1.isList p2.isList fun g z1 z2 z3 z4 z5 z6 z7 => wpAny_pyIter_zip z1 ⟨_, _, _, _, H1, rfl, I1.kept (t' := s1.toks) z7, turn_zipN (PySem.W.ktu_apart s1.heap.objs.size a b p1.lt p2.lt), ⟨z1, z2, ⟨_, _, z3⟩, z4, z5⟩, fr, q⟩
      · obtain ⟨is1, v1, p1, _⟩ := I1.tuple g1
        obtain ⟨is2, v2, p2, _⟩ := I1.tuple g2
        obtain ⟨o1, ho1, _⟩ := id p1
        obtain ⟨o2, ho2, _⟩ := id p2
        exact call_zipT (show s1.heap.IsTuple a is1.toArray from p1) (show s1.heap.IsTuple b is2.toArray from p2) fun g z1 z2 z3 z4 z5 z6 z7 => wpAny_pyIter_zip z1 ⟨_, _, _, _, H1, rfl, I1.kept (t' := s1.toks) z7, turn_zipTN (PySem.W.ktu_apart s1.heap.objs.size a b (Heap.lt_size ho1) (Heap.lt_size ho2)), ⟨z1, z2, ⟨_, _, z3⟩, z4, z5⟩, fr, q⟩
/-! ### enumerate of lists -/
def IteN (K : PySem.W.Frag) (a : Addr) : It := ⟨(Ite K a).go, fun i H v H' => ∃ x, PairN H v (.int (i : Nat)) x H' ∧ ∀ xs, SqL K H a xs → xs[i]? = some x, (Ite K a).stop⟩
theorem turn_enumN {P : Program} {w : World} {K : PySem.W.Frag} {elts : List Expr} {kk : Nat} {tpos : Pos} (a e it : Addr) :
    Turn P w K (.Tuple elts kk tpos) (IteN K a) [e, it] e (fun i h => (∃ old, IsEnum h e it ((i : Nat) : Int) old) ∧ h.IsListIter it a i ∧ e ≠ it) where
  mem := (turn_enum (P := P) (w := w) (K := K) (elts := elts) (kk := kk) (tpos := tpos) a e it).mem
  obj := (turn_enum (P := P) (w := w) (K := K) (elts := elts) (kk := kk) (tpos := tpos) a e it).obj
  keep := (turn_enum (P := P) (w := w) (K := K) (elts := elts) (kk := kk) (tpos := tpos) a e it).keep
  done := (turn_enum (P := P) (w := w) (K := K) (elts := elts) (kk := kk) (tpos := tpos) a e it).done
  self := (turn_enum (P := P) (w := w) (K := K) (elts := elts) (kk := kk) (tpos := tpos) a e it).self
  item := by
    intro X eP ew eK hc i pins s σ H E I hf st hg
    subst eP ew eK
    obtain ⟨⟨old, z0⟩, l1, ne⟩ := st
    obtain ⟨xs, x, g1, g2⟩ := hg
    obtain ⟨is1, v1, q1, _⟩ := I.list g1
    obtain ⟨u, k1, r1⟩ := v1.get g2
    have le := Heap.lt_size z0
    have li : it < s.heap.objs.size := by obtain ⟨_, q, _⟩ := l1; exact Heap.lt_size q
    refine wpAny_pyNext_enum_item z0 l1 q1.isList (x := u) (by simpa using k1) ne fun g z1 l2 nT nsz nk => ⟨_, rfl, wpAny_letOwnedTupleGo_enum (s := { s with heap := g, toks := s.toks + 1 }) z1 fun g' z2 sb => ?_⟩
    have nT2 := (sb.2 _ (Nat.ne_of_gt le)).trans nT
    have I1 := I.turnedNew (t' := s.toks + 1) (ch := [e, it]) (fun b ob nb q => (sb.2 b (fun z => nb (by simp [z]))).trans (nk b ob (fun z => nb (by simp [z])) (fun z => nb (by simp [z])) q)) hf (Nat.le_refl _) (pairN nT2 (x := .int (i : Nat)) ⟨_, rfl⟩ r1 _)
    refine ⟨.ref s.heap.objs.size, _, I1, rfl, ⟨x, ⟨_, _, rfl, I.hok.fresh (Nat.le_refl _), rfl, rfl, rfl⟩, fun ys hy => by rw [I.list_inj hy g1]; exact g2⟩, ⟨⟨u, ?_⟩, l2.at fun o q => (sb.2 it (Ne.symm ne)).trans q, ne⟩, fun b hb => ?_⟩
    · have e1 : ((i + 1 : Nat) : Int) = (i : Int) + 1 := by omega
      rw [e1]; exact z2
    · have hb' : b < s.heap.objs.size := by
        simp only [List.mem_cons, List.not_mem_nil, or_false] at hb
        rcases hb with z | z <;> rw [z] <;> assumption
      rw [upd_ne (Nat.ne_of_lt hb')]
      exact (hf b hb).1
end Sm


set_option maxRecDepth 100000
set_option maxHeartbeats 4000000
/-! Sim layer, part A: data, frames, relation, judgements. -/
namespace Sm
open PySem PySem.Spec PyProof.Rows L2
abbrev D := PyData
/-- an exception of the program: its class' name, its field -/
structure Ex where
  cls : Str
  fld : Option (Str × D)
abbrev En := List (Option D)
/-- the hand's slot; tables of code objects that are told -/
structure HS where
  ix : Option Nat
  tabs : List (Addr × Str)
abbrev noHand (T : List (Addr × Str)) : HS := ⟨none, T⟩
abbrev hand0 (T : List (Addr × Str)) : HS := ⟨some 0, T⟩
inductive Res (α : Type) where | ok (a : α) (h : List D) | ex (c : Ex) (h : List D) | no
inductive Rs where | nx (e : En) (h : List D) | rt (d : D) (h : List D) | bk (e : En) (h : List D) | ct (e : En) (h : List D) | ex (c : Ex) (h : List D) | no
inductive Ro where | ok (d : D) | ex (c : Ex) | no
abbrev FX (α : Type) := En → List D → Res α
abbrev FE := FX D
abbrev FL := FX (List D)
abbrev FB := FX Bool
abbrev FS := En → List D → Rs
def Res.bind {α β : Type} (r : Res α) (k : α → List D → Res β) : Res β := match r with | .ok a h => k a h | .ex c h => .ex c h | .no => .no
def Res.bindS {α : Type} (r : Res α) (k : α → List D → Rs) : Rs := match r with | .ok a h => k a h | .ex c h => .ex c h | .no => .no
def opt {α : Type} (o : Option α) (h : List D) : Res α := match o with | some d => .ok d h | none => .no

/-! ### heaps -/
open Classical in
noncomputable def Cut (O : Addr → Prop) (H : Hp) : Hp := fun a => if O a then none else H a
theorem cut_in {O : Addr → Prop} {H : Hp} {a : Addr} (h : O a) : Cut O H a = none := by unfold Cut; rw [if_pos h]
theorem cut_out {O : Addr → Prop} {H : Hp} {a : Addr} (h : ¬ O a) : Cut O H a = H a := by unfold Cut; rw [if_neg h]
theorem cut_some {O : Addr → Prop} {H : Hp} {a : Addr} {o : HO} (h : Cut O H a = some o) : ¬ O a ∧ H a = some o := by
  by_cases hO : O a
  · rw [cut_in hO] at h; cases h
  · rw [cut_out hO] at h; exact ⟨hO, h⟩
/-- all but tables stay -/
def XN (G G' : Hp) : Prop := ∀ a o, G a = some o → (∀ ps, o ≠ .tbl ps) → G' a = some o
theorem XN.refl (G : Hp) : XN G G := fun _ _ h _ => h
theorem XN.trans {A B C : Hp} (x : XN A B) (y : XN B C) : XN A C := fun a o h n => y a o (x a o h n) n
theorem XN.rd {G G' : Hp} (x : XN G G') {a : Addr} {u : HO} (hu : ∀ ps, u ≠ .tbl ps) (h : Rd G a u) : Rd G' a u := by
  rcases h with h | ⟨o, h⟩
  · exact .inl (x a _ h hu)
  · exact .inr ⟨o, x a _ h (fun _ z => by cases z)⟩
theorem XN.sqL {K : PySem.W.Frag} {G G' : Hp} (x : XN G G') {a : Addr} {xs : List V} (h : SqL K G a xs) : SqL K G' a xs := by
  rcases h with h | h
  · exact .inl (x.rd (fun _ z => by cases z) h)
  · exact .inr h
theorem XN.sqT {K : PySem.W.Frag} {G G' : Hp} (x : XN G G') {a : Addr} {xs : List V} (h : SqT K G a xs) : SqT K G' a xs := by
  rcases h with h | h
  · exact .inl (x.rd (fun _ z => by cases z) h)
  · exact .inr h
/-- a tuple whose object is known and has no dict -/
def SqN (K : PySem.W.Frag) (G : Hp) (a : Addr) (xs : List V) : Prop :=
  (∃ o, G a = some (.frz o (.tup xs)) ∧ o.cls = .type "tuple" ∧ o.dict = none) ∨
    ∃ (o : Obj) (its : Array Value) (n : Nat), K.lookup a = some o ∧ o.cls = .type "tuple" ∧ o.dict = none ∧ o.data = .seq its n ∧ its.size ≤ sizeLine ∧ Vals xs its.toList
theorem SqN.t {K : PySem.W.Frag} {G : Hp} {a : Addr} {xs : List V} (h : SqN K G a xs) : SqT K G a xs := by
  rcases h with ⟨o, h, _, _⟩ | ⟨o, its, n, h1, h2, _, h3⟩
  · exact .inl (.inr ⟨o, h⟩)
  · exact .inr ⟨o, its, n, h1, h2, h3⟩
theorem SqN.new {K : PySem.W.Frag} {G : Hp} {a : Addr} {xs : List V} {o : Obj} (h : G a = some (.frz o (.tup xs))) (hc : o.cls = .type "tuple") (hd : o.dict = none) : SqN K G a xs := .inl ⟨o, h, hc, hd⟩
theorem XN.sqN {K : PySem.W.Frag} {G G' : Hp} (x : XN G G') {a : Addr} {xs : List V} (h : SqN K G a xs) : SqN K G' a xs := by
  rcases h with ⟨o, h, h2⟩ | h
  · exact .inl ⟨o, x a _ h (fun _ z => by cases z), h2⟩
  · exact .inr h
mutual
/-- v, in the heap G, is the data d: lists are tracked -/
inductive DD (K : PySem.W.Frag) (G : Hp) : V → D → Prop
  | non : DD K G .non .none
  | bl (b : Bool) : DD K G (.bl b) (.bool b)
  | int (i : Int) : DD K G (.int i) (.int i)
  | str (x : Str) : DD K G (.str x) (.str x)
  | lst {a : Addr} {xs : List V} {ds : List D} : G a = some (.lst xs) → DDs K G xs ds → DD K G (.ref a) (.list ds)
  | tup {a : Addr} {xs : List V} {ds : List D} : SqN K G a xs → DDs K G xs ds → DD K G (.ref a) (.tuple ds)
  | dct {a : Addr} : G a = some (.dK []) → DD K G (.ref a) (.dict [])
inductive DDs (K : PySem.W.Frag) (G : Hp) : List V → List D → Prop
  | nil : DDs K G [] []
  | cons {v : V} {vs : List V} {d : D} {ds : List D} : DD K G v d → DDs K G vs ds → DDs K G (v :: vs) (d :: ds)
end
section
variable {K : PySem.W.Frag} {G G' : Hp}
mutual
theorem dd_mono (x : XN G G') : ∀ {v : V} {d : D}, DD K G v d → DD K G' v d
  | _, _, .non => .non
  | _, _, .bl b => .bl b
  | _, _, .int i => .int i
  | _, _, .str y => .str y
  | _, _, .lst h a => .lst (x _ _ h (fun _ z => by cases z)) (dds_mono x a)
  | _, _, .tup h a => .tup (x.sqN h) (dds_mono x a)
  | _, _, .dct h => .dct (x _ _ h (fun _ z => by cases z))
theorem dds_mono (x : XN G G') : ∀ {vs : List V} {ds : List D}, DDs K G vs ds → DDs K G' vs ds
  | _, _, .nil => .nil
  | _, _, .cons h t => .cons (dd_mono x h) (dds_mono x t)
end
theorem DDs.length : ∀ {vs : List V} {ds : List D}, DDs K G vs ds → vs.length = ds.length
  | _, _, .nil => rfl
  | _, _, .cons _ t => by simp [DDs.length t]
theorem DDs.get : ∀ {vs : List V} {ds : List D} {i : Nat} {d : D}, DDs K G vs ds → ds[i]? = some d → ∃ v, vs[i]? = some v ∧ DD K G v d
  | _, _, i, _, .nil, h => by simp at h
  | _, _, 0, _, .cons p t, h => by simp at h; subst h; exact ⟨_, rfl, p⟩
  | _, _, i + 1, _, .cons p t, h => by
    obtain ⟨v, e, q⟩ := DDs.get (i := i) t (by simpa using h)
    exact ⟨v, by simpa using e, q⟩
theorem DDs.append : ∀ {vs ws : List V} {ds es : List D}, DDs K G vs ds → DDs K G ws es → DDs K G (vs ++ ws) (ds ++ es)
  | _, _, _, _, .nil, q => q
  | _, _, _, _, .cons p t, q => .cons p (DDs.append t q)
theorem DDs.take : ∀ {vs : List V} {ds : List D} (n : Nat), DDs K G vs ds → DDs K G (vs.take n) (ds.take n)
  | _, _, 0, _ => .nil
  | _, _, _ + 1, .nil => .nil
  | _, _, n + 1, .cons p t => .cons p (DDs.take n t)
theorem DDs.drop : ∀ {vs : List V} {ds : List D} (n : Nat), DDs K G vs ds → DDs K G (vs.drop n) (ds.drop n)
  | _, _, 0, q => q
  | _, _, _ + 1, .nil => .nil
  | _, _, n + 1, .cons _ t => DDs.drop n t
theorem DDs.set : ∀ {vs : List V} {ds : List D} (i : Nat) {v : V} {d : D}, DDs K G vs ds → DD K G v d → DDs K G (vs.set i v) (ds.set i d)
  | _, _, _, _, _, .nil, _ => .nil
  | _, _, 0, _, _, .cons _ t, q => .cons q t
  | _, _, i + 1, _, _, .cons p t, q => .cons p (DDs.set i t q)
end
/-- an object that only its owner knows -/
inductive OwnR (K : PySem.W.Frag) (G : Hp) : HO → D → Prop
  | lst {xs : List V} {ds : List D} : DDs K G xs ds → OwnR K G (.lst xs) (.list ds)
theorem OwnR.mono {K : PySem.W.Frag} {G G' : Hp} (x : XN G G') {o : HO} {d : D} (h : OwnR K G o d) : OwnR K G' o d := by
  cases h with
  | lst a => exact .lst (dds_mono x a)
def NoTab (o : HO) : Prop := (∀ ps, o ≠ .tbl ps) ∧ (∀ φ, o ≠ .ext φ)
theorem OwnR.notab {K : PySem.W.Frag} {G : Hp} {o : HO} {d : D} (h : OwnR K G o d) : NoTab o := by
  cases h with
  | lst a => exact ⟨fun _ z => (by cases z), fun _ z => (by cases z)⟩
theorem tabs_upd {T : List (Addr × Str)} {H : Hp} {a : Addr} {o o' : HO} (h : H a = some o) (n : NoTab o) (t : LamX.Tabs T H) : LamX.Tabs T (upd H a o') := fun p hp => by
  obtain ⟨ps, h1, h2, h3⟩ := t p hp
  have ne : p.1 ≠ a := fun z => by rw [z, h] at h1; exact n.1 ps (Option.some.inj h1)
  refine ⟨ps, by rw [upd_ne ne]; exact h1, h2, fun pos cv hc => ?_⟩
  obtain ⟨c, e1, e2⟩ := h3 pos cv hc
  have nc : c ≠ a := fun z => by
    rw [z, h] at e2
    exact n.2 _ (Option.some.inj e2)
  exact ⟨c, e1, by rw [upd_ne nc]; exact e2⟩
/-- new things alone -/
def Grow (H H' : Hp) : Prop := ∀ a o, H a = some o → H' a = some o
theorem Grow.new {H : Hp} {p : Addr} {o : HO} (h : H p = none) : Grow H (upd H p o) := fun a u e => by
  rw [upd_ne (ne_of_none e h)]
  exact e
theorem Grow.refl (H : Hp) : Grow H H := fun _ _ h => h
theorem Grow.trans {A B C : Hp} (x : Grow A B) (y : Grow B C) : Grow A C := fun a o h => y a o (x a o h)
/-- a step of the run, seen from the owner -/
structure Step (T : List (Addr × Str)) (R : Addr → Prop) (ha : Option Addr) (O : Addr → Prop) (H : Hp) (O' : Addr → Prop) (H' : Hp) : Prop where
  ex : XN (Cut O H) (Cut O' H')
  keep : ∀ a, R a → ha ≠ some a → H' a = H a
  tabs : LamX.Tabs T H → LamX.Tabs T H'
section
variable {T : List (Addr × Str)}
theorem Step.refl {R : Addr → Prop} {ha : Option Addr} {O : Addr → Prop} {H : Hp} : Step T R ha O H O H := ⟨XN.refl _, fun _ _ _ => rfl, fun h => h⟩
theorem Step.trans {R : Addr → Prop} {ha : Option Addr} {O O1 O2 : Addr → Prop} {H H1 H2 : Hp} (a : Step T R ha O H O1 H1) (b : Step T R ha O1 H1 O2 H2) : Step T R ha O H O2 H2 :=
  ⟨a.ex.trans b.ex, fun p h n => (b.keep p h n).trans (a.keep p h n), fun h => b.tabs (a.tabs h)⟩
end
/-- a thing that is no table -/
def NT (H : Hp) (a : Addr) : Prop := ∃ o, H a = some o ∧ ∀ ps, o ≠ .tbl ps
theorem NT.ne {H : Hp} {a : Addr} (h : NT H a) : H a ≠ none := by
  obtain ⟨o, e, _⟩ := h
  rw [e]; exact fun z => (by cases z)
theorem NT.grow {H H' : Hp} {a : Addr} (h : NT H a) (g : Grow H H') : NT H' a := by
  obtain ⟨o, e, n⟩ := h
  exact ⟨o, g a o e, n⟩
theorem NT.eq {H H' : Hp} {a : Addr} (h : NT H a) (g : H' a = H a) : NT H' a := by
  obtain ⟨o, e, n⟩ := h
  exact ⟨o, g.trans e, n⟩
/-- the ground: what a frame may lean on -/
structure RelG (K : PySem.W.Frag) (R O : Addr → Prop) (ha : Option Addr) (H : Hp) (h : List D) : Prop where
  sub : ∀ a, R a → O a
  dm : ∀ a, O a → NT H a
  hnd : ∀ a, ha = some a → R a ∧ ∃ xs, H a = some (.lst xs) ∧ DDs K (Cut O H) xs h
theorem RelG.dom {K : PySem.W.Frag} {R O : Addr → Prop} {ha : Option Addr} {H : Hp} {h : List D} (r : RelG K R O ha H h) (a : Addr) (o : O a) : H a ≠ none := (r.dm a o).ne
structure Rel (K : PySem.W.Frag) (R O : Addr → Prop) (ha : Option Addr) (hs : HS) (ω : List Nat) (σ : L2.St) (H : Hp) (e : En) (h : List D) : Prop where
  g : RelG K R O ha H h
  val : ∀ i d, i ∉ ω → hs.ix ≠ some i → e[i]? = some (some d) → ∃ v, σ[i]? = some (some v) ∧ DD K (Cut O H) v d
  own : ∀ i ∈ ω, ∃ a o d, σ[i]? = some (some (.ref a)) ∧ e[i]? = some (some d) ∧ O a ∧ ¬ R a ∧ H a = some o ∧ OwnR K (Cut O H) o d
  inj : ∀ i ∈ ω, ∀ j ∈ ω, ∀ a, σ[i]? = some (some (.ref a)) → σ[j]? = some (some (.ref a)) → i = j
  hand : ∀ i, hs.ix = some i → i ∉ ω ∧ ∃ a, ha = some a ∧ σ[i]? = some (some (.ref a))
  len : e.length = σ.length
  tb : LamX.Tabs hs.tabs H
section
variable {K : PySem.W.Frag} {R O : Addr → Prop} {ha : Option Addr} {hs : HS} {ω : List Nat} {σ : L2.St} {H H' : Hp} {e : En} {h : List D}
theorem Grow.cut {O : Addr → Prop} (g : Grow H H') (hd : ∀ a, O a → H a ≠ none) : Grow (Cut O H) (Cut O H') := fun a o hc => by
  obtain ⟨n, e⟩ := cut_some hc
  rw [cut_out n]; exact g a o e
theorem Grow.xn {G G' : Hp} (g : Grow G G') : XN G G' := fun a o h _ => g a o h
theorem Grow.eq (g : Grow H H') {a : Addr} (h : H a ≠ none) : H' a = H a := by
  cases e : H a with
  | none => exact absurd e h
  | some o => exact g a o e
theorem RelG.grow (r : RelG K R O ha H h) (g : Grow H H') : RelG K R O ha H' h := ⟨r.sub, fun a o => (r.dm a o).grow g, fun a e => by
  obtain ⟨x, xs, e1, e2⟩ := r.hnd a e
  exact ⟨x, xs, g _ _ e1, dds_mono (g.cut r.dom).xn e2⟩⟩
theorem Rel.grow (r : Rel K R O ha hs ω σ H e h) (g : Grow H H') : Rel K R O ha hs ω σ H' e h where
  g := r.g.grow g
  val := fun i d a b c => by
    obtain ⟨v, e1, e2⟩ := r.val i d a b c
    exact ⟨v, e1, dd_mono (g.cut r.g.dom).xn e2⟩
  own := fun i hi => by
    obtain ⟨a, o, d, e1, e2, e3, e4, e5, e6⟩ := r.own i hi
    exact ⟨a, o, d, e1, e2, e3, e4, g _ _ e5, e6.mono (g.cut r.g.dom).xn⟩
  inj := r.inj
  hand := r.hand
  len := r.len
  tb := r.tb.ext g
theorem step_grow {T : List (Addr × Str)} {R O : Addr → Prop} (g : Grow H H') (hd : ∀ a, O a → H a ≠ none) (hsub : ∀ a, R a → O a) : Step T R ha O H O H' :=
  ⟨(g.cut hd).xn, fun a r _ => g.eq (hd a (hsub a r)), fun t => t.ext g⟩
theorem Rel.step (r : Rel K R O ha hs ω σ H e h) (g : Grow H H') : Step hs.tabs R ha O H O H' := step_grow g r.g.dom r.g.sub
end
/-- an exception's own class and dict, as the program's exceptions are told -/
def ExR (mg : Str → Option Value) (c : Ex) (cls : Value) (dd : Option Addr) (H : Hp) : Prop :=
  (∃ C, mg c.cls = some (.ref C) ∧ cls = .ref C) ∧ match c.fld with
    | none => dd = none
    | some (f, d) => ∃ a v, dd = some a ∧ H a = some (.xd [(f, v)]) ∧ ∀ (K : PySem.W.Frag) (G : Hp), DD K G v d

/-! ### what is wanted -/
section
variable (K : PySem.W.Frag) (mg : Str → Option Value) (R : Addr → Prop) (ha : Option Addr) (hs : HS) (ω : List Nat) (E : XK) (σ : L2.St)
def PX (O : Addr → Prop) (H : Hp) (c : Ex) (h' : List D) : Prop := ∀ cls dd H' O', Step hs.tabs R ha O H O' H' → RelG K R O' ha H' h' → ExR mg c cls dd H' → E cls dd H'
/-- a readable list, perhaps an owned one, or any data -/
def SeqV (G H : Hp) (v : V) (d : D) : Prop := DD K G v d ∨ ∃ a xs ds, v = .ref a ∧ d = .list ds ∧ H a = some (.lst xs) ∧ DDs K G xs ds
/-- what is wanted of a result: Ka of its value, the heap and the owned things behind -/
def PR {α : Type} (O : Addr → Prop) (H : Hp) (e : En) (r : Res α) (Ka : α → Hp → (Addr → Prop) → Prop) : Prop := match r with
  | .ok a h' => ∀ H' O', Step hs.tabs R ha O H O' H' → Rel K R O' ha hs ω σ H' e h' → Ka a H' O'
  | .ex c h' => PX K mg R ha hs E O H c h'
  | .no => False
def KE' (Q : VK) (d : D) (H' : Hp) (O' : Addr → Prop) : Prop := ∀ v, DD K (Cut O' H') v d → Q v H'
def KQ' (Q : VK) (d : D) (H' : Hp) (O' : Addr → Prop) : Prop := ∀ v, SeqV K (Cut O' H') H' v d → Q v H'
def KL' (Q : VK) (ds : List D) (H' : Hp) (O' : Addr → Prop) : Prop := ∀ p xs, O' p → ¬ R p → (∀ i ∈ ω, σ[i]? ≠ some (some (.ref p))) → H' p = some (.lst xs) → DDs K (Cut O' H') xs ds → Q (.ref p) H'
def KA' (Q : List V → Hp → Prop) (ds : List D) (H' : Hp) (O' : Addr → Prop) : Prop := ∀ vs, DDs K (Cut O' H') vs ds → Q vs H'
def KB' (Q : Bool → Hp → Prop) (b : Bool) (H' : Hp) (_ : Addr → Prop) : Prop := Q b H'
end
section
variable (K : PySem.W.Frag) (mg : Str → Option Value) (hs : HS) (ω : List Nat) (E : XK)
def teD (f : FE) : TE := fun σ H Q => ∃ R O ha e h, Rel K R O ha hs ω σ H e h ∧ PR K mg R ha hs ω E σ O H e (f e h) (KE' K Q)
def teQ (f : FE) : TE := fun σ H Q => ∃ R O ha e h, Rel K R O ha hs ω σ H e h ∧ PR K mg R ha hs ω E σ O H e (f e h) (KQ' K Q)
def teL (f : FL) : TE := fun σ H Q => ∃ R O ha e h, Rel K R O ha hs ω σ H e h ∧ PR K mg R ha hs ω E σ O H e (f e h) (KL' K R ω σ Q)
def taD (f : FL) : TA := fun σ H Q => ∃ R O ha e h, Rel K R O ha hs ω σ H e h ∧ PR K mg R ha hs ω E σ O H e (f e h) (KA' K Q)
def ttD (f : FB) : TT := fun σ H Q => ∃ R O ha e h, Rel K R O ha hs ω σ H e h ∧ PR K mg R ha hs ω E σ O H e (f e h) (KB' Q)
end
abbrev DE (X : Cx) (hs : HS) (ω : List Nat) (E : XK) (e : Expr) (f : FE) : Prop := PE X e (teD X.K X.mg hs ω E f)
abbrev DQ (X : Cx) (hs : HS) (ω : List Nat) (E : XK) (e : Expr) (f : FE) : Prop := PE X e (teQ X.K X.mg hs ω E f)
abbrev DL (X : Cx) (hs : HS) (ω : List Nat) (E : XK) (e : Expr) (f : FL) : Prop := PE X e (teL X.K X.mg hs ω E f)
abbrev DA (X : Cx) (hs : HS) (ω : List Nat) (E : XK) (es : List Expr) (f : FL) : Prop := PA X es (taD X.K X.mg hs ω E f)
abbrev DT (X : Cx) (hs : HS) (ω : List Nat) (E : XK) (e : Expr) (f : FB) : Prop := PT X e (ttD X.K X.mg hs ω E f)
abbrev DW (X : Cx) (hs : HS) (ω : List Nat) (E : XK) (e : Expr) (f : FB) : Prop := PW X e (ttD X.K X.mg hs ω E f)
end Sm


set_option maxRecDepth 100000
set_option maxHeartbeats 4000000
/-! Sim layer, part B: weakening, sequencing, plain expressions. -/
namespace Sm
open PySem PySem.Spec PyProof.Rows L2
section
variable {X : Cx} {e : Expr}
theorem pe_imp {t t' : TE} (h : PE X e t) (w : ∀ σ H Q, t' σ H Q → t σ H Q) : PE X e t' := ⟨fun pins s σ H Q I q => h.run pins s σ H Q I (w σ H Q q)⟩
theorem pt_imp {t t' : TT} (h : PT X e t) (w : ∀ σ H Q, t' σ H Q → t σ H Q) : PT X e t' := ⟨fun pins s σ H Q I q => h.run pins s σ H Q I (w σ H Q q)⟩
theorem pw_imp {t t' : TT} (h : PW X e t) (w : ∀ σ H Q, t' σ H Q → t σ H Q) : PW X e t' := ⟨fun wh pins s σ H Q I q => h.run wh pins s σ H Q I (w σ H Q q)⟩
theorem pa_imp {es : List Expr} {t t' : TA} (h : PA X es t) (w : ∀ σ H Q, t' σ H Q → t σ H Q) : PA X es t' := ⟨fun pos pins s σ H Q I q => h.run pos pins s σ H Q I (w σ H Q q)⟩
theorem ps_imp {st : Stmt} {t t' : TS} (h : PS X st t) (w : ∀ D σ H, t' D σ H → t D σ H) : PS X st t' := ⟨fun pins s σ H D I q => h.run pins s σ H D I (w D σ H q)⟩
theorem pss_imp {st : List Stmt} {t t' : TS} (h : PSs X st t) (w : ∀ D σ H, t' D σ H → t D σ H) : PSs X st t' := ⟨fun pins s σ H D I q => h.run pins s σ H D I (w D σ H q)⟩
end
section
variable {K : PySem.W.Frag} {mg : Str → Option Value} {R O O1 : Addr → Prop} {ha : Option Addr} {hs : HS} {ω : List Nat} {E : XK} {σ : L2.St} {H H1 : Hp} {e : En} {h : List D}
theorem px_step {c : Ex} {h' : List D} (p : PX K mg R ha hs E O H c h') (st : Step hs.tabs R ha O H O1 H1) : PX K mg R ha hs E O1 H1 c h' := fun cls dd H' O' s g x => p cls dd H' O' (st.trans s) g x
theorem pr_step {α : Type} {r : Res α} {Ka : α → Hp → (Addr → Prop) → Prop} (p : PR K mg R ha hs ω E σ O H e r Ka) (st : Step hs.tabs R ha O H O1 H1) : PR K mg R ha hs ω E σ O1 H1 e r Ka := by
  cases r with
  | ok a h' => exact fun H' O' s rel => p H' O' (st.trans s) rel
  | ex c h' => exact px_step p st
  | no => exact p
theorem pr_bind {α β : Type} {r : Res α} {k : α → List D → Res β} {Ka : α → Hp → (Addr → Prop) → Prop} {Kb : β → Hp → (Addr → Prop) → Prop} (p : PR K mg R ha hs ω E σ O H e (r.bind k) Kb)
    (hk : ∀ a h' H' O', Step hs.tabs R ha O H O' H' → Rel K R O' ha hs ω σ H' e h' → PR K mg R ha hs ω E σ O' H' e (k a h') Kb → Ka a H' O') : PR K mg R ha hs ω E σ O H e r Ka := by
  cases r with
  | ok a h' => exact fun H' O' s rel => hk a h' H' O' s rel (pr_step p s)
  | ex c h' => exact p
  | no => exact p
theorem pr_ok {α : Type} {a : α} {Ka : α → Hp → (Addr → Prop) → Prop} (p : PR K mg R ha hs ω E σ O H e (.ok a h) Ka) (rel : Rel K R O ha hs ω σ H e h) : Ka a H O := p H O Step.refl rel
theorem pr_opt {α : Type} {o : Option α} {Ka : α → Hp → (Addr → Prop) → Prop} (p : PR K mg R ha hs ω E σ O H e (opt o h) Ka) : ∃ a, o = some a ∧ PR K mg R ha hs ω E σ O H e (.ok a h) Ka := by
  cases o with
  | none => exact p.elim
  | some a => exact ⟨a, rfl, p⟩
/-- a new frozen thing -/
theorem pr_new {α : Type} {a : α} {p : Addr} {o : HO} {Ka : α → Hp → (Addr → Prop) → Prop} (q : PR K mg R ha hs ω E σ O H e (.ok a h) Ka) (rel : Rel K R O ha hs ω σ H e h) (n : H p = none) : Ka a (upd H p o) O :=
  q _ _ (rel.step (Grow.new n)) (rel.grow (Grow.new n))
theorem Step.dd (st : Step hs.tabs R ha O H O1 H1) {v : V} {d : D} (h : DD K (Cut O H) v d) : DD K (Cut O1 H1) v d := dd_mono st.ex h
theorem Step.dds (st : Step hs.tabs R ha O H O1 H1) {v : List V} {d : List D} (h : DDs K (Cut O H) v d) : DDs K (Cut O1 H1) v d := dds_mono st.ex h
theorem xn_cut {O : Addr → Prop} {H : Hp} : XN (Cut O H) H := fun a o h _ => (cut_some h).2
end
/-! ### what an operation on values is, on data -/
/-- r answers as g does -/
def OpD (K : PySem.W.Frag) (r : R2) (g : D → D → Option D) : Prop := ∀ (H : Hp) (x y : V) (a b d : D) (G : Hp) (Q : VK), (∀ a o, G a = some o → H a = some o) → DD K G x a → DD K G y b → g a b = some d →
  (∀ v H', Grow H H' → (∀ G', XN G G' → (∀ p, H p = none → G' p = H' p) → DD K G' v d) → Q v H') → r x y H Q
section
variable {K : PySem.W.Frag} {G H : Hp} {a : Addr} {v : V}
theorem dd_list {x : V} {ds : List D} (h : DD K G x (.list ds)) : ∃ a xs, x = .ref a ∧ G a = some (.lst xs) ∧ DDs K G xs ds := by
  cases h with | lst e t => exact ⟨_, _, rfl, e, t⟩
theorem dd_tup {x : V} {ds : List D} (h : DD K G x (.tuple ds)) : ∃ a xs, x = .ref a ∧ SqT K G a xs ∧ DDs K G xs ds := by
  cases h with | tup e t => exact ⟨_, _, rfl, e.t, t⟩
theorem dd_tupN {x : V} {ds : List D} (h : DD K G x (.tuple ds)) : ∃ a xs, x = .ref a ∧ SqN K G a xs ∧ DDs K G xs ds := by
  cases h with | tup e t => exact ⟨_, _, rfl, e, t⟩
theorem dd_int {x : V} {i : Int} (h : DD K G x (.int i)) : x = .int i := by cases h; rfl
theorem dd_bl {x : V} {i : Bool} (h : DD K G x (.bool i)) : x = .bl i := by cases h; rfl
theorem dd_str {x : V} {i : Str} (h : DD K G x (.str i)) : x = .str i := by cases h; rfl
theorem dd_non {x : V} (h : DD K G x .none) : x = .non := by cases h; rfl
end
variable {X : Cx} {hs : HS} {ω : List Nat} {E : XK} {a b c : Expr} {fa fb fc : FE} {pos : Pos}
/-- the ways of a Rel's cut: what lies in the cut heap lies in the heap -/
theorem cut_sub {O : Addr → Prop} {H : Hp} : ∀ a o, Cut O H a = some o → H a = some o := fun _ _ h => (cut_some h).2
theorem new_cut {O : Addr → Prop} {H H' : Hp} (hd : ∀ a, O a → H a ≠ none) : ∀ p, H p = none → Cut O H' p = H' p := fun p n => cut_out fun o => hd p o n

def binM (g : D → D → Option D) (fa fb : FE) : FE := fun e h => (fa e h).bind fun x h1 => (fb e h1).bind fun y h2 => opt (g x y) h2
/-- what stands behind two operands -/
theorem op_end {r : R2} {g : D → D → Option D} (hr : OpD X.K r g) {K' : Unit} {R O : Addr → Prop} {ha : Option Addr} {σ : L2.St} {H : Hp} {e : En} {h : List D} {x y : V} {da db : D} {Q : VK} (rel : Rel X.K R O ha hs ω σ H e h)
    (hx : DD X.K (Cut O H) x da) (hy : DD X.K (Cut O H) y db) (q : PR X.K X.mg R ha hs ω E σ O H e (opt (g da db) h) (KE' X.K Q)) : r x y H Q := by
  obtain ⟨d, e1, q⟩ := pr_opt q
  exact hr H x y da db d (Cut O H) Q cut_sub hx hy e1 fun v H' gr hv => q H' O (rel.step gr) (rel.grow gr) v (hv _ (rel.step gr).ex (new_cut rel.g.dom))
theorem bin_te {r : R2} {g : D → D → Option D} (hr : OpD X.K r g) (σ : L2.St) (H : Hp) (Q : VK) (hq : teD X.K X.mg hs ω E (binM g fa fb) σ H Q) : tOp r (teD X.K X.mg hs ω E fa) (teD X.K X.mg hs ω E fb) σ H Q := by
  obtain ⟨R, O, ha, e, h, rel, hp⟩ := hq
  refine ⟨R, O, ha, e, h, rel, pr_bind hp fun d1 h1 H1 O1 s1 rel1 hp1 v1 dv1 => ?_⟩
  refine ⟨R, O1, ha, e, h1, rel1, pr_bind hp1 fun d2 h2 H2 O2 s2 rel2 hp2 v2 dv2 => ?_⟩
  exact op_end (K' := ()) hr rel2 (s2.dd dv1) dv2 hp2
theorem de_op {op : Operator} {r : R2} {g : D → D → Option D} (ho : OpR X (binaryOp op) r) (hr : OpD X.K r g) (h1 : DE X hs ω E a fa) (h2 : DE X hs ω E b fb) : DE X hs ω E (.BinOp a op b pos) (binM g fa fb) :=
  pe_imp (pe_op ho h1 h2) (bin_te hr)
theorem de_cmp {op : CmpOp} {r : R2} {g : D → D → Option D} (ho : OpR X (compareOp op) r) (hr : OpD X.K r g) (h1 : DE X hs ω E a fa) (h2 : DE X hs ω E b fb) (hm : behindInMarks op b = false) : DE X hs ω E (.Compare a [op] [b] pos) (binM g fa fb) :=
  pe_imp (pe_cmpR ho h1 h2 hm) (bin_te hr)
/-! ### constants, names -/
def conM (d : D) : FE := fun _ h => .ok d h
theorem con_te {v : V} {d : D} (hv : ∀ G, DD X.K G v d) (σ : L2.St) (H : Hp) (Q : VK) (hq : teD X.K X.mg hs ω E (conM d) σ H Q) : tC v σ H Q := by
  obtain ⟨R, O, ha, e, h, rel, hp⟩ := hq
  exact pr_ok hp rel v (hv _)
theorem de_int {i : Int} {j : Nat} : DE X hs ω E (.Constant (.int i) j pos) (conM (.int i)) := pe_imp pe_int (con_te fun _ => .int i)
theorem de_bool {i : Bool} {j : Nat} : DE X hs ω E (.Constant (.bool i) j pos) (conM (.bool i)) := pe_imp pe_bl (con_te fun _ => .bl i)
theorem de_none {j : Nat} : DE X hs ω E (.Constant .none j pos) (conM .none) := pe_imp pe_non (con_te fun _ => .non)
theorem de_str {i : Str} {j : Nat} : DE X hs ω E (.Constant (.str i) j pos) (conM (.str i)) := pe_imp pe_str (con_te fun _ => .str i)
/-- a module's constant, a scalar -/
theorem de_glob {x : Str} {v : V} {d : D} {u : Value} (hg : Gl X x) (hm : X.mg x = some u) (r : RelV v u) (hv : ∀ G, DD X.K G v d) (hd : (x == ("__debug__" : Str)) = false := by decide) : DE X hs ω E (.Name x pos) (conM d) :=
  pe_imp (pe_glob hg hm r hd) (con_te hv)
def slot (e : En) (i : Nat) : Option D := match e[i]? with | some (some d) => some d | _ => none
theorem slot_some {e : En} {i : Nat} {d : D} (h : slot e i = some d) : e[i]? = some (some d) := by
  unfold slot at h
  split at h
  · rename_i d' he
    cases h
    exact he
  · cases h
def varM (i : Nat) : FE := fun e h => opt (slot e i) h
theorem de_var {i : Nat} {x : Str} (hp : PE X (.Name x pos) (tVar i)) (hi : i ∉ ω := by decide) (hh : hs.ix ≠ some i := by exact of_decide_eq_true rfl) : DE X hs ω E (.Name x pos) (varM i) := pe_imp hp fun σ H Q hq => by
  obtain ⟨R, O, ha, e, h, rel, hp⟩ := hq
  obtain ⟨d, e1, q⟩ := pr_opt hp
  obtain ⟨v, e2, e3⟩ := rel.val i d hi hh (slot_some e1)
  exact ⟨v, e2, pr_ok q rel v e3⟩
theorem dq_of {e : Expr} {f : FE} (h : DE X hs ω E e f) : DQ X hs ω E e f := pe_imp h fun σ H Q hq => by
  obtain ⟨R, O, ha, en, h, rel, hp⟩ := hq
  refine ⟨R, O, ha, en, h, rel, ?_⟩
  generalize f en h = r at hp ⊢
  cases r with
  | ok d h' => exact fun H' O' s rel' v dv => hp H' O' s rel' v (.inl dv)
  | ex c h' => exact hp
  | no => exact hp
/-- an owned list's name, read -/
theorem dq_own {i : Nat} {x : Str} (hp : PE X (.Name x pos) (tVar i)) (hi : i ∈ ω := by decide) : DQ X hs ω E (.Name x pos) (varM i) := pe_imp hp fun σ H Q hq => by
  obtain ⟨R, O, ha, e, h, rel, hp⟩ := hq
  obtain ⟨d, e1, q⟩ := pr_opt hp
  obtain ⟨p, o, d', e2, e3, e4, e5, e6, e7⟩ := rel.own i hi
  have ed : d' = d := by
    have z := slot_some e1
    rw [e3] at z
    cases z; rfl
  subst ed
  refine ⟨.ref p, e2, pr_ok q rel _ ?_⟩
  cases e7 with
  | lst t => exact .inr ⟨p, _, _, rfl, rfl, e6, t⟩
end Sm


set_option maxRecDepth 100000
set_option maxHeartbeats 4000000
/-! Sim layer, part C: operators on data. -/
namespace Sm
open PySem PySem.Spec PyProof.Rows L2
def LINE : Nat := 16777216
theorem line_eq : sizeLine = LINE := sizeLine_eq
theorem OpD.or {K : PySem.W.Frag} {r r' : R2} {g g' : D → D → Option D} (h : OpD K r g) (h' : OpD K r' g') : OpD K (fun x y H Q => r x y H Q ∨ r' x y H Q) (fun a b => match g a b with | some d => some d | none => g' a b) := by
  intro H x y a b d G Q s hx hy e q
  cases hg : g a b with
  | some d' =>
    simp only [hg] at e
    exact .inl (h H x y a b d G Q s hx hy (hg.trans e) q)
  | none =>
    simp only [hg] at e
    exact .inr (h' H x y a b d G Q s hx hy e q)
theorem opR_or {X : Cx} {f : Value → Value → Sem Value} {r r' : R2} (h : OpR X f r) (h' : OpR X f r') : OpR X f (fun x y H Q => r x y H Q ∨ r' x y H Q) := by
  intro pins s σ H x y v u Q I rx ry q
  rcases q with q | q
  · exact h pins s σ H x y v u Q I rx ry q
  · exact h' pins s σ H x y v u Q I rx ry q
section
variable {K : PySem.W.Frag}
theorem od_rI {C : Int → Int → Prop} {k : Int → Int → V} {g : D → D → Option D} (hg : ∀ a b d, g a b = some d → ∃ i j, a = .int i ∧ b = .int j ∧ C i j ∧ ∀ G, DD K G (k i j) d) : OpD K (rI C k) g := by
  intro H x y a b d G Q s hx hy e q
  obtain ⟨i, j, rfl, rfl, c, hd⟩ := hg a b d e
  obtain rfl := dd_int hx
  obtain rfl := dd_int hy
  exact ⟨i, j, rfl, rfl, c, q _ H (Grow.refl H) fun G' _ _ => hd G'⟩
theorem od_rI0 {k : Int → Int → V} {g : D → D → Option D} (hg : ∀ a b d, g a b = some d → ∃ i j, a = .int i ∧ b = .int j ∧ ∀ G, DD K G (k i j) d) : OpD K (rI0 k) g := by
  intro H x y a b d G Q s hx hy e q
  obtain ⟨i, j, rfl, rfl, hd⟩ := hg a b d e
  obtain rfl := dd_int hx
  obtain rfl := dd_int hy
  exact ⟨i, j, rfl, rfl, q _ H (Grow.refl H) fun G' _ _ => hd G'⟩
end
/-! ### + -/
def addI : D → D → Option D
  | .int i, .int j => some (.int (i + j))
  | _, _ => none
def addS : D → D → Option D
  | .str i, .str j => if i.length + j.length ≤ LINE then some (.str (i ++ j)) else none
  | _, _ => none
def addT : D → D → Option D
  | .tuple i, .tuple j => if i.length + j.length ≤ LINE then some (.tuple (i ++ j)) else none
  | _, _ => none
def addL : D → D → Option D
  | .list i, .list j => if i.length + j.length ≤ LINE then some (.list (i ++ j)) else none
  | _, _ => none
def addD : D → D → Option D
  | .int i, .int j => some (.int (i + j))
  | .str i, .str j => if i.length + j.length ≤ LINE then some (.str (i ++ j)) else none
  | .tuple i, .tuple j => if i.length + j.length ≤ LINE then some (.tuple (i ++ j)) else none
  | .list i, .list j => if i.length + j.length ≤ LINE then some (.list (i ++ j)) else none
  | _, _ => none
section
variable {K : PySem.W.Frag} {G H : Hp}
theorem sq_ts {a : Addr} {xs : List V} (s : ∀ a o, G a = some o → H a = some o) (h : SqT K G a xs) : SqT K H a xs := XN.sqT (fun a o h _ => s a o h) h
theorem dd_newT {H' : Hp} {G' : Hp} {p : Addr} {xs : List V} {ds : List D} (x : XN G G') (hp : H p = none) (e : ∀ p, H p = none → G' p = upd H p' o' p) (d : DDs K G xs ds) : True := trivial
theorem od_addS : OpD K (fun x y H Q => ∃ i j, x = .str i ∧ y = .str j ∧ i.length + j.length ≤ sizeLine ∧ Q (.str (i ++ j)) H) addS := by
  intro H x y a b d G Q s hx hy e q
  unfold addS at e
  split at e
  · rename_i i j
    split at e
    · rename_i hl
      cases e
      obtain rfl := dd_str hx
      obtain rfl := dd_str hy
      exact ⟨i, j, rfl, rfl, by rw [line_eq]; exact hl, q _ H (Grow.refl H) fun G' _ _ => .str _⟩
    · cases e
  · cases e
theorem od_addT : OpD K (rCatN K) addT := by
  intro H x y a b d G Q s hx hy e q
  unfold addT at e
  split at e
  · rename_i i j
    split at e
    · rename_i hl
      cases e
      obtain ⟨a1, xs, rfl, hs1, hd1⟩ := dd_tup hx
      obtain ⟨a2, ys, rfl, hs2, hd2⟩ := dd_tup hy
      refine ⟨a1, a2, xs, ys, rfl, rfl, sq_ts s hs1, sq_ts s hs2, by rw [line_eq, hd1.length, hd2.length]; exact hl, fun e1 => ?_, fun e1 e2 => ?_, fun e1 e2 p o hp oc od => ?_⟩
      · subst e1
        cases hd1
        exact q _ H (Grow.refl H) fun G' x1 _ => dd_mono x1 hy
      · subst e2
        cases hd2
        refine q _ H (Grow.refl H) fun G' x1 _ => ?_
        rw [List.append_nil]
        exact dd_mono x1 hx
      · refine q _ _ (Grow.new hp) fun G' x1 x2 => .tup (.new (by rw [x2 p hp, upd_same]) oc od) ((dds_mono x1 hd1).append (dds_mono x1 hd2))
    · cases e
  · cases e
theorem od_addL : OpD K rCat addL := by
  intro H x y a b d G Q s hx hy e q
  unfold addL at e
  split at e
  · rename_i i j
    split at e
    · rename_i hl
      cases e
      obtain ⟨a1, xs, rfl, hs1, hd1⟩ := dd_list hx
      obtain ⟨a2, ys, rfl, hs2, hd2⟩ := dd_list hy
      refine ⟨a1, a2, xs, ys, rfl, rfl, s _ _ hs1, s _ _ hs2, by rw [line_eq, hd1.length, hd2.length]; exact hl, fun p hp => ?_⟩
      exact q _ _ (Grow.new hp) fun G' x1 x2 => .lst (by rw [x2 p hp, upd_same]) ((dds_mono x1 hd1).append (dds_mono x1 hd2))
    · cases e
  · cases e
theorem od_addI : OpD K (rI0 fun i j => .int (i + j)) addI := od_rI0 fun a b d e => by
  unfold addI at e
  split at e
  · cases e; exact ⟨_, _, rfl, rfl, fun _ => .int _⟩
  · cases e
/-- g answers no more than g' -/
theorem OpD.of {r : R2} {g g' : D → D → Option D} (h : OpD K r g') (e : ∀ a b d, g a b = some d → g' a b = some d) : OpD K r g := fun H x y a b d G Q s hx hy e1 q => h H x y a b d G Q s hx hy (e a b d e1) q
end
variable {X : Cx} {hs : HS} {ω : List Nat} {E : XK} {a b c : Expr} {fa fb fc : FE} {pos : Pos}
theorem de_add (h1 : DE X hs ω E a fa) (h2 : DE X hs ω E b fb) : DE X hs ω E (.BinOp a .Add b pos) (binM addD fa fb) :=
  de_op (opR_or (op_add (X := X)) (opR_or op_add_str (opR_or op_catN op_cat))) (((od_addI.or (od_addS.or (od_addT.or od_addL))).of fun a b d e => by
    unfold addD at e
    split at e <;> simp_all [addI, addS, addT, addL])) h1 h2
def intOp (k : Int → Int → Option Int) : D → D → Option D
  | .int i, .int j => (k i j).map .int
  | _, _ => none
theorem intOp_some {k : Int → Int → Option Int} {a b d : D} (e : intOp k a b = some d) : ∃ i j z, a = .int i ∧ b = .int j ∧ k i j = some z ∧ d = .int z := by
  unfold intOp at e
  split at e
  · rename_i i j
    cases hk : k i j with
    | none => rw [hk] at e; cases e
    | some z => rw [hk] at e; cases e; exact ⟨i, j, z, rfl, rfl, hk, rfl⟩
  · cases e
def subD : D → D → Option D := intOp fun i j => some (i - j)
def iMulOk (i j : Int) : Bool := decide (-(2 ^ 64) < i ∧ i < 2 ^ 64) || decide (-(2 ^ 64) < j ∧ j < 2 ^ 64)
def mulI : D → D → Option D := intOp fun i j => if iMulOk i j then some (i * j) else none
def fdivD : D → D → Option D := intOp fun i j => if 0 < j ∧ j < 1073741824 then some (i / j) else none
def modD : D → D → Option D := intOp fun i j => if 0 < j then some (i % j) else none
def powD : D → D → Option D := intOp fun i j => if 0 ≤ j ∧ j ≤ 1000000 ∧ i.natAbs < 2 ^ 64 then some (i ^ j.toNat) else none
theorem od_int {K : PySem.W.Frag} {C : Int → Int → Prop} {f : Int → Int → Int} {k : Int → Int → Option Int} (h : ∀ i j z, k i j = some z → C i j ∧ z = f i j) : OpD K (rI C fun i j => .int (f i j)) (intOp k) := od_rI fun a b d e => by
  obtain ⟨i, j, z, rfl, rfl, hk, rfl⟩ := intOp_some e
  obtain ⟨c, rfl⟩ := h i j z hk
  exact ⟨i, j, rfl, rfl, c, fun _ => .int _⟩
theorem od_int0 {K : PySem.W.Frag} {f : Int → Int → Int} {k : Int → Int → Option Int} (h : ∀ i j z, k i j = some z → z = f i j) : OpD K (rI0 fun i j => .int (f i j)) (intOp k) := od_rI0 fun a b d e => by
  obtain ⟨i, j, z, rfl, rfl, hk, rfl⟩ := intOp_some e
  obtain rfl := h i j z hk
  exact ⟨i, j, rfl, rfl, fun _ => .int _⟩
theorem de_sub (h1 : DE X hs ω E a fa) (h2 : DE X hs ω E b fb) : DE X hs ω E (.BinOp a .Sub b pos) (binM subD fa fb) :=
  de_op op_sub (od_int0 fun i j z e => by cases e; rfl) h1 h2
theorem de_mulI (h1 : DE X hs ω E a fa) (h2 : DE X hs ω E b fb) : DE X hs ω E (.BinOp a .Mult b pos) (binM mulI fa fb) :=
  de_op op_mul (od_int fun i j z e => by
    split at e
    · rename_i hc
      cases e
      refine ⟨?_, rfl⟩
      unfold iMulOk at hc
      rw [Bool.or_eq_true, decide_eq_true_eq, decide_eq_true_eq] at hc
      exact hc
    · cases e) h1 h2
theorem de_fdiv (h1 : DE X hs ω E a fa) (h2 : DE X hs ω E b fb) : DE X hs ω E (.BinOp a .FloorDiv b pos) (binM fdivD fa fb) :=
  de_op op_fdiv (od_int fun i j z e => by
    split at e
    · rename_i hc; cases e; exact ⟨hc, rfl⟩
    · cases e) h1 h2
theorem de_mod (h1 : DE X hs ω E a fa) (h2 : DE X hs ω E b fb) : DE X hs ω E (.BinOp a .Mod b pos) (binM modD fa fb) :=
  de_op op_mod (od_int fun i j z e => by
    split at e
    · rename_i hc; cases e; exact ⟨hc, rfl⟩
    · cases e) h1 h2
theorem de_pow (h1 : DE X hs ω E a fa) (h2 : DE X hs ω E b fb) : DE X hs ω E (.BinOp a .Pow b pos) (binM powD fa fb) :=
  de_op op_pow (od_int fun i j z e => by
    split at e
    · rename_i hc; cases e; exact ⟨hc, rfl⟩
    · cases e) h1 h2
/-! ### comparisons of ints -/
def intCmp (k : Int → Int → Bool) : D → D → Option D
  | .int i, .int j => some (.bool (k i j))
  | _, _ => none
theorem od_cmp {K : PySem.W.Frag} {k : Int → Int → Bool} : OpD K (rI0 fun i j => .bl (k i j)) (intCmp k) := od_rI0 fun a b d e => by
  unfold intCmp at e
  split at e
  · cases e; exact ⟨_, _, rfl, rfl, fun _ => .bl _⟩
  · cases e
def ltD : D → D → Option D := intCmp fun i j => decide (i < j)
def leD : D → D → Option D := intCmp fun i j => decide (i ≤ j)
def gtD : D → D → Option D := intCmp fun i j => decide (j < i)
def geD : D → D → Option D := intCmp fun i j => decide (j ≤ i)
/-! ### == of data -/
def okE (d : D) : Bool := SeqAt.shaped d
def eqD (a b : D) : Option D := if okE a && okE b then some (.bool (PyData.eqv a b)) else none
def neD (a b : D) : Option D := if okE a && okE b then some (.bool (!PyData.eqv a b)) else none
section
variable {K : PySem.W.Frag} {G H : Hp}
mutual
def noDict : D → Bool
  | .list xs => noDicts xs
  | .tuple xs => noDicts xs
  | .dict _ => false
  | _ => true
def noDicts : List D → Bool
  | [] => true
  | d :: ds => noDict d && noDicts ds
end
mutual
theorem nd_lay : ∀ d : D, d.canLay0 = true → noDict d = true
  | .none, _ => rfl
  | .bool _, _ => rfl
  | .int _, _ => rfl
  | .str _, _ => rfl
  | .list xs, h => nd_lays xs h
  | .tuple xs, h => nd_lays xs h
  | .dict _, h => by cases h
theorem nd_lays : ∀ ds : List D, PyData.canLayAll0 ds = true → noDicts ds = true
  | [], _ => rfl
  | d :: ds, h => by
    have h' : (d.canLay0 && PyData.canLayAll0 ds) = true := h
    rw [Bool.and_eq_true] at h'
    show (noDict d && noDicts ds) = true
    rw [nd_lay d h'.1, nd_lays ds h'.2]; rfl
end
theorem nd_sh {d : D} (h : SeqAt.shaped d = true) : noDict d = true := nd_lay d (SeqAt.canLay_of_shaped h)
mutual
theorem dd_dp (s : ∀ a o, G a = some o → H a = some o) : ∀ {v : V} {d : D}, DD K G v d → noDict d = true → Dp K H v d
  | _, _, .non, _ => .non
  | _, _, .bl b, _ => .bl b
  | _, _, .int i, _ => .int i
  | _, _, .str y, _ => .str y
  | _, _, .lst h a, c => .lst (.inl (.inl (s _ _ h))) (dds_dp s a c)
  | _, _, .tup h a, c => .tup (sq_ts s h.t) (dds_dp s a c)
  | _, _, .dct h, c => by cases c
theorem dds_dp (s : ∀ a o, G a = some o → H a = some o) : ∀ {vs : List V} {ds : List D}, DDs K G vs ds → noDicts ds = true → DpAll K H vs ds
  | _, _, .nil, _ => .nil
  | _, _, .cons (d := d) (ds := ds) h t, c => by
    have c' : (noDict d && noDicts ds) = true := c
    rw [Bool.and_eq_true] at c'
    exact .cons (dd_dp s h c'.1) (dds_dp s t c'.2)
end
theorem od_eq : OpD K (rEqD K) eqD := by
  intro H x y a b d G Q s hx hy e q
  unfold eqD at e
  split at e
  · rename_i hl
    cases e
    rw [Bool.and_eq_true] at hl
    exact ⟨a, b, dd_dp s hx (nd_sh hl.1), dd_dp s hy (nd_sh hl.2), hl.1, hl.2, q _ H (Grow.refl H) fun _ _ _ => .bl _⟩
  · cases e
theorem od_ne : OpD K (rNeD K) neD := by
  intro H x y a b d G Q s hx hy e q
  unfold neD at e
  split at e
  · rename_i hl
    cases e
    rw [Bool.and_eq_true] at hl
    exact ⟨a, b, dd_dp s hx (nd_sh hl.1), dd_dp s hy (nd_sh hl.2), hl.1, hl.2, q _ H (Grow.refl H) fun _ _ _ => .bl _⟩
  · cases e
end
theorem de_eq (hu : X.A.units + 64 < cLine) (h1 : DE X hs ω E a fa) (h2 : DE X hs ω E b fb) : DE X hs ω E (.Compare a [.Eq] [b] pos) (binM eqD fa fb) := de_cmp (op_eqD hu) od_eq h1 h2 (nomark _)
theorem de_ne (hu : X.A.units + 64 < cLine) (h1 : DE X hs ω E a fa) (h2 : DE X hs ω E b fb) : DE X hs ω E (.Compare a [.NotEq] [b] pos) (binM neD fa fb) := de_cmp (op_neD hu) od_ne h1 h2 (nomark _)
theorem de_lt (h1 : DE X hs ω E a fa) (h2 : DE X hs ω E b fb) : DE X hs ω E (.Compare a [.Lt] [b] pos) (binM ltD fa fb) := de_cmp op_lt od_cmp h1 h2 (nomark _)
theorem de_le (h1 : DE X hs ω E a fa) (h2 : DE X hs ω E b fb) : DE X hs ω E (.Compare a [.LtE] [b] pos) (binM leD fa fb) := de_cmp op_le od_cmp h1 h2 (nomark _)
theorem de_gt (h1 : DE X hs ω E a fa) (h2 : DE X hs ω E b fb) : DE X hs ω E (.Compare a [.Gt] [b] pos) (binM gtD fa fb) := de_cmp op_gt od_cmp h1 h2 (nomark _)
theorem de_ge (h1 : DE X hs ω E a fa) (h2 : DE X hs ω E b fb) : DE X hs ω E (.Compare a [.GtE] [b] pos) (binM geD fa fb) := de_cmp op_ge od_cmp h1 h2 (nomark _)
end Sm


set_option maxRecDepth 100000
set_option maxHeartbeats 4000000
/-! Sim layer, part D: tests, truth, displays, subscripts, fresh lists. -/
namespace Sm
open PySem PySem.Spec PyProof.Rows L2
variable {X : Cx} {hs : HS} {ω : List Nat} {E : XK} {a b c : Expr} {fa fb fc : FE} {pos : Pos} {rest es : List Expr}
section
variable {K : PySem.W.Frag} {mg : Str → Option Value} {R O O1 : Addr → Prop} {ha : Option Addr} {σ : L2.St} {H H1 : Hp} {e : En} {h : List D}
/-! ### owned new lists -/
def Plus (O : Addr → Prop) (p : Addr) : Addr → Prop := fun a => O a ∨ a = p
def Minus (O : Addr → Prop) (p : Addr) : Addr → Prop := fun a => O a ∧ a ≠ p
theorem cut_plus {p : Addr} {o : HO} (n : H p = none) : Cut (Plus O p) (upd H p o) = Cut O H := by
  funext a
  by_cases h1 : a = p
  · subst h1
    rw [cut_in (.inr rfl)]
    by_cases h2 : O a
    · rw [cut_in h2]
    · rw [cut_out h2, n]
  · by_cases h2 : O a
    · rw [cut_in (.inl h2), cut_in h2]
    · rw [cut_out (fun z => z.elim h2 h1), cut_out h2, upd_ne h1]
theorem grow_ne {p : Addr} {o : HO} (n : H p = none) {a : Addr} (h : H a ≠ none) : upd H p o a = H a := upd_ne (fun z => h (by rw [z]; exact n))
theorem Rel.plus {p : Addr} {o : HO} (r : Rel K R O ha hs ω σ H e h) (n : H p = none) (nt : ∀ ps, o ≠ .tbl ps) : Rel K R (Plus O p) ha hs ω σ (upd H p o) e h where
  g := ⟨fun a x => .inl (r.g.sub a x), fun a x => by
      rcases x with x | x
      · exact (r.g.dm a x).grow (Grow.new n)
      · exact ⟨o, by rw [x, upd_same], nt⟩,
    fun a x => by
      obtain ⟨y, xs, e1, e2⟩ := r.g.hnd a x
      exact ⟨y, xs, by rw [grow_ne n (by rw [e1]; exact fun z => (by cases z))]; exact e1, by rw [cut_plus n]; exact e2⟩⟩
  val := fun i d x y z => by rw [cut_plus n]; exact r.val i d x y z
  own := fun i hi => by
    obtain ⟨a, o', d, e1, e2, e3, e4, e5, e6⟩ := r.own i hi
    exact ⟨a, o', d, e1, e2, .inl e3, e4, by rw [grow_ne n (by rw [e5]; exact fun z => (by cases z))]; exact e5, by rw [cut_plus n]; exact e6⟩
  inj := r.inj
  hand := r.hand
  len := r.len
  tb := r.tb.ext (Grow.new n)
theorem step_plus {p : Addr} {o : HO} (r : RelG K R O ha H h) (n : H p = none) : Step hs.tabs R ha O H (Plus O p) (upd H p o) :=
  ⟨by rw [cut_plus n]; exact XN.refl _, fun a x _ => grow_ne n (r.dom a (r.sub a x)), fun t => t.ext (Grow.new n)⟩
theorem xn_minus {p : Addr} : XN (Cut O H) (Cut (Minus O p) H) := fun a o h _ => by
  obtain ⟨n, q⟩ := cut_some h
  rw [cut_out fun z => n z.1]; exact q
theorem Rel.minus {p : Addr} (r : Rel K R O ha hs ω σ H e h) (nR : ¬ R p) (nω : ∀ i ∈ ω, σ[i]? ≠ some (some (.ref p))) : Rel K R (Minus O p) ha hs ω σ H e h where
  g := ⟨fun a x => ⟨r.g.sub a x, fun z => nR (z ▸ x)⟩, fun a x => r.g.dm a x.1, fun a x => by
    obtain ⟨y, xs, e1, e2⟩ := r.g.hnd a x
    exact ⟨y, xs, e1, dds_mono xn_minus e2⟩⟩
  val := fun i d x y z => by
    obtain ⟨v, e1, e2⟩ := r.val i d x y z
    exact ⟨v, e1, dd_mono xn_minus e2⟩
  own := fun i hi => by
    obtain ⟨a, o', d, e1, e2, e3, e4, e5, e6⟩ := r.own i hi
    exact ⟨a, o', d, e1, e2, ⟨e3, fun z => nω i hi (z ▸ e1)⟩, e4, e5, e6.mono xn_minus⟩
  inj := r.inj
  hand := r.hand
  len := r.len
  tb := r.tb
theorem step_minus {p : Addr} : Step hs.tabs R ha O H (Minus O p) H := ⟨xn_minus, fun _ _ _ => rfl, fun t => t⟩
/-- a new list, owned from now on -/
theorem pl_new {ds : List D} {xs : List V} {p : Addr} {Q : VK} (q : PR K mg R ha hs ω E σ O H e (.ok ds h) (KL' K R ω σ Q)) (rel : Rel K R O ha hs ω σ H e h) (d : DDs K (Cut O H) xs ds) (n : H p = none) : Q (.ref p) (upd H p (.lst xs)) :=
  q _ _ (step_plus rel.g n) (rel.plus n fun _ z => (by cases z)) p xs (.inr rfl) (fun x => rel.g.dom p (rel.g.sub p x) n) (fun i hi z => by
    obtain ⟨a, o', d, e1, e2, e3, e4, e5, e6⟩ := rel.own i hi
    rw [e1] at z
    cases z
    exact rel.g.dom _ e3 n) upd_same (by rw [cut_plus n]; exact d)
end
def lstM (f : FL) : FE := fun e h => (f e h).bind fun ds h1 => .ok (.list ds) h1
def tupM (f : FL) : FE := fun e h => (f e h).bind fun ds h1 => .ok (.tuple ds) h1
theorem de_of_dl {f : FL} {e : Expr} (hl : DL X hs ω E e f) : DE X hs ω E e (lstM f) := pe_imp hl fun σ H Q hq => by
  obtain ⟨R, O, ha, en, h, rel, hp⟩ := hq
  refine ⟨R, O, ha, en, h, rel, pr_bind hp fun ds h1 H1 O1 s1 rel1 hp1 p xs h2 h3 h4 h5 h6 => ?_⟩
  refine hp1 H1 (Minus O1 p) step_minus (rel1.minus h3 h4) _ (.lst ?_ (dds_mono xn_minus h6))
  rw [cut_out fun z => z.2 rfl]
  exact h5
/-! ### arguments and displays -/
def nilM : FL := fun _ h => .ok [] h
def consM (f : FE) (g : FL) : FL := fun e h => (f e h).bind fun d h1 => (g e h1).bind fun ds h2 => .ok (d :: ds) h2
theorem da_nil : DA X hs ω E [] nilM := pa_imp pa_nil fun σ H Q hq => by
  obtain ⟨R, O, ha, e, h, rel, hp⟩ := hq
  exact pr_ok hp rel [] .nil
theorem da_cons {f : FE} {g : FL} {e : Expr} (h1 : DE X hs ω E e f) (h2 : DA X hs ω E es g) (hst : starEach (e :: es) X.env = (false, eval e X.env) :: starEach es X.env := by rfl) : DA X hs ω E (e :: es) (consM f g) := pa_imp (pa_cons h1 h2 hst) fun σ H Q hq => by
  obtain ⟨R, O, ha, e, h, rel, hp⟩ := hq
  refine ⟨R, O, ha, e, h, rel, pr_bind hp fun d1 h1 H1 O1 s1 rel1 hp1 v1 dv1 => ?_⟩
  refine ⟨R, O1, ha, e, h1, rel1, pr_bind hp1 fun d2 h2 H2 O2 s2 rel2 hp2 v2 dv2 => ?_⟩
  exact pr_ok hp2 rel2 _ (.cons (s2.dd dv1) dv2)
theorem small_len {n : Nat} (h : n ≤ 1000) : n ≤ sizeLine := Nat.le_of_lt (small1000 h)
theorem de_tuple {f : FL} {x1} (hl : es.length ≤ 1000) (h1 : DA X hs ω E es f) (hf : ∀ e h ds h', f e h = .ok ds h' → ds.length = es.length) : DE X hs ω E (.Tuple es x1 pos) (tupM f) := pe_imp (pe_tupN h1) fun σ H Q hq => by
  obtain ⟨R, O, ha, e, h, rel, hp⟩ := hq
  refine ⟨R, O, ha, e, h, rel, ?_⟩
  cases hr : f e h with
  | ok ds h1 =>
    unfold tupM at hp
    rw [hr] at hp
    intro H1 O1 s1 rel1 vs dvs
    refine ⟨by rw [dvs.length, hf e h ds h1 hr]; exact small_len hl, fun p o np oc od => ?_⟩
    exact pr_new (pr_step hp s1) rel1 np _ (.tup (.new (by rw [cut_out fun z => rel1.g.dom p z np, upd_same]) oc od) (dds_mono (rel1.step (Grow.new np)).ex dvs))
  | ex c h' =>
    unfold tupM at hp
    rw [hr] at hp
    exact hp
  | no =>
    unfold tupM at hp
    rw [hr] at hp
    exact hp
theorem len_nil {e : En} {h : List D} {ds : List D} {h' : List D} (z : nilM e h = .ok ds h') : ds.length = ([] : List Expr).length := by
  cases z; rfl
theorem len_cons {f : FE} {g : FL} {x : Expr} (hg : ∀ e h ds h', g e h = .ok ds h' → ds.length = es.length) : ∀ (e : En) (h : List D) (ds : List D) (h' : List D), consM f g e h = .ok ds h' → ds.length = (x :: es).length := fun e h ds h' z => by
  unfold consM at z
  cases hf : f e h with
  | ok d h1 =>
    rw [hf] at z
    cases hg2 : g e h1 with
    | ok ds2 h2 =>
      have z2 : (Res.bind (g e h1) fun ds h2 => Res.ok (d :: ds) h2) = .ok ds h' := z
      rw [hg2] at z2
      cases z2
      simp [hg _ _ _ _ hg2]
    | ex c h2 =>
      have z2 : (Res.bind (g e h1) fun ds h2 => Res.ok (d :: ds) h2) = .ok ds h' := z
      rw [hg2] at z2
      cases z2
    | no =>
      have z2 : (Res.bind (g e h1) fun ds h2 => Res.ok (d :: ds) h2) = .ok ds h' := z
      rw [hg2] at z2
      cases z2
  | ex c h1 => rw [hf] at z; cases z
  | no => rw [hf] at z; cases z
/-- a list of arguments with its length -/
structure DAn (X : Cx) (hs : HS) (ω : List Nat) (E : XK) (es : List Expr) (f : FL) : Prop where
  da : DA X hs ω E es f
  len : ∀ e h ds h', f e h = .ok ds h' → ds.length = es.length
theorem an_nil : DAn X hs ω E [] nilM := ⟨da_nil, fun _ _ _ _ => len_nil⟩
theorem an_cons {f : FE} {g : FL} {e : Expr} (h1 : DE X hs ω E e f) (h2 : DAn X hs ω E es g) (hst : starEach (e :: es) X.env = (false, eval e X.env) :: starEach es X.env := by rfl) : DAn X hs ω E (e :: es) (consM f g) := ⟨da_cons h1 h2.da hst, len_cons h2.len⟩
theorem de_tup {f : FL} {x1} (h1 : DAn X hs ω E es f) (hl : es.length ≤ 1000 := by decide) : DE X hs ω E (.Tuple es x1 pos) (tupM f) := de_tuple hl h1.da h1.len
theorem dl_lst {f : FL} (h1 : DAn X hs ω E es f) (hl : es.length ≤ 1000 := by decide) : DL X hs ω E (.List es pos) f := pe_imp (pe_lst h1.da) fun σ H Q hq => by
  obtain ⟨R, O, ha, e, h, rel, hp⟩ := hq
  refine ⟨R, O, ha, e, h, rel, ?_⟩
  cases hr : f e h with
  | ok ds h2 =>
    rw [hr] at hp
    intro H1 O1 s1 rel1 vs dvs
    refine ⟨by rw [dvs.length, h1.len e h ds h2 hr]; exact small_len hl, fun p np => ?_⟩
    exact pl_new (pr_step hp s1) rel1 dvs np
  | ex c h' => rw [hr] at hp; exact hp
  | no => rw [hr] at hp; exact hp
theorem de_lst {f : FL} (h1 : DAn X hs ω E es f) (hl : es.length ≤ 1000 := by decide) : DE X hs ω E (.List es pos) (lstM f) := de_of_dl (dl_lst h1 hl)
/-! ### truth and tests -/
def truD : D → Option Bool
  | .none => some false
  | .bool b => some b
  | .int i => some (i != 0)
  | .str s => if s.length ≤ LINE then some ((s.length : Int) != 0) else none
  | .tuple xs => some (!xs.isEmpty)
  | .list xs => some (!xs.isEmpty)
  | .dict _ => none
def asB : D → Option Bool
  | .bool b => some b
  | _ => none
def truM (f : FE) : FB := fun e h => (f e h).bind fun d h1 => opt (truD d) h1
def boolM (f : FE) : FB := fun e h => (f e h).bind fun d h1 => opt (asB d) h1
theorem isEmpty_len {α β : Type} {xs : List α} {ys : List β} (h : xs.length = ys.length) : xs.isEmpty = ys.isEmpty := by
  cases xs <;> cases ys <;> simp_all
theorem tru_of {K : PySem.W.Frag} {G H : Hp} {v : V} {d : D} {k : Bool} (h : SeqV K G H v d) (s : ∀ a o, G a = some o → H a = some o) (e : truD d = some k) : TruV K v H k := by
  rcases h with h | ⟨p, xs, ds, rfl, rfl, h1, h2⟩
  · cases h with
    | non => cases e; rfl
    | bl b => cases e; rfl
    | int i => cases e; rfl
    | str x =>
      simp only [truD] at e
      split at e
      · rename_i hl
        cases e
        exact ⟨by rw [line_eq]; exact hl, rfl⟩
      · cases e
    | lst h1 h2 =>
      cases e
      exact .inl ⟨_, .inl (.inl (s _ _ h1)), by rw [isEmpty_len h2.length]⟩
    | dct h1 => cases e
    | tup h1 h2 =>
      cases e
      exact .inr (.inl ⟨_, sq_ts s h1.t, by rw [isEmpty_len h2.length]⟩)
  · cases e
    exact .inl ⟨_, .inl (.inl h1), by rw [isEmpty_len h2.length]⟩
theorem dt_tru (h1 : DQ X hs ω E a fa) (he : ∀ whole, isTrue a X.env whole = (do let v ← whole; standAt a.pos; holding [v] (truthy v)) := by intro _; rfl) : DT X hs ω E a (truM fa) := pt_imp (pt_truth h1 he) fun σ H Q hq => by
  obtain ⟨R, O, ha, e, h, rel, hp⟩ := hq
  refine ⟨R, O, ha, e, h, rel, pr_bind hp fun d1 h1 H1 O1 s1 rel1 hp1 v1 dv1 => ?_⟩
  obtain ⟨k, e1, q⟩ := pr_opt hp1
  exact ⟨k, tru_of dv1 cut_sub e1, pr_ok q rel1⟩
theorem tst_te {f : FE} (σ : L2.St) (H : Hp) (Q : Bool → Hp → Prop) (hq : ttD X.K X.mg hs ω E (boolM f) σ H Q) : tTest (teD X.K X.mg hs ω E f) σ H Q := by
  obtain ⟨R, O, ha, e, h, rel, hp⟩ := hq
  refine ⟨R, O, ha, e, h, rel, pr_bind hp fun d1 h1 H1 O1 s1 rel1 hp1 v1 dv1 => ?_⟩
  obtain ⟨k, e1, q⟩ := pr_opt hp1
  have : d1 = .bool k := by
    unfold asB at e1
    split at e1
    · cases e1; rfl
    · cases e1
  subst this
  obtain rfl := dd_bl dv1
  exact ⟨k, rfl, pr_ok q rel1⟩
theorem tst_mono {t t' : TE} (w : ∀ σ H Q, t' σ H Q → t σ H Q) (σ : L2.St) (H : Hp) (Q : Bool → Hp → Prop) (h : tTest t' σ H Q) : tTest t σ H Q := w _ _ _ h
theorem dt_cmp {op : CmpOp} {r : R2} {g : D → D → Option D} (ho : OpR X (compareOp op) r) (hr : OpD X.K r g) (h1 : DE X hs ω E a fa) (h2 : DE X hs ω E b fb) (hm : behindInMarks op b = false) : DT X hs ω E (.Compare a [op] [b] pos) (boolM (binM g fa fb)) :=
  pt_imp (pt_cmpR ho h1 h2 hm) fun σ H Q hq => tst_mono (bin_te hr) σ H Q (tst_te σ H Q hq)
theorem dt_eq (hu : X.A.units + 64 < cLine) (h1 : DE X hs ω E a fa) (h2 : DE X hs ω E b fb) : DT X hs ω E (.Compare a [.Eq] [b] pos) (boolM (binM eqD fa fb)) := dt_cmp (op_eqD hu) od_eq h1 h2 (nomark _)
theorem dt_ne (hu : X.A.units + 64 < cLine) (h1 : DE X hs ω E a fa) (h2 : DE X hs ω E b fb) : DT X hs ω E (.Compare a [.NotEq] [b] pos) (boolM (binM neD fa fb)) := dt_cmp (op_neD hu) od_ne h1 h2 (nomark _)
theorem dt_lt (h1 : DE X hs ω E a fa) (h2 : DE X hs ω E b fb) : DT X hs ω E (.Compare a [.Lt] [b] pos) (boolM (binM ltD fa fb)) := dt_cmp op_lt od_cmp h1 h2 (nomark _)
theorem dt_le (h1 : DE X hs ω E a fa) (h2 : DE X hs ω E b fb) : DT X hs ω E (.Compare a [.LtE] [b] pos) (boolM (binM leD fa fb)) := dt_cmp op_le od_cmp h1 h2 (nomark _)
theorem dt_gt (h1 : DE X hs ω E a fa) (h2 : DE X hs ω E b fb) : DT X hs ω E (.Compare a [.Gt] [b] pos) (boolM (binM gtD fa fb)) := dt_cmp op_gt od_cmp h1 h2 (nomark _)
theorem dt_ge (h1 : DE X hs ω E a fa) (h2 : DE X hs ω E b fb) : DT X hs ω E (.Compare a [.GtE] [b] pos) (boolM (binM geD fa fb)) := dt_cmp op_ge od_cmp h1 h2 (nomark _)
/-- a op b op' c -/
def chainM (g g' : D → D → Option D) (fa fb fc : FE) : FE := fun e h => (fa e h).bind fun x h1 => (fb e h1).bind fun y h2 => (opt ((g x y).bind asB) h2).bind fun k h3 =>
  if k = true then (fc e h3).bind fun z h4 => opt (g' y z) h4 else .ok (.bool false) h3
theorem asB_some {d : D} {k : Bool} (h : asB d = some k) : d = .bool k := by
  unfold asB at h
  split at h
  · cases h; rfl
  · cases h
theorem chain_te {r r' : R2} {g g' : D → D → Option D} (hr : OpD X.K r g) (hr' : OpD X.K r' g') (σ : L2.St) (H : Hp) (Q : VK) (hq : teD X.K X.mg hs ω E (chainM g g' fa fb fc) σ H Q) : tChain r r' (teD X.K X.mg hs ω E fa) (teD X.K X.mg hs ω E fb) (teD X.K X.mg hs ω E fc) σ H Q := by
  obtain ⟨R, O, ha, e, h, rel, hp⟩ := hq
  refine ⟨R, O, ha, e, h, rel, pr_bind hp fun d1 h1 H1 O1 s1 rel1 hp1 v1 dv1 => ?_⟩
  refine ⟨R, O1, ha, e, h1, rel1, pr_bind hp1 fun d2 h2 H2 O2 s2 rel2 hp2 v2 dv2 => ?_⟩
  cases hg : g d1 d2 with
  | none => rw [hg] at hp2; exact hp2.elim
  | some z =>
    rw [hg] at hp2
    cases hz : asB z with
    | none => rw [show (some z).bind asB = asB z from rfl, hz] at hp2; exact hp2.elim
    | some k =>
      rw [show (some z).bind asB = asB z from rfl, hz] at hp2
      obtain rfl := asB_some hz
      refine hr H2 v1 v2 d1 d2 _ (Cut O2 H2) _ cut_sub (s2.dd dv1) dv2 hg fun v H3 gr hv => ?_
      have st := rel2.step gr
      have rel3 := rel2.grow gr
      obtain rfl := dd_bl (hv _ st.ex (new_cut rel2.g.dom))
      have hp3 := pr_step hp2 st
      refine ⟨k, rfl, ?_⟩
      cases k with
      | true =>
        rw [if_pos rfl]
        have hp3' : PR X.K X.mg R ha hs ω E σ O2 H3 e ((fc e h2).bind fun z h4 => opt (g' d2 z) h4) (KE' X.K Q) := hp3
        refine ⟨R, O2, ha, e, h2, rel3, pr_bind hp3' fun d4 h4 H4 O4 s4 rel4 hp4 v4 dv4 => ?_⟩
        exact op_end (K' := ()) hr' rel4 (s4.dd (st.dd dv2)) dv4 hp4
      | false =>
        rw [if_neg (by decide)]
        exact pr_ok (show PR X.K X.mg R ha hs ω E σ O2 H3 e (.ok (.bool false) h2) (KE' X.K Q) from hp3) rel3 _ (.bl _)
theorem de_chain {op op' : CmpOp} {r r' : R2} {g g' : D → D → Option D} (ho : OpR X (compareOp op) r) (hr : OpD X.K r g) (ho' : OpR X (compareOp op') r') (hr' : OpD X.K r' g') (h1 : DE X hs ω E a fa) (h2 : DE X hs ω E b fb) (h3 : DE X hs ω E c fc)
    (hm : lastMarks [op, op'] [b, c] = false := by with_unfolding_all rfl) : DE X hs ω E (.Compare a [op, op'] [b, c] pos) (chainM g g' fa fb fc) := pe_imp (pe_chain ho ho' h1 h2 h3 hm) (chain_te hr hr')
theorem dt_chain {op op' : CmpOp} {r r' : R2} {g g' : D → D → Option D} (ho : OpR X (compareOp op) r) (hr : OpD X.K r g) (ho' : OpR X (compareOp op') r') (hr' : OpD X.K r' g') (h1 : DE X hs ω E a fa) (h2 : DE X hs ω E b fb) (h3 : DE X hs ω E c fc)
    (hm : lastMarks [op, op'] [b, c] = false := by with_unfolding_all rfl) : DT X hs ω E (.Compare a [op, op'] [b, c] pos) (boolM (chainM g g' fa fb fc)) := pt_imp (pt_chain ho ho' h1 h2 h3 hm) fun σ H Q hq => tst_mono (chain_te hr hr') σ H Q (tst_te σ H Q hq)
theorem nomark2 (b c : Expr) {op op' : CmpOp} (h : op' ≠ .In := by decide) (h2 : op' ≠ .NotIn := by decide) : lastMarks [op, op'] [b, c] = false := nomark c h h2
theorem de_leLe (h1 : DE X hs ω E a fa) (h2 : DE X hs ω E b fb) (h3 : DE X hs ω E c fc) : DE X hs ω E (.Compare a [.LtE, .LtE] [b, c] pos) (chainM leD leD fa fb fc) := de_chain op_le od_cmp op_le od_cmp h1 h2 h3 (nomark2 b c)
theorem dt_leLe (h1 : DE X hs ω E a fa) (h2 : DE X hs ω E b fb) (h3 : DE X hs ω E c fc) : DT X hs ω E (.Compare a [.LtE, .LtE] [b, c] pos) (boolM (chainM leD leD fa fb fc)) := dt_chain op_le od_cmp op_le od_cmp h1 h2 h3 (nomark2 b c)
theorem de_leLt (h1 : DE X hs ω E a fa) (h2 : DE X hs ω E b fb) (h3 : DE X hs ω E c fc) : DE X hs ω E (.Compare a [.LtE, .Lt] [b, c] pos) (chainM leD ltD fa fb fc) := de_chain op_le od_cmp op_lt od_cmp h1 h2 h3 (nomark2 b c)
theorem dt_leLt (h1 : DE X hs ω E a fa) (h2 : DE X hs ω E b fb) (h3 : DE X hs ω E c fc) : DT X hs ω E (.Compare a [.LtE, .Lt] [b, c] pos) (boolM (chainM leD ltD fa fb fc)) := dt_chain op_le od_cmp op_lt od_cmp h1 h2 h3 (nomark2 b c)
/-! ### and, or, not -/
variable {ga gb : FB}
def notB (f : FB) : FB := fun e h => (f e h).bind fun k h1 => .ok (!k) h1
def andB (f g : FB) : FB := fun e h => (f e h).bind fun k h1 => if k = true then g e h1 else .ok false h1
def orB (f g : FB) : FB := fun e h => (f e h).bind fun k h1 => if k = true then .ok true h1 else g e h1
theorem dt_not (h1 : DT X hs ω E a ga) : DT X hs ω E (.UnaryOp .Not a pos) (notB ga) := pt_imp (pt_not h1) fun σ H Q hq => by
  obtain ⟨R, O, ha, e, h, rel, hp⟩ := hq
  exact ⟨R, O, ha, e, h, rel, pr_bind hp fun k h1 H1 O1 s1 rel1 hp1 => pr_ok (Ka := KB' Q) hp1 rel1⟩
theorem dw_and1 (h1 : DT X hs ω E a ga) : DW X hs ω E (.BoolOp .And [a] pos) ga := pw_and1 h1
theorem dw_or1 (h1 : DT X hs ω E a ga) : DW X hs ω E (.BoolOp .Or [a] pos) ga := pw_or1 h1
theorem dw_and (h1 : DT X hs ω E a ga) (h2 : DW X hs ω E (.BoolOp .And (b :: rest) pos) gb) : DW X hs ω E (.BoolOp .And (a :: b :: rest) pos) (andB ga gb) := pw_imp (pw_and h1 h2) fun σ H Q hq => by
  obtain ⟨R, O, ha, e, h, rel, hp⟩ := hq
  refine ⟨R, O, ha, e, h, rel, pr_bind hp fun k h1 H1 O1 s1 rel1 hp1 => ?_⟩
  cases k with
  | true => exact ⟨R, O1, ha, e, h1, rel1, hp1⟩
  | false => exact pr_ok (Ka := KB' Q) hp1 rel1
theorem dw_or (h1 : DT X hs ω E a ga) (h2 : DW X hs ω E (.BoolOp .Or (b :: rest) pos) gb) : DW X hs ω E (.BoolOp .Or (a :: b :: rest) pos) (orB ga gb) := pw_imp (pw_or h1 h2) fun σ H Q hq => by
  obtain ⟨R, O, ha, e, h, rel, hp⟩ := hq
  refine ⟨R, O, ha, e, h, rel, pr_bind hp fun k h1 H1 O1 s1 rel1 hp1 => ?_⟩
  cases k with
  | true => exact pr_ok (Ka := KB' Q) hp1 rel1
  | false => exact ⟨R, O1, ha, e, h1, rel1, hp1⟩
theorem dt_w {e : Expr} (h : DW X hs ω E e ga) : DT X hs ω E e ga := h.pt
def notM (f : FE) : FE := fun e h => (f e h).bind fun d h1 => opt ((asB d).map fun k => .bool (!k)) h1
def andM (f g : FE) : FE := fun e h => (f e h).bind fun d h1 => (opt (asB d) h1).bind fun k h2 => if k = true then g e h2 else .ok (.bool false) h2
def orM (f g : FE) : FE := fun e h => (f e h).bind fun d h1 => (opt (asB d) h1).bind fun k h2 => if k = true then .ok (.bool true) h2 else g e h2
theorem de_not (h1 : DE X hs ω E a fa) : DE X hs ω E (.UnaryOp .Not a pos) (notM fa) := pe_imp (pe_not h1) fun σ H Q hq => by
  obtain ⟨R, O, ha, e, h, rel, hp⟩ := hq
  refine ⟨R, O, ha, e, h, rel, pr_bind hp fun d h1 H1 O1 s1 rel1 hp1 v dv => ?_⟩
  obtain ⟨z, e1, q⟩ := pr_opt hp1
  cases hz : asB d with
  | none => rw [hz] at e1; cases e1
  | some k =>
    rw [hz] at e1
    cases e1
    obtain rfl := asB_some hz
    obtain rfl := dd_bl dv
    exact ⟨k, rfl, pr_ok q rel1 _ (.bl _)⟩
theorem de_one {op} (h : DE X hs ω E a fa) : DE X hs ω E (.BoolOp op [a] pos) fa := pe_one h
theorem de_and (h1 : DE X hs ω E a fa) (h2 : DE X hs ω E (.BoolOp .And (b :: rest) pos) fb) : DE X hs ω E (.BoolOp .And (a :: b :: rest) pos) (andM fa fb) := pe_imp (pe_and h1 h2) fun σ H Q hq => by
  obtain ⟨R, O, ha, e, h, rel, hp⟩ := hq
  refine ⟨R, O, ha, e, h, rel, pr_bind hp fun d h1 H1 O1 s1 rel1 hp1 v dv => ?_⟩
  cases hz : asB d with
  | none => rw [hz] at hp1; exact hp1.elim
  | some k =>
    rw [hz] at hp1
    obtain rfl := asB_some hz
    obtain rfl := dd_bl dv
    refine ⟨k, rfl, ?_⟩
    cases k with
    | true => exact ⟨R, O1, ha, e, h1, rel1, hp1⟩
    | false => exact pr_ok (show PR X.K X.mg R ha hs ω E σ O1 H1 e (.ok (.bool false) h1) (KE' X.K Q) from hp1) rel1 _ (.bl _)
theorem de_or (h1 : DE X hs ω E a fa) (h2 : DE X hs ω E (.BoolOp .Or (b :: rest) pos) fb) : DE X hs ω E (.BoolOp .Or (a :: b :: rest) pos) (orM fa fb) := pe_imp (pe_or h1 h2) fun σ H Q hq => by
  obtain ⟨R, O, ha, e, h, rel, hp⟩ := hq
  refine ⟨R, O, ha, e, h, rel, pr_bind hp fun d h1 H1 O1 s1 rel1 hp1 v dv => ?_⟩
  cases hz : asB d with
  | none => rw [hz] at hp1; exact hp1.elim
  | some k =>
    rw [hz] at hp1
    obtain rfl := asB_some hz
    obtain rfl := dd_bl dv
    refine ⟨k, rfl, ?_⟩
    cases k with
    | false => exact ⟨R, O1, ha, e, h1, rel1, hp1⟩
    | true => exact pr_ok (show PR X.K X.mg R ha hs ω E σ O1 H1 e (.ok (.bool true) h1) (KE' X.K Q) from hp1) rel1 _ (.bl _)
def ifM (c : FB) (f g : FE) : FE := fun e h => (c e h).bind fun k h1 => if k = true then f e h1 else g e h1
theorem de_if {gc : FB} (h0 : DT X hs ω E c gc) (h1 : DE X hs ω E a fa) (h2 : DE X hs ω E b fb) : DE X hs ω E (.IfExp c a b pos) (ifM gc fa fb) := pe_imp (pe_ifExp h0 h1 h2) fun σ H Q hq => by
  obtain ⟨R, O, ha, e, h, rel, hp⟩ := hq
  refine ⟨R, O, ha, e, h, rel, pr_bind hp fun k h1 H1 O1 s1 rel1 hp1 => ?_⟩
  cases k with
  | true => exact ⟨R, O1, ha, e, h1, rel1, hp1⟩
  | false => exact ⟨R, O1, ha, e, h1, rel1, hp1⟩
/-! ### is None -/
def isN (neg : Bool) : D → D
  | .none => .bool (!neg)
  | _ => .bool neg
def isNM (neg : Bool) (f : FE) : FE := fun e h => (f e h).bind fun d h1 => .ok (isN neg d) h1
theorem non_iff {K : PySem.W.Frag} {G : Hp} {v : V} {d : D} (h : DD K G v d) : isN false d = .bool (decide (v = .non)) ∧ isN true d = .bool (!decide (v = .non)) := by
  cases h <;> simp [isN]
theorem de_isN {j : Nat} {p2 : Pos} (h1 : DE X hs ω E a fa) : DE X hs ω E (.Compare a [.Is] [.Constant .none j p2] pos) (isNM false fa) := pe_imp (pe_cmp (pc_isN h1)) fun σ H Q hq => by
  obtain ⟨R, O, ha, e, h, rel, hp⟩ := hq
  refine ⟨R, O, ha, e, h, rel, pr_bind hp fun d h1 H1 O1 s1 rel1 hp1 v dv => ?_⟩
  rw [(non_iff dv).1] at hp1
  exact pr_ok hp1 rel1 _ (.bl _)
theorem de_notN {j : Nat} {p2 : Pos} (h1 : DE X hs ω E a fa) : DE X hs ω E (.Compare a [.IsNot] [.Constant .none j p2] pos) (isNM true fa) := pe_imp (pe_cmp (pc_notN h1)) fun σ H Q hq => by
  obtain ⟨R, O, ha, e, h, rel, hp⟩ := hq
  refine ⟨R, O, ha, e, h, rel, pr_bind hp fun d h1 H1 O1 s1 rel1 hp1 v dv => ?_⟩
  rw [(non_iff dv).2] at hp1
  exact pr_ok hp1 rel1 _ (.bl _)
theorem tB_test {t : TE} : tB t = tTest t := rfl
theorem dt_isN {j : Nat} {p2 : Pos} (h1 : DE X hs ω E a fa) : DT X hs ω E (.Compare a [.Is] [.Constant .none j p2] pos) (boolM (isNM false fa)) := pt_imp (pt_cmp (pc_isN h1)) fun σ H Q hq => by
  refine tst_mono (fun σ H Q hq => ?_) σ H Q (tst_te σ H Q hq)
  obtain ⟨R, O, ha, e, h, rel, hp⟩ := hq
  refine ⟨R, O, ha, e, h, rel, pr_bind hp fun d h1 H1 O1 s1 rel1 hp1 v dv => ?_⟩
  rw [(non_iff dv).1] at hp1
  exact pr_ok hp1 rel1 _ (.bl _)
theorem dt_notN {j : Nat} {p2 : Pos} (h1 : DE X hs ω E a fa) : DT X hs ω E (.Compare a [.IsNot] [.Constant .none j p2] pos) (boolM (isNM true fa)) := pt_imp (pt_cmp (pc_notN h1)) fun σ H Q hq => by
  refine tst_mono (fun σ H Q hq => ?_) σ H Q (tst_te σ H Q hq)
  obtain ⟨R, O, ha, e, h, rel, hp⟩ := hq
  refine ⟨R, O, ha, e, h, rel, pr_bind hp fun d h1 H1 O1 s1 rel1 hp1 v dv => ?_⟩
  rw [(non_iff dv).2] at hp1
  exact pr_ok hp1 rel1 _ (.bl _)
/-- -x -/
def negM (f : FE) : FE := fun e h => (f e h).bind fun d h1 => match d with | .int i => .ok (.int (-i)) h1 | _ => .no
theorem de_neg (h1 : DE X hs ω E a fa) : DE X hs ω E (.UnaryOp .USub a pos) (negM fa) := pe_imp (pe_un un_neg h1) fun σ H Q hq => by
  obtain ⟨R, O, ha, e, h, rel, hp⟩ := hq
  refine ⟨R, O, ha, e, h, rel, pr_bind hp fun d h1 H1 O1 s1 rel1 hp1 v dv => ?_⟩
  cases dv with
  | int i => exact ⟨i, rfl, pr_ok hp1 rel1 _ (.int _)⟩
  | _ => exact hp1.elim
end Sm


set_option maxRecDepth 100000
set_option maxHeartbeats 4000000
/-! Sim layer, part E: statements. -/
namespace Sm
open PySem PySem.Spec PyProof.Rows L2
section
variable (K : PySem.W.Frag) (mg : Str → Option Value) (R : Addr → Prop) (ha : Option Addr) (hs : HS) (ω' ωl : List Nat) (E : XK)
def PS' (O : Addr → Prop) (H : Hp) (r : Rs) (Dn : Ends) : Prop := match r with
  | .nx e' h' => ∀ σ' H' O', Step hs.tabs R ha O H O' H' → Rel K R O' ha hs ω' σ' H' e' h' → Dn.nx σ' H'
  | .rt d h' => ∀ v H' O', Step hs.tabs R ha O H O' H' → RelG K R O' ha H' h' → DD K (Cut O' H') v d → Dn.rt v H'
  | .bk e' h' => ∀ σ' H' O', Step hs.tabs R ha O H O' H' → Rel K R O' ha hs ωl σ' H' e' h' → Dn.bk σ' H'
  | .ct e' h' => ∀ σ' H' O', Step hs.tabs R ha O H O' H' → Rel K R O' ha hs ωl σ' H' e' h' → Dn.ct σ' H'
  | .ex c h' => PX K mg R ha hs E O H c h'
  | .no => False
end
def tsD (K : PySem.W.Frag) (mg : Str → Option Value) (hs : HS) (ω ω' ωl : List Nat) (E : XK) (f : FS) : TS := fun Dn σ H => ∃ R O ha e h, Rel K R O ha hs ω σ H e h ∧ PS' K mg R ha hs ω' ωl E O H (f e h) Dn
abbrev DS (X : Cx) (hs : HS) (ω ω' ωl : List Nat) (E : XK) (st : Stmt) (f : FS) : Prop := PS X st (tsD X.K X.mg hs ω ω' ωl E f)
abbrev DSs (X : Cx) (hs : HS) (ω ω' ωl : List Nat) (E : XK) (st : List Stmt) (f : FS) : Prop := PSs X st (tsD X.K X.mg hs ω ω' ωl E f)
section
variable {K : PySem.W.Frag} {mg : Str → Option Value} {R O O1 : Addr → Prop} {ha : Option Addr} {hs : HS} {ω ω' ωl : List Nat} {E : XK} {σ : L2.St} {H H1 : Hp} {e : En} {h : List D}
theorem ps_step {r : Rs} {Dn : Ends} (p : PS' K mg R ha hs ω' ωl E O H r Dn) (st : Step hs.tabs R ha O H O1 H1) : PS' K mg R ha hs ω' ωl E O1 H1 r Dn := by
  cases r with
  | nx e' h' => exact fun σ' H' O' s rel => p σ' H' O' (st.trans s) rel
  | rt d h' => exact fun v H' O' s rel => p v H' O' (st.trans s) rel
  | bk e' h' => exact fun σ' H' O' s rel => p σ' H' O' (st.trans s) rel
  | ct e' h' => exact fun σ' H' O' s rel => p σ' H' O' (st.trans s) rel
  | ex c h' => exact px_step p st
  | no => exact p
/-- an expression, then the rest of a statement -/
theorem ps_bind {α : Type} {r : Res α} {k : α → List D → Rs} {Ka : α → Hp → (Addr → Prop) → Prop} {Dn : Ends} (p : PS' K mg R ha hs ω' ωl E O H (r.bindS k) Dn)
    (hk : ∀ a h' H' O', Step hs.tabs R ha O H O' H' → Rel K R O' ha hs ω σ H' e h' → PS' K mg R ha hs ω' ωl E O' H' (k a h') Dn → Ka a H' O') : PR K mg R ha hs ω E σ O H e r Ka := by
  cases r with
  | ok a h' => exact fun H' O' s rel => hk a h' H' O' s rel (ps_step p s)
  | ex c h' => exact p
  | no => exact p
theorem ps_nx {Dn : Ends} (p : PS' K mg R ha hs ω' ωl E O H (.nx e h) Dn) (rel : Rel K R O ha hs ω' σ H e h) : Dn.nx σ H := p σ H O Step.refl rel
/-! ### slots set -/
theorem Rel.set {i : Nat} {v : V} {d : D} (r : Rel K R O ha hs ω σ H e h) (dv : DD K (Cut O H) v d) (hω : ω' = ω.filter (· != i)) (hh : hs.ix ≠ some i) : Rel K R O ha hs ω' (σ.set i (some v)) H (e.set i (some d)) h where
  g := r.g
  val := fun j d' h1 h2 h3 => by
    by_cases hj : i = j
    · subst hj
      have hl : i < e.length := by
        by_cases hl : i < e.length
        · exact hl
        · rw [List.getElem?_eq_none (by simpa using hl)] at h3; cases h3
      rw [List.getElem?_set_self hl] at h3
      cases h3
      exact ⟨v, List.getElem?_set_self (by rw [← r.len]; exact hl), dv⟩
    · rw [List.getElem?_set_ne hj] at h3
      have hn : j ∉ ω := fun z => h1 (by rw [hω, List.mem_filter]; exact ⟨z, by simpa using fun q => hj q.symm⟩)
      obtain ⟨w, e1, e2⟩ := r.val j d' hn h2 h3
      exact ⟨w, by rw [List.getElem?_set_ne hj]; exact e1, e2⟩
  own := fun j hj => by
    rw [hω, List.mem_filter] at hj
    have ne : i ≠ j := fun z => by simp [z] at hj
    obtain ⟨a, o, d', e1, e2, e3⟩ := r.own j hj.1
    exact ⟨a, o, d', by rw [List.getElem?_set_ne ne]; exact e1, by rw [List.getElem?_set_ne ne]; exact e2, e3⟩
  inj := fun j hj l hl a h1 h2 => by
    rw [hω, List.mem_filter] at hj hl
    have nj : i ≠ j := fun z => by simp [z] at hj
    have nl : i ≠ l := fun z => by simp [z] at hl
    rw [List.getElem?_set_ne nj] at h1
    rw [List.getElem?_set_ne nl] at h2
    exact r.inj j hj.1 l hl.1 a h1 h2
  hand := fun j hj => by
    have nj : i ≠ j := fun z => hh (z ▸ hj)
    obtain ⟨h1, a, h2, h3⟩ := r.hand j hj
    exact ⟨fun z => h1 (by rw [hω, List.mem_filter] at z; exact z.1), a, h2, by rw [List.getElem?_set_ne nj]; exact h3⟩
  len := by rw [List.length_set, List.length_set]; exact r.len
  tb := r.tb
theorem Rel.setOwn {i : Nat} {p : Addr} {o : HO} {d : D} (r : Rel K R O ha hs ω σ H e h) (hO : O p) (hR : ¬ R p) (hn : ∀ j ∈ ω, σ[j]? ≠ some (some (.ref p))) (hp : H p = some o) (dv : OwnR K (Cut O H) o d) (hω : ω' = i :: ω.filter (· != i)) (hh : hs.ix ≠ some i) (hl : i < e.length) :
    Rel K R O ha hs ω' (σ.set i (some (.ref p))) H (e.set i (some d)) h where
  g := r.g
  val := fun j d' h1 h2 h3 => by
    have hj : i ≠ j := fun z => h1 (by rw [hω, z]; exact List.mem_cons_self)
    rw [List.getElem?_set_ne hj] at h3
    have hn : j ∉ ω := fun z => h1 (by rw [hω]; exact List.mem_cons_of_mem _ (List.mem_filter.mpr ⟨z, by simpa using fun q => hj q.symm⟩))
    obtain ⟨w, e1, e2⟩ := r.val j d' hn h2 h3
    exact ⟨w, by rw [List.getElem?_set_ne hj]; exact e1, e2⟩
  own := fun j hj => by
    rw [hω] at hj
    by_cases ne : i = j
    · subst ne
      exact ⟨p, o, d, List.getElem?_set_self (by rw [← r.len]; exact hl), List.getElem?_set_self hl, hO, hR, hp, dv⟩
    · have hj' : j ∈ ω := by
        rcases List.mem_cons.mp hj with z | z
        · exact absurd z.symm ne
        · exact (List.mem_filter.mp z).1
      obtain ⟨a, o, d', e1, e2, e3⟩ := r.own j hj'
      exact ⟨a, o, d', by rw [List.getElem?_set_ne ne]; exact e1, by rw [List.getElem?_set_ne ne]; exact e2, e3⟩
  inj := fun j hj l hl' a h1 h2 => by
    have mem : ∀ {x}, x ∈ ω' → i ≠ x → x ∈ ω := fun {x} hx nx => by
      rw [hω] at hx
      rcases List.mem_cons.mp hx with z | z
      · exact absurd z.symm nx
      · exact (List.mem_filter.mp z).1
    by_cases nj : i = j
    · subst nj
      by_cases nl : i = l
      · exact nl
      · rw [List.getElem?_set_self (by rw [← r.len]; exact hl)] at h1
        rw [List.getElem?_set_ne nl] at h2
        cases h1
        exact absurd h2 (hn l (mem hl' nl))
    · rw [List.getElem?_set_ne nj] at h1
      by_cases nl : i = l
      · subst nl
        rw [List.getElem?_set_self (by rw [← r.len]; exact hl)] at h2
        cases h2
        exact absurd h1 (hn j (mem hj nj))
      · rw [List.getElem?_set_ne nl] at h2
        exact r.inj j (mem hj nj) l (mem hl' nl) a h1 h2
  hand := fun j hj => by
    have nj : i ≠ j := fun z => hh (z ▸ hj)
    obtain ⟨h1, a, h2, h3⟩ := r.hand j hj
    refine ⟨fun z => ?_, a, h2, by rw [List.getElem?_set_ne nj]; exact h3⟩
    rw [hω] at z
    rcases List.mem_cons.mp z with z | z
    · exact nj z.symm
    · exact h1 (List.mem_filter.mp z).1
  len := by rw [List.length_set, List.length_set]; exact r.len
  tb := r.tb
/-- an owned object changes -/
theorem cut_owned {p : Addr} {o : HO} (hO : O p) : Cut O (upd H p o) = Cut O H := by
  funext a
  by_cases h1 : O a
  · rw [cut_in h1, cut_in h1]
  · rw [cut_out h1, cut_out h1, upd_ne (show a ≠ p from fun z => h1 (by rw [z]; exact hO))]
theorem Rel.mut {i : Nat} {p : Addr} {o o' : HO} {d : D} (r : Rel K R O ha hs ω σ H e h) (ho : H p = some o) (nt : NoTab o) (hi : i ∈ ω) (hp : σ[i]? = some (some (.ref p))) (hO : O p) (hR : ¬ R p) (dv : OwnR K (Cut O H) o' d) : Rel K R O ha hs ω σ (upd H p o') (e.set i (some d)) h where
  g := ⟨r.g.sub, fun a x => by
      by_cases hz : a = p
      · exact ⟨o', by rw [hz, upd_same], dv.notab.1⟩
      · exact (r.g.dm a x).eq (upd_ne hz),
    fun a x => by
      obtain ⟨y, xs, e1, e2⟩ := r.g.hnd a x
      exact ⟨y, xs, by rw [upd_ne (show a ≠ p from fun z => hR (by rw [← z]; exact y))]; exact e1, by rw [cut_owned hO]; exact e2⟩⟩
  val := fun j d' h1 h2 h3 => by
    have ne : i ≠ j := fun z => h1 (z ▸ hi)
    rw [List.getElem?_set_ne ne] at h3
    rw [cut_owned hO]
    exact r.val j d' h1 h2 h3
  own := fun j hj => by
    by_cases ne : i = j
    · subst ne
      obtain ⟨a, o1, d', e1, e2, e3, e4, e5, e6⟩ := r.own i hj
      rw [hp] at e1
      cases e1
      exact ⟨p, o', d, hp, List.getElem?_set_self (by
        by_cases hl : i < e.length
        · exact hl
        · rw [List.getElem?_eq_none (by simpa using hl)] at e2; cases e2), hO, hR, upd_same, by rw [cut_owned hO]; exact dv⟩
    · obtain ⟨a, o1, d', e1, e2, e3, e4, e5, e6⟩ := r.own j hj
      have na : a ≠ p := fun z => ne (r.inj i hi j hj p hp (z ▸ e1))
      exact ⟨a, o1, d', e1, by rw [List.getElem?_set_ne ne]; exact e2, e3, e4, by rw [upd_ne na]; exact e5, by rw [cut_owned hO]; exact e6⟩
  inj := r.inj
  hand := r.hand
  len := by rw [List.length_set]; exact r.len
  tb := tabs_upd ho nt r.tb
theorem step_mut {p : Addr} {o o' : HO} (hp : H p = some o) (n : NoTab o) (hO : O p) (hR : ¬ R p) : Step hs.tabs R ha O H O (upd H p o') :=
  ⟨by rw [cut_owned hO]; exact XN.refl _, fun a x _ => upd_ne fun z => hR (z ▸ x), fun t => tabs_upd hp n t⟩
/-- an owned slot frozen -/
theorem Rel.freeze {i : Nat} (r : Rel K R O ha hs ω σ H e h) (hi : i ∈ ω) (hω : ω' = ω.filter (· != i)) (hl : ∀ d, e[i]? = some (some d) → ∃ ds, d = .list ds) : ∃ p, Rel K R (Minus O p) ha hs ω' σ H e h := by
  obtain ⟨p, o, d, e1, e2, e3, e4, e5, e6⟩ := r.own i hi
  obtain ⟨ds, rfl⟩ := hl d e2
  cases e6 with
  | lst t =>
  rename_i xs
  have mem : ∀ {j}, j ∈ ω' → j ∈ ω ∧ i ≠ j := fun {j} hj => by
    rw [hω, List.mem_filter] at hj
    exact ⟨hj.1, fun z => by simp [z] at hj⟩
  refine ⟨p, ⟨⟨fun a x => ⟨r.g.sub a x, fun z => e4 (z ▸ x)⟩, fun a x => r.g.dm a x.1, fun a x => ?_⟩, fun j d' h1 h2 h3 => ?_, fun j hj => ?_, fun j hj l hl a h1 h2 => r.inj j (mem hj).1 l (mem hl).1 a h1 h2, fun j hj => ?_, r.len, r.tb⟩⟩
  · obtain ⟨y, xs, e1, e2⟩ := r.g.hnd a x
    exact ⟨y, xs, e1, dds_mono xn_minus e2⟩
  · by_cases hj : i = j
    · subst hj
      rw [e2] at h3
      cases h3
      exact ⟨.ref p, e1, .lst (by rw [cut_out fun z => z.2 rfl]; exact e5) (dds_mono xn_minus t)⟩
    · have hn : j ∉ ω := fun z => h1 (by rw [hω, List.mem_filter]; exact ⟨z, by simpa using fun q => hj q.symm⟩)
      obtain ⟨w, f1, f2⟩ := r.val j d' hn h2 h3
      exact ⟨w, f1, dd_mono xn_minus f2⟩
  · obtain ⟨a, o1, d', f1, f2, f3, f4, f5, f6⟩ := r.own j (mem hj).1
    exact ⟨a, o1, d', f1, f2, ⟨f3, fun z => (mem hj).2 (r.inj i hi j (mem hj).1 p e1 (z ▸ f1))⟩, f4, f5, f6.mono xn_minus⟩
  · obtain ⟨h1, h2⟩ := r.hand j hj
    exact ⟨fun z => h1 (mem z).1, h2⟩
end
variable {X : Cx} {hs : HS} {ω ω1 ω' ωl : List Nat} {E : XK} {e a c : Expr} {fe fa : FE} {pos : Pos} {st : Stmt} {rest : List Stmt} {f g : FS}
/-! ### blocks -/
def skipS : FS := fun e h => .nx e h
def seqS (f g : FS) : FS := fun e h => match f e h with | .nx e1 h1 => g e1 h1 | r => r
theorem dss_nil : DSs X hs ω ω ωl E [] skipS := pss_imp pss_nil fun Dn σ H hq => by
  obtain ⟨R, O, ha, e, h, rel, hp⟩ := hq
  exact ps_nx hp rel
theorem dss_one (h1 : DS X hs ω ω' ωl E st f) : DSs X hs ω ω' ωl E [st] f := pss_one h1
theorem dss_cons (h1 : DS X hs ω ω1 ωl E st f) (h2 : DSs X hs ω1 ω' ωl E rest g) : DSs X hs ω ω' ωl E (st :: rest) (seqS f g) := pss_imp (pss_cons h1 h2) fun Dn σ H hq => by
  obtain ⟨R, O, ha, e, h, rel, hp⟩ := hq
  refine ⟨R, O, ha, e, h, rel, ?_⟩
  unfold seqS at hp
  cases hr : f e h with
  | nx e1 h1 =>
    rw [hr] at hp
    exact fun σ' H' O' s rel' => ⟨R, O', ha, e1, h1, rel', ps_step hp s⟩
  | rt d h1 => rw [hr] at hp; exact hp
  | bk e1 h1 => rw [hr] at hp; exact hp
  | ct e1 h1 => rw [hr] at hp; exact hp
  | ex c1 h1 => rw [hr] at hp; exact hp
  | no => rw [hr] at hp; exact hp
/-- ahead of a statement owned slots are frozen -/
def isL (e : En) (i : Nat) : Bool := match e[i]? with | some (some (.list _)) => true | _ => false
def frzS (i : Nat) (f : FS) : FS := fun e h => if isL e i then f e h else .no
theorem dss_freeze {i : Nat} {st : List Stmt} (hi : i ∈ ω) (hω : ω1 = ω.filter (· != i)) (h1 : DSs X hs ω1 ω' ωl E st f) : DSs X hs ω ω' ωl E st (frzS i f) := pss_imp h1 fun Dn σ H hq => by
  obtain ⟨R, O, ha, e, h, rel, hp⟩ := hq
  unfold frzS at hp
  split at hp
  · rename_i hl
    obtain ⟨p, rel'⟩ := rel.freeze hi hω fun d hd => by
      unfold isL at hl
      split at hl
      · rename_i ds hd'
        rw [hd] at hd'
        cases hd'
        exact ⟨_, rfl⟩
      · cases hl
    exact ⟨R, _, ha, e, h, rel', ps_step hp step_minus⟩
  · exact hp.elim
def passS : FS := fun e h => .nx e h
theorem ds_pass : DS X hs ω ω ωl E (.Pass pos) passS := ps_imp ps_pass fun Dn σ H hq => by
  obtain ⟨R, O, ha, e, h, rel, hp⟩ := hq
  exact ps_nx hp rel
theorem ds_break : DS X hs ω ω' ω E (.Break pos) (fun e h => .bk e h) := ps_imp ps_break fun Dn σ H hq => by
  obtain ⟨R, O, ha, e, h, rel, hp⟩ := hq
  exact hp σ H O Step.refl rel
theorem ds_continue : DS X hs ω ω' ω E (.Continue pos) (fun e h => .ct e h) := ps_imp ps_continue fun Dn σ H hq => by
  obtain ⟨R, O, ha, e, h, rel, hp⟩ := hq
  exact hp σ H O Step.refl rel
/-! ### return -/
def retS (f : FE) : FS := fun e h => (f e h).bindS fun d h1 => .rt d h1
def retN : FS := fun _ h => .rt .none h
theorem ds_ret (h1 : DE X hs ω E e fe) : DS X hs ω ω' ωl E (.Return (some e) pos) (retS fe) := ps_imp (ps_ret h1) fun Dn σ H hq => by
  obtain ⟨R, O, ha, en, h, rel, hp⟩ := hq
  exact ⟨R, O, ha, en, h, rel, ps_bind hp fun d h1 H1 O1 s1 rel1 hp1 v dv => hp1 v H1 O1 Step.refl rel1.g dv⟩
theorem ds_retN : DS X hs ω ω' ωl E (.Return none pos) retN := ps_imp ps_retN fun Dn σ H hq => by
  obtain ⟨R, O, ha, en, h, rel, hp⟩ := hq
  exact hp .non H O Step.refl rel.g .non
/-! ### name = value -/
def asgS (i : Nat) (f : FE) : FS := fun e h => (f e h).bindS fun d h1 => .nx (e.set i (some d)) h1
def asgL (i : Nat) (f : FL) : FS := fun e h => (f e h).bindS fun ds h1 => if i < e.length then .nx (e.set i (some (.list ds))) h1 else .no
theorem ds_set {i : Nat} {tg : Expr} (hps : ∀ te, PE X e te → PS X (.Assign [tg] e pos) (tAsg te (gName i))) (h1 : DE X hs ω E e fe) (hω : ω' = ω.filter (· != i) := by rfl) (hh : hs.ix ≠ some i := by exact of_decide_eq_true rfl) : DS X hs ω ω' ωl E (.Assign [tg] e pos) (asgS i fe) := ps_imp (hps _ h1) fun Dn σ H hq => by
  obtain ⟨R, O, ha, en, h, rel, hp⟩ := hq
  exact ⟨R, O, ha, en, h, rel, ps_bind hp fun d h1 H1 O1 s1 rel1 hp1 v dv => ps_nx hp1 (rel1.set dv hω hh)⟩
theorem ds_setL {i : Nat} {tg : Expr} {fl : FL} (hps : ∀ te, PE X e te → PS X (.Assign [tg] e pos) (tAsg te (gName i))) (h1 : DL X hs ω E e fl) (hω : ω' = i :: ω.filter (· != i) := by rfl) (hh : hs.ix ≠ some i := by exact of_decide_eq_true rfl) : DS X hs ω ω' ωl E (.Assign [tg] e pos) (asgL i fl) := ps_imp (hps _ h1) fun Dn σ H hq => by
  obtain ⟨R, O, ha, en, h, rel, hp⟩ := hq
  refine ⟨R, O, ha, en, h, rel, ps_bind hp fun ds h1 H1 O1 s1 rel1 hp1 p xs h2 h3 h4 h5 h6 => ?_⟩
  split at hp1
  · rename_i hl
    exact ps_nx hp1 (rel1.setOwn h2 h3 h4 h5 (.lst h6) hω hh hl)
  · exact hp1.elim
/-! ### if -/
def ifS (c : FB) (f g : FS) : FS := fun e h => (c e h).bindS fun k h1 => if k = true then f e h1 else g e h1
theorem ds_if {fc : FB} {s1 s2 : List Stmt} (h0 : DT X hs ω E c fc) (h1 : DSs X hs ω ω' ωl E s1 f) (h2 : DSs X hs ω ω' ωl E s2 g) : DS X hs ω ω' ωl E (.If c s1 s2 pos) (ifS fc f g) := ps_imp (ps_if h0 h1 h2) fun Dn σ H hq => by
  obtain ⟨R, O, ha, e, h, rel, hp⟩ := hq
  refine ⟨R, O, ha, e, h, rel, ps_bind hp fun k h1 H1 O1 s1 rel1 hp1 => ?_⟩
  cases k with
  | true => exact ⟨R, O1, ha, e, h1, rel1, hp1⟩
  | false => exact ⟨R, O1, ha, e, h1, rel1, hp1⟩
/-! ### an expression alone -/
def exprS (f : FE) : FS := fun e h => (f e h).bindS fun _ h1 => .nx e h1
theorem ds_expr (h1 : DE X hs ω E e fe) (hsw : swapsWith e none pos.line X.env = pure false := by rfl) : DS X hs ω ω ωl E (.Expr e pos) (exprS fe) := ps_imp (ps_expr h1 hsw) fun Dn σ H hq => by
  obtain ⟨R, O, ha, en, h, rel, hp⟩ := hq
  exact ⟨R, O, ha, en, h, rel, ps_bind hp fun d h1 H1 O1 s1 rel1 hp1 v dv => ps_nx hp1 rel1⟩
/-! ### methods of an owned list -/
def appS (i : Nat) (f : FE) : FS := fun e h => (f e h).bindS fun d h1 => match slot e i with
  | some (.list ds) => if ds.length < LINE then .nx (e.set i (some (.list (ds ++ [d])))) h1 else .no
  | _ => .no
theorem own_list {K : PySem.W.Frag} {R O : Addr → Prop} {ha : Option Addr} {σ : L2.St} {H : Hp} {e : En} {h : List D} {i : Nat} {ds : List D} (rel : Rel K R O ha hs ω σ H e h) (hi : i ∈ ω) (hd : slot e i = some (.list ds)) :
    ∃ p xs, σ[i]? = some (some (.ref p)) ∧ O p ∧ ¬ R p ∧ H p = some (.lst xs) ∧ DDs K (Cut O H) xs ds := by
  obtain ⟨p, o, d, e1, e2, e3, e4, e5, e6⟩ := rel.own i hi
  have z := slot_some hd
  rw [e2] at z
  cases z
  cases e6 with
  | lst t => exact ⟨p, _, e1, e3, e4, e5, t⟩
theorem ds_append {i : Nat} {call : Expr} (hi : i ∈ ω) (hpe : ∀ t, PE X a t → PE X call (tBM X.K "list" rAppend (tVar i) (tCons t tNil))) (h1 : DE X hs ω E a fa) (hsw : swapsWith call none pos.line X.env = pure false := by rfl) : DS X hs ω ω ωl E (.Expr call pos) (appS i fa) := ps_imp (ps_expr (hpe _ h1) hsw) fun Dn σ H hq => by
  obtain ⟨R, O, ha, e, h, rel, hp⟩ := hq
  obtain ⟨p0, o0, d0, e1, e2, e3, e4, e5, e6⟩ := rel.own i hi
  refine ⟨.ref p0, e1, ?_, ?_⟩
  · cases e6 with
    | lst t => exact .inl ⟨rfl, _, .inl (.inl e5)⟩
  refine ⟨R, O, ha, e, h, rel, ps_bind hp fun d h1 H1 O1 s1 rel1 hp1 v dv => ?_⟩
  split at hp1
  · rename_i ds hd
    split at hp1
    · rename_i hl
      obtain ⟨p, xs, f1, f2, f3, f4, f5⟩ := own_list rel1 hi hd
      rw [e1] at f1
      cases f1
      refine ⟨p0, xs, v, rfl, rfl, f4, by rw [line_eq, f5.length]; exact hl, ?_⟩
      exact hp1 σ _ O1 (step_mut f4 ⟨fun _ z => (by cases z), fun _ z => (by cases z)⟩ f2 f3) (rel1.mut f4 ⟨fun _ z => (by cases z), fun _ z => (by cases z)⟩ hi e1 f2 f3 (.lst (f5.append (.cons dv .nil))))
    · exact hp1.elim
  · exact hp1.elim
def extS (i : Nat) (f : FE) : FS := fun e h => (f e h).bindS fun d h1 => match slot e i, d with
  | some (.list ds), .list es => if ds.length + es.length ≤ LINE then .nx (e.set i (some (.list (ds ++ es)))) h1 else .no
  | _, _ => .no
theorem ds_extend {i : Nat} {call : Expr} (hi : i ∈ ω) (hpe : ∀ t, PE X a t → PE X call (tBM X.K "list" rExtend (tVar i) (tCons t tNil))) (h1 : DE X hs ω E a fa) (hsw : swapsWith call none pos.line X.env = pure false := by rfl) : DS X hs ω ω ωl E (.Expr call pos) (extS i fa) := ps_imp (ps_expr (hpe _ h1) hsw) fun Dn σ H hq => by
  obtain ⟨R, O, ha, e, h, rel, hp⟩ := hq
  obtain ⟨p0, o0, d0, e1, e2, e3, e4, e5, e6⟩ := rel.own i hi
  refine ⟨.ref p0, e1, ?_, ?_⟩
  · cases e6 with
    | lst t => exact .inl ⟨rfl, _, .inl (.inl e5)⟩
  refine ⟨R, O, ha, e, h, rel, ps_bind hp fun d h1 H1 O1 s1 rel1 hp1 v dv => ?_⟩
  split at hp1
  · rename_i ds es hd
    split at hp1
    · rename_i hl
      obtain ⟨p, xs, f1, f2, f3, f4, f5⟩ := own_list rel1 hi hd
      rw [e1] at f1
      cases f1
      obtain ⟨b, zs, rfl, g1, g2⟩ := dd_list dv
      refine ⟨p0, b, xs, zs, rfl, rfl, f4, (cut_some g1).2, by rw [line_eq, f5.length, g2.length]; exact hl, ?_⟩
      exact hp1 σ _ O1 (step_mut f4 ⟨fun _ z => (by cases z), fun _ z => (by cases z)⟩ f2 f3) (rel1.mut f4 ⟨fun _ z => (by cases z), fun _ z => (by cases z)⟩ hi e1 f2 f3 (.lst (f5.append g2)))
    · exact hp1.elim
  · exact hp1.elim
end Sm


set_option maxRecDepth 100000
set_option maxHeartbeats 4000000
/-! Sim layer, part F: iterators, targets, for, comprehensions, while. -/
namespace Sm
open PySem PySem.Spec PyProof.Rows L2
/-! ### more protected things -/
section
variable {K : PySem.W.Frag} {mg : Str → Option Value} {R R' O O1 : Addr → Prop} {ha : Option Addr} {hs : HS} {ω ω' ωl : List Nat} {E : XK} {σ : L2.St} {H H1 : Hp} {e : En} {h : List D}
theorem RelG.weakR (r : RelG K R' O ha H h) (hR : ∀ a, R a → R' a) (hh : ∀ a, ha = some a → R a) : RelG K R O ha H h := ⟨fun a x => r.sub a (hR a x), r.dm, fun a x => ⟨hh a x, (r.hnd a x).2⟩⟩
theorem Rel.weakR (r : Rel K R' O ha hs ω σ H e h) (hR : ∀ a, R a → R' a) (hh : ∀ a, ha = some a → R a) : Rel K R O ha hs ω σ H e h :=
  ⟨r.g.weakR hR hh, r.val, fun i hi => by
    obtain ⟨a, o, d, e1, e2, e3, e4, e5⟩ := r.own i hi
    exact ⟨a, o, d, e1, e2, e3, fun z => e4 (hR a z), e5⟩, r.inj, r.hand, r.len, r.tb⟩
theorem Step.weakR {T : List (Addr × Str)} (s : Step T R' ha O H O1 H1) (hR : ∀ a, R a → R' a) : Step T R ha O H O1 H1 := ⟨s.ex, fun a x n => s.keep a (hR a x) n, s.tabs⟩
theorem px_mono {c : Ex} {h' : List D} (p : PX K mg R ha hs E O H c h') (hR : ∀ a, R a → R' a) (hh : ∀ a, ha = some a → R a) : PX K mg R' ha hs E O H c h' := fun cls dd H' O' s g x => p cls dd H' O' (s.weakR hR) (g.weakR hR hh) x
theorem pr_mono {α : Type} {r : Res α} {Ka : α → Hp → (Addr → Prop) → Prop} (p : PR K mg R ha hs ω E σ O H e r Ka) (hR : ∀ a, R a → R' a) (hh : ∀ a, ha = some a → R a) : PR K mg R' ha hs ω E σ O H e r Ka := by
  cases r with
  | ok a h' => exact fun H' O' s rel => p H' O' (s.weakR hR) (rel.weakR hR hh)
  | ex c h' => exact px_mono p hR hh
  | no => exact p
/-- a thing that only the run itself holds -/
theorem Rel.plusR {p : Addr} (r : Rel K R O ha hs ω σ H e h) (hO : O p) (nω : ∀ i ∈ ω, σ[i]? ≠ some (some (.ref p))) : Rel K (Plus R p) O ha hs ω σ H e h :=
  ⟨⟨fun a x => x.elim (r.g.sub a) fun z => z ▸ hO, r.g.dm, fun a x => ⟨.inl (r.g.hnd a x).1, (r.g.hnd a x).2⟩⟩, r.val, fun i hi => by
    obtain ⟨a, o, d, e1, e2, e3, e4, e5⟩ := r.own i hi
    exact ⟨a, o, d, e1, e2, e3, fun z => z.elim e4 fun q => nω i hi (by rw [← q]; exact e1), e5⟩, r.inj, r.hand, r.len, r.tb⟩
/-- that thing changes -/
theorem RelG.mutR {p : Addr} {o' : HO} (r : RelG K R O ha H h) (nt' : ∀ ps, o' ≠ .tbl ps) (hO : O p) (hh : ha ≠ some p) : RelG K R O ha (upd H p o') h :=
  ⟨r.sub, fun a x => by
      by_cases hz : a = p
      · exact ⟨o', by rw [hz, upd_same], nt'⟩
      · exact (r.dm a x).eq (upd_ne hz),
    fun a x => by
      obtain ⟨y, xs, e1, e2⟩ := r.hnd a x
      exact ⟨y, xs, by rw [upd_ne (show a ≠ p from fun z => hh (by rw [← z]; exact x))]; exact e1, by rw [cut_owned hO]; exact e2⟩⟩
theorem Rel.mutR {p : Addr} {o o' : HO} (r : Rel K R O ha hs ω σ H e h) (ho : H p = some o) (nt : NoTab o) (nt' : ∀ ps, o' ≠ .tbl ps) (hO : O p) (hR : R p) (hh : ha ≠ some p) : Rel K R O ha hs ω σ (upd H p o') e h :=
  ⟨r.g.mutR nt' hO hh, fun i d x y z => by rw [cut_owned hO]; exact r.val i d x y z, fun i hi => by
    obtain ⟨a, o, d, e1, e2, e3, e4, e5, e6⟩ := r.own i hi
    exact ⟨a, o, d, e1, e2, e3, e4, by rw [upd_ne (show a ≠ p from fun z => e4 (by rw [z]; exact hR))]; exact e5, by rw [cut_owned hO]; exact e6⟩, r.inj, r.hand, r.len, tabs_upd ho nt r.tb⟩
end
/-! ### iterators -/
def JG (K : PySem.W.Frag) (J : It) (ds : List D) (G : Hp) : Prop := ∀ (i : Nat) (H : Hp) (O : Addr → Prop), (∀ a, O a → H a ≠ none) → XN G (Cut O H) →
  (∀ d, ds[i]? = some d → J.go i H ∧ ∀ x H', J.yld i H x H' → Grow H H' ∧ DD K (Cut O H') x d) ∧ (ds.length ≤ i → J.stop i H)
theorem JG.mono {K : PySem.W.Frag} {J : It} {ds : List D} {G G' : Hp} (j : JG K J ds G) (x : XN G G') : JG K J ds G' := fun i H O ho g => j i H O ho (x.trans g)
def KI (K : PySem.W.Frag) (Rk : It → Hp → Prop) (ds : List D) (H' : Hp) (O' : Addr → Prop) : Prop := ∀ J, ds.length ≤ LINE → JG K J ds (Cut O' H') → Rk J H'
def tiD (K : PySem.W.Frag) (mg : Str → Option Value) (hs : HS) (ω : List Nat) (E : XK) (f : FL) : TI := fun σ H Rk => ∃ R O ha e h, Rel K R O ha hs ω σ H e h ∧ PR K mg R ha hs ω E σ O H e (f e h) (KI K Rk)
abbrev DI (X : Cx) (hs : HS) (ω : List Nat) (E : XK) (tg it : Expr) (f : FL) : Prop := PI X tg it (tiD X.K X.mg hs ω E f)
theorem pi_imp {X : Cx} {tg it : Expr} {t t' : TI} (h : PI X tg it t) (w : ∀ σ H Q, t' σ H Q → t σ H Q) : PI X tg it t' := ⟨fun pins s σ H Q I q => h.run pins s σ H Q I (w σ H Q q)⟩
section
variable {X : Cx} {tg : Expr}
def iSq (K : PySem.W.Frag) (tl : TE) : TI := fun σ H R => tl σ H fun x H1 => (∃ a xs, x = .ref a ∧ SqL K H1 a xs ∧ (xs.length ≤ sizeLine → R (Itl K a) H1)) ∨ (∃ a xs, x = .ref a ∧ SqT K H1 a xs ∧ (xs.length ≤ sizeLine → R (Itt K a) H1))
theorem pi_sq {l : Expr} {tl : TE} (hl : PE X l tl) : PI X tg l (iSq X.K tl) := by
  refine ⟨fun pins s σ H R I h => ?_⟩
  refine thn (hl.run pins s σ H _ I h) fun v s1 ⟨x, H1, I1, r1, q1⟩ => ?_
  rcases q1 with ⟨a, xs, e, hq, q⟩ | ⟨a, xs, e, hq, q⟩
  · subst e
    cases r1
    obtain ⟨its, rv, p, hz⟩ := I1.list hq
    refine wpAny_pyIter_list p.isList ?_
    refine ⟨s1.heap.objs.size, [s1.heap.objs.size], _, _, H1, rfl, I1.kept (t' := s1.toks) fun b o e => Heap.get?_push_of_some _ e, turn_list a _, ⟨_, Heap.get?_push_size _ rfl, rfl, rfl⟩, fun b hb => ?_, q hz⟩
    have e : b = s1.heap.objs.size := by simpa using hb
    subst e
    exact I1.fpOk (Nat.le_refl _) (I1.hok.fresh (Nat.le_refl _))
  · subst e
    cases r1
    obtain ⟨its, rv, p, hz⟩ := I1.tuple hq
    refine wpAny_pyIter_tuple (show s1.heap.IsTuple a its.toArray from p) ?_
    refine ⟨s1.heap.objs.size, [s1.heap.objs.size], _, _, H1, rfl, I1.kept (t' := s1.toks) fun b o e => Heap.get?_push_of_some _ e, turn_tuple a _, ⟨_, Heap.get?_push_size _ rfl, rfl, rfl⟩, fun b hb => ?_, q hz⟩
    have e : b = s1.heap.objs.size := by simpa using hb
    subst e
    exact I1.fpOk (Nat.le_refl _) (I1.hok.fresh (Nat.le_refl _))
end
section
variable {K : PySem.W.Frag} {G : Hp}
theorem jg_list {a : Addr} {xs : List V} {ds : List D} (h : G a = some (.lst xs)) (d : DDs K G xs ds) : JG K (Itl K a) ds G := fun i H O ho g => by
  have h1 : Cut O H a = some (.lst xs) := g _ _ h (fun _ z => by cases z)
  have h2 : SqL K H a xs := .inl (.inl (cut_some h1).2)
  refine ⟨fun d' e => ?_, fun e => ⟨xs, h2, by rw [d.length]; exact e⟩⟩
  obtain ⟨v, e1, e2⟩ := d.get e
  refine ⟨⟨xs, v, h2, e1⟩, fun x H' ⟨hH, hy⟩ => ?_⟩
  subst hH
  have z := hy xs h2
  rw [e1] at z
  cases z
  exact ⟨Grow.refl _, dd_mono g e2⟩
theorem jg_tup {a : Addr} {xs : List V} {ds : List D} (h : SqT K G a xs) (d : DDs K G xs ds) : JG K (Itt K a) ds G := fun i H O ho g => by
  have h2 : SqT K H a xs := XN.sqT xn_cut (g.sqT h)
  refine ⟨fun d' e => ?_, fun e => ⟨xs, h2, by rw [d.length]; exact e⟩⟩
  obtain ⟨v, e1, e2⟩ := d.get e
  refine ⟨⟨xs, v, h2, e1⟩, fun x H' ⟨hH, hy⟩ => ?_⟩
  subst hH
  have z := hy xs h2
  rw [e1] at z
  cases z
  exact ⟨Grow.refl _, dd_mono g e2⟩
theorem jg_range {lo : Int} {n : Nat} {ds : List D} (h : ds = (List.range n).map fun k => .int (lo + k)) : JG K (Itr lo n) ds G := fun i H O ho g => by
  subst h
  refine ⟨fun d e => ?_, fun e => by rw [List.length_map, List.length_range] at e; exact e⟩
  have hi : i < n := by
    have := (List.getElem?_eq_some_iff.mp e).1
    rw [List.length_map, List.length_range] at this
    exact this
  rw [List.getElem?_map, List.getElem?_range hi] at e
  cases e
  exact ⟨hi, fun x H' ⟨hH, hy⟩ => by subst hH hy; exact ⟨Grow.refl _, .int _⟩⟩
end
variable {X : Cx} {hs : HS} {ω ω1 ω' ωl : List Nat} {E : XK} {e a b c tg it elt : Expr} {fe fa fb : FE} {fl : FL} {pos : Pos} {st : Stmt} {rest : List Stmt} {f g : FS}
/-- the items of a list or a tuple -/
def itemsD : D → Option (List D)
  | .list ds => some ds
  | .tuple ds => some ds
  | _ => none
def seqM (f : FE) : FL := fun e h => (f e h).bind fun d h1 => opt (itemsD d) h1
theorem di_seq (h1 : DE X hs ω E it fe) : DI X hs ω E tg it (seqM fe) := pi_imp (pi_sq h1) fun σ H Rk hq => by
  obtain ⟨R, O, ha, e, h, rel, hp⟩ := hq
  refine ⟨R, O, ha, e, h, rel, pr_bind hp fun d h1 H1 O1 s1 rel1 hp1 v dv => ?_⟩
  obtain ⟨ds, e1, q⟩ := pr_opt hp1
  unfold itemsD at e1
  split at e1
  · cases e1
    obtain ⟨p, xs, rfl, g1, g2⟩ := dd_list dv
    exact .inl ⟨p, xs, rfl, .inl (.inl (cut_some g1).2), fun hl => pr_ok q rel1 _ (by rw [← line_eq, ← g2.length]; exact hl) (jg_list g1 g2)⟩
  · cases e1
    obtain ⟨p, xs, rfl, g1, g2⟩ := dd_tup dv
    exact .inr ⟨p, xs, rfl, XN.sqT xn_cut g1, fun hl => pr_ok q rel1 _ (by rw [← line_eq, ← g2.length]; exact hl) (jg_tup g1 g2)⟩
  · cases e1
def rangeL (lo : Int) (n : Nat) : List D := (List.range n).map fun (k : Nat) => PyData.int (lo + (k : Int))
def range2D (x y : D) : Option (List D) := match x, y with
  | .int i, .int j => if (j - i).toNat ≤ LINE ∧ -4611686018427387904 ≤ i ∧ i < 4611686018427387904 ∧ -4611686018427387904 ≤ j ∧ j < 4611686018427387904 then some (rangeL i (j - i).toNat) else none
  | _, _ => none
def range1M (f : FE) : FL := fun e h => (f e h).bind fun d h1 => opt (range2D (.int 0) d) h1
def range2M (f g : FE) : FL := fun e h => (f e h).bind fun d h1 => (g e h1).bind fun d2 h2 => opt (range2D d d2) h2
theorem range2_some {x y : D} {ds : List D} (h : range2D x y = some ds) : ∃ i j, x = .int i ∧ y = .int j ∧ (j - i).toNat ≤ LINE ∧ (-4611686018427387904 ≤ i ∧ i < 4611686018427387904 ∧ -4611686018427387904 ≤ j ∧ j < 4611686018427387904) ∧ ds = rangeL i (j - i).toNat := by
  unfold range2D at h
  split at h
  · rename_i i j
    split at h
    · rename_i hc
      cases h
      exact ⟨i, j, rfl, rfl, hc.1, hc.2, rfl⟩
    · cases h
  · cases h
theorem rangeL_len (lo : Int) (n : Nat) : (rangeL lo n).length = n := by unfold rangeL; rw [List.length_map, List.length_range]
theorem di_range1 {p : Pos} (hg : Gl X "range") (hm : X.mg "range" = none) (h1 : DE X hs ω E a fa) (hst : starEach [a] X.env = [(false, eval a X.env)] := by rfl) : DI X hs ω E tg (.Call (.Name "range" p) [a] [] pos) (range1M fa) := pi_imp (pi_range1 hg hm (pa_cons h1 pa_nil hst) hst) fun σ H Rk hq => by
  obtain ⟨R, O, ha, e, h, rel, hp⟩ := hq
  refine ⟨R, O, ha, e, h, rel, pr_bind hp fun d h1 H1 O1 s1 rel1 hp1 v dv => ?_⟩
  obtain ⟨zs, e1, q⟩ := pr_opt hp1
  obtain ⟨i, j, e2, rfl, hl, hb, rfl⟩ := range2_some e1
  cases e2
  obtain rfl := dd_int dv
  refine ⟨j, rfl, by omega, by omega, ?_⟩
  have e3 : (j - 0).toNat = j.toNat := by omega
  rw [e3] at q hl
  exact pr_ok q rel1 _ (by rw [rangeL_len]; exact hl) (jg_range rfl)
theorem di_range2 {p : Pos} (hg : Gl X "range") (hm : X.mg "range" = none) (h1 : DE X hs ω E a fa) (h2 : DE X hs ω E b fb) (hst : starEach [a, b] X.env = [(false, eval a X.env), (false, eval b X.env)] := by rfl) (hst2 : starEach [b] X.env = [(false, eval b X.env)] := by rfl) : DI X hs ω E tg (.Call (.Name "range" p) [a, b] [] pos) (range2M fa fb) :=
  pi_imp (pi_range2 hg hm (pa_cons h1 (pa_cons h2 pa_nil hst2) (by rw [hst, hst2])) hst hst2) fun σ H Rk hq => by
  obtain ⟨R, O, ha, e, h, rel, hp⟩ := hq
  refine ⟨R, O, ha, e, h, rel, pr_bind hp fun d h1 H1 O1 s1 rel1 hp1 v dv => ?_⟩
  refine ⟨R, O1, ha, e, h1, rel1, pr_bind hp1 fun d2 h2 H2 O2 s2 rel2 hp2 v2 dv2 => ?_⟩
  obtain ⟨zs, e1, q⟩ := pr_opt hp2
  obtain ⟨i, j, rfl, rfl, hl, hb, rfl⟩ := range2_some e1
  obtain rfl := dd_int dv
  obtain rfl := dd_int dv2
  refine ⟨i, j, rfl, ⟨by omega, by omega, by omega, by omega⟩, ?_⟩
  exact pr_ok q rel2 _ (by rw [rangeL_len]; exact hl) (jg_range rfl)
/-! ### targets -/
section
variable {e : En}
/-- the slots vs forgotten -/
def wipeE (e : En) : List Nat → En
  | [] => e
  | v :: vs => (wipeE e vs).set v none
theorem wipeE_length (e : En) : ∀ vs : List Nat, (wipeE e vs).length = e.length
  | [] => rfl
  | v :: vs => by unfold wipeE; rw [List.length_set, wipeE_length e vs]
theorem wipeE_some {i : Nat} {d : D} : ∀ {vs : List Nat}, (wipeE e vs)[i]? = some (some d) → e[i]? = some (some d) ∧ i ∉ vs
  | [], h => ⟨h, by simp⟩
  | v :: vs, h => by
    unfold wipeE at h
    by_cases hi : v = i
    · subst hi
      by_cases hv : v < (wipeE e vs).length
      · rw [List.getElem?_set_self hv] at h; cases h
      · rw [List.getElem?_eq_none (by simpa using hv)] at h; cases h
    · rw [List.getElem?_set_ne hi] at h
      obtain ⟨h1, h2⟩ := wipeE_some h
      exact ⟨h1, by simp only [List.mem_cons, not_or]; exact ⟨fun e => hi e.symm, h2⟩⟩
theorem wipeE_get {i : Nat} : ∀ {vs : List Nat}, i ∉ vs → (wipeE e vs)[i]? = e[i]?
  | [], _ => rfl
  | v :: vs, h => by
    unfold wipeE
    rw [List.getElem?_set_ne (fun z => h (by rw [z]; exact List.mem_cons_self))]
    exact wipeE_get fun z => h (List.mem_cons_of_mem _ z)
theorem wipeE_in {i : Nat} : ∀ {vs : List Nat}, i ∈ vs → i < e.length → (wipeE e vs)[i]? = some none
  | v :: vs, h, hl => by
    unfold wipeE
    by_cases hv : v = i
    · subst hv
      rw [List.getElem?_set_self (by rw [wipeE_length]; exact hl)]
    · rw [List.getElem?_set_ne hv]
      rcases List.mem_cons.mp h with z | z
      · exact absurd z.symm hv
      · exact wipeE_in z hl
theorem wipeE_ext {e' : En} {vs : List Nat} (hl : e'.length = e.length) (h : ∀ i, i ∉ vs → e'[i]? = e[i]?) : wipeE e' vs = wipeE e vs := by
  refine List.ext_getElem? fun i => ?_
  by_cases hi : i ∈ vs
  · by_cases hlt : i < e.length
    · rw [wipeE_in hi hlt, wipeE_in hi (by rw [hl]; exact hlt)]
    · rw [List.getElem?_eq_none (by rw [wipeE_length, hl]; omega), List.getElem?_eq_none (by rw [wipeE_length]; omega)]
  · rw [wipeE_get hi, wipeE_get hi, h i hi]
theorem wipeE_set {vs : List Nat} {i : Nat} {x : Option D} (hi : i ∈ vs) : wipeE (e.set i x) vs = wipeE e vs := wipeE_ext (by rw [List.length_set]) fun j hj => List.getElem?_set_ne (show i ≠ j from fun z => hj (by rw [← z]; exact hi))
theorem wipeE_wipe {vs : List Nat} : wipeE (wipeE e vs) vs = wipeE e vs := wipeE_ext (wipeE_length _ _) fun j hj => wipeE_get hj
end
def tgD (K : PySem.W.Frag) (hs : HS) (ω : List Nat) (vs : List Nat) (g : D → En → Option En) : TG := fun v σ H Q => ∃ R O ha e h d, Rel K R O ha hs ω σ H e h ∧ DD K (Cut O H) v d ∧ ∃ e', g d e = some e' ∧ ∀ σ', Rel K R O ha hs ω σ' H e' h → wipe σ' vs = wipe σ vs → wipeE e' vs = wipeE e vs → Q σ' H
def tgsD (K : PySem.W.Frag) (hs : HS) (ω : List Nat) (vs : List Nat) (g : List D → En → Option En) : TGs := fun xs σ H Q => ∃ R O ha e h ds, Rel K R O ha hs ω σ H e h ∧ DDs K (Cut O H) xs ds ∧ ∃ e', g ds e = some e' ∧ ∀ σ', Rel K R O ha hs ω σ' H e' h → wipe σ' vs = wipe σ vs → wipeE e' vs = wipeE e vs → Q σ' H
theorem pg_imp {X : Cx} {t t' : TG} (h : PG X tg t) (w : ∀ v σ H Q, t' v σ H Q → t v σ H Q) : PG X tg t' := ⟨fun pins s σ H v u Q I r q => h.run pins s σ H v u Q I r (w v σ H Q q)⟩
theorem pgs_imp {X : Cx} {ts : List Expr} {t t' : TGs} (h : PGs X ts t) (w : ∀ v σ H Q, t' v σ H Q → t v σ H Q) : PGs X ts t' := ⟨fun pins s σ H v u Q I r q => h.run pins s σ H v u Q I r (w v σ H Q q)⟩
abbrev DG (X : Cx) (hs : HS) (ω vs : List Nat) (tg : Expr) (g : D → En → Option En) : Prop := PG X tg (tgD X.K hs ω vs g)
abbrev DGs (X : Cx) (hs : HS) (ω vs : List Nat) (ts : List Expr) (g : List D → En → Option En) : Prop := PGs X ts (tgsD X.K hs ω vs g)
theorem wipe_get {σ : L2.St} {i : Nat} : ∀ {vs : List Nat}, i ∉ vs → (wipe σ vs)[i]? = σ[i]?
  | [], _ => rfl
  | v :: vs, h => by
    unfold wipe
    rw [List.getElem?_set_ne (fun z => h (by rw [z]; exact List.mem_cons_self))]
    exact wipe_get fun z => h (List.mem_cons_of_mem _ z)
theorem wipe_in {σ : L2.St} {i : Nat} : ∀ {vs : List Nat}, i ∈ vs → i < σ.length → (wipe σ vs)[i]? = some none
  | v :: vs, h, hl => by
    unfold wipe
    by_cases hv : v = i
    · subst hv
      rw [List.getElem?_set_self (by rw [wipe_length]; exact hl)]
    · rw [List.getElem?_set_ne hv]
      rcases List.mem_cons.mp h with z | z
      · exact absurd z.symm hv
      · exact wipe_in z hl
theorem wipe_ext {σ σ' : L2.St} {vs : List Nat} (hl : σ'.length = σ.length) (h : ∀ i, i ∉ vs → σ'[i]? = σ[i]?) : wipe σ' vs = wipe σ vs := by
  refine List.ext_getElem? fun i => ?_
  by_cases hi : i ∈ vs
  · by_cases hlt : i < σ.length
    · rw [wipe_in hi hlt, wipe_in hi (by rw [hl]; exact hlt)]
    · rw [List.getElem?_eq_none (by rw [wipe_length, hl]; omega), List.getElem?_eq_none (by rw [wipe_length]; omega)]
  · rw [wipe_get hi, wipe_get hi, h i hi]
theorem wipe_set {σ : L2.St} {vs : List Nat} {i : Nat} {x : Option V} (hi : i ∈ vs) : wipe (σ.set i x) vs = wipe σ vs := wipe_ext (by rw [List.length_set]) fun j hj => List.getElem?_set_ne (show i ≠ j from fun z => hj (by rw [← z]; exact hi))
theorem wipe_wipe {σ : L2.St} {vs : List Nat} : wipe (wipe σ vs) vs = wipe σ vs := wipe_ext (wipe_length _ _) fun j hj => wipe_get hj
def gN (i : Nat) : D → En → Option En := fun d e => some (e.set i (some d))
def gT (g : List D → En → Option En) : D → En → Option En := fun d e => match d with | .tuple ds => g ds e | _ => none
def gsN : List D → En → Option En := fun ds e => match ds with | [] => some e | _ => none
def gsC (g : D → En → Option En) (gs : List D → En → Option En) : List D → En → Option En := fun ds e => match ds with | d :: r => (g d e).bind (gs r) | _ => none
theorem filter_ne {ω : List Nat} {i : Nat} (h : i ∉ ω) : ω.filter (· != i) = ω := List.filter_eq_self.mpr fun j hj => by
  simp only [bne_iff_ne, ne_eq]
  exact fun z => h (z ▸ hj)
theorem dg_name {vs : List Nat} {i : Nat} (hp : PG X tg (gName i)) (hi : i ∉ ω := by decide) (hh : hs.ix ≠ some i := by exact of_decide_eq_true rfl) (hv : i ∈ vs := by decide) : DG X hs ω vs tg (gN i) := pg_imp hp fun v σ H Q hq => by
  obtain ⟨R, O, ha, e, h, d, rel, dv, e', he, k⟩ := hq
  cases he
  exact k _ (rel.set dv (filter_ne hi).symm hh) (wipe_set hv) (wipeE_set hv)
theorem dgs_nil {vs : List Nat} : DGs X hs ω vs [] gsN := pgs_imp pgs_nil fun v σ H Q hq => by
  obtain ⟨R, O, ha, e, h, d, rel, dv, e', he, k⟩ := hq
  unfold gsN at he
  split at he
  · cases he
    cases dv
    exact ⟨rfl, k _ rel rfl rfl⟩
  · cases he
theorem dgs_cons {vs : List Nat} {ts : List Expr} {g1 : D → En → Option En} {g2 : List D → En → Option En} (h1 : DG X hs ω vs tg g1) (h2 : DGs X hs ω vs ts g2) (hst : (assignEach (tg :: ts) X.env).map (·.2) = assign tg X.env :: (assignEach ts X.env).map (·.2) := by rfl) : DGs X hs ω vs (tg :: ts) (gsC g1 g2) := pgs_imp (pgs_cons h1 h2 hst) fun v σ H Q hq => by
  obtain ⟨R, O, ha, e, h, d, rel, dv, e', he, k⟩ := hq
  unfold gsC at he
  split at he
  · rename_i d0 r
    cases dv with
    | cons x1 x2 =>
      cases hg : g1 d0 e with
      | none => rw [hg] at he; cases he
      | some e1 =>
        rw [hg] at he
        refine ⟨_, _, rfl, R, O, ha, e, h, d0, rel, x1, e1, hg, fun σ1 rel1 w1 u1 => ?_⟩
        exact ⟨R, O, ha, e1, h, r, rel1, x2, e', he, fun σ2 rel2 w2 u2 => k σ2 rel2 (w2.trans w1) (u2.trans u1)⟩
  · cases he
theorem dg_tup {vs : List Nat} {ts : List Expr} {k : Nat} {g2 : List D → En → Option En} (hc : X.calm = true) (h : DGs X hs ω vs ts g2) (hn : (assignEach ts X.env).length = ts.length := by rfl) (hst : (assignEach ts X.env).findIdx? (·.1) = none := by rfl) (hl : ∀ ds e e', g2 ds e = some e' → ds.length = ts.length) : DG X hs ω vs (.Tuple ts k pos) (gT g2) := pg_imp (pg_tup hc h hn hst) fun v σ H Q hq => by
  obtain ⟨R, O, ha, e, h, d, rel, dv, e', he, k⟩ := hq
  unfold gT at he
  split at he
  · obtain ⟨p, xs, rfl, g1, g2'⟩ := dd_tup dv
    exact ⟨p, xs, rfl, XN.sqT xn_cut g1, by rw [g2'.length]; exact hl _ _ _ he, R, O, ha, e, h, _, rel, g2', e', he, k⟩
  · cases he
theorem gs_len0 : ∀ (ds : List D) (e e' : En), gsN ds e = some e' → ds.length = ([] : List Expr).length := fun ds e e' h => by
  unfold gsN at h
  split at h
  · rfl
  · cases h
theorem gs_len {g1 : D → En → Option En} {g2 : List D → En → Option En} {t : Expr} {ts : List Expr} (h2 : ∀ (ds : List D) (e e' : En), g2 ds e = some e' → ds.length = ts.length) : ∀ (ds : List D) (e e' : En), gsC g1 g2 ds e = some e' → ds.length = (t :: ts).length := fun ds e e' h => by
  unfold gsC at h
  split at h
  · rename_i d r
    cases hg : g1 d e with
    | none => rw [hg] at h; cases h
    | some e1 => rw [hg] at h; simp [h2 _ _ _ h]
  · cases h
/-! ### for -/
def loopS (g : D → En → Option En) (f : FS) : List D → FS
  | [], e, h => .nx e h
  | d :: ds, e, h => match g d e with
    | none => .no
    | some e1 => match f e1 h with
      | .nx e2 h2 => loopS g f ds e2 h2
      | .ct e2 h2 => loopS g f ds e2 h2
      | .bk e2 h2 => .nx e2 h2
      | r => r
def forS (fi : FL) (g : D → En → Option En) (f : FS) : FS := fun e h => (fi e h).bindS fun ds h1 => loopS g f ds e h1
theorem loop_drop {g : D → En → Option En} {f : FS} {ds : List D} {i : Nat} {d : D} (hd : ds[i]? = some d) : ds.drop i = d :: ds.drop (i + 1) := by
  obtain ⟨h1, h2⟩ := List.getElem?_eq_some_iff.mp hd
  rw [List.drop_eq_getElem_cons h1, h2]
theorem ds_for {body : List Stmt} {vs : List Nat} {g1 : D → En → Option En} (hp : PassesOwn (model X.prog X.w) X.A X.env X.xe) (hc : X.calm = true) (hi : DI X hs ω E tg it fl) (hg : DG X hs ω vs tg g1) (hb : DSs X hs ω ω ω E body f)
    (hfs : ∀ x, foldedSetIterable it X.env x = pure x := by intro _; rfl) : DS X hs ω ω ωl E (.For tg it body [] pos) (forS fl g1 f) := ps_imp (ps_for hp hc hi hg hb hfs) fun Dn σ H hq => by
  obtain ⟨R, O, ha, e, h, rel, hp⟩ := hq
  refine ⟨R, O, ha, e, h, rel, ps_bind hp fun ds h1 H1 O1 s1 rel1 hp1 J hl jg => ?_⟩
  refine ⟨fun i m σ H => m = ds.length - i ∧ i ≤ ds.length ∧ ∃ O e h, XN (Cut O1 H1) (Cut O H) ∧ Rel X.K R O ha hs ω σ H e h ∧ PS' X.K X.mg R ha hs ω ωl E O H (loopS g1 f (ds.drop i) e h) Dn, ⟨ds.length, by simp, Nat.zero_le _, O1, e, h1, XN.refl _, rel1, hp1⟩, ?_⟩
  rintro i m σ H ⟨rfl, hi, O2, e2, h2, xn, rel2, hp2⟩
  obtain ⟨j1, j2⟩ := jg i H O2 rel2.g.dom xn
  by_cases hlt : i < ds.length
  · have hd : ds[i]? = some ds[i] := List.getElem?_eq_getElem hlt
    obtain ⟨go, yl⟩ := j1 _ hd
    refine .inr ⟨go, fun σ' H' => i + 1 ≤ ds.length ∧ ∃ O e h, XN (Cut O1 H1) (Cut O H') ∧ Rel X.K R O ha hs ω σ' H' e h ∧ PS' X.K X.mg R ha hs ω ωl E O H' (loopS g1 f (ds.drop (i + 1)) e h) Dn, fun σ' H' q => ⟨ds.length - (i + 1), by omega, rfl, q⟩, fun x H' hy => ?_⟩
    obtain ⟨gr, dx⟩ := yl x H' hy
    have st := rel2.step gr
    have rel3 := rel2.grow gr
    have hp3 := ps_step hp2 st
    rw [loop_drop (g := g1) (f := f) hd] at hp3
    cases hg1 : g1 ds[i] e2 with
    | none => simp only [loopS, hg1] at hp3; exact hp3.elim
    | some e3 =>
      simp only [loopS, hg1] at hp3
      refine ⟨R, O2, ha, e2, h2, ds[i], rel3, dx, e3, hg1, fun σ3 rel4 _ _ => ?_⟩
      refine ⟨R, O2, ha, e3, h2, rel4, ?_⟩
      cases hf : f e3 h2 with
      | nx e4 h4 =>
        rw [hf] at hp3
        exact fun σ' H4 O4 s4 rel5 => ⟨hlt, O4, e4, h4, (xn.trans st.ex).trans s4.ex, rel5, ps_step hp3 s4⟩
      | ct e4 h4 =>
        rw [hf] at hp3
        exact fun σ' H4 O4 s4 rel5 => ⟨hlt, O4, e4, h4, (xn.trans st.ex).trans s4.ex, rel5, ps_step hp3 s4⟩
      | bk e4 h4 =>
        rw [hf] at hp3
        exact fun σ' H4 O4 s4 rel5 => hp3 σ' H4 O4 s4 rel5
      | rt d4 h4 => rw [hf] at hp3; exact hp3
      | ex c4 h4 => rw [hf] at hp3; exact hp3
      | no => rw [hf] at hp3; exact hp3
  · have hi' : i = ds.length := by omega
    subst hi'
    rw [List.drop_length] at hp2
    exact .inl ⟨j2 (Nat.le_refl _), ps_nx hp2 rel2⟩
/-! ### while -/
def whileN (c : FB) (f : FS) : Nat → FS
  | 0, _, _ => .no
  | n + 1, e, h => (c e h).bindS fun k h1 => if k = true then (match f e h1 with
      | .nx e2 h2 => whileN c f n e2 h2
      | .ct e2 h2 => whileN c f n e2 h2
      | .bk e2 h2 => .nx e2 h2
      | r => r) else .nx e h1
theorem ds_while {fc : FB} {body : List Stmt} {n : Nat} (hp : PassesOwn (model X.prog X.w) X.A X.env X.xe) (hc : DT X hs ω E c fc) (hb : DSs X hs ω ω ω E body f) : DS X hs ω ω ωl E (.While c body [] pos) (whileN fc f n) := ps_imp (ps_while hp hc hb) fun Dn σ H hq => by
  obtain ⟨R, O, ha, e, h, rel, hp⟩ := hq
  refine ⟨fun m σ H => ∃ O e h, Rel X.K R O ha hs ω σ H e h ∧ PS' X.K X.mg R ha hs ω ωl E O H (whileN fc f m e h) Dn, ⟨n, O, e, h, rel, hp⟩, ?_⟩
  rintro m σ H ⟨O2, e2, h2, rel2, hp2⟩
  cases m with
  | zero => exact hp2.elim
  | succ m =>
    refine ⟨R, O2, ha, e2, h2, rel2, ps_bind hp2 fun k h3 H3 O3 s3 rel3 hp3 => ?_⟩
    cases k with
    | false => exact ps_nx hp3 rel3
    | true =>
      refine ⟨fun σ' H' => ∃ O e h, Rel X.K R O ha hs ω σ' H' e h ∧ PS' X.K X.mg R ha hs ω ωl E O H' (whileN fc f m e h) Dn, fun σ' H' q => ⟨m, Nat.lt_succ_self m, q⟩, ?_⟩
      refine ⟨R, O3, ha, e2, h3, rel3, ?_⟩
      rw [if_pos rfl] at hp3
      cases hf : f e2 h3 with
      | nx e4 h4 => rw [hf] at hp3; exact fun σ' H4 O4 s4 rel5 => ⟨O4, e4, h4, rel5, ps_step hp3 s4⟩
      | ct e4 h4 => rw [hf] at hp3; exact fun σ' H4 O4 s4 rel5 => ⟨O4, e4, h4, rel5, ps_step hp3 s4⟩
      | bk e4 h4 => rw [hf] at hp3; exact fun σ' H4 O4 s4 rel5 => hp3 σ' H4 O4 s4 rel5
      | rt d4 h4 => rw [hf] at hp3; exact hp3
      | ex c4 h4 => rw [hf] at hp3; exact hp3
      | no => rw [hf] at hp3; exact hp3
end Sm


set_option maxRecDepth 100000
set_option maxHeartbeats 4000000
/-! Sim layer, part G: comprehensions, several targets, calls, defs, raise. -/
namespace Sm
open PySem PySem.Spec PyProof.Rows L2
section
variable {K : PySem.W.Frag} {mg : Str → Option Value} {R R' O O1 : Addr → Prop} {ha : Option Addr} {hs : HS} {ω ω' ωl : List Nat} {E : XK} {σ : L2.St} {H H1 : Hp} {e : En} {h : List D}
theorem Rel.wipe {vs : List Nat} (r : Rel K R O ha hs ω σ H e h) (hω : ∀ i ∈ vs, i ∉ ω) (hh : ∀ i ∈ vs, hs.ix ≠ some i) : Rel K R O ha hs ω (L2.wipe σ vs) H (wipeE e vs) h where
  g := r.g
  val := fun i d a b c => by
    obtain ⟨h1, h2⟩ := wipeE_some c
    obtain ⟨v, e1, e2⟩ := r.val i d a b h1
    exact ⟨v, by rw [wipe_get h2]; exact e1, e2⟩
  own := fun i hi => by
    obtain ⟨a, o, d, e1, e2, e3⟩ := r.own i hi
    have n : i ∉ vs := fun z => hω i z hi
    exact ⟨a, o, d, by rw [wipe_get n]; exact e1, by rw [wipeE_get n]; exact e2, e3⟩
  inj := fun i hi j hj a h1 h2 => by
    rw [wipe_get fun z => hω i z hi] at h1
    rw [wipe_get fun z => hω j z hj] at h2
    exact r.inj i hi j hj a h1 h2
  hand := fun i hi => by
    obtain ⟨h1, a, h2, h3⟩ := r.hand i hi
    exact ⟨h1, a, h2, by rw [wipe_get fun z => hh i z hi]; exact h3⟩
  len := by rw [wipe_length, wipeE_length]; exact r.len
  tb := r.tb
end
variable {X : Cx} {hs : HS} {ω ω1 ω' ωl : List Nat} {E : XK} {e a b c tg it elt : Expr} {fe fa fb : FE} {fl fi : FL} {pos : Pos} {st : Stmt} {rest es : List Stmt} {f g : FS}
/-! ### comprehensions -/
/-- nothing is raised on the way -/
def Res.bindN {α β : Type} (r : Res α) (k : α → List D → Res β) : Res β := match r with | .ok a h => k a h | _ => .no
def compL (g : D → En → Option En) (ft : FB) (fe : FE) : List D → En → List D → Res (List D)
  | [], _, h => .ok [] h
  | d :: ds, e, h => match g d e with
    | none => .no
    | some e1 => (ft e1 h).bindN fun b h1 => if b = true then (fe e1 h1).bindN fun y h2 => (compL g ft fe ds e h2).bind fun ys h3 => .ok (y :: ys) h3 else compL g ft fe ds e h1
def compM (vs : List Nat) (fi : FL) (g : D → En → Option En) (ft : FB) (fe : FE) : FL := fun e h => (fi e h).bind fun ds h1 => compL g ft fe ds (wipeE e vs) h1
def yesM : FB := fun _ h => .ok true h
theorem Res.bind_assoc {α β γ : Type} (r : Res α) (k : α → List D → Res β) (l : β → List D → Res γ) : (r.bind k).bind l = r.bind fun a h => (k a h).bind l := by
  cases r <;> rfl
theorem loop_dropC {ds : List D} {i : Nat} {d : D} (hd : ds[i]? = some d) : ds.drop i = d :: ds.drop (i + 1) := by
  obtain ⟨h1, h2⟩ := List.getElem?_eq_some_iff.mp hd
  rw [List.drop_eq_getElem_cons h1, h2]
theorem lc_te {vs : List Nat} {g1 : D → En → Option En} {ft : FB} {σ : L2.St} {H : Hp} {Q : VK} (hω : ∀ i ∈ vs, i ∉ ω) (hh : ∀ i ∈ vs, hs.ix ≠ some i) (hq : teL X.K X.mg hs ω E (compM vs fi g1 ft fe) σ H Q) :
    tLc (tiD X.K X.mg hs ω E fi) (tgD X.K hs ω vs g1) (ttD X.K X.mg hs ω E0 ft) (teD X.K X.mg hs ω E0 fe) vs σ H Q := by
  obtain ⟨R, O, ha, e, h, rel, hp⟩ := hq
  refine ⟨R, O, ha, e, h, rel, pr_bind hp fun ds h1 H1 O1 s1 rel1 hp1 J hl jg => fun p hpn => ?_⟩
  have hand : ∀ a, ha = some a → R a := fun a x => (rel1.g.hnd a x).1
  have nR : ¬ R p := fun z => rel1.g.dom p (rel1.g.sub p z) hpn
  have nha : ha ≠ some p := fun z => nR (hand p z)
  have up : ∀ a, R a → Plus R p a := fun a x => .inl x
  have nω : ∀ i ∈ ω, σ[i]? ≠ some (some (.ref p)) := fun i hi z => by
    obtain ⟨a, o', d, e1, e2, e3, e4, e5, e6⟩ := rel1.own i hi
    rw [e1] at z
    cases z
    exact rel1.g.dom _ e3 hpn
  have rel2 := (rel1.plus (o := .lst []) hpn fun _ z => (by cases z))
  have st2 := step_plus (hs := hs) (o := HO.lst []) rel1.g hpn
  refine ⟨fun i m H' => m = ds.length - i ∧ i ≤ ds.length ∧ ∃ O h acc accD, XN (Cut O1 H1) (Cut O H') ∧ O p ∧ Rel X.K (Plus R p) O ha hs ω σ H' e h ∧ H' p = some (.lst acc) ∧ DDs X.K (Cut O H') acc accD ∧ accD.length ≤ i ∧
      PR X.K X.mg R ha hs ω E σ O H' e ((compL g1 ft fe (ds.drop i) (wipeE e vs) h).bind fun ys h3 => .ok (accD ++ ys) h3) (KL' X.K R ω σ Q),
    ⟨ds.length, by simp, Nat.zero_le _, _, h1, [], [], st2.ex, .inr rfl, rel2.plusR (.inr rfl) nω, upd_same, .nil, Nat.le_refl _, ?_⟩, ?_⟩
  · have hp2 := pr_step hp1 st2
    rw [List.drop_zero]
    generalize compL g1 ft fe ds (wipeE e vs) h1 = r at hp2 ⊢
    cases r with
    | ok a h' => exact hp2
    | ex c h' => exact hp2
    | no => exact hp2
  rintro i m H2 ⟨rfl, hi, O2, h2, acc, accD, xn, hOp, rel2, hacc, dacc, hlen, hp2⟩
  obtain ⟨j1, j2⟩ := jg i H2 O2 rel2.g.dom xn
  by_cases hlt : i < ds.length
  · have hd : ds[i]? = some ds[i] := List.getElem?_eq_getElem hlt
    obtain ⟨go, yl⟩ := j1 _ hd
    refine .inr ⟨go, fun H' => i + 1 ≤ ds.length ∧ ∃ O h acc accD, XN (Cut O1 H1) (Cut O H') ∧ O p ∧ Rel X.K (Plus R p) O ha hs ω σ H' e h ∧ H' p = some (.lst acc) ∧ DDs X.K (Cut O H') acc accD ∧ accD.length ≤ i + 1 ∧
      PR X.K X.mg R ha hs ω E σ O H' e ((compL g1 ft fe (ds.drop (i + 1)) (wipeE e vs) h).bind fun ys h3 => .ok (accD ++ ys) h3) (KL' X.K R ω σ Q), fun H' q => ⟨ds.length - (i + 1), by omega, rfl, q⟩, fun x H3 hy => ?_⟩
    obtain ⟨gr, dx⟩ := yl x H3 hy
    have st := rel2.step gr
    have rel3 := rel2.grow gr
    have hp3 := pr_step hp2 (st.weakR up)
    rw [loop_dropC hd] at hp3
    have hacc3 : H3 p = some (.lst acc) := gr _ _ hacc
    cases hg1 : g1 ds[i] (wipeE e vs) with
    | none => simp only [compL, hg1] at hp3; exact hp3.elim
    | some e3 =>
      simp only [compL, hg1] at hp3
      refine ⟨Plus R p, O2, ha, wipeE e vs, h2, ds[i], rel3.wipe hω hh, dx, e3, hg1, fun σ3 rel4 w4 u4 => ⟨w4.trans wipe_wipe, ?_⟩⟩
      have kσ : ∀ j, j ∉ vs → σ3[j]? = σ[j]? := fun j nj => by
        have q := congrArg (fun l => l[j]?) w4
        simp only [wipe_get nj] at q
        exact q
      have ke : ∀ j, j ∉ vs → e3[j]? = e[j]? := fun j nj => by
        have q := congrArg (fun l => l[j]?) u4
        simp only [wipeE_get nj] at q
        exact q
      -- what the turn leaves, told over the slots outside
      have back : ∀ {O3 : Addr → Prop} {H4 : Hp} {h4 : List D}, Step hs.tabs (Plus R p) ha O2 H3 O3 H4 → Rel X.K (Plus R p) O3 ha hs ω σ3 H4 e3 h4 → Rel X.K (Plus R p) O3 ha hs ω σ H4 e h4 := fun {O3 H4 h4} s4 r4 => by
        refine ⟨r4.g, fun j d a b c => ?_, fun j hj => ?_, fun j hj l hl a f1 f2 => rel2.inj j hj l hl a f1 f2, rel2.hand, rel2.len, r4.tb⟩
        · obtain ⟨v, e1, e2⟩ := rel3.val j d a b c
          exact ⟨v, e1, s4.dd e2⟩
        · obtain ⟨a, o, d, e1, e2, q⟩ := r4.own j hj
          have nj : j ∉ vs := fun z => hω j z hj
          exact ⟨a, o, d, by rw [← kσ j nj]; exact e1, by rw [← ke j nj]; exact e2, q⟩
      cases hft : ft e3 h2 with
      | ex c h' => rw [hft] at hp3; exact hp3.elim
      | no => rw [hft] at hp3; exact hp3.elim
      | ok b h5 =>
        rw [hft] at hp3
        refine ⟨Plus R p, O2, ha, e3, h2, rel4, ?_⟩
        rw [hft]
        intro H5 O5 s5 rel5
        have hp5 := pr_step hp3 (s5.weakR up)
        have k5 : H5 p = some (.lst acc) := (s5.keep p (.inr rfl) nha).trans hacc3
        have d5 : DDs X.K (Cut O5 H5) acc accD := (st.trans s5).dds dacc
        cases b with
        | false =>
          show _ ∧ _
          exact ⟨hlt, O5, h5, acc, accD, (xn.trans st.ex).trans s5.ex, rel5.g.sub p (.inr rfl), back s5 rel5, k5, d5, by omega, hp5⟩
        | true =>
          show teD X.K X.mg hs ω E0 fe σ3 H5 _
          refine ⟨Plus R p, O5, ha, e3, h5, rel5, ?_⟩
          cases hfe : fe e3 h5 with
          | ex c h' =>
            have z : PR X.K X.mg R ha hs ω E σ O5 H5 e (Res.bind (Res.bindN (fe e3 h5) _) _) _ := hp5
            rw [hfe] at z
            exact z.elim
          | no =>
            have z : PR X.K X.mg R ha hs ω E σ O5 H5 e (Res.bind (Res.bindN (fe e3 h5) _) _) _ := hp5
            rw [hfe] at z
            exact z.elim
          | ok y h6 =>
            have z : PR X.K X.mg R ha hs ω E σ O5 H5 e (Res.bind (Res.bindN (fe e3 h5) fun y h2 => (compL g1 ft fe (ds.drop (i + 1)) (wipeE e vs) h2).bind fun ys h3 => .ok (y :: ys) h3) fun ys h3 => .ok (accD ++ ys) h3) _ := hp5
            rw [hfe] at z
            intro H6 O6 s6 rel6 v dv
            have hO6 : O6 p := rel6.g.sub p (.inr rfl)
            have k6 : H6 p = some (.lst acc) := (s6.keep p (.inr rfl) nha).trans k5
            have d6 : DDs X.K (Cut O6 H6) acc accD := s6.dds d5
            have sm : Step hs.tabs R ha O6 H6 O6 (upd H6 p (.lst (acc ++ [v]))) := step_mut k6 ⟨fun _ z => (by cases z), fun _ z => (by cases z)⟩ hO6 nR
            refine ⟨acc, k6, by rw [line_eq, d6.length]; omega, hlt, O6, h6, acc ++ [v], accD ++ [y], ((xn.trans st.ex).trans (s5.trans s6).ex).trans sm.ex, hO6, (back (s5.trans s6) rel6).mutR k6 ⟨fun _ z => (by cases z), fun _ z => (by cases z)⟩ (fun _ z => (by cases z)) hO6 (.inr rfl) nha, upd_same, by rw [cut_owned hO6]; exact d6.append (.cons dv .nil), by rw [List.length_append]; simp; omega, ?_⟩
            have z2 := pr_step z ((s6.weakR up).trans sm)
            generalize hr : compL g1 ft fe (ds.drop (i + 1)) (wipeE e vs) h6 = r at z2 ⊢
            have e1 : (Res.ok y h6 : Res D).bindN (fun y h2 => (compL g1 ft fe (ds.drop (i + 1)) (wipeE e vs) h2).bind fun ys h3 => .ok (y :: ys) h3) = r.bind fun ys h3 => .ok (y :: ys) h3 := by
              show (compL g1 ft fe (ds.drop (i + 1)) (wipeE e vs) h6).bind _ = _
              rw [hr]
            rw [e1] at z2
            cases r with
            | ok ys h7 =>
              have e2 : accD ++ (y :: ys) = accD ++ [y] ++ ys := by simp
              have z3 : PR X.K X.mg R ha hs ω E σ O6 (upd H6 p (.lst (acc ++ [v]))) e (.ok (accD ++ (y :: ys)) h7) (KL' X.K R ω σ Q) := z2
              rw [e2] at z3
              exact z3
            | ex c h7 => exact z2
            | no => exact z2
  · have hi' : i = ds.length := by omega
    subst hi'
    rw [List.drop_length] at hp2
    exact .inl ⟨j2 (Nat.le_refl _), (pr_ok (show PR X.K X.mg R ha hs ω E σ O2 H2 e (.ok (accD ++ []) h2) (KL' X.K R ω σ Q) from hp2) (rel2.weakR up hand)) p acc hOp nR nω hacc (by rw [List.append_nil]; exact dacc)⟩
end Sm


set_option maxRecDepth 100000
set_option maxHeartbeats 4000000
/-! Sim layer, part H: comprehension rules, several targets, calls, defs, raise. -/
namespace Sm
open PySem PySem.Spec PyProof.Rows L2
variable {X : Cx} {hs : HS} {ω ω1 ω' ωl : List Nat} {E : XK} {e a b c tg it elt : Expr} {fe fa fb : FE} {fl fi : FL} {ft : FB} {pos : Pos} {st : Stmt} {rest : List Stmt} {f g : FS} {es ifs : List Expr}
/-! ### comprehensions -/
abbrev DTs (X : Cx) (hs : HS) (ω : List Nat) (E : XK) (es : List Expr) (f : FB) : Prop := PTs X es (ttD X.K X.mg hs ω E f)
theorem pts_imp {X : Cx} {t t' : TT} (h : PTs X ifs t) (w : ∀ σ H Q, t' σ H Q → t σ H Q) : PTs X ifs t' := ⟨fun pins s σ H Q I q => h.run pins s σ H Q I (w σ H Q q)⟩
theorem dts_nil : DTs X hs ω E [] yesM := pts_imp pts_nil fun σ H Q hq => by
  obtain ⟨R, O, ha, e, h, rel, hp⟩ := hq
  exact pr_ok (Ka := KB' Q) hp rel
theorem dts_one (h : DT X hs ω E a ft) : DTs X hs ω E [a] ft := pts_one h
theorem dl_comp {own : List (Str × Nat)} {scope : Scope} {vs : List Nat} {g1 : D → En → Option En} (hc : X.calm = true) (hN : X.N.Nodup) (hi : DI X hs ω E tg it fi) (ok : BlkOk X.N X.env.scope scope own) (hvs : own.map (·.2) = vs)
    (hg : ∀ (s : Shared) (H : Hp) (C : Addr) (cl : List (Str × Addr)) (fp : List Addr), DG (X.blk s H scope (compEnvC scope cl C X.env) fp) hs ω vs tg g1)
    (ht : ∀ (s : Shared) (H : Hp) (C : Addr) (cl : List (Str × Addr)) (fp : List Addr), DTs (X.blk s H scope (compEnvC scope cl C X.env) fp) hs ω E0 ifs ft)
    (he : ∀ (s : Shared) (H : Hp) (C : Addr) (cl : List (Str × Addr)) (fp : List Addr), DE (X.blk s H scope (compEnvC scope cl C X.env) fp) hs ω E0 elt fe)
    (hω : ∀ i ∈ vs, i ∉ ω := by decide) (hh : ∀ i ∈ vs, hs.ix ≠ some i := by exact of_decide_eq_true rfl) (hfs : ∀ x, foldedSetIterable it X.env x = pure x := by intro _; rfl) : DL X hs ω E (.ListComp elt [⟨tg, it, ifs, 0⟩] scope pos) (compM vs fi g1 ft fe) := by
  subst hvs
  exact pe_imp (pe_lc hc hN hi ok hg ht he hfs) fun σ H Q hq => lc_te hω hh hq
theorem de_comp {own : List (Str × Nat)} {scope : Scope} {vs : List Nat} {g1 : D → En → Option En} (hc : X.calm = true) (hN : X.N.Nodup) (hi : DI X hs ω E tg it fi) (ok : BlkOk X.N X.env.scope scope own) (hvs : own.map (·.2) = vs)
    (hg : ∀ (s : Shared) (H : Hp) (C : Addr) (cl : List (Str × Addr)) (fp : List Addr), DG (X.blk s H scope (compEnvC scope cl C X.env) fp) hs ω vs tg g1)
    (ht : ∀ (s : Shared) (H : Hp) (C : Addr) (cl : List (Str × Addr)) (fp : List Addr), DTs (X.blk s H scope (compEnvC scope cl C X.env) fp) hs ω E0 ifs ft)
    (he : ∀ (s : Shared) (H : Hp) (C : Addr) (cl : List (Str × Addr)) (fp : List Addr), DE (X.blk s H scope (compEnvC scope cl C X.env) fp) hs ω E0 elt fe)
    (hω : ∀ i ∈ vs, i ∉ ω := by decide) (hh : ∀ i ∈ vs, hs.ix ≠ some i := by exact of_decide_eq_true rfl) (hfs : ∀ x, foldedSetIterable it X.env x = pure x := by intro _; rfl) : DE X hs ω E (.ListComp elt [⟨tg, it, ifs, 0⟩] scope pos) (lstM (compM vs fi g1 ft fe)) :=
  de_of_dl (dl_comp hc hN hi ok hvs hg ht he hω hh hfs)
/-- name = [..] on one line, a local name -/
theorem ds_setC {own : List (Str × Nat)} {scope : Scope} {vs : List Nat} {g1 : D → En → Option En} {i : Nat} {y : Str} {py spos : Pos} (hc : X.calm = true) (hN : X.N.Nodup) (hy : X.N[i]? = some y) (hyl : X.env.scope.names.lookup y = some .local)
    (hsw : swapsWith (.ListComp elt [⟨tg, it, ifs, 0⟩] scope pos) (some (.Name y py)) spos.line X.env = pure true) (hi : DI X hs ω E tg it fi) (ok : BlkOk X.N X.env.scope scope own) (hvs : own.map (·.2) = vs)
    (hg : ∀ (s : Shared) (H : Hp) (C : Addr) (cl : List (Str × Addr)) (fp : List Addr), DG (X.blk s H scope (compEnvC scope cl C X.env) fp) hs ω vs tg g1)
    (ht : ∀ (s : Shared) (H : Hp) (C : Addr) (cl : List (Str × Addr)) (fp : List Addr), DTs (X.blk s H scope (compEnvC scope cl C X.env) fp) hs ω E0 ifs ft)
    (he : ∀ (s : Shared) (H : Hp) (C : Addr) (cl : List (Str × Addr)) (fp : List Addr), DE (X.blk s H scope (compEnvC scope cl C X.env) fp) hs ω E0 elt fe)
    (hω : ∀ i ∈ vs, i ∉ ω := by decide) (hh : ∀ i ∈ vs, hs.ix ≠ some i := by exact of_decide_eq_true rfl) (hfs : ∀ x, foldedSetIterable it X.env x = pure x := by intro _; rfl) (hw : ω' = ω.filter (· != i) := by rfl) (hh2 : hs.ix ≠ some i := by exact of_decide_eq_true rfl) :
    DS X hs ω ω' ωl E (.Assign [.Name y py] (.ListComp elt [⟨tg, it, ifs, 0⟩] scope pos) spos) (asgS i (lstM (compM vs fi g1 ft fe))) := by
  subst hvs
  refine ps_imp (ps_setLc (te := teD X.K X.mg hs ω E0 fe) (tt := ttD X.K X.mg hs ω E0 ft) (g := tgD X.K hs ω (own.map (·.2)) g1) hc hN hy hyl hsw hi ok hg ht he hfs) fun Dn σ H hq => ?_
  obtain ⟨R, O, ha, en, h, rel, hp⟩ := hq
  refine lc_te hω hh ⟨R, O, ha, en, h, rel, ?_⟩
  have hp' : PS' X.K X.mg R ha hs ω' ωl E O H ((compM (own.map (·.2)) fi g1 ft fe en h).bindS fun ds h1 => .nx (en.set i (some (.list ds))) h1) Dn := by
    unfold asgS lstM at hp
    cases hr : compM (own.map (·.2)) fi g1 ft fe en h with
    | ok ds h1 => rw [hr] at hp; exact hp
    | ex c h1 => rw [hr] at hp; exact hp
    | no => rw [hr] at hp; exact hp
  refine ps_bind hp' fun ds h1 H1 O1 s1 rel1 hp1 p xs h2 h3 h4 h5 h6 => ?_
  have hp2 := ps_step hp1 (step_minus (p := p))
  exact ps_nx hp2 ((rel1.minus h3 h4).set (.lst (by rw [cut_out fun z => z.2 rfl]; exact h5) (dds_mono xn_minus h6)) hw hh2)
theorem ds_setCL {own : List (Str × Nat)} {scope : Scope} {vs : List Nat} {g1 : D → En → Option En} {i : Nat} {y : Str} {py spos : Pos} (hc : X.calm = true) (hN : X.N.Nodup) (hy : X.N[i]? = some y) (hyl : X.env.scope.names.lookup y = some .local)
    (hsw : swapsWith (.ListComp elt [⟨tg, it, ifs, 0⟩] scope pos) (some (.Name y py)) spos.line X.env = pure true) (hi : DI X hs ω E tg it fi) (ok : BlkOk X.N X.env.scope scope own) (hvs : own.map (·.2) = vs)
    (hg : ∀ (s : Shared) (H : Hp) (C : Addr) (cl : List (Str × Addr)) (fp : List Addr), DG (X.blk s H scope (compEnvC scope cl C X.env) fp) hs ω vs tg g1)
    (ht : ∀ (s : Shared) (H : Hp) (C : Addr) (cl : List (Str × Addr)) (fp : List Addr), DTs (X.blk s H scope (compEnvC scope cl C X.env) fp) hs ω E0 ifs ft)
    (he : ∀ (s : Shared) (H : Hp) (C : Addr) (cl : List (Str × Addr)) (fp : List Addr), DE (X.blk s H scope (compEnvC scope cl C X.env) fp) hs ω E0 elt fe)
    (hω : ∀ i ∈ vs, i ∉ ω := by decide) (hh : ∀ i ∈ vs, hs.ix ≠ some i := by exact of_decide_eq_true rfl) (hfs : ∀ x, foldedSetIterable it X.env x = pure x := by intro _; rfl) (hw : ω' = i :: ω.filter (· != i) := by rfl) (hh2 : hs.ix ≠ some i := by exact of_decide_eq_true rfl) :
    DS X hs ω ω' ωl E (.Assign [.Name y py] (.ListComp elt [⟨tg, it, ifs, 0⟩] scope pos) spos) (asgL i (compM vs fi g1 ft fe)) := by
  subst hvs
  refine ps_imp (ps_setLc (te := teD X.K X.mg hs ω E0 fe) (tt := ttD X.K X.mg hs ω E0 ft) (g := tgD X.K hs ω (own.map (·.2)) g1) hc hN hy hyl hsw hi ok hg ht he hfs) fun Dn σ H hq => ?_
  obtain ⟨R, O, ha, en, h, rel, hp⟩ := hq
  refine lc_te hω hh ⟨R, O, ha, en, h, rel, ps_bind hp fun ds h1 H1 O1 s1 rel1 hp1 p xs h2 h3 h4 h5 h6 => ?_⟩
  split at hp1
  · rename_i hl
    exact ps_nx hp1 (rel1.setOwn h2 h3 h4 h5 (.lst h6) hw hh2 hl)
  · exact hp1.elim
/-! ### calls -/
section
variable {K : PySem.W.Frag} {R O O1 : Addr → Prop} {ha : Option Addr} {σ : L2.St} {H H' : Hp} {en : En} {h : List D}
theorem Rel.call (r : Rel K R O ha hs ω σ H en h) (k : ∀ a, O a → H' a = H a) (x : XN (Cut O H) (Cut O H')) (tb : LamX.Tabs hs.tabs H → LamX.Tabs hs.tabs H') : Rel K R O ha hs ω σ H' en h where
  g := ⟨r.g.sub, fun a o => (r.g.dm a o).eq (k a o), fun a z => by
    obtain ⟨y, xs, e1, e2⟩ := r.g.hnd a z
    exact ⟨y, xs, by rw [k a (r.g.sub a y)]; exact e1, dds_mono x e2⟩⟩
  val := fun i d a b c => by
    obtain ⟨v, e1, e2⟩ := r.val i d a b c
    exact ⟨v, e1, dd_mono x e2⟩
  own := fun i hi => by
    obtain ⟨a, o, d, e1, e2, e3, e4, e5, e6⟩ := r.own i hi
    exact ⟨a, o, d, e1, e2, e3, e4, by rw [k a e3]; exact e5, e6.mono x⟩
  inj := r.inj
  hand := r.hand
  len := r.len
  tb := tb r.tb
/-- .. the hand's list changes -/
theorem Rel.callH {p : Addr} {h' : List D} {xs : List V} (r : Rel K R O (some p) hs ω σ H en h) (k : ∀ a, O a → a ≠ p → H' a = H a) (x : XN (Cut O H) (Cut O H')) (hp : H' p = some (.lst xs)) (d : DDs K (Cut O H') xs h') (tb : LamX.Tabs hs.tabs H → LamX.Tabs hs.tabs H') : Rel K R O (some p) hs ω σ H' en h' where
  g := ⟨r.g.sub, fun a o => by
      by_cases hz : a = p
      · exact ⟨.lst xs, by rw [hz]; exact hp, fun _ z => (by cases z)⟩
      · exact (r.g.dm a o).eq (k a o hz),
    fun a z => by
      cases z
      exact ⟨(r.g.hnd p rfl).1, xs, hp, d⟩⟩
  val := fun i d a b c => by
    obtain ⟨v, e1, e2⟩ := r.val i d a b c
    exact ⟨v, e1, dd_mono x e2⟩
  own := fun i hi => by
    obtain ⟨a, o, d, e1, e2, e3, e4, e5, e6⟩ := r.own i hi
    exact ⟨a, o, d, e1, e2, e3, e4, by rw [k a e3 (show a ≠ p from fun z => e4 (by rw [z]; exact (r.g.hnd p rfl).1))]; exact e5, e6.mono x⟩
  inj := r.inj
  hand := r.hand
  len := r.len
  tb := tb r.tb
end
/-- the promise of a def that has no hand -/
def spP (K : PySem.W.Frag) (mg : Str → Option Value) (T : List (Addr × Str)) (n : Nat) (F : List D → Ro) : Sp := fun vs H Q E => vs.length = n ∧ ∃ (R : Addr → Prop) (ds : List D), (∀ a, R a → NT H a) ∧ LamX.Tabs T H ∧ DDs K (Cut R H) vs ds ∧ match F ds with
  | .ok d => ∀ v H' O', RelG K R O' none H' [] → Step T R none R H O' H' → DD K (Cut O' H') v d → Q v H'
  | .ex c => ∀ cls dd H' O', RelG K R O' none H' [] → Step T R none R H O' H' → ExR mg c cls dd H' → E cls dd H'
  | .no => False
/-- .. of one whose first parameter is the hand -/
def spH (K : PySem.W.Frag) (T : List (Addr × Str)) (n : Nat) (F : List D → List D → Res D) : Sp := fun vs H Q E => vs.length = n ∧ ∃ (R : Addr → Prop) (p : Addr) (vs' : List V) (ds h : List D), vs = .ref p :: vs' ∧ RelG K R R (some p) H h ∧ LamX.Tabs T H ∧ DDs K (Cut R H) vs' ds ∧ match F ds h with
  | .ok d h' => ∀ v H' O', RelG K R O' (some p) H' h' → Step T R (some p) R H O' H' → DD K (Cut O' H') v d → Q v H'
  | _ => False
def Ro.res (r : Ro) (h : List D) : Res D := match r with | .ok d => .ok d h | .ex c => .ex c h | .no => .no
def Res.nex {α : Type} (r : Res α) : Res α := match r with | .ok d h => .ok d h | _ => .no
def callP (F : List D → Ro) (g : FL) : FE := fun e h => (g e h).bind fun ds h1 => (F ds).res h1
def callH (F : List D → List D → Res D) (g : FL) : FE := fun e h => (g e h).bind fun ds h1 => (F ds h1).nex
section
variable {k : Nat} {fA : Addr} {fd : FuncData} {ps : List Str} {x : Str} {p : Pos}
theorem xn_sup {O O' : Addr → Prop} {H : Hp} (s : ∀ a, O a → O' a) : XN (Cut O' H) (Cut O H) := fun a o h _ => by
  obtain ⟨n, q⟩ := cut_some h
  rw [cut_out fun z => n (s a z)]; exact q
theorem call_te {F : List D → Ro} {n : Nat} {t : TA} {g : FL} {es : List Expr} (hl : ∀ e h ds h', g e h = .ok ds h' → ds.length = es.length) (hn : es.length = n) (σ : L2.St) (H : Hp) (Q : VK) (hq : teD X.K X.mg hs ω E (callP F g) σ H Q) : tCall (spP X.K X.mg hs.tabs n F) [] E (taD X.K X.mg hs ω E g) σ H Q := by
  obtain ⟨R, O, ha, en, h, rel, hp⟩ := hq
  refine ⟨R, O, ha, en, h, rel, ?_⟩
  unfold callP at hp
  cases hr : g en h with
  | ex c h' => rw [hr] at hp; exact hp
  | no => rw [hr] at hp; exact hp
  | ok ds h1 =>
    rw [hr] at hp
    intro H1 O1 s1 rel1 vs dvs
    have hp1 : PR X.K X.mg R ha hs ω E σ O1 H1 en ((F ds).res h1) (KE' X.K Q) := pr_step hp s1
    rw [List.append_nil]
    refine ⟨by rw [dvs.length, hl _ _ _ _ hr]; exact hn, O1, ds, rel1.g.dm, rel1.tb, dvs, ?_⟩
    have st : ∀ {H' : Hp} {O' : Addr → Prop}, RelG X.K O1 O' none H' [] → Step hs.tabs O1 none O1 H1 O' H' → Step hs.tabs R ha O1 H1 O1 H' ∧ Rel X.K R O1 ha hs ω σ H' en h1 ∧ XN (Cut O' H') (Cut O1 H') := fun {H' O'} g2 s2 => by
      have x1 : XN (Cut O' H') (Cut O1 H') := xn_sup g2.sub
      have x2 : XN (Cut O1 H1) (Cut O1 H') := s2.ex.trans x1
      exact ⟨⟨x2, fun a z _ => s2.keep a (rel1.g.sub a z) (fun q => by cases q), s2.tabs⟩, rel1.call (fun a z => s2.keep a z (fun q => by cases q)) x2 s2.tabs, x1⟩
    cases hF : F ds with
    | ok d =>
      intro v H' O' g2 s2 dv
      obtain ⟨a1, a2, a3⟩ := st g2 s2
      rw [hF] at hp1
      exact hp1 H' O1 a1 a2 v (dd_mono a3 dv)
    | ex c =>
      intro cls dd H' O' g2 s2 x
      obtain ⟨a1, a2, a3⟩ := st g2 s2
      rw [hF] at hp1
      exact hp1 cls dd H' O1 a1 a2.g x
    | no => rw [hF] at hp1; exact hp1
theorem de_callP {F : List D → Ro} {g : FL} (Fk : FnOk X.prog X.w X.K X.mg X.base (L2.CX X.prog X.w) k fA fd ps (spP X.K X.mg hs.tabs ps.length F)) (hr : Room k X.A) (hg : Gl X x) (hm : X.mg x = some (.ref fA)) (hk : PySem.W.keepIn X.K (.ref fA) = true) (hb : Binds X.K fd ps []) (hx : Passes (L2.CX X.prog X.w) X E)
    (ha : DAn X hs ω E (e :: es) g) (hn : (e :: es).length = ps.length := by rfl) (hdb : (x == ("__debug__" : Str)) = false := by decide) (he : starEach (e :: es) X.env = (false, eval e X.env) :: starEach es X.env := by rfl) (hpl : (backTo pos (starEach es X.env)).any (·.1) = false := by rfl) :
    DE X hs ω E (.Call (.Name x p) (e :: es) [] pos) (callP F g) := pe_imp (pe_call Fk hr hg hm hk hb .nil hx ha.da hdb he hpl) (call_te (t := taD X.K X.mg hs ω E g) ha.len hn)
theorem de_callH {F : List D → List D → Res D} {g : FL} {i : Nat} {ehand : Expr} (Fk : FnOk X.prog X.w X.K X.mg X.base (L2.CX X.prog X.w) k fA fd ps (spH X.K hs.tabs ps.length F)) (hr : Room k X.A) (hg : Gl X x) (hm : X.mg x = some (.ref fA)) (hk : PySem.W.keepIn X.K (.ref fA) = true) (hb : Binds X.K fd ps []) (hx : Passes (L2.CX X.prog X.w) X E)
    (hv : PE X ehand (tVar i)) (hh : hs.ix = some i) (ha : DAn X hs ω E es g) (hn : es.length + 1 = ps.length := by rfl) (hst : starEach (ehand :: es) X.env = (false, eval ehand X.env) :: starEach es X.env := by rfl) (hdb : (x == ("__debug__" : Str)) = false := by decide) (hpl : (backTo pos (starEach es X.env)).any (·.1) = false := by rfl) :
    DE X hs ω E (.Call (.Name x p) (ehand :: es) [] pos) (callH F g) := pe_imp (pe_call Fk hr hg hm hk hb .nil hx (pa_cons hv ha.da hst) hdb hst hpl) fun σ H Q hq => by
  obtain ⟨R, O, ha', en, h, rel, hp⟩ := hq
  obtain ⟨hno, hp_, e1, e2⟩ := rel.hand i hh
  subst e1
  refine ⟨.ref hp_, e2, R, O, some hp_, en, h, rel, ?_⟩
  unfold callH at hp
  cases hr : g en h with
  | ex c h' => rw [hr] at hp; exact hp
  | no => rw [hr] at hp; exact hp
  | ok ds h1 =>
    rw [hr] at hp
    intro H1 O1 s1 rel1 vs dvs
    have hp1 : PR X.K X.mg R (some hp_) hs ω E σ O1 H1 en (F ds h1).nex (KE' X.K Q) := pr_step hp s1
    show spH X.K hs.tabs ps.length F (V.ref hp_ :: vs ++ []) H1 Q E
    rw [List.append_nil]
    obtain ⟨gR, gxs, g1, g2⟩ := rel1.g.hnd hp_ rfl
    refine ⟨by rw [List.length_cons, dvs.length, ha.len _ _ _ _ hr]; exact hn, O1, hp_, vs, ds, h1, rfl, ⟨fun _ z => z, rel1.g.dm, fun a z => ?_⟩, rel1.tb, dvs, ?_⟩
    · cases z
      exact ⟨rel1.g.sub _ gR, gxs, g1, g2⟩
    cases hF : F ds h1 with
    | ok d h' =>
      intro v H' O' g2 s2 dv
      rw [hF] at hp1
      have x1 : XN (Cut O' H') (Cut O1 H') := xn_sup g2.sub
      have x2 : XN (Cut O1 H1) (Cut O1 H') := s2.ex.trans x1
      obtain ⟨_, xs, k1, k2⟩ := g2.hnd hp_ rfl
      have kp : ∀ a, O1 a → a ≠ hp_ → H' a = H1 a := fun a z n => s2.keep a z (fun q => n (Option.some.inj q).symm)
      exact hp1 H' O1 ⟨x2, fun a z n => kp a (rel1.g.sub a z) (fun q => n (by rw [q])), s2.tabs⟩ (rel1.callH kp x2 k1 (dds_mono x1 k2) s2.tabs) v (dd_mono x1 dv)
    | ex c h' => rw [hF] at hp1; exact hp1
    | no => rw [hF] at hp1; exact hp1
end
end Sm


set_option maxRecDepth 100000
set_option maxHeartbeats 4000000
/-! Sim layer, part I: several targets, defs, raise. -/
namespace Sm
open PySem PySem.Spec PyProof.Rows L2
inductive ItemsR (K : PySem.W.Frag) (R O : Addr → Prop) (H : Hp) (ω : List Nat) (σ : L2.St) : List Bool → List V → List D → Prop
  | nil : ItemsR K R O H ω σ [] [] []
  | val {ks : List Bool} {vs : List V} {ds : List D} {v : V} {d : D} : DD K (Cut O H) v d → ItemsR K R O H ω σ ks vs ds → ItemsR K R O H ω σ (false :: ks) (v :: vs) (d :: ds)
  | own {ks : List Bool} {vs : List V} {ds es : List D} {p : Addr} {xs : List V} : O p → ¬ R p → (∀ i ∈ ω, σ[i]? ≠ some (some (.ref p))) → H p = some (.lst xs) → DDs K (Cut O H) xs es → (∀ i : Nat, ks[i]? = some true → vs[i]? ≠ some (.ref p)) →
      ItemsR K R O H ω σ ks vs ds → ItemsR K R O H ω σ (true :: ks) (.ref p :: vs) (.list es :: ds)
section
variable {K : PySem.W.Frag} {mg : Str → Option Value} {R R' O O1 : Addr → Prop} {ha : Option Addr} {hs : HS} {ω ω' ωl : List Nat} {E : XK} {σ σ' : L2.St} {H H1 : Hp} {e : En} {h : List D}
theorem ItemsR.length {ks : List Bool} {vs : List V} {ds : List D} (r : ItemsR K R O H ω σ ks vs ds) : vs.length = ks.length ∧ ds.length = ks.length := by
  induction r with
  | nil => exact ⟨rfl, rfl⟩
  | val _ _ ih => simp [ih]
  | own _ _ _ _ _ _ _ ih => simp [ih]
theorem ItemsR.grow {ks : List Bool} {vs : List V} {ds : List D} (r : ItemsR K R O H ω σ ks vs ds) (g : Grow H H1) (hd : ∀ a, O a → H a ≠ none) : ItemsR K R O H1 ω σ ks vs ds := by
  induction r with
  | nil => exact .nil
  | val h1 _ ih => exact .val (dd_mono (g.cut hd).xn h1) ih
  | own h1 h2 h3 h4 h5 h6 _ ih => exact .own h1 h2 h3 (g _ _ h4) (dds_mono (g.cut hd).xn h5) h6 ih
theorem ItemsR.re {ks : List Bool} {vs : List V} {ds : List D} (r : ItemsR K R O H ω σ ks vs ds) (k : ∀ (j : Nat) (p : Addr), ks[j]? = some true → vs[j]? = some (.ref p) → (∀ i ∈ ω, σ[i]? ≠ some (some (.ref p))) → ∀ i ∈ ω', σ'[i]? ≠ some (some (.ref p))) : ItemsR K R O H ω' σ' ks vs ds := by
  induction r with
  | nil => exact .nil
  | val h1 _ ih => exact .val h1 (ih fun j p a b c => k (j + 1) p a b c)
  | own h1 h2 h3 h4 h5 h6 _ ih => exact .own h1 h2 (k 0 _ rfl rfl h3) h4 h5 h6 (ih fun j p a b c => k (j + 1) p a b c)
def setN (σ : L2.St) : List Nat → List V → L2.St
  | i :: is, v :: vs => setN (σ.set i (some v)) is vs
  | _, _ => σ
def setE (e : En) : List Nat → List D → En
  | i :: is, d :: ds => setE (e.set i (some d)) is ds
  | _, _ => e
def newω (ω : List Nat) : List Nat → List Bool → List Nat
  | i :: is, false :: ks => newω (ω.filter (· != i)) is ks
  | i :: is, true :: ks => newω (i :: ω.filter (· != i)) is ks
  | _, _ => ω
theorem Rel.sets {ks : List Bool} {is : List Nat} {vs : List V} {ds : List D} (r : Rel K R O ha hs ω σ H e h) (it : ItemsR K R O H ω σ ks vs ds) (hl : is.length = ks.length) (hh : ∀ i ∈ is, hs.ix ≠ some i) (hb : ∀ i ∈ is, i < e.length) :
    Rel K R O ha hs (newω ω is ks) (setN σ is vs) H (setE e is ds) h := by
  induction is generalizing ks vs ds ω σ e with
  | nil =>
    cases ks with
    | nil => cases it; exact r
    | cons k ks => simp at hl
  | cons i is ih =>
    cases ks with
    | nil => simp at hl
    | cons k ks =>
      have hl' : is.length = ks.length := by simpa using hl
      have hh' : ∀ j ∈ is, hs.ix ≠ some j := fun j hj => hh j (List.mem_cons_of_mem _ hj)
      have hi := hh i List.mem_cons_self
      have bi := hb i List.mem_cons_self
      cases it with
      | val h1 t =>
        refine ih (r.set h1 rfl hi) (t.re fun j p a b c m hm z => ?_) hl' hh' fun j hj => by rw [List.length_set]; exact hb j (List.mem_cons_of_mem _ hj)
        rw [List.mem_filter] at hm
        have ne : i ≠ m := fun z => by simp [z] at hm
        rw [List.getElem?_set_ne ne] at z
        exact c m hm.1 z
      | own h1 h2 h3 h4 h5 h6 t =>
        refine ih (r.setOwn h1 h2 h3 h4 (.lst h5) rfl hi bi) (t.re fun j p a b c m hm z => ?_) hl' hh' fun j hj => by rw [List.length_set]; exact hb j (List.mem_cons_of_mem _ hj)
        by_cases ne : i = m
        · subst ne
          rw [List.getElem?_set_self (by rw [← r.len]; exact bi)] at z
          cases z
          exact h6 j a b
        · rw [List.getElem?_set_ne ne] at z
          rcases List.mem_cons.mp hm with q | q
          · exact ne q.symm
          · exact c m (List.mem_filter.mp q).1 z
end
variable {X : Cx} {hs : HS} {ω ω1 ω' ωl : List Nat} {E : XK} {e a b c tg it elt : Expr} {fe fa fb : FE} {fl fi : FL} {ft : FB} {pos : Pos} {st : Stmt} {rest : List Stmt} {f g : FS} {es : List Expr} {ks : List Bool}
def KP (K : PySem.W.Frag) (R : Addr → Prop) (ω : List Nat) (σ : L2.St) (ks : List Bool) (Q : List V → Hp → Prop) (ds : List D) (H' : Hp) (O' : Addr → Prop) : Prop := ∀ vs, ItemsR K R O' H' ω σ ks vs ds → Q vs H'
def tpD (K : PySem.W.Frag) (mg : Str → Option Value) (hs : HS) (ω : List Nat) (E : XK) (ks : List Bool) (f : FL) : TA := fun σ H Q => ∃ R O ha e h, Rel K R O ha hs ω σ H e h ∧ PR K mg R ha hs ω E σ O H e (f e h) (KP K R ω σ ks Q)
abbrev DP (X : Cx) (hs : HS) (ω : List Nat) (E : XK) (ks : List Bool) (es : List Expr) (f : FL) : Prop := PA X es (tpD X.K X.mg hs ω E ks f)
theorem dp_nil : DP X hs ω E [] [] nilM := pa_imp pa_nil fun σ H Q hq => by
  obtain ⟨R, O, ha, e, h, rel, hp⟩ := hq
  exact pr_ok hp rel [] .nil
theorem dp_val (h1 : DE X hs ω E a fa) (h2 : DP X hs ω E ks es fl) (hst : starEach (a :: es) X.env = (false, eval a X.env) :: starEach es X.env := by rfl) : DP X hs ω E (false :: ks) (a :: es) (consM fa fl) := pa_imp (pa_cons h1 h2 hst) fun σ H Q hq => by
  obtain ⟨R, O, ha, e, h, rel, hp⟩ := hq
  refine ⟨R, O, ha, e, h, rel, pr_bind hp fun d1 h1 H1 O1 s1 rel1 hp1 v1 dv1 => ?_⟩
  refine ⟨R, O1, ha, e, h1, rel1, pr_bind hp1 fun d2 h2 H2 O2 s2 rel2 hp2 v2 dv2 => ?_⟩
  exact pr_ok hp2 rel2 _ (.val (s2.dd dv1) dv2)
def consL (f : FL) (g : FL) : FL := fun e h => (f e h).bind fun d h1 => (g e h1).bind fun ds h2 => .ok (.list d :: ds) h2
theorem dp_own (h1 : DL X hs ω E a fi) (h2 : DP X hs ω E ks es fl) (hst : starEach (a :: es) X.env = (false, eval a X.env) :: starEach es X.env := by rfl) : DP X hs ω E (true :: ks) (a :: es) (consL fi fl) := pa_imp (pa_cons h1 h2 hst) fun σ H Q hq => by
  obtain ⟨R, O, ha, e, h, rel, hp⟩ := hq
  refine ⟨R, O, ha, e, h, rel, pr_bind hp fun d1 h1 H1 O1 s1 rel1 hp1 p xs g1 g2 g3 g4 g5 => ?_⟩
  have hand : ∀ a, ha = some a → R a := fun a x => (rel1.g.hnd a x).1
  have nha : ha ≠ some p := fun z => g2 (hand p z)
  refine ⟨Plus R p, O1, ha, e, h1, rel1.plusR g1 g3, pr_bind (pr_mono hp1 (fun a x => .inl x) hand) fun d2 h2 H2 O2 s2 rel2 hp2 v2 dv2 => ?_⟩
  have toR : ∀ {ks : List Bool} {vs : List V} {ds : List D}, ItemsR X.K (Plus R p) O2 H2 ω σ ks vs ds → ItemsR X.K R O2 H2 ω σ ks vs ds ∧ ∀ i : Nat, ks[i]? = some true → vs[i]? ≠ some (.ref p) := fun {ks vs ds} it => by
    induction it with
    | nil => exact ⟨.nil, fun i z => by simp at z⟩
    | val q1 _ ih =>
      refine ⟨.val q1 ih.1, fun i z => ?_⟩
      cases i with
      | zero => simp at z
      | succ i => exact ih.2 i z
    | own q1 q2 q3 q4 q5 q6 _ ih =>
      refine ⟨.own q1 (fun z => q2 (.inl z)) q3 q4 q5 q6 ih.1, fun i z => ?_⟩
      cases i with
      | zero =>
        intro w
        simp only [List.getElem?_cons_zero] at w
        cases w
        exact q2 (.inr rfl)
      | succ i => exact ih.2 i z
  obtain ⟨i1, i2⟩ := toR dv2
  exact pr_ok hp2 rel2 _ (.own (rel2.g.sub p (.inr rfl)) g2 g3 ((s2.keep p (.inr rfl) nha).trans g4) (s2.dds g5) i2 i1)
/-! ### x, y = a, b -/
def parS (is : List Nat) (f : FL) : FS := fun e h => (f e h).bindS fun ds h1 => if is.all (· < e.length) then .nx (setE e is ds) h1 else .no
theorem all_lt {is : List Nat} {e : En} (h : is.all (· < e.length) = true) : ∀ i ∈ is, i < e.length := fun i hi => by
  have := List.all_eq_true.mp h i hi
  simpa using this
theorem ds_par2 {i j : Nat} {x y : Str} {px py pt : Pos} {kt k2 pt2} (hc : X.calm = true) (hN : X.N.Nodup) (hi : X.N[i]? = some x) (hj : X.N[j]? = some y) (hij : i ≠ j) (hx : X.env.scope.names.lookup x = some .local) (hy : X.env.scope.names.lookup y = some .local)
    (h1 : DP X hs ω E ks [a, b] fl) (hw : swappedStores [.Tuple [.Name x px, .Name y py] kt pt] (.Tuple [a, b] k2 pt2) X.env = pure (some [x, y]))
    (hk : ks.length = 2 := by rfl) (hh : ∀ m ∈ [i, j], hs.ix ≠ some m := by exact of_decide_eq_true rfl) (hω : ω' = newω ω [i, j] ks := by rfl) (hs' : swapsWithSole [.Tuple [.Name x px, .Name y py] kt pt] (.Tuple [a, b] k2 pt2) pos.line X.env = pure false := by rfl) :
    DS X hs ω ω' ωl E (.Assign [.Tuple [.Name x px, .Name y py] kt pt] (.Tuple [a, b] k2 pt2) pos) (parS [i, j] fl) := ps_imp (ps_par hc hN hi hj hij hx hy h1 hw hs') fun Dn σ H hq => by
  obtain ⟨R, O, ha, en, h, rel, hp⟩ := hq
  refine ⟨R, O, ha, en, h, rel, ps_bind hp fun ds h1 H1 O1 s1 rel1 hp1 vs it => ?_⟩
  split at hp1
  · rename_i hb
    subst hω
    have r := rel1.sets (is := [i, j]) it (by rw [hk]; rfl) hh (all_lt hb)
    obtain ⟨l1, l2⟩ := it.length
    rw [hk] at l1 l2
    match vs, l1, r with
    | [v, w], _, r => exact ⟨v, w, rfl, ps_nx hp1 r⟩
  · exact hp1.elim
theorem ds_par3 {i j l : Nat} {x y z : Str} {px py pz pt : Pos} {kt k2 pt2} (hc : X.calm = true) (hN : X.N.Nodup) (hi : X.N[i]? = some x) (hj : X.N[j]? = some y) (hl : X.N[l]? = some z) (hij : i ≠ j) (hil : i ≠ l) (hjl : j ≠ l) (hx : X.env.scope.names.lookup x = some .local) (hy : X.env.scope.names.lookup y = some .local) (hz : X.env.scope.names.lookup z = some .local)
    (h1 : DP X hs ω E ks [a, b, c] fl) (hw : swappedStores [.Tuple [.Name x px, .Name y py, .Name z pz] kt pt] (.Tuple [a, b, c] k2 pt2) X.env = pure (some [x, y, z]))
    (hk : ks.length = 3 := by rfl) (hh : ∀ m ∈ [i, j, l], hs.ix ≠ some m := by exact of_decide_eq_true rfl) (hω : ω' = newω ω [i, j, l] ks := by rfl) (hs' : swapsWithSole [.Tuple [.Name x px, .Name y py, .Name z pz] kt pt] (.Tuple [a, b, c] k2 pt2) pos.line X.env = pure false := by rfl) :
    DS X hs ω ω' ωl E (.Assign [.Tuple [.Name x px, .Name y py, .Name z pz] kt pt] (.Tuple [a, b, c] k2 pt2) pos) (parS [i, j, l] fl) := ps_imp (ps_par3 hc hN hi hj hl hij hil hjl hx hy hz h1 hw hs') fun Dn σ H hq => by
  obtain ⟨R, O, ha, en, h, rel, hp⟩ := hq
  refine ⟨R, O, ha, en, h, rel, ps_bind hp fun ds h1 H1 O1 s1 rel1 hp1 vs it => ?_⟩
  split at hp1
  · rename_i hb
    subst hω
    have r := rel1.sets (is := [i, j, l]) it (by rw [hk]; rfl) hh (all_lt hb)
    obtain ⟨l1, l2⟩ := it.length
    rw [hk] at l1 l2
    match vs, l1, r with
    | [u, v, w], _, r => exact ⟨u, v, w, rfl, ps_nx hp1 r⟩
  · exact hp1.elim
/-- .. by way of the tuple itself (names that are cells, constants alone, other numbers of targets) -/
def gOf : List Nat → TGs
  | [] => gNil
  | i :: is => gCons (gName i) (gOf is)
theorem gOf_ok : ∀ {is : List Nat} {vs : List V} {σ : L2.St} {H : Hp} {Q : L2.St → Hp → Prop}, vs.length = is.length → Q (setN σ is vs) H → gOf is vs σ H Q
  | [], [], _, _, _, _, q => ⟨rfl, q⟩
  | i :: is, v :: vs, _, _, _, hl, q => ⟨v, vs, rfl, gOf_ok (is := is) (by simpa using hl) q⟩
  | [], _ :: _, _, _, _, hl, _ => by simp at hl
  | _ :: _, [], _, _, _, hl, _ => by simp at hl
theorem ds_tupA {is : List Nat} {ts : List Expr} {pt pt2 : Pos} {kt k2} (hc : X.calm = true) (h1 : DP X hs ω E ks es fl) (hg : PGs X ts (gOf is)) (hk : ks.length = is.length := by rfl) (hes : es.length = is.length := by rfl) (hle : is.length ≤ 1000 := by decide)
    (hh : ∀ m ∈ is, hs.ix ≠ some m := by exact of_decide_eq_true rfl) (hω : ω' = newω ω is ks := by rfl) (hn : (assignEach ts X.env).length = is.length := by rfl) (hst : (assignEach ts X.env).findIdx? (·.1) = none := by rfl)
    (hsw : swapsWithSole [.Tuple ts kt pt] (.Tuple es k2 pt2) pos.line X.env = pure false := by rfl) (hw : swappedStores [.Tuple ts kt pt] (.Tuple es k2 pt2) X.env = pure none := by rfl) (ha1 : (assignEach [.Tuple ts kt pt] X.env).map (·.2) = [assign (.Tuple ts kt pt) X.env] := by rfl) :
    DS X hs ω ω' ωl E (.Assign [.Tuple ts kt pt] (.Tuple es k2 pt2) pos) (parS is fl) := ps_imp (ps_asg (pe_tup h1) (pg_tup hc hg hn hst) hsw hw ha1) fun Dn σ H hq => by
  obtain ⟨R, O, ha, en, h, rel, hp⟩ := hq
  refine ⟨R, O, ha, en, h, rel, ps_bind hp fun ds h1 H1 O1 s1 rel1 hp1 vs it => ?_⟩
  obtain ⟨l1, l2⟩ := it.length
  refine ⟨by rw [l1, hk]; exact small_len hle, fun p np => ⟨p, vs, rfl, .inl (.inl upd_same), by rw [l1, hk], ?_⟩⟩
  split at hp1
  · rename_i hb
    have r := (rel1.grow (Grow.new (o := .tup vs) np)).sets (is := is) (it.grow (Grow.new np) rel1.g.dom) hk.symm hh (all_lt hb)
    rw [← hω] at r
    exact gOf_ok (by rw [l1, hk]) (ps_nx (ps_step hp1 (rel1.step (Grow.new np))) r)
  · exact hp1.elim
/-- targets = a value (a tuple) -/
def unpS (g : D → En → Option En) (f : FE) : FS := fun e h => (f e h).bindS fun d h1 => match g d e with | some e1 => .nx e1 h1 | none => .no
theorem ds_unp {vs : List Nat} {g1 : D → En → Option En} (h1 : DE X hs ω E e fe) (hg : DG X hs ω vs tg g1) (hsw : swapsWithSole [tg] e pos.line X.env = pure false := by rfl) (hw : swappedStores [tg] e X.env = pure none := by rfl) (ha1 : (assignEach [tg] X.env).map (·.2) = [assign tg X.env] := by rfl) :
    DS X hs ω ω ωl E (.Assign [tg] e pos) (unpS g1 fe) := ps_imp (ps_asg h1 hg hsw hw ha1) fun Dn σ H hq => by
  obtain ⟨R, O, ha, en, h, rel, hp⟩ := hq
  refine ⟨R, O, ha, en, h, rel, ps_bind hp fun d h1 H1 O1 s1 rel1 hp1 v dv => ?_⟩
  split at hp1
  · rename_i e1 he
    exact ⟨R, O1, ha, en, h1, d, rel1, dv, e1, he, fun σ' rel' _ _ => ps_nx (σ := σ') hp1 rel'⟩
  · exact hp1.elim
/-- total += x, ints -/
def augS (i : Nat) (op : D → D → Option D) (f : FE) : FS := fun e h => match slot e i with
  | some d0 => (f e h).bindS fun d h1 => match op d0 d with | some z => .nx (e.set i (some z)) h1 | none => .no
  | none => .no
theorem ds_augI {i : Nat} {k : Int → Int → Int} {op : Operator} {x : Str} {p : Pos} (hps : PS X (.AugAssign (.Name x p) op e pos) (tAug i (teD X.K X.mg hs ω E fe) (ipI k))) (hi : i ∉ ω := by decide) (hh : hs.ix ≠ some i := by exact of_decide_eq_true rfl) : DS X hs ω ω ωl E (.AugAssign (.Name x p) op e pos) (augS i (intOp fun a b => some (k a b)) fe) := ps_imp hps fun Dn σ H hq => by
  obtain ⟨R, O, ha, en, h, rel, hp⟩ := hq
  unfold augS at hp
  cases hd : slot en i with
  | none => rw [hd] at hp; exact hp.elim
  | some d0 =>
    rw [hd] at hp
    obtain ⟨v0, e2, e3⟩ := rel.val i d0 hi hh (slot_some hd)
    refine ⟨v0, e2, R, O, ha, en, h, rel, ps_bind hp fun d h1 H1 O1 s1 rel1 hp1 v dv => ?_⟩
    split at hp1
    · rename_i z hz
      obtain ⟨x1, x2, x3, rfl, rfl, x4, rfl⟩ := intOp_some hz
      cases x4
      obtain rfl := dd_int e3
      obtain rfl := dd_int dv
      exact ⟨x1, x2, rfl, rfl, ps_nx hp1 (rel1.set (.int _) (filter_ne hi).symm hh)⟩
    · exact hp1.elim
/-! ### raise X() -/
theorem pmk_own0 {C : Addr} {bmB : List Value} {B newId initId : String} {x : Str} {p pos : Pos} (F : ExcBaseFacts B newId initId bmB) (q : PySem.W.excIn X.K C bmB newId = true) (gC : X.mg x = some (.ref C)) (kC : PySem.W.keepIn X.K (.ref C) = true) (r : Raises X (.ref C)) (hg : Gl X x)
    (hdb : (x == ("__debug__" : Str)) = false := by decide) : PMk X (.Call (.Name x p) [] [] pos) (fun _ H Q => Q (.ref C) none H) := by
  intro pins s σ H Q I h
  refine wpAny_Call_Name_kw (ld_glob I hg gC ?_ hdb)
  refine PySem.W.callWith_K0 I.kIn kC ?_
  obtain ⟨bm, N, nm, qn, bs, hdct, sn, sub, ab, col, dd, k0, k1, k2, k3, k5, mN, hC, hN, hni, T⟩ := exc_obj I.kIn q
  refine wpAny_call_exc_subT F T hC hN hni (fun h' e hm => ?_) (by show 0 ≤ sizeLine; exact Nat.zero_le _)
  exact mk_of I hm r h (I.hok.gone hm.new)
def raiS (c : Str) : FS := fun _ h => .ex ⟨c, none⟩ h
theorem ds_raise0 {C : Addr} {x : Str} {p pos' : Pos} (hc : X.calm = true) (tk : Takes X (fun cls d _ H => E cls d H)) (gC : X.mg x = some (.ref C)) (hm : PMk X (.Call (.Name x p) [] [] pos') (fun _ H Q => Q (.ref C) none H)) : DS X hs ω ω' ωl E (.Raise (some (.Call (.Name x p) [] [] pos')) none pos) (raiS x) := ps_imp (ps_raise hc tk hm) fun Dn σ H hq => by
  obtain ⟨R, O, ha, en, h, rel, hp⟩ := hq
  exact hp (.ref C) none H O Step.refl rel.g ⟨⟨C, gC, rfl⟩, rfl⟩
/-! ### defs -/
def startE (n : Nat) (ds : List D) : En := ds.map some ++ List.replicate (n - ds.length) none
def runP (n : Nat) (g : FS) : List D → Ro := fun ds => match g (startE n ds) [] with
  | .nx _ _ => .ok .none
  | .rt d _ => .ok d
  | .ex c _ => .ex c
  | _ => .no
def runH (n : Nat) (g : FS) : List D → List D → Res D := fun ds h => match g (startE n (.none :: ds)) h with
  | .nx _ h' => .ok .none h'
  | .rt d h' => .ok d h'
  | .ex c h' => .ex c h'
  | _ => .no
section
variable {P : Program} {w : World} {K : PySem.W.Frag} {mg : Str → Option Value} {base : Heap}
theorem start_get {n : Nat} {vs : List V} {ds : List D} {i : Nat} {d : D} {G : Hp} (dv : DDs K G vs ds) (h : (startE n ds)[i]? = some (some d)) : ∃ v, (vs.map some ++ List.replicate (n - vs.length) none)[i]? = some (some v) ∧ DD K G v d := by
  unfold startE at h
  have hl := dv.length
  by_cases hi : i < ds.length
  · rw [List.getElem?_append_left (by simpa using hi), List.getElem?_map] at h
    cases hd : ds[i]? with
    | none => rw [hd] at h; cases h
    | some d' =>
      rw [hd] at h
      cases h
      obtain ⟨v, e1, e2⟩ := dv.get hd
      exact ⟨v, by rw [List.getElem?_append_left (by simp; omega), List.getElem?_map, e1]; rfl, e2⟩
  · rw [List.getElem?_append_right (by simpa using hi)] at h
    rw [List.getElem?_replicate] at h
    split at h
    · cases h
    · cases h
theorem startE_len {n : Nat} {ds : List D} (h : ds.length ≤ n) : (startE n ds).length = n := by
  unfold startE
  rw [List.length_append, List.length_map, List.length_replicate]
  omega
/-- a def of the text and its function object, its code told -/
structure FunV (K : PySem.W.Frag) (x qual : Str) (st : Stmt) (f : Addr) (fd : FuncData) (cdv : Value) : Prop where
  ex : ∃ (oc : Value) (od : Option Addr) (kV doc pm : Value) (an : Option Addr) (ct : Value) (osl : Array (Option Value)),
    fd = PySem.W.fnOf x qual (defArgs st) (defBody st) (defScope st) .none kV doc pm an cdv ct ∧ K.lookup f = some ⟨oc, od, .func fd, osl⟩ ∧ PySem.W.codeIn K cdv qual = true
  kp : PySem.W.keepIn K (.ref f) = true
theorem funV_mk {x qual : Str} {st : Stmt} {f : Addr} {oc : Value} {od an : Option Addr} {osl : Array (Option Value)} {kV doc pm cdv ct : Value} (l : K.lookup f = some ⟨oc, od, .func (PySem.W.fnOf x qual (defArgs st) (defBody st) (defScope st) .none kV doc pm an cdv ct), osl⟩)
    (c : PySem.W.codeIn K cdv qual = true) (k : PySem.W.keepIn K (.ref f) = true) : FunV K x qual st f (PySem.W.fnOf x qual (defArgs st) (defBody st) (defScope st) .none kV doc pm an cdv ct) cdv := ⟨⟨oc, od, kV, doc, pm, an, ct, osl, rfl, l, c⟩, k⟩
theorem FunV.okX {x qual : Str} {st : Stmt} {f : Addr} {fd : FuncData} {cdv : Value} {N ps : List Str} {k : Nat} {sp : Sp} (F : FunV K x qual st f fd cdv) (S : FnScope N ps (defScope st)) (len : ∀ vs H Q E, sp vs H Q E → vs.length = ps.length)
    (hbody : ∀ (A : Around) (outer : List Env) (s : Shared) (H : Hp) (vs : List V) (Q : VK) (E : XK), Room k (A.deeper (envOfC qual (defScope st) s.heap.objs.size f cdv)) → sp vs H Q E →
      ∃ t, PSs (cxOf (L2.CX P w) P w K mg base N qual (defScope st) f cdv A outer s H E) (defBody st) t ∧ t { nx := fun _ H' => Q .non H', rt := Q } (L2.start N vs) H) : FnOk P w K mg base (L2.CX P w) (k + 1) f fd ps sp := by
  obtain ⟨oc, od, kV, doc, pm, an, ct, osl, rfl, lk, hcd⟩ := F.ex
  exact fn_of lk hcd S len fun A outer s H vs Q E hr hsp => hbody A outer s H vs Q E hr hsp
theorem FunV.binds {x qual : Str} {st : Stmt} {f : Addr} {fd : FuncData} {cdv : Value} {ps : List Str} (F : FunV K x qual st f fd cdv)
    (h : ∀ (kV doc pm : Value) (an : Option Addr) (cdv ct : Value) (us : List Value), us.length = ps.length → bindArgs (PySem.W.fnOf x qual (defArgs st) (defBody st) (defScope st) .none kV doc pm an cdv ct) ⟨us, []⟩ = pure (ps.zip us)) : Binds K fd ps [] := by
  obtain ⟨oc, od, kV, doc, pm, an, ct, osl, rfl, lk, hcd⟩ := F.ex
  exact .all (h kV doc pm an cdv ct)
theorem scope_le {N ps : List Str} {sc : Scope} (S : FnScope N ps sc) : ps.length ≤ N.length := by
  have h := congrArg List.length S.pre
  rw [List.length_take] at h
  omega
theorem fnP {x qual : Str} {st : Stmt} {f : Addr} {fd : FuncData} {N ps : List Str} {k n : Nat} {g : FS} {ω' : List Nat} {T : List (Addr × Str)} {cdv : Value} (F : FunV K x qual st f fd cdv) (S : FnScope N ps (defScope st)) (hn : N.length = n)
    (body : ∀ (A : Around) (outer : List Env) (s : Shared) (H : Hp) (E : XK), Room k (A.deeper (envOfC qual (defScope st) s.heap.objs.size f cdv)) → DSs (cxOf (L2.CX P w) P w K mg base N qual (defScope st) f cdv A outer s H E) (noHand T) [] ω' [] E (defBody st) g) :
    FnOk P w K mg base (L2.CX P w) (k + 1) f fd ps (spP K mg T ps.length (runP n g)) := by
  subst hn
  refine F.okX S (fun vs H Q E h => h.1) (fun A outer s H vs Q E hr h => ?_)
  refine ⟨_, body A outer s H E hr, ?_⟩
  obtain ⟨hl, R, ds, hd, hT, dv, hp⟩ := h
  have hle := scope_le S
  have hdl := dv.length
  refine ⟨R, R, none, startE N.length ds, [], ⟨⟨fun _ z => z, hd, fun a z => (by cases z)⟩, fun i d h1 h2 h3 => start_get dv h3, fun i hi => (by simp at hi), fun i hi => (by simp at hi), fun i hi => (by cases hi), ?_, hT⟩, ?_⟩
  · rw [startE_len (by omega)]
    unfold L2.start
    rw [List.length_append, List.length_map, List.length_replicate]
    omega
  unfold runP at hp
  cases hg : g (startE N.length ds) [] with
  | nx e' h' => rw [hg] at hp; exact fun σ' H' O' s rel => hp .non H' O' ⟨rel.g.sub, rel.g.dm, fun a z => (by cases z)⟩ s .non
  | rt d h' => rw [hg] at hp; exact fun v H' O' s rel dv => hp v H' O' ⟨rel.sub, rel.dm, fun a z => (by cases z)⟩ s dv
  | ex c h' => rw [hg] at hp; exact fun cls dd H' O' s rel x => hp cls dd H' O' ⟨rel.sub, rel.dm, fun a z => (by cases z)⟩ s x
  | bk e' h' => rw [hg] at hp; exact hp.elim
  | ct e' h' => rw [hg] at hp; exact hp.elim
  | no => rw [hg] at hp; exact hp.elim
theorem fnH {x qual : Str} {st : Stmt} {f : Addr} {fd : FuncData} {N ps : List Str} {k n : Nat} {g : FS} {ω' : List Nat} {T : List (Addr × Str)} {cdv : Value} (F : FunV K x qual st f fd cdv) (S : FnScope N ps (defScope st)) (hn : N.length = n)
    (body : ∀ (A : Around) (outer : List Env) (s : Shared) (H : Hp) (E : XK), Room k (A.deeper (envOfC qual (defScope st) s.heap.objs.size f cdv)) → DSs (cxOf (L2.CX P w) P w K mg base N qual (defScope st) f cdv A outer s H E) (hand0 T) [] ω' [] E (defBody st) g) :
    FnOk P w K mg base (L2.CX P w) (k + 1) f fd ps (spH K T ps.length (runH n g)) := by
  subst hn
  refine F.okX S (fun vs H Q E h => h.1) (fun A outer s H vs Q E hr h => ?_)
  refine ⟨_, body A outer s H E hr, ?_⟩
  obtain ⟨hl, R, p, vs', ds, h, rfl, hg0, hT, dv, hp⟩ := h
  have hle := scope_le S
  have hdl := dv.length
  have dv0 : DDs K (Cut R H) (.non :: vs') (.none :: ds) := .cons .non dv
  rw [List.length_cons] at hl
  refine ⟨R, R, some p, startE N.length (.none :: ds), h, ⟨hg0, fun i d h1 h2 h3 => ?_, fun i hi => (by simp at hi), fun i hi => (by simp at hi), fun i hi => ?_, ?_, hT⟩, ?_⟩
  · obtain ⟨v, e1, e2⟩ := start_get dv0 h3
    cases i with
    | zero => exact absurd rfl h2
    | succ i => exact ⟨v, by simpa [L2.start] using e1, e2⟩
  · cases hi
    exact ⟨by simp, p, rfl, by simp [L2.start]⟩
  · rw [startE_len (by rw [List.length_cons]; omega)]
    unfold L2.start
    rw [List.length_append, List.length_map, List.length_replicate, List.length_cons]
    omega
  unfold runH at hp
  cases hg : g (startE N.length (.none :: ds)) h with
  | nx e' h' => rw [hg] at hp; exact fun σ' H' O' s rel => hp .non H' O' rel.g s .non
  | rt d h' => rw [hg] at hp; exact fun v H' O' s rel dv => hp v H' O' rel s dv
  | ex c h' => rw [hg] at hp; exact hp.elim
  | bk e' h' => rw [hg] at hp; exact hp.elim
  | ct e' h' => rw [hg] at hp; exact hp.elim
  | no => rw [hg] at hp; exact hp.elim
end
end Sm


set_option maxRecDepth 100000
set_option maxHeartbeats 4000000
/-! Sim layer, part J: built-in functions. -/
namespace Sm
open PySem PySem.Spec PyProof.Rows L2
section
variable {K : PySem.W.Frag} {G H : Hp}
theorem seqv_dp (s : ∀ a o, G a = some o → H a = some o) {v : V} {d : D} (h : SeqV K G H v d) (c : noDict d = true) : Dp K H v d := by
  rcases h with h | ⟨p, xs, ds, rfl, rfl, h1, h2⟩
  · exact dd_dp s h c
  · exact .lst (.inl (.inl h1)) (dds_dp s h2 c)
end
/-! ### operators whose operands may be owned lists -/
def OpQ (K : PySem.W.Frag) (r : R2) (g : D → D → Option D) : Prop := ∀ (H : Hp) (x y : V) (a b d : D) (G : Hp) (Q : VK), (∀ a o, G a = some o → H a = some o) → SeqV K G H x a → SeqV K G H y b → g a b = some d →
  (∀ v H', Grow H H' → (∀ G', XN G G' → (∀ p, H p = none → G' p = H' p) → DD K G' v d) → Q v H') → r x y H Q
theorem OpQ.od {K : PySem.W.Frag} {r : R2} {g : D → D → Option D} (h : OpQ K r g) : OpD K r g := fun H x y a b d G Q s hx hy e q => h H x y a b d G Q s (.inl hx) (.inl hy) e q
variable {X : Cx} {hs : HS} {ω ω1 ω' ωl : List Nat} {E : XK} {e a b c tg it elt : Expr} {fe fa fb : FE} {fl fi : FL} {ft : FB} {pos p : Pos} {st : Stmt} {rest : List Stmt} {f g : FS} {es : List Expr} {x : Str}
theorem own_seqv {R O : Addr → Prop} {ha : Option Addr} {σ : L2.St} {H : Hp} {e : En} {h : List D} {i : Nat} {d : D} {v : V} (rel : Rel X.K R O ha hs ω σ H e h) (hi : i ∈ ω) (hd : slot e i = some d) (hv : σ[i]? = some (some v)) : SeqV X.K (Cut O H) H v d := by
  obtain ⟨q, o, d', e1, e2, e3, e4, e5, e6⟩ := rel.own i hi
  have z := slot_some hd
  rw [e2] at z
  cases z
  rw [hv] at e1
  cases e1
  cases e6 with
  | lst t => exact .inr ⟨q, _, _, rfl, rfl, e5, t⟩
theorem own_val {R O : Addr → Prop} {ha : Option Addr} {σ : L2.St} {H : Hp} {e : En} {h : List D} {i : Nat} (rel : Rel X.K R O ha hs ω σ H e h) (hi : i ∈ ω) : ∃ v, σ[i]? = some (some v) := by
  obtain ⟨q, o, d', e1, _⟩ := rel.own i hi
  exact ⟨_, e1⟩
theorem opq_end {r : R2} {g : D → D → Option D} (hr : OpQ X.K r g) {R O : Addr → Prop} {ha : Option Addr} {σ : L2.St} {H : Hp} {e : En} {h : List D} {x y : V} {da db : D} {Q : VK} (rel : Rel X.K R O ha hs ω σ H e h)
    (hx : SeqV X.K (Cut O H) H x da) (hy : SeqV X.K (Cut O H) H y db) (q : PR X.K X.mg R ha hs ω E σ O H e (opt (g da db) h) (KE' X.K Q)) : r x y H Q := by
  obtain ⟨d, e1, q⟩ := pr_opt q
  exact hr H x y da db d (Cut O H) Q cut_sub hx hy e1 fun v H' gr hv => q H' O (rel.step gr) (rel.grow gr) v (hv _ (rel.step gr).ex (new_cut rel.g.dom))
/-- the first operand is an owned list's name -/
theorem bin1_te {r : R2} {g : D → D → Option D} {i : Nat} (hr : OpQ X.K r g) (hi : i ∈ ω) (σ : L2.St) (H : Hp) (Q : VK) (hq : teD X.K X.mg hs ω E (binM g (varM i) fb) σ H Q) : tOp r (tVar i) (teD X.K X.mg hs ω E fb) σ H Q := by
  obtain ⟨R, O, ha, e, h, rel, hp⟩ := hq
  obtain ⟨v1, e1⟩ := own_val rel hi
  refine ⟨v1, e1, R, O, ha, e, h, rel, ?_⟩
  unfold binM varM at hp
  cases hd : slot e i with
  | none => rw [hd] at hp; exact hp.elim
  | some d1 =>
    rw [hd] at hp
    refine pr_bind (show PR X.K X.mg R ha hs ω E σ O H e ((fb e h).bind fun y h2 => opt (g d1 y) h2) (KE' X.K Q) from hp) fun d2 h2 H2 O2 s2 rel2 hp2 v2 dv2 => ?_
    exact opq_end hr rel2 (own_seqv rel2 hi hd e1) (.inl dv2) hp2
theorem bin2_te {r : R2} {g : D → D → Option D} {i : Nat} (hr : OpQ X.K r g) (hi : i ∈ ω) (σ : L2.St) (H : Hp) (Q : VK) (hq : teD X.K X.mg hs ω E (binM g fa (varM i)) σ H Q) : tOp r (teD X.K X.mg hs ω E fa) (tVar i) σ H Q := by
  obtain ⟨R, O, ha, e, h, rel, hp⟩ := hq
  refine ⟨R, O, ha, e, h, rel, pr_bind hp fun d1 h1 H1 O1 s1 rel1 hp1 v1 dv1 => ?_⟩
  obtain ⟨v2, e2⟩ := own_val rel1 hi
  refine ⟨v2, e2, ?_⟩
  unfold varM at hp1
  cases hd : slot e i with
  | none => rw [hd] at hp1; exact hp1.elim
  | some d2 =>
    rw [hd] at hp1
    exact opq_end hr rel1 (.inl dv1) (own_seqv rel1 hi hd e2) hp1
theorem de_cmp1 {op : CmpOp} {r : R2} {g : D → D → Option D} {i : Nat} (ho : OpR X (compareOp op) r) (hr : OpQ X.K r g) (h1 : PE X a (tVar i)) (h2 : DE X hs ω E b fb) (hm : behindInMarks op b = false) (hi : i ∈ ω := by decide) : DE X hs ω E (.Compare a [op] [b] pos) (binM g (varM i) fb) := pe_imp (pe_cmpR ho h1 h2 hm) (bin1_te hr hi)
theorem de_cmp2 {op : CmpOp} {r : R2} {g : D → D → Option D} {i : Nat} (ho : OpR X (compareOp op) r) (hr : OpQ X.K r g) (h1 : DE X hs ω E a fa) (h2 : PE X b (tVar i)) (hm : behindInMarks op b = false) (hi : i ∈ ω := by decide) : DE X hs ω E (.Compare a [op] [b] pos) (binM g fa (varM i)) := pe_imp (pe_cmpR ho h1 h2 hm) (bin2_te hr hi)
theorem dt_cmp1 {op : CmpOp} {r : R2} {g : D → D → Option D} {i : Nat} (ho : OpR X (compareOp op) r) (hr : OpQ X.K r g) (h1 : PE X a (tVar i)) (h2 : DE X hs ω E b fb) (hm : behindInMarks op b = false) (hi : i ∈ ω := by decide) : DT X hs ω E (.Compare a [op] [b] pos) (boolM (binM g (varM i) fb)) :=
  pt_imp (pt_cmpR ho h1 h2 hm) fun σ H Q hq => tst_mono (bin1_te hr hi) σ H Q (tst_te σ H Q hq)
theorem dt_cmp2 {op : CmpOp} {r : R2} {g : D → D → Option D} {i : Nat} (ho : OpR X (compareOp op) r) (hr : OpQ X.K r g) (h1 : DE X hs ω E a fa) (h2 : PE X b (tVar i)) (hm : behindInMarks op b = false) (hi : i ∈ ω := by decide) : DT X hs ω E (.Compare a [op] [b] pos) (boolM (binM g fa (varM i))) :=
  pt_imp (pt_cmpR ho h1 h2 hm) fun σ H Q hq => tst_mono (bin2_te hr hi) σ H Q (tst_te σ H Q hq)
theorem oq_eq {K : PySem.W.Frag} : OpQ K (rEqD K) eqD := by
  intro H x y a b d G Q s hx hy e q
  unfold eqD at e
  split at e
  · rename_i hl
    cases e
    rw [Bool.and_eq_true] at hl
    exact ⟨a, b, seqv_dp s hx (nd_sh hl.1), seqv_dp s hy (nd_sh hl.2), hl.1, hl.2, q _ H (Grow.refl H) fun _ _ _ => .bl _⟩
  · cases e
theorem oq_ne {K : PySem.W.Frag} : OpQ K (rNeD K) neD := by
  intro H x y a b d G Q s hx hy e q
  unfold neD at e
  split at e
  · rename_i hl
    cases e
    rw [Bool.and_eq_true] at hl
    exact ⟨a, b, seqv_dp s hx (nd_sh hl.1), seqv_dp s hy (nd_sh hl.2), hl.1, hl.2, q _ H (Grow.refl H) fun _ _ _ => .bl _⟩
  · cases e
/-! ### in, not in -/
def rInS (K : PySem.W.Frag) (neg : Bool) : R2 := fun x y H Q => ∃ d ds, Dp K H x d ∧ (Dp K H y (.list ds) ∨ Dp K H y (.tuple ds)) ∧ SeqAt.shaped d = true ∧ PyData.canLayAll0 ds = true ∧ Q (.bl ((ds.any fun z => PyData.eqv z d) != neg)) H
theorem op_inS (hu : X.A.units + 65 < cLine) : OpR X (compareOp .In) (rInS X.K false) := by
  intro pins s σ H x y v u Q I rx ry ⟨d, ds, hd, hy, sd, sl, q⟩
  obtain ⟨as, r1⟩ := Dp.reads I d x v hd rx
  have c1 := SeqAt.canLay_of_shaped sd
  have c2 : X.A.units + 1 + min (PyData.depthAll ds) d.depth < cLine := room_in_shaped sd hu
  rw [Bool.bne_false] at q
  rcases hy with hy | hy
  · obtain ⟨bs, r2⟩ := Dp.reads I _ y u hy ry
    exact SeqAt.in_list_reads r2 r1 sl c1 c2 ⟨.bl _, H, I, rfl, q⟩
  · obtain ⟨bs, r2⟩ := Dp.reads I _ y u hy ry
    exact SeqAt.in_tuple_reads r2 r1 sl c1 c2 ⟨.bl _, H, I, rfl, q⟩
theorem op_notInS (hu : X.A.units + 65 < cLine) : OpR X (compareOp .NotIn) (rInS X.K true) := by
  intro pins s σ H x y v u Q I rx ry ⟨d, ds, hd, hy, sd, sl, q⟩
  obtain ⟨as, r1⟩ := Dp.reads I d x v hd rx
  have c1 := SeqAt.canLay_of_shaped sd
  have c2 : X.A.units + 1 + min (PyData.depthAll ds) d.depth < cLine := room_in_shaped sd hu
  rw [Bool.bne_true] at q
  rcases hy with hy | hy
  · obtain ⟨bs, r2⟩ := Dp.reads I _ y u hy ry
    exact SeqAt.notIn_list_reads r2 r1 sl c1 c2 ⟨.bl _, H, I, rfl, q⟩
  · obtain ⟨bs, r2⟩ := Dp.reads I _ y u hy ry
    exact SeqAt.notIn_tuple_reads r2 r1 sl c1 c2 ⟨.bl _, H, I, rfl, q⟩
def inD (neg : Bool) (d y : D) : Option D := match itemsD y with
  | some ds => if okE d && PyData.canLayAll0 ds then some (.bool ((ds.any fun z => PyData.eqv z d) != neg)) else none
  | none => none
theorem oq_in {K : PySem.W.Frag} {neg : Bool} : OpQ K (rInS K neg) (inD neg) := by
  intro H x y a b d G Q s hx hy e q
  unfold inD at e
  split at e
  · rename_i ds hds
    split at e
    · rename_i hl
      cases e
      rw [Bool.and_eq_true] at hl
      refine ⟨a, ds, seqv_dp s hx (nd_sh hl.1), ?_, hl.1, hl.2, q _ H (Grow.refl H) fun _ _ _ => .bl _⟩
      unfold itemsD at hds
      split at hds
      · cases hds; exact .inl (seqv_dp s hy (nd_lays _ hl.2))
      · cases hds; exact .inr (seqv_dp s hy (nd_lays _ hl.2))
      · cases hds
    · cases e
  · cases e
theorem de_in (hu : X.A.units + 65 < cLine) (h1 : DE X hs ω E a fa) (h2 : DE X hs ω E b fb) (hm : behindInMarks .In b = false := by rfl) : DE X hs ω E (.Compare a [.In] [b] pos) (binM (inD false) fa fb) := de_cmp (op_inS hu) oq_in.od h1 h2 hm
theorem de_notIn (hu : X.A.units + 65 < cLine) (h1 : DE X hs ω E a fa) (h2 : DE X hs ω E b fb) (hm : behindInMarks .NotIn b = false := by rfl) : DE X hs ω E (.Compare a [.NotIn] [b] pos) (binM (inD true) fa fb) := de_cmp (op_notInS hu) oq_in.od h1 h2 hm
theorem dt_in (hu : X.A.units + 65 < cLine) (h1 : DE X hs ω E a fa) (h2 : DE X hs ω E b fb) (hm : behindInMarks .In b = false := by rfl) : DT X hs ω E (.Compare a [.In] [b] pos) (boolM (binM (inD false) fa fb)) := dt_cmp (op_inS hu) oq_in.od h1 h2 hm
theorem dt_notIn (hu : X.A.units + 65 < cLine) (h1 : DE X hs ω E a fa) (h2 : DE X hs ω E b fb) (hm : behindInMarks .NotIn b = false := by rfl) : DT X hs ω E (.Compare a [.NotIn] [b] pos) (boolM (binM (inD true) fa fb)) := dt_cmp (op_notInS hu) oq_in.od h1 h2 hm
/-! ### subscripts -/
def ixD (x y : D) : Option D := match x, y with
  | .list ds, .int i => atI ds i
  | .tuple ds, .int i => atI ds i
  | .str z, .int i => if z.length ≤ LINE then (atI z.cps.toList i).map fun c => .str ⟨#[c]⟩ else none
  | _, _ => none
theorem atI_dds {K : PySem.W.Frag} {G : Hp} {vs : List V} {ds : List D} {i : Int} {d : D} (h : DDs K G vs ds) (e : atI ds i = some d) : ∃ v, atI vs i = some v ∧ DD K G v d := by
  unfold atI at e ⊢
  rw [h.length]
  cases hi : ixN ds.length i with
  | none => rw [hi] at e; cases e
  | some j =>
    rw [hi] at e
    exact h.get e
theorem oq_ix {K : PySem.W.Frag} : OpQ K (rIx K) ixD := by
  intro H x y a b d G Q s hx hy e q
  unfold ixD at e
  split at e
  · rename_i ds i
    have ey : y = .int i := by
      rcases hy with hy | ⟨_, _, _, _, h2, _⟩
      · exact dd_int hy
      · cases h2
    subst ey
    rcases hx with hx | ⟨p, xs, ds', rfl, h2, h3, h4⟩
    · obtain ⟨p, xs, rfl, g1, g2⟩ := dd_list hx
      obtain ⟨v, e1, e2⟩ := atI_dds g2 e
      exact .inl ⟨p, xs, i, v, rfl, rfl, .inl (.inl (s _ _ g1)), e1, q v H (Grow.refl H) fun G' x1 _ => dd_mono x1 e2⟩
    · cases h2
      obtain ⟨v, e1, e2⟩ := atI_dds h4 e
      exact .inl ⟨p, xs, i, v, rfl, rfl, .inl (.inl h3), e1, q v H (Grow.refl H) fun G' x1 _ => dd_mono x1 e2⟩
  · rename_i ds i
    have ey : y = .int i := by
      rcases hy with hy | ⟨_, _, _, _, h2, _⟩
      · exact dd_int hy
      · cases h2
    subst ey
    rcases hx with hx | ⟨p, xs, ds', rfl, h2, h3, h4⟩
    · obtain ⟨p, xs, rfl, g1, g2⟩ := dd_tup hx
      obtain ⟨v, e1, e2⟩ := atI_dds g2 e
      exact .inr (.inl ⟨p, xs, i, v, rfl, rfl, sq_ts s g1, e1, q v H (Grow.refl H) fun G' x1 _ => dd_mono x1 e2⟩)
    · cases h2
  · rename_i z i
    have ey : y = .int i := by
      rcases hy with hy | ⟨_, _, _, _, h2, _⟩
      · exact dd_int hy
      · cases h2
    subst ey
    split at e
    · rename_i hl
      cases hc : atI z.cps.toList i with
      | none => rw [hc] at e; cases e
      | some c =>
        rw [hc] at e
        cases e
        have ex : x = .str z := by
          rcases hx with hx | ⟨_, _, _, _, h2, _⟩
          · exact dd_str hx
          · cases h2
        subst ex
        exact .inr (.inr ⟨z, i, c, rfl, rfl, by rw [line_eq]; exact hl, hc, q _ H (Grow.refl H) fun _ _ _ => .str _⟩)
    · cases e
  · cases e
theorem de_ix (h1 : DE X hs ω E a fa) (h2 : DE X hs ω E b fb) (hp : PlainIx b := by exact fun _ _ => rfl) : DE X hs ω E (.Subscript a b pos) (binM ixD fa fb) := pe_imp (pe_ix ix_seq h1 h2 hp) (bin_te oq_ix.od)
theorem de_ix1 {i : Nat} (h1 : PE X a (tVar i)) (h2 : DE X hs ω E b fb) (hp : PlainIx b := by exact fun _ _ => rfl) (hi : i ∈ ω := by decide) : DE X hs ω E (.Subscript a b pos) (binM ixD (varM i) fb) := pe_imp (pe_ix ix_seq h1 h2 hp) (bin1_te oq_ix hi)
/-! ### built-in functions of one argument -/
def CaQ (K : PySem.W.Frag) (r : List V → Hp → VK → Prop) (g : D → Option D) : Prop := ∀ (H : Hp) (x : V) (a d : D) (G : Hp) (Q : VK), (∀ a o, G a = some o → H a = some o) → SeqV K G H x a → g a = some d →
  (∀ v H', Grow H H' → (∀ G', XN G G' → (∀ p, H p = none → G' p = H' p) → DD K G' v d) → Q v H') → r [x] H Q
def unM (g : D → Option D) (f : FE) : FE := fun e h => (f e h).bind fun d h1 => opt (g d) h1
theorem un_te {r : List V → Hp → VK → Prop} {g : D → Option D} (hr : CaQ X.K r g) (σ : L2.St) (H : Hp) (Q : VK) (hq : teD X.K X.mg hs ω E (unM g fa) σ H Q) : tCB r (tCons (teQ X.K X.mg hs ω E fa) tNil) σ H Q := by
  obtain ⟨R, O, ha, e, h, rel, hp⟩ := hq
  refine ⟨R, O, ha, e, h, rel, pr_bind hp fun d1 h1 H1 O1 s1 rel1 hp1 v1 dv1 => ?_⟩
  obtain ⟨d, e1, q⟩ := pr_opt hp1
  exact hr H1 v1 d1 d (Cut O1 H1) Q cut_sub dv1 e1 fun v H' gr hv => q H' O1 (rel1.step gr) (rel1.grow gr) v (hv _ (rel1.step gr).ex (new_cut rel1.g.dom))
theorem de_fn1 {id : String} {r : List V → Hp → VK → Prop} {g : D → Option D} (hc : CallR X (.builtin id) r) (hr : CaQ X.K r g) (hg : Gl X x) (hm : X.mg x = none) (hv : bootBuiltins x = some (.builtin id)) (h1 : DQ X hs ω E a fa) (hn : x ≠ "__name__" := by decide) (hdb : (x == ("__debug__" : Str)) = false := by decide)
    (he : starEach [a] X.env = (false, eval a X.env) :: starEach [] X.env := by rfl) : DE X hs ω E (.Call (.Name x p) [a] [] pos) (unM g fa) := pe_imp (pe_callB hc hg hm hv (pa_cons h1 pa_nil he) hn hdb he) (un_te hr)
theorem de_ty1 {T : String} {r : List V → Hp → VK → Prop} {g : D → Option D} (hc : CallR X (.type T) r) (hr : CaQ X.K r g) (hg : Gl X x) (hm : X.mg x = none) (hv : bootBuiltins x = some (.type T)) (h1 : DQ X hs ω E a fa) (hn : x ≠ "__name__" := by decide) (hdb : (x == ("__debug__" : Str)) = false := by decide)
    (he : starEach [a] X.env = (false, eval a X.env) :: starEach [] X.env := by rfl) : DE X hs ω E (.Call (.Name x p) [a] [] pos) (unM g fa) := pe_imp (pe_callTy hc hg hm hv (pa_cons h1 pa_nil he) hn hdb he) (un_te hr)
/-- .. that make a list -/
def CaL (K : PySem.W.Frag) (r : List V → Hp → VK → Prop) (g : D → Option (List D)) : Prop := ∀ (H : Hp) (x : V) (a : D) (ds : List D) (G : Hp) (Q : VK), (∀ a o, G a = some o → H a = some o) → SeqV K G H x a → g a = some ds →
  (∀ p xs, H p = none → DDs K G xs ds → Q (.ref p) (upd H p (.lst xs))) → r [x] H Q
def unL (g : D → Option (List D)) (f : FE) : FL := fun e h => (f e h).bind fun d h1 => opt (g d) h1
theorem unL_te {r : List V → Hp → VK → Prop} {g : D → Option (List D)} (hr : CaL X.K r g) (σ : L2.St) (H : Hp) (Q : VK) (hq : teL X.K X.mg hs ω E (unL g fa) σ H Q) : tCB r (tCons (teQ X.K X.mg hs ω E fa) tNil) σ H Q := by
  obtain ⟨R, O, ha, e, h, rel, hp⟩ := hq
  refine ⟨R, O, ha, e, h, rel, pr_bind hp fun d1 h1 H1 O1 s1 rel1 hp1 v1 dv1 => ?_⟩
  obtain ⟨d, e1, q⟩ := pr_opt hp1
  exact hr H1 v1 d1 d (Cut O1 H1) Q cut_sub dv1 e1 fun q' xs np dx => pl_new q rel1 dx np
theorem dl_fn1 {id : String} {r : List V → Hp → VK → Prop} {g : D → Option (List D)} (hc : CallR X (.builtin id) r) (hr : CaL X.K r g) (hg : Gl X x) (hm : X.mg x = none) (hv : bootBuiltins x = some (.builtin id)) (h1 : DQ X hs ω E a fa) (hn : x ≠ "__name__" := by decide) (hdb : (x == ("__debug__" : Str)) = false := by decide)
    (he : starEach [a] X.env = (false, eval a X.env) :: starEach [] X.env := by rfl) : DL X hs ω E (.Call (.Name x p) [a] [] pos) (unL g fa) := pe_imp (pe_callB hc hg hm hv (pa_cons h1 pa_nil he) hn hdb he) (unL_te hr)
theorem dl_ty1 {T : String} {r : List V → Hp → VK → Prop} {g : D → Option (List D)} (hc : CallR X (.type T) r) (hr : CaL X.K r g) (hg : Gl X x) (hm : X.mg x = none) (hv : bootBuiltins x = some (.type T)) (h1 : DQ X hs ω E a fa) (hn : x ≠ "__name__" := by decide) (hdb : (x == ("__debug__" : Str)) = false := by decide)
    (he : starEach [a] X.env = (false, eval a X.env) :: starEach [] X.env := by rfl) : DL X hs ω E (.Call (.Name x p) [a] [] pos) (unL g fa) := pe_imp (pe_callTy hc hg hm hv (pa_cons h1 pa_nil he) hn hdb he) (unL_te hr)
section
variable {K : PySem.W.Frag}
/-! #### len -/
def lenD : D → Option D
  | .list ds => some (.int ds.length)
  | .tuple ds => some (.int ds.length)
  | .str s => if s.length ≤ LINE then some (.int s.length) else none
  | _ => none
theorem caq_len : CaQ K (fun xs H Q => ∃ x n, xs = [x] ∧ LenV K x H n ∧ Q (.int n) H) lenD := by
  intro H x a d G Q s hx e q
  rcases hx with hx | ⟨p, xs, ds', rfl, rfl, h3, h4⟩
  · cases hx with
    | lst h1 h2 =>
      cases e
      rename_i a xs ds
      exact ⟨_, ds.length, rfl, .inl ⟨xs, .inl (.inl (s _ _ h1)), h2.length.symm⟩, q _ H (Grow.refl H) fun _ _ _ => .int _⟩
    | dct h1 => cases e
    | tup h1 h2 =>
      cases e
      rename_i a xs ds
      exact ⟨_, ds.length, rfl, .inr ⟨xs, sq_ts s h1.t, h2.length.symm⟩, q _ H (Grow.refl H) fun _ _ _ => .int _⟩
    | str z =>
      simp only [lenD] at e
      split at e
      · rename_i hl
        cases e
        exact ⟨_, z.length, rfl, ⟨by rw [line_eq]; exact hl, rfl⟩, q _ H (Grow.refl H) fun _ _ _ => .int _⟩
      · cases e
    | _ => cases e
  · cases e
    exact ⟨_, ds'.length, rfl, .inl ⟨xs, .inl (.inl h3), h4.length.symm⟩, q _ H (Grow.refl H) fun _ _ _ => .int _⟩
/-! #### abs, int -/
def absD : D → Option D
  | .int i => some (.int (if i < 0 then -i else i))
  | _ => none
theorem seqv_int {G H : Hp} {x : V} {i : Int} (h : SeqV K G H x (.int i)) : x = .int i := by
  rcases h with h | ⟨_, _, _, _, h2, _⟩
  · exact dd_int h
  · cases h2
theorem seqv_bl {G H : Hp} {x : V} {i : Bool} (h : SeqV K G H x (.bool i)) : x = .bl i := by
  rcases h with h | ⟨_, _, _, _, h2, _⟩
  · exact dd_bl h
  · cases h2
theorem caq_abs : CaQ K (fun xs H Q => ∃ i, xs = [.int i] ∧ Q (.int (if i < 0 then -i else i)) H) absD := by
  intro H x a d G Q s hx e q
  unfold absD at e
  split at e
  · rename_i i
    cases e
    obtain rfl := seqv_int hx
    exact ⟨i, rfl, q _ H (Grow.refl H) fun _ _ _ => .int _⟩
  · cases e
def intD : D → Option D
  | .int i => some (.int i)
  | .bool b => some (.int (if b then 1 else 0))
  | _ => none
theorem caq_int : CaQ K (fun xs H Q => (∃ i, xs = [.int i] ∧ Q (.int i) H) ∨ ∃ k, xs = [.bl k] ∧ Q (.int (if k then 1 else 0)) H) intD := by
  intro H x a d G Q s hx e q
  unfold intD at e
  split at e
  · rename_i i
    cases e
    obtain rfl := seqv_int hx
    exact .inl ⟨i, rfl, q _ H (Grow.refl H) fun _ _ _ => .int _⟩
  · rename_i i
    cases e
    obtain rfl := seqv_bl hx
    exact .inr ⟨i, rfl, q _ H (Grow.refl H) fun _ _ _ => .int _⟩
  · cases e
/-! #### tuple, list -/
def tupOf : D → Option D
  | .list ds => some (.tuple ds)
  | .tuple ds => some (.tuple ds)
  | _ => none
theorem caq_tuple : CaQ K (fun xs H Q => ∃ p ys, xs = [.ref p] ∧ ((SqL K H p ys ∧ NewT H ys Q) ∨ (SqT K H p ys ∧ Q (.ref p) H))) tupOf := by
  intro H x a d G Q s hx e q
  unfold tupOf at e
  split at e
  · rename_i ds
    cases e
    rcases hx with hx | ⟨p, xs, ds', rfl, h2, h3, h4⟩
    · obtain ⟨p, xs, rfl, g1, g2⟩ := dd_list hx
      exact ⟨p, xs, rfl, .inl ⟨.inl (.inl (s _ _ g1)), fun l o hl oc od => q _ _ (Grow.new hl) fun G' x1 x2 => .tup (.new (by rw [x2 l hl, upd_same]) oc od) (dds_mono x1 g2)⟩⟩
    · cases h2
      exact ⟨p, xs, rfl, .inl ⟨.inl (.inl h3), fun l o hl oc od => q _ _ (Grow.new hl) fun G' x1 x2 => .tup (.new (by rw [x2 l hl, upd_same]) oc od) (dds_mono x1 h4)⟩⟩
  · rename_i ds
    cases e
    rcases hx with hx | ⟨p, xs, ds', rfl, h2, h3, h4⟩
    · have hx' := hx
      obtain ⟨p, xs, rfl, g1, g2⟩ := dd_tup hx
      exact ⟨p, xs, rfl, .inr ⟨sq_ts s g1, q _ H (Grow.refl H) fun G' x1 _ => dd_mono x1 hx'⟩⟩
    · cases h2
  · cases e
theorem cal_list : CaL K (fun xs H Q => ∃ p ys, xs = [.ref p] ∧ (SqL K H p ys ∨ SqT K H p ys) ∧ ∀ l, H l = none → Q (.ref l) (upd H l (.lst ys))) itemsD := by
  intro H x a ds G Q s hx e q
  unfold itemsD at e
  split at e
  · cases e
    rcases hx with hx | ⟨p, xs, ds', rfl, h2, h3, h4⟩
    · obtain ⟨p, xs, rfl, g1, g2⟩ := dd_list hx
      exact ⟨p, xs, rfl, .inl (.inl (.inl (s _ _ g1))), fun l hl => q l xs hl g2⟩
    · cases h2
      exact ⟨p, xs, rfl, .inl (.inl (.inl h3)), fun l hl => q l xs hl h4⟩
  · cases e
    rcases hx with hx | ⟨p, xs, ds', rfl, h2, h3, h4⟩
    · obtain ⟨p, xs, rfl, g1, g2⟩ := dd_tup hx
      exact ⟨p, xs, rfl, .inr (sq_ts s g1), fun l hl => q l xs hl g2⟩
    · cases h2
  · cases e
/-! #### all, any, sum -/
def allB (ds : List D) : Option (List Bool) := ds.mapM asB
theorem mapM_cons {α β : Type} {f : α → Option β} {x : α} {xs : List α} {ys : List β} (h : (x :: xs).mapM f = some ys) : ∃ y r, f x = some y ∧ xs.mapM f = some r ∧ ys = y :: r := by
  rw [List.mapM_cons] at h
  cases hx : f x with
  | none => rw [hx] at h; cases h
  | some y =>
    rw [hx] at h
    cases hr : xs.mapM f with
    | none => rw [hr] at h; cases h
    | some r => rw [hr] at h; cases h; exact ⟨y, r, rfl, rfl, rfl⟩
theorem dds_bools {G : Hp} : ∀ {xs : List V} {ds : List D} {bs : List Bool}, DDs K G xs ds → ds.mapM asB = some bs → xs = bs.map V.bl
  | _, _, _, .nil, h => by cases h; rfl
  | _, _, _, .cons p t, h => by
    obtain ⟨y, r, h1, h2, rfl⟩ := mapM_cons h
    obtain rfl := asB_some h1
    obtain rfl := dd_bl p
    rw [List.map_cons, dds_bools t h2]
def asI : D → Option Int
  | .int i => some i
  | _ => none
theorem asI_some {d : D} {i : Int} (h : asI d = some i) : d = .int i := by
  unfold asI at h
  split at h
  · cases h; rfl
  · cases h
theorem dds_ints {G : Hp} : ∀ {xs : List V} {ds : List D} {bs : List Int}, DDs K G xs ds → ds.mapM asI = some bs → xs = bs.map V.int
  | _, _, _, .nil, h => by cases h; rfl
  | _, _, _, .cons p t, h => by
    obtain ⟨y, r, h1, h2, rfl⟩ := mapM_cons h
    obtain rfl := asI_some h1
    obtain rfl := dd_int p
    rw [List.map_cons, dds_ints t h2]
theorem seqv_list {G H : Hp} {x : V} {ds : List D} (s : ∀ a o, G a = some o → H a = some o) (h : SeqV K G H x (.list ds)) : ∃ p xs, x = .ref p ∧ H p = some (.lst xs) ∧ DDs K G xs ds := by
  rcases h with h | ⟨p, xs, ds', rfl, h2, h3, h4⟩
  · obtain ⟨p, xs, rfl, g1, g2⟩ := dd_list h
    exact ⟨p, xs, rfl, s _ _ g1, g2⟩
  · cases h2
    exact ⟨p, xs, rfl, h3, h4⟩
def allD : D → Option D
  | .list ds => (ds.mapM asB).map fun bs => .bool (bs.all id)
  | _ => none
def anyD : D → Option D
  | .list ds => (ds.mapM asB).map fun bs => .bool (bs.any id)
  | _ => none
def sumD : D → Option D
  | .list ds => (ds.mapM asI).map fun ns => .int ns.sum
  | .tuple ds => (ds.mapM asI).map fun ns => .int ns.sum
  | _ => none
theorem map_some' {α β : Type} {o : Option α} {f : α → β} {b : β} (h : o.map f = some b) : ∃ a, o = some a ∧ f a = b := by
  cases o with
  | none => cases h
  | some a => cases h; exact ⟨a, rfl, rfl⟩
theorem caq_all : CaQ K (rAll K) allD := by
  intro H x a d G Q s hx e q
  unfold allD at e
  split at e
  · obtain ⟨bs, h1, rfl⟩ := map_some' e
    obtain ⟨p, xs, rfl, g1, g2⟩ := seqv_list s hx
    refine ⟨p, bs, rfl, .inl (.inl ?_), q _ H (Grow.refl H) fun _ _ _ => .bl _⟩
    rw [← dds_bools g2 h1]; exact g1
  · cases e
theorem caq_any : CaQ K (rAny K) anyD := by
  intro H x a d G Q s hx e q
  unfold anyD at e
  split at e
  · obtain ⟨bs, h1, rfl⟩ := map_some' e
    obtain ⟨p, xs, rfl, g1, g2⟩ := seqv_list s hx
    refine ⟨p, bs, rfl, .inl (.inl ?_), q _ H (Grow.refl H) fun _ _ _ => .bl _⟩
    rw [← dds_bools g2 h1]; exact g1
  · cases e
def rSumA (K : PySem.W.Frag) : List V → Hp → VK → Prop := fun vs H Q => ∃ (a : Addr) (ns : List Int), vs = [V.ref a] ∧ (SqL K H a (ns.map V.int) ∨ SqT K H a (ns.map V.int)) ∧ Q (.int ns.sum) H
theorem caq_sum : CaQ K (rSumA K) sumD := by
  intro H x a d G Q s hx e q
  unfold sumD at e
  split at e
  · obtain ⟨bs, h1, rfl⟩ := map_some' e
    obtain ⟨p, xs, rfl, g1, g2⟩ := seqv_list s hx
    refine ⟨p, bs, rfl, .inl (.inl (.inl ?_)), q _ H (Grow.refl H) fun _ _ _ => .int _⟩
    rw [← dds_ints g2 h1]; exact g1
  · rename_i ds0
    obtain ⟨bs, h1, rfl⟩ := map_some' e
    have hx' : DD K G x (.tuple ds0) := by
      rcases hx with hx | ⟨_, _, _, _, h2, _⟩
      · exact hx
      · cases h2
    obtain ⟨p, xs, rfl, g1, g2⟩ := dd_tup hx'
    refine ⟨p, bs, rfl, .inr ?_, q _ H (Grow.refl H) fun _ _ _ => .int _⟩
    rw [← dds_ints g2 h1]; exact sq_ts s g1
  · cases e
end
section
variable {X : Cx}
theorem cr_sumA (hc : X.calm = true) : CallR X (.builtin "sum") (rSumA X.K) := by
  intro pins s σ H vs us Q I r h
  obtain ⟨a, ns, rfl, hs, q⟩ := h
  rw [Vals.ref1 r]
  rcases hs with hs | hs
  · obtain ⟨its, rv, hl, _⟩ := I.list hs
    exact sum_raw (I.ok.hd hc) hl.isList rv.ints fun h' tk t' hk => ⟨.int _, H, I.kept hk, ⟨_, rfl⟩, q⟩
  · obtain ⟨its, rv, hl, _⟩ := I.tuple hs
    have hi : IntsAre its ns := intsAre_of rv
    obtain ⟨xs, hx⟩ := hi.allInts.items
    have hn : numsOf its.toArray.toList = ns := by rw [show its.toArray.toList = its from rfl, hi.numsOf]
    have hl' : s.heap.IsTuple a its.toArray := hl
    rw [hx] at hl' hn
    rw [nums_intItems] at hn
    refine PySem.W.ktm_sumG (I.ok.hd hc) hl' fun h' tk t' hk => ?_
    rw [preSum_eq, List.take_of_length_le (by simp), hn]
    exact ⟨.int _, H, I.kept hk, ⟨_, rfl⟩, q⟩
end
/-! #### isinstance with a built-in class -/
def kindD : D → String
  | .none => "NoneType"
  | .bool _ => "bool"
  | .int _ => "int"
  | .str _ => "str"
  | .list _ => "list"
  | .tuple _ => "tuple"
  | .dict _ => "dict"
def isiD (T : String) (d : D) : Bool := kindD d == T || (T == "int" && kindD d == "bool")
def isiM (T : String) (f : FE) : FE := fun e h => (f e h).bind fun d h1 => .ok (.bool (isiD T d)) h1
theorem tyx_of {K : PySem.W.Frag} {G H : Hp} {v : V} {d : D} (s : ∀ a o, G a = some o → H a = some o) (h : SeqV K G H v d) : TyX K H v (.type (kindD d)) := by
  rcases h with h | ⟨p, xs, ds', rfl, rfl, h3, h4⟩
  · cases h with
    | non => exact .base .non
    | bl b => exact .base (.bl b)
    | int i => exact .base (.int i)
    | str z => exact .base (.str z)
    | lst h1 _ => exact .base (.lst (s _ _ h1))
    | dct h1 => exact .base (.dK (s _ _ h1))
    | tup h1 _ =>
      rcases sq_ts s h1.t with (h1 | ⟨o, h1⟩) | ⟨o, its, n, h1, h2, _⟩
      · exact .base (.tup h1)
      · exact .fTuple h1
      · exact .kTuple h1 h2
  · exact .base (.lst h3)
/-- T is one of the built-in classes that the data are of -/
def KitAll (T : String) : Prop := ∀ k, k ∈ ["NoneType", "bool", "int", "str", "list", "tuple", "dict"] → kitB k T = some (k == T || (T == "int" && k == "bool"))
theorem kind_mem (d : D) : kindD d ∈ ["NoneType", "bool", "int", "str", "list", "tuple", "dict"] := by cases d <;> simp [kindD]
theorem kit_int : KitAll "int" := by unfold KitAll; decide +kernel
theorem kit_bool : KitAll "bool" := by unfold KitAll; decide +kernel
theorem kit_tuple : KitAll "tuple" := by unfold KitAll; decide +kernel
theorem kit_list : KitAll "list" := by unfold KitAll; decide +kernel
theorem kit_str : KitAll "str" := by unfold KitAll; decide +kernel
theorem kit_dict : KitAll "dict" := by unfold KitAll; decide +kernel
theorem de_isi {T : String} {y : Str} {p2 : Pos} (kT : KitAll T) (hg : Gl X "isinstance") (hm : X.mg "isinstance" = none) (hy : PE X (.Name y p2) (tC (.ty T))) (h1 : DQ X hs ω E a fa)
    (he : starEach [a, .Name y p2] X.env = (false, eval a X.env) :: starEach [.Name y p2] X.env := by rfl) (he2 : starEach [.Name y p2] X.env = (false, eval (.Name y p2) X.env) :: starEach [] X.env := by rfl) (hpl : (backTo pos (starEach [.Name y p2] X.env)).any (·.1) = false := by rfl) :
    DE X hs ω E (.Call (.Name "isinstance" p) [a, .Name y p2] [] pos) (isiM T fa) := pe_imp (pe_callB (id := "isinstance") call_isi hg hm boot_isinstance (pa_cons h1 (pa_cons hy pa_nil he2) he) (by decide) (by decide) he hpl) fun σ H Q hq => by
  obtain ⟨R, O, ha, e, h, rel, hp⟩ := hq
  refine ⟨R, O, ha, e, h, rel, pr_bind hp fun d1 h1 H1 O1 s1 rel1 hp1 v1 dv1 => ?_⟩
  exact ⟨v1, .ty T, .type (kindD d1), .type T, isiD T d1, rfl, .ty T, tyx_of cut_sub dv1, kit_ty (kT _ (kind_mem d1)), pr_ok hp1 rel1 _ (.bl _)⟩
/-! #### sorted -/
def allAlike (ds : List D) : Bool := ds.all fun a => ds.all fun b => PySem.W.alike a b
def tupNE : D → Bool
  | .tuple (_ :: _) => true
  | _ => false
def notNT : D → Bool
  | .tuple _ => false
  | .none => false
  | _ => true
def sortOk (ds : List D) : Bool := allAlike ds && (ds.all tupNE || ds.all notNT) && ds.all fun d => decide (d.depth ≤ 60)
def sortL (ds : List D) : List D := ds.mergeSort (PySem.W.dataLe false id)
def sortD : D → Option (List D)
  | .list ds => if sortOk ds then some (sortL ds) else none
  | _ => none
def rSortD (K : PySem.W.Frag) : List V → Hp → VK → Prop := fun vs H Q => ∃ (a : Addr) (xs : List V) (ds : List D) (G : Hp), vs = [.ref a] ∧ H a = some (.lst xs) ∧ (∀ a o, G a = some o → H a = some o) ∧ DDs K G xs ds ∧ sortOk ds = true ∧
  ∀ p ys, H p = none → DDs K G ys (sortL ds) → Q (.ref p) (upd H p (.lst ys))
mutual
theorem lay_of_alike : ∀ d : D, PySem.W.alike d d = true → noDict d = true
  | .none, _ => rfl
  | .bool _, _ => rfl
  | .int _, _ => rfl
  | .str _, _ => rfl
  | .list xs, h => lay_of_alikeAll xs h
  | .tuple xs, h => lay_of_alikeAll xs h
  | .dict _, h => by cases h
theorem lay_of_alikeAll : ∀ ds : List D, PySem.W.alikeAll ds ds = true → noDicts ds = true
  | [], _ => rfl
  | d :: ds, h => by
    have h' : (PySem.W.alike d d && PySem.W.alikeAll ds ds) = true := h
    rw [Bool.and_eq_true] at h'
    show (noDict d && noDicts ds) = true
    rw [lay_of_alike d h'.1, lay_of_alikeAll ds h'.2]; rfl
end
theorem each_of2 {K : PySem.W.Frag} {G : Hp} : ∀ {xs : List V} {us : List Value} {ds : List D}, Vals xs us → DDs K G xs ds → (∀ d ∈ ds, noDict d = true) → PySem.W.EachIs (fun u d => ∃ x, RelV x u ∧ DD K G x d ∧ noDict d = true) us ds
  | _, _, _, .nil, .nil, _ => .nil
  | _, _, _, .cons r t, .cons q s, h => .cons ⟨_, r, q, h _ List.mem_cons_self⟩ (each_of2 t s fun d hd => h d (List.mem_cons_of_mem _ hd))
theorem each_of {K : PySem.W.Frag} {G : Hp} : ∀ {xs : List V} {us : List Value} {ds : List D}, Vals xs us → DDs K G xs ds → PySem.W.EachIs (fun u d => ∃ x, RelV x u ∧ DD K G x d) us ds
  | _, _, _, .nil, .nil => .nil
  | _, _, _, .cons r t, .cons q s => .cons ⟨_, r, q⟩ (each_of t s)
theorem each_back {K : PySem.W.Frag} {G : Hp} : ∀ {us : List Value} {ds : List D}, PySem.W.EachIs (fun u d => ∃ x, RelV x u ∧ DD K G x d) us ds → ∃ xs, Vals xs us ∧ DDs K G xs ds
  | _, _, .nil => ⟨[], .nil, .nil⟩
  | _, _, .cons ⟨x, r, q⟩ t => by
    obtain ⟨xs, h1, h2⟩ := each_back t
    exact ⟨x :: xs, .cons r h1, .cons q h2⟩
theorem cr_sortD (hu : X.A.units + 64 < cLine) : CallR X (.builtin "sorted") (rSortD X.K) := by
  intro pins s σ H vs us Q I r ⟨a, xs, ds, G, ev, hs1, hsub, dd, hok, q⟩
  subst ev
  obtain ⟨its, rv, hl, hz⟩ := I.list (.inl (.inl hs1))
  rw [Vals.ref1 r]
  unfold sortOk at hok
  simp only [Bool.and_eq_true, Bool.or_eq_true, List.all_eq_true, decide_eq_true_eq] at hok
  obtain ⟨⟨h1, h2⟩, h3⟩ := hok
  have hal : PySem.W.AllAlike (ds.map id) := by
    rw [List.map_id]
    intro d hd d' hd'
    have := (List.all_eq_true.mp h1) d hd
    exact (List.all_eq_true.mp this) d' hd'
  have hk : PySem.W.Sortable (ds.map id) := by
    rw [List.map_id]
    rcases h2 with h2 | h2
    · refine .inl fun d hd => ?_
      have := h2 d hd
      unfold tupNE at this
      split at this
      · exact ⟨_, _, rfl⟩
      · cases this
    · refine .inr fun d hd => ?_
      have := h2 d hd
      constructor
      · intro z; rw [z] at this; cases this
      · intro xs z; rw [z] at this; cases this
  have e1 : PySem.W.EachIs (fun u d => ∃ x, RelV x u ∧ DD X.K G x d) its ds := each_of rv dd
  have e2 : PySem.W.EachIs (fun v b => ∃ as, Reads s.heap v (id b) as) its ds := (each_of2 rv dd fun d hd => lay_of_alike d (by
    have := (List.all_eq_true.mp h1) d hd
    exact (List.all_eq_true.mp this) d hd)).mono fun u d ⟨x, r1, r2, r3⟩ => Dp.reads I d x u (dd_dp hsub r2 r3) r1
  refine PySem.W.sorted_data (enc := id) hl.isList e1 e2 hal hk (by rw [← dd.length]; exact hz) (fun b hb => by have := h3 b hb; show X.A.units + 2 + b.depth < cLine; omega) fun out ho eo => ?_
  obtain ⟨ys, k1, k2⟩ := each_back eo
  obtain ⟨ep, he'⟩ := PyProof.Rows.sortedAll_at s.heap its out.toArray
  have hlen : ys.length ≤ sizeLine := by
    rw [k2.length, (List.mergeSort_perm _ _).length_eq, ← dd.length]
    exact hz
  have I' : Inv X pins σ (upd H (s.heap.objs.size + 1) (.lst ys)) { s with heap := PyProof.Rows.sortedAll s.heap its out.toArray } := I.laid (t' := s.toks) (fun _ _ => PyProof.Rows.sortedAll_old) (Nat.le_succ _) ⟨hlen, out, ep, k1, he'⟩
  exact ⟨.ref _, _, I', rfl, q _ _ (I.hok.fresh (Nat.le_succ _)) k2⟩
theorem cal_sort {K : PySem.W.Frag} : CaL K (rSortD K) sortD := by
  intro H x a ds G Q s hx e q
  unfold sortD at e
  split at e
  · split at e
    · rename_i hok
      cases e
      obtain ⟨p, xs, rfl, g1, g2⟩ := seqv_list s hx
      exact ⟨p, xs, _, G, rfl, g1, s, g2, hok, q⟩
    · cases e
  · cases e
/-! #### list(range(..)), tuple(range(..)) -/
theorem dds_rg {K : PySem.W.Frag} {G : Hp} (a b : Int) : DDs K G (rgV a b) (rangeL a (b - a).toNat) := by
  unfold rgV rangeL
  generalize (b - a).toNat = n
  generalize hl : List.range n = l
  clear hl
  induction l with
  | nil => exact .nil
  | cons k l ih => exact .cons (.int _) ih
theorem dl_lr1 {p2 : Pos} {pos2 : Pos} (hc : X.calm = true) (hg : Gl X "list") (hm : X.mg "list" = none) (hg2 : Gl X "range") (hm2 : X.mg "range" = none) (h1 : DE X hs ω E a fa) (na : starEach [a] X.env = (false, eval a X.env) :: starEach [] X.env := by rfl)
    (na2 : starEach [.Call (.Name "range" p2) [a] [] pos2] X.env = (false, eval (.Call (.Name "range" p2) [a] [] pos2) X.env) :: starEach [] X.env := by rfl) : DL X hs ω E (.Call (.Name "list" p) [.Call (.Name "range" p2) [a] [] pos2] [] pos) (range1M fa) :=
  pe_imp (pe_listRg hc hg hm (prg_1 hg2 hm2 h1 na) na2) fun σ H Q hq => by
  obtain ⟨R, O, ha, e, h, rel, hp⟩ := hq
  refine ⟨R, O, ha, e, h, rel, pr_bind hp fun d h1 H1 O1 s1 rel1 hp1 v dv => ?_⟩
  obtain ⟨zs, e1, q⟩ := pr_opt hp1
  obtain ⟨i, j, e2, rfl, hl, hb, rfl⟩ := range2_some e1
  cases e2
  obtain rfl := dd_int dv
  have hL : LINE = 2 ^ 24 := rfl
  exact ⟨j, rfl, ⟨by omega, by omega, by omega, by omega, by omega⟩, fun q' nq => pl_new q rel1 (dds_rg 0 j) nq⟩
end Sm


set_option maxRecDepth 100000
set_option maxHeartbeats 4000000
/-! Sim layer, part K: the hand, lambdas handed to a def that tells what they raise, the law's own def. -/
namespace Sm
open PySem PySem.Spec PyProof.Rows L2
variable {X : Cx} {hs : HS} {ω ω1 ω' ωl : List Nat} {E : XK} {e a b c tg it elt : Expr} {fe fa fb : FE} {fl fi : FL} {ft : FB} {pos p : Pos} {st : Stmt} {rest : List Stmt} {f g : FS} {es : List Expr} {x : Str}
theorem u65 {k : Nat} {A : Around} (hr : Room k A) : A.units + 65 < cLine := by have := hr.un; omega
/-- around a def's own body -/
theorem psE {P : Program} {w : World} {K : PySem.W.Frag} {mg : Str → Option Value} {base : Heap} {N : List Str} {q : Str} {sc : Scope} {f : Addr} {cd : Value} {A : Around} {outer : List Env} {s : Shared} {H : Hp} {E : XK} :
    Passes (L2.CX P w) (cxOf (L2.CX P w) P w K mg base N q sc f cd A outer s H E) E := passes_call (takes_of rfl rfl rfl rfl) (fun _ _ _ _ h => h)
theorem tkE {P : Program} {w : World} {K : PySem.W.Frag} {mg : Str → Option Value} {base : Heap} {N : List Str} {q : Str} {sc : Scope} {f : Addr} {cd : Value} {A : Around} {outer : List Env} {s : Shared} {H : Hp} {E : XK} :
    Takes (cxOf (L2.CX P w) P w K mg base N q sc f cd A outer s H E) (fun cls d _ H => E cls d H) := takes_of rfl rfl rfl rfl
theorem poE {P : Program} {w : World} {K : PySem.W.Frag} {mg : Str → Option Value} {base : Heap} {N : List Str} {q : Str} {sc : Scope} {f : Addr} {cd : Value} {A : Around} {outer : List Env} {s : Shared} {H : Hp} {E : XK} :
    PassesOwn (model P w) (cxOf (L2.CX P w) P w K mg base N q sc f cd A outer s H E).A (cxOf (L2.CX P w) P w K mg base N q sc f cd A outer s H E).env (cxOf (L2.CX P w) P w K mg base N q sc f cd A outer s H E).xe :=
  passes_of (X := cxOf (L2.CX P w) P w K mg base N q sc f cd A outer s H E) rfl
/-! ### the hand's items -/
def handM (k : Int) : FE := fun _ h => opt (atI h k) h
theorem de_hand {i : Nat} {k : Int} {j : Nat} {p2 : Pos} (hv : PE X a (tVar i)) (hi : hs.ix = some i) : DE X hs ω E (.Subscript a (.Constant (.int k) j p2) pos) (handM k) := pe_imp (pe_ix ix_list hv pe_int (fun _ _ => rfl)) fun σ H Q hq => by
  obtain ⟨R, O, ha, e, h, rel, hp⟩ := hq
  obtain ⟨d, e1, q⟩ := pr_opt hp
  obtain ⟨_, ad, e2, e3⟩ := rel.hand i hi
  subst e2
  obtain ⟨_, xs, g1, g2⟩ := rel.g.hnd ad rfl
  obtain ⟨v, e4, e5⟩ := atI_dds g2 e1
  exact ⟨.ref ad, e3, ad, xs, k, v, rfl, rfl, .inl (.inl g1), e4, pr_ok q rel v e5⟩
def handS (k : Int) (f : FE) : FS := fun e h => (f e h).bindS fun d h1 => match ixN h1.length k with
  | some j => .nx e (h1.set j d)
  | none => .no
theorem ds_hand {i : Nat} {k : Int} {j : Nat} {p2 p3 : Pos} (hv : PE X a (tVar i)) (hi : hs.ix = some i) (h1 : DE X hs ω E e fe) (hsw : swapsWithSole [.Subscript a (.Constant (.int k) j p2) p3] e pos.line X.env = pure false := by rfl) (hw : swappedStores [.Subscript a (.Constant (.int k) j p2) p3] e X.env = pure none := by rfl)
    (ha1 : (assignEach [.Subscript a (.Constant (.int k) j p2) p3] X.env).map (·.2) = [assign (.Subscript a (.Constant (.int k) j p2) p3) X.env] := by rfl)
    (has : ∀ v, assign (.Subscript a (.Constant (.int k) j p2) p3) X.env v = (do
      let ov ← holding [v] (eval a X.env)
      let iv ← holding [v, ov] (eval (.Constant (.int k) j p2) X.env)
      standAt p3
      holding [v, ov, iv] (setItem ov iv v)
      release [v, ov, iv] []) := by intro _; rfl) : DS X hs ω ω ωl E (.Assign [.Subscript a (.Constant (.int k) j p2) p3] e pos) (handS k fe) :=
  ps_imp (ps_asg h1 (pg_sub hv pe_int set_list has) hsw hw ha1) fun Dn σ H hq => by
  obtain ⟨R, O, ha, en, h, rel, hp⟩ := hq
  refine ⟨R, O, ha, en, h, rel, ps_bind hp fun d h1 H1 O1 s1 rel1 hp1 v dv => ?_⟩
  obtain ⟨_, ad, e2, e3⟩ := rel1.hand i hi
  subst e2
  obtain ⟨gR, xs, g1, g2⟩ := rel1.g.hnd ad rfl
  have hl := g2.length
  refine ⟨.ref ad, e3, ?_⟩
  cases hj : ixN h1.length k with
  | none => simp only [hj] at hp1; exact hp1.elim
  | some m =>
    simp only [hj] at hp1
    refine ⟨ad, xs, k, m, rfl, rfl, g1, by rw [hl]; exact hj, ?_⟩
    have hO : O1 ad := rel1.g.sub ad gR
    have kk : ∀ b, O1 b → b ≠ ad → upd H1 ad (.lst (xs.set m v)) b = H1 b := fun b _ n => upd_ne n
    have xx : XN (Cut O1 H1) (Cut O1 (upd H1 ad (.lst (xs.set m v)))) := by rw [cut_owned hO]; exact XN.refl _
    have tt : LamX.Tabs hs.tabs H1 → LamX.Tabs hs.tabs (upd H1 ad (.lst (xs.set m v))) := fun t => tabs_upd g1 ⟨fun _ z => (by cases z), fun _ z => (by cases z)⟩ t
    refine hp1 σ _ O1 ⟨xx, fun b r n => upd_ne fun z => n (by rw [z]), tt⟩ (rel1.callH kk xx upd_same (by rw [cut_owned hO]; exact g2.set m dv) tt)
/-! ### words: what a call of a lambda raises -/
def wordM (ω : List Nat) (wf : Ex → Option D) (f : FE) : FE := fun e h => match f (wipeE e ω) h with
  | .ok _ h' => .ok (.str "let") h'
  | .ex c h' => opt (wf c) h'
  | .no => .no
/-- later: all but the tables stays, the tables tell what they told -/
structure XT (T : List (Addr × Str)) (H H' : Hp) : Prop where
  x : XN H H'
  t : LamX.Tabs T H → LamX.Tabs T H'
theorem XT.refl {T : List (Addr × Str)} (H : Hp) : XT T H H := ⟨XN.refl _, fun h => h⟩
theorem XT.trans {T : List (Addr × Str)} {A B C : Hp} (a : XT T A B) (b : XT T B C) : XT T A C := ⟨a.x.trans b.x, fun h => b.t (a.t h)⟩
theorem Grow.xt {T : List (Addr × Str)} {H H' : Hp} (g : Grow H H') : XT T H H' := ⟨g.xn, fun t => t.ext g⟩
/-- what the def that is handed the lambda makes of it: of an answer "let", of an exception its word -/
def TTw (K : PySem.W.Frag) (mg : Str → Option Value) (T : List (Addr × Str)) (wf : Ex → Option D) : (XK → Hp → VK → Prop) → Hp → VK → Prop := fun tl H Q =>
  tl (fun cls dd H' => LamX.Tabs T H' ∧ ∃ c d, wf c = some d ∧ ExR mg c cls dd H' ∧ ∀ v H'', XT T H' H'' → DD K H'' v d → (∀ G, DD K G v d) → Q v H'') H (fun _ H' => Q (.str "let") H')
theorem Rel.extn {K : PySem.W.Frag} {R O : Addr → Prop} {ha : Option Addr} {σ : L2.St} {H H1 : Hp} {en : En} {h : List D} (r : Rel K R O ha hs ω σ H en h) (x : LamX.ExtN H H1) (t : LamX.Tabs hs.tabs H1) : Rel K R O ha hs ω σ H1 en h :=
  have k : ∀ a, O a → H1 a = H a := fun a o => by
    obtain ⟨u, e1, n⟩ := r.g.dm a o
    rw [e1]; exact x a u e1 n
  have xx : XN (Cut O H) (Cut O H1) := fun a o h n => by
    obtain ⟨n1, e1⟩ := cut_some h
    rw [cut_out n1]; exact x a o e1 n
  { g := ⟨r.g.sub, fun a o => (r.g.dm a o).eq (k a o), fun a z => by
      obtain ⟨y, xs, e1, e2⟩ := r.g.hnd a z
      exact ⟨y, xs, by rw [k a (r.g.sub a y)]; exact e1, dds_mono xx e2⟩⟩
    val := fun i d a b c => by
      obtain ⟨v, e1, e2⟩ := r.val i d a b c
      exact ⟨v, e1, dd_mono xx e2⟩
    own := fun i hi => by
      obtain ⟨a, o, d, e1, e2, e3, e4, e5, e6⟩ := r.own i hi
      exact ⟨a, o, d, e1, e2, e3, e4, by rw [k a e3]; exact e5, e6.mono xx⟩
    inj := r.inj
    hand := r.hand
    len := r.len
    tb := t }
section
variable {K : PySem.W.Frag} {mg : Str → Option Value} {R O O1 : Addr → Prop} {ha : Option Addr} {σ : L2.St} {H H1 H2 : Hp} {en : En} {h h' : List D}
theorem xt_step (g : RelG K R O ha H h) (x : XT hs.tabs H H1) : Step hs.tabs R ha O H O H1 := ⟨fun a o q n => by
    obtain ⟨n1, e1⟩ := cut_some q
    rw [cut_out n1]; exact x.x a o e1 n, fun a r _ => by
    obtain ⟨u, e1, n⟩ := g.dm a (g.sub a r)
    rw [e1]; exact x.x a u e1 n, x.t⟩
/-- everything owned is kept from the lambda's body -/
theorem Rel.shut (r : Rel K R O ha hs ω σ H en h) : Rel K O O ha hs [] σ H (wipeE en ω) h where
  g := ⟨fun _ z => z, r.g.dm, fun a z => ⟨r.g.sub a (r.g.hnd a z).1, (r.g.hnd a z).2⟩⟩
  val := fun i d h1 h2 h3 => by
    obtain ⟨h4, hi⟩ := wipeE_some h3
    exact r.val i d hi h2 h4
  own := fun _ z => by cases z
  inj := fun _ z => by cases z
  hand := fun i hi => ⟨fun z => (by cases z), (r.hand i hi).2⟩
  len := by rw [wipeE_length]; exact r.len
  tb := r.tb
theorem Rel.reopen (r : Rel K R O ha hs ω σ H en h) (s : Step hs.tabs O ha O H O1 H1) (g : RelG K O O1 ha H1 h') : Rel K R O1 ha hs ω σ H1 en h' where
  g := g.weakR r.g.sub fun a z => (r.g.hnd a z).1
  val := fun i d a b c => by
    obtain ⟨v, e1, e2⟩ := r.val i d a b c
    exact ⟨v, e1, s.dd e2⟩
  own := fun i hi => by
    obtain ⟨a, o, d, e1, e2, e3, e4, e5, e6⟩ := r.own i hi
    exact ⟨a, o, d, e1, e2, g.sub a e3, e4, (s.keep a e3 fun z => e4 (r.g.hnd a z).1).trans e5, e6.mono s.ex⟩
  inj := r.inj
  hand := r.hand
  len := r.len
  tb := s.tabs r.tb
end
theorem word_te {wf : Ex → Option D} {fb : FE} (σ : L2.St) (H : Hp) (Q : VK) (hq : teD X.K X.mg hs ω E (wordM ω wf fb) σ H Q) : LamX.tLam hs.tabs (TTw X.K X.mg hs.tabs wf) (fun E => teD X.K X.mg hs [] E fb) σ H Q := by
  obtain ⟨R, O, ha, e, h, rel, hp⟩ := hq
  refine ⟨rel.tb, fun H1 xn t1 => ?_⟩
  have xt : XT hs.tabs H H1 := ⟨xn, fun _ => t1⟩
  have st1 : Step hs.tabs R ha O H O H1 := xt_step rel.g xt
  have rel1 : Rel X.K R O ha hs ω σ H1 e h := rel.extn xn t1
  refine ⟨O, O, ha, wipeE e ω, h, rel1.shut, ?_⟩
  unfold wordM at hp
  cases hf : fb (wipeE e ω) h with
  | no => rw [hf] at hp; exact hp.elim
  | ok d h' =>
    rw [hf] at hp
    intro H2 O2 s2 rel2 v dv
    exact hp H2 O2 (st1.trans (s2.weakR rel1.g.sub)) (rel1.reopen s2 rel2.g) (.str "let") (.str _)
  | ex c h' =>
    rw [hf] at hp
    intro cls dd H2 O2 s2 g2 x
    obtain ⟨w, e1, hp⟩ := pr_opt hp
    refine ⟨s2.tabs t1, c, w, e1, x, fun v H3 x3 _ dG => ?_⟩
    have r2 := rel1.reopen s2 g2
    exact hp H3 O2 ((st1.trans (s2.weakR rel1.g.sub)).trans (xt_step r2.g x3)) (r2.extn x3.x (x3.t r2.tb)) v (dG _)
section
variable {T : List (Addr × Str)}
/-- _law_word(lambda: body) -/
theorem de_word {wf : Ex → Option D} {fb : FE} {x a : Str} {g c P : Addr} {k : Nat} {pg : Arguments} {bg : List Stmt} {sg : Scope} {dV kV doc pm cdv ct oc : Value} {an od : Option Addr} {osl : Array (Option Value)} {Ng : List Str}
    {params : Arguments} {body : Expr} {scope : Scope} {p lpos pos : Pos} (hg : Gl X x) (hm : X.mg x = some (.ref g)) (hk : PySem.W.keepIn X.K (.ref g) = true)
    (lk : X.K.lookup g = some ⟨oc, od, .func (PySem.W.fnOf x x pg bg sg dV kV doc pm an cdv ct), osl⟩) (hcg : PySem.W.codeIn X.K cdv x = true) (hb : L2.Binds X.K (PySem.W.fnOf x x pg bg sg dV kV doc pm an cdv ct) [a] []) (Sg : FnScope Ng [a] sg) (hNg : Ng[0]? = some a) (hva : Vis sg a)
    (hG : LamX.GivesTo X Ng x sg g cdv bg a (X.env.qual ++ "<lambda>") (TTw X.K X.mg hs.tabs wf))
    (TB : LamX.TabB X.base X.mg c P) (hcode : X.env.code = .ref c) (hmT : (P, X.env.qual ++ "<lambda>") ∈ hs.tabs) (hu : ∀ p ∈ hs.tabs, p.1 = P → p.2 = X.env.qual ++ "<lambda>") (hr : Room (k + 2) X.A) (L : LamX.LamS X.env.scope scope) (hdef : defaultsOf params X.env = ([], []))
    (hbind : ∀ (q : Str) (cl : List (Str × Addr)) (pm cv ctv : Value), bindArgs (PySem.W.kla_fn "<lambda>" q params body scope cl pm cv ctv) ⟨[], []⟩ = pure [])
    (hbody : ∀ (A : Around) (outer : List Env) (s : Shared) (H : Hp) (E : XK) (f c' : Addr), Room k (A.deeper (LamX.lamEnv X scope s.heap.objs.size f c')) → DE (LamX.lamCx X A outer s H E scope f c') hs [] E body fb)
    (hdb : (x == ("__debug__" : Str)) = false := by decide) (hd : (a == ("__debug__" : Str)) = false := by decide) (hcd : (a == ("__classdict__" : Str)) = false := by decide) :
    DE X hs ω E (.Call (.Name x p) [.Lambda params body scope lpos] [] pos) (wordM ω wf fb) :=
  pe_imp (LamX.pe_lamcall hg hm hk lk hcg hb Sg hNg hva hG TB hcode hmT hu hr L hdef hbind hbody hdb hd hcd) word_te
end
end Sm


set_option maxRecDepth 100000
set_option maxHeartbeats 4000000
/-! Sim layer, part L: several except clauses, each with a name. -/
namespace Sm
open PySem PySem.Spec PyProof.Rows L2
abbrev TSx := Addr → Value → Option Addr → TS
/-- the ends of a suite whose name (slot i) is taken away behind it -/
def EndN (i : Nat) (D : Ends) : Ends := { nx := fun σ H => D.nx (σ.set i none) H, rt := D.rt, bk := fun σ H => D.bk (σ.set i none) H, ct := fun σ H => D.ct (σ.set i none) H }
def wNm (K : PySem.W.Frag) (i : Nat) (Wo : WX) (D : Ends) : List (Value × TSx) → WX
  | [] => Wo
  | (c, t) :: r => fun cls d σ H => ∃ b, PySem.W.exmOne K cls c = some b ∧ (b = true → ∀ a, H a = none → t a cls d (EndN i D) (σ.set i (some (.ref a))) H) ∧ (b = false → wNm K i Wo D r cls d σ H)
inductive NmOk (X : Cx) (n : Str) : List ExceptHandler → List (Value × TSx) → Prop
  | nil : NmOk X n [] []
  | cons {x : Str} {c : Value} {t : TSx} {b0 : Stmt} {bs : List Stmt} {p1 p2 : Pos} {hl : List ExceptHandler} {l : List (Value × TSx)} (hc : Names X x c)
      (hb : ∀ (a : Addr) (oe : Obj) (cls : Value) (d : Option Addr) (pn : List (Addr × Obj)), Zc cls d oe → (∃ vs, oe.data = .fields vs) → PSs (X.suite a ((a, oe) :: pn)) (b0 :: bs) (t a cls d)) (r : NmOk X n hl l) :
      NmOk X n (.ExceptHandler (some (.Name x p1)) (some n) (b0 :: bs) p2 :: hl) ((c, t) :: l)
section
variable {X : Cx} {n : Str} {i : Nat} {bd : List Stmt} {hd0 : ExceptHandler} {hl : List ExceptHandler} {l : List (Value × TSx)} {ps : Pos} {tb : WX → TS} {Wo : WX}
theorem ps_try_named (e1 : X.stack = X.env :: X.outer) (e2 : X.env.frame = some X.env.locals) (nd : X.N.Nodup) (gi : X.N[i]? = some n) (gl : X.env.kindOf n = some .local) (tko : Takes X Wo)
    (hbd : ∀ (W : WX) (pn : List (Addr × Obj)) (xe : Value → Shared → Prop), Takes (X.tr pn xe) W → PassesOwn (model X.prog X.w) X.A X.env xe → PSs (X.tr pn xe) bd (tb W))
    (hh : NmOk X n (hd0 :: hl) l) : PS X (.Try bd (hd0 :: hl) [] [] ps) (fun D σ H => tb (fun cls d τ G => τ.length = X.N.length → wNm X.K i Wo D l cls d τ G) D σ H) := by
  refine ⟨fun pins s σ H D I h => ?_⟩
  have okX := I.ok
  have fr : X.A.frames = some (X.env :: X.outer) := by rw [okX.frames, e1]
  have lo : Loc X.env.scope n := .inl gl
  refine wpAny_Try_except (wpAny_mono ((hbd (fun cls d τ G => τ.length = X.N.length → wNm X.K i Wo D l cls d τ G) (X.pn ++ pins) (fun e r1 => wpAny (model X.prog X.w) X.A (noteFrame e X.env) (fun _ r2 => wpAny (model X.prog X.w) X.A (setFlight e none) (fun _ r3 =>
    wpAny (model X.prog X.w) X.A (handleBy e X.env (hd0 :: hl)) (SP X pins D) X.xe r3) X.xe r2) X.xe r1) (fun u r' xx => ?_) PassesOwn.looking).run [] s σ H D (I.toTry _) h) (fun f r1 y => ?_) (fun _ _ y => y))
  · obtain ⟨a, B, q0, pl, σ1, H1, cls, d, rfl, J0, n1, n2, n3, n4, n5, n6, w0⟩ := xx
    have w := w0 J0.len
    have J : Inv X pins σ1 H1 q0 := J0.ofTry okX
    rw [e1] at n3
    show wpAny (model X.prog X.w) X.A (noteFrame (.ref a) X.env) _ _ _
    refine Sky.land Zc.steady fr e2 n3 fun g1 f1 u1 => ?_
    have Ja : Inv X pins σ1 H1 { r' with heap := g1 } := J.landed n1 f1.1 (n2.trans u1) n5 n6
    obtain ⟨o1, w1, m1, z1, x1⟩ := f1.there
    have out : a ∉ frs (X.env :: X.outer) := fun hm => by
      obtain ⟨_, oo, m2, nn⟩ := f1.2.2.1.mem hm
      rw [m1] at m2
      cases m2
      exact nn _ x1
    have ne1 : a ≠ X.env.locals := fun z => out (List.mem_filterMap.mpr ⟨X.env, List.mem_cons_self, by rw [e2, z]⟩)
    have ne2 : a ∉ X.fs := fun hm => by
      obtain ⟨ee, m3, m4⟩ := List.mem_filterMap.mp hm
      exact out (List.mem_filterMap.mpr ⟨ee, List.mem_cons_of_mem _ m3, m4⟩)
    have Sa := Ja.suite m1 x1 n4 ne1 ne2
    have LT : PySem.W.Looks (model X.prog X.w) g1 (typeOf (.ref a)) cls := fun A Q E s k q => wpAny_typeOf_ref (k _ _ m1) (by rw [z1.1]; exact q)
    have main : ∀ {hs2 : List ExceptHandler} {l2 : List (Value × TSx)}, NmOk X n hs2 l2 → wNm X.K i Wo D l2 cls d σ1 H1 →
        wpAny (model X.prog X.w) X.A (handleBy (.ref a) X.env hs2) (SP X pins D) X.xe { r' with heap := g1 } := by
      intro hs2 l2 hk
      induction hk with
      | nil =>
        intro w
        refine wpAny_handleBy_nil ?_
        obtain ⟨_, _, _, oe, vs, T, oT, _, he, _, hd, hv1, _⟩ := id f1
        unfold PySem.passOn
        refine wpAny_bind (wpAny_field he hd hv1 ?_)
        rw [if_neg (by simp)]
        have done : wpAny (model X.prog X.w) X.A (setFlight (.ref a) X.env.frame) (fun _ s4 => wpAny (model X.prog X.w) X.A (throw (.ref a) : Sem Flow) (SP X pins D) X.xe s4) X.xe { r' with heap := g1 } := by
          rw [e2]
          refine HandSPX.setFlight_upZ f1 fun g2 y2 u2 => wpAny_throw (tko _ _ ?_)
          exact ⟨a, B, q0, pins, σ1, H1, cls, d, rfl, J, n1, (n2.trans u1).trans u2, .inr (.inr (by rw [e1]; exact y2)), n4, n5, n6, w⟩
        first
          | exact wpAny_bind (wpAny_pure (wpAny_bind done))
          | exact wpAny_bind done
      | @cons x c t b0 bs p1 p2 h2 l3 hc hsu r ih =>
        intro w
        obtain ⟨b, wb, wy, wn⟩ := w
        refine wpAny_handleBy_cons (codeAny_handlers_test ?_) (fun q => by cases q)
        have seen : ∀ {Q E : Value → Shared → Prop}, Q c { r' with heap := g1 } → wpAny (model X.prog X.w) (X.A.mark (some (.ref a))) (eval (.Name x p1) X.env) Q E { r' with heap := g1 } := fun {Q E} q => by
          obtain ⟨y1, y2, y3 | ⟨y3, y4, y5⟩⟩ := hc
          · exact ld_glob (X := X.suite a ((a, o1) :: (X.pn ++ pins))) Sa y1 y3 q y2
          · exact ld_blt (X := X.suite a ((a, o1) :: (X.pn ++ pins))) Sa y1 y3 y4 q y5 y2
        refine seen ((PySem.W.exm_one (M := model X.prog X.w) Ja.kIn LT wb).here ?_)
        cases b with
        | false => exact ih (wn rfl)
        | true =>
          refine codeAny_handlers_suite_as (HandSPX.lands_againZ f1 fun g2 f2 u2 => ?_)
          have Jb : Inv X pins σ1 H1 { r' with heap := g2 } := J.landed n1 f2.1 ((n2.trans u1).trans u2) n5 n6
          obtain ⟨o2, w2, m2, z2, x2⟩ := f2.there
          refine store_ok (X := X.suite a ((a, o2) :: (X.pn ++ pins))) (v := .ref a) (Jb.suite m2 x2 n4 ne1 ne2) nd gi lo rfl (fun r5 S5 => ?_) (.inr gl)
          refine wpAny_mono ((hsu a o2 cls d (X.pn ++ pins) z2 ⟨_, x2⟩).run [] r5 _ H1 _ S5 (wy rfl a n4)) (fun f r6 y => ?_) (fun _ _ z => False.elim z)
          have fin : ∀ {τ : L2.St} {G : Hp} {Q : Shared → Prop}, Inv (X.suite a ((a, o2) :: (X.pn ++ pins))) [] τ G r6 → (∀ r7, Inv X pins (τ.set i none) G r7 → Q r7) →
              wpAny (model X.prog X.w) X.A (do bindName X.env n .none; unbindBehindTheSuite X.env n p2) (fun _ r7 => Q r7) X.xe r6 := fun z hq => gone_ok (z.unsuite okX) nd gi gl hq
          cases f with
          | ret u =>
            obtain ⟨v6, τ, G, y1, y2, y3⟩ := y
            exact fin y1 fun _ z => ⟨_, _, _, z, y2, y3⟩
          | next =>
            obtain ⟨τ, G, y1, y2⟩ := y
            exact fin y1 fun _ z => ⟨_, _, z, y2⟩
          | brk =>
            obtain ⟨τ, G, y1, y2⟩ := y
            exact fin y1 fun _ z => ⟨_, _, z, y2⟩
          | cont =>
            obtain ⟨τ, G, y1, y2⟩ := y
            exact fin y1 fun _ z => ⟨_, _, z, y2⟩
    exact main hh w
  · cases f with
    | ret u =>
      obtain ⟨v, τ, G, y1, y2, y3⟩ := y
      exact ⟨v, τ, G, y1.ofTry okX, y2, y3⟩
    | next =>
      obtain ⟨τ, G, y1, y2⟩ := y
      exact wpAny_execs_nil ⟨τ, G, y1.ofTry okX, y2⟩
    | brk =>
      obtain ⟨τ, G, y1, y2⟩ := y
      exact ⟨τ, G, y1.ofTry okX, y2⟩
    | cont =>
      obtain ⟨τ, G, y1, y2⟩ := y
      exact ⟨τ, G, y1.ofTry okX, y2⟩
end
end Sm


set_option maxRecDepth 100000
set_option maxHeartbeats 4000000
/-! Sim layer, part M: l.count(x), l.index(x), the word of what a lambda raises. -/
namespace Sm
open PySem PySem.Spec PyProof.Rows L2
section
variable {X : Cx}
/-- r, a method's call with one argument, answers as g does -/
def MtD (K : PySem.W.Frag) (r : V → List V → Hp → VK → Prop) (g : D → D → Option D) : Prop := ∀ (H : Hp) (x y : V) (a b d : D) (G : Hp) (Q : VK), (∀ a o, G a = some o → H a = some o) → DD K G x a → DD K G y b → g a b = some d →
  (∀ v H', Grow H H' → (∀ G', XN G G' → (∀ p, H p = none → G' p = H' p) → DD K G' v d) → Q v H') → r x [y] H Q
def rCntD (K : PySem.W.Frag) : V → List V → Hp → VK → Prop := fun x xs H Q => ∃ (a : Addr) (y : V) (d : PyData) (ds : List PyData), x = .ref a ∧ xs = [y] ∧ Dp K H (.ref a) (.list ds) ∧ Dp K H y d ∧ SeqAt.shaped (.list ds) = true ∧ SeqAt.shaped d = true ∧ Q (.int (ds.countP fun z => PyData.eqv z d : Nat)) H
theorem mt_cntD (hu : X.A.units + 65 < cLine) : MtR X "list.count" (rCntD X.K) := by
  intro pins s σ H x xs v us Q I rx rxs h
  obtain ⟨a, y, d, ds, rfl, rfl, hl, hy, sl, sd, q⟩ := h
  cases rx
  obtain ⟨u, rfl, ry⟩ := rxs.one
  obtain ⟨bs, r1⟩ := Dp.reads I d y u hy ry
  have hxs : PyData.canLayAll0 ds = true := SeqAt.canLay_of_shaped sl
  cases hl with
  | lst hs ha =>
    obtain ⟨its, rv, ⟨⟨cls, dd, data, sls⟩, n, ho, hc, hdn, hdt⟩, hlen⟩ := I.list hs
    simp only at hc hdt
    subst hc hdt
    obtain ⟨as, h4⟩ := Dp.readsAll I ds _ its ha rv
    have hmap : its.map (SeqAt.readOf s.heap) = ds := SeqAt.readsAll_map ds its as hxs h4
    refine call_meets PySem.F.slot_list_count ⟨_, ho, rfl⟩ PySem.F.entry_list_count (PySem.F.args_list_count_2 _ _)
      (SeqAt.list_countAt a its.toArray n dd sls u (fun u => PyData.eqv (SeqAt.readOf s.heap u) d)) ⟨ho, SeqAt.items_eqAt (vs := its.toArray) (show ReadsAll s.heap its.toArray.toList ds as from h4) r1 hxs (SeqAt.canLay_of_shaped sd) (room_in_shaped sd hu), ?_⟩
    refine ⟨.int (ds.countP fun z => PyData.eqv z d : Nat), H, I.tok _, ⟨s.toks, ?_⟩, q⟩
    have e : its.countP (fun u => PyData.eqv (SeqAt.readOf s.heap u) d) = ds.countP fun z => PyData.eqv z d := by rw [← hmap, List.countP_map]; rfl
    show Value.int ((its.toArray.toList.countP _ : Nat) : Int) _ = _
    rw [List.toList_toArray, e]
def cntL : D → D → Option D
  | .list ds, d => if okE (.list ds) && okE d then some (.int (ds.countP fun z => PyData.eqv z d : Nat)) else none
  | _, _ => none
def idxL : D → D → Option D
  | .list ds, d => if okE (.list ds) && okE d then (ds.findIdx? fun z => PyData.eqv z d).map fun j => .int (j : Nat) else none
  | _, _ => none
theorem md_cnt {K : PySem.W.Frag} : MtD K (rCntD K) cntL := by
  intro H x y a b d G Q s hx hy e q
  unfold cntL at e
  split at e
  · split at e
    · rename_i hl
      cases e
      rw [Bool.and_eq_true] at hl
      have h1 := dd_dp s hx (nd_sh hl.1)
      obtain ⟨p, xs, rfl, g1, g2⟩ := dd_list hx
      exact ⟨p, y, _, _, rfl, rfl, h1, dd_dp s hy (nd_sh hl.2), hl.1, hl.2, q _ H (Grow.refl H) fun _ _ _ => .int _⟩
    · cases e
  · cases e
theorem md_idx {K : PySem.W.Frag} : MtD K (rIndexD K) idxL := by
  intro H x y a b d G Q s hx hy e q
  unfold idxL at e
  split at e
  · split at e
    · rename_i hl
      obtain ⟨j, h3, rfl⟩ := map_some' e
      rw [Bool.and_eq_true] at hl
      obtain ⟨i1, i2, i3⟩ := List.findIdx?_eq_some_iff_getElem.mp h3
      have h1 := dd_dp s hx (nd_sh hl.1)
      obtain ⟨p, xs, rfl, g1, g2⟩ := dd_list hx
      refine ⟨p, y, _, _, j, _, rfl, rfl, h1, dd_dp s hy (nd_sh hl.2), hl.1, hl.2, List.getElem?_eq_getElem i1, i2, fun m z hm hz => ?_, q _ H (Grow.refl H) fun _ _ _ => .int _⟩
      obtain ⟨k1, k2⟩ := List.getElem?_eq_some_iff.mp hz
      have := i3 m hm
      rw [k2] at this
      simpa using this
    · cases e
  · cases e
variable {hs : HS} {ω ω1 ω' ωl : List Nat} {E : XK} {e a b c o : Expr} {fe fa fb : FE} {pos apos : Pos} {st : Stmt} {rest : List Stmt} {f g : FS} {es : List Expr} {x : Str}
def mtM (t : D → Bool) (g : D → D → Option D) (fa fb : FE) : FE := fun e h => (fa e h).bind fun x h1 => if t x then (fb e h1).bind fun y h2 => opt (g x y) h2 else .no
def isLst : D → Bool
  | .list _ => true
  | _ => false
theorem tyV_list {K : PySem.W.Frag} {G H : Hp} {v : V} {d : D} (s : ∀ p o, G p = some o → H p = some o) (h : DD K G v d) (k : isLst d = true) : tyV K "list" v H := by
  cases h with
  | lst h1 _ => exact .inl ⟨rfl, _, .inl (.inl (s _ _ h1))⟩
  | _ => cases k
theorem de_mt {T id : String} {name : Str} {r : V → List V → Hp → VK → Prop} {t : D → Bool} {g : D → D → Option D} (pa : PlainAttrs T) (slot : Slot T name id) (hty : typeOf (.builtin id) = pure (.type "method_descriptor")) (hm : MtR X id r) (hr : MtD X.K r g)
    (hT : ∀ {G H : Hp} {v : V} {d : D}, (∀ p o, G p = some o → H p = some o) → DD X.K G v d → t d = true → tyV X.K T v H) (h1 : DE X hs ω E o fa) (h2 : DE X hs ω E b fb)
    (hbase : attributeBase o name X.env (eval o X.env) = eval o X.env := by rfl)
    (hfew : ((backTo pos (starEach [b] X.env)).all (fun x => !x.1) && (backToKw pos (keywordEach [] X.env)).all (fun x => x.1.isSome)
      && decide (([b] : List Expr).length + ([] : List Keyword).length + (if ([] : List Keyword).isEmpty then 0 else 1) < 30)) = true := by rfl)
    (hline : (apos.endLine == pos.line) = true := by rfl) (hs1 : starEach [b] X.env = (false, eval b X.env) :: starEach [] X.env := by rfl) (hplain : (backTo pos (starEach [] X.env)).any (·.1) = false := by rfl) :
    DE X hs ω E (.Call (.Attribute o name apos) [b] [] pos) (mtM t g fa fb) := pe_imp (pe_bm pa slot hty hm h1 (pa_cons h2 pa_nil hs1) hbase hfew hline hs1 hplain) fun σ H Q hq => by
  obtain ⟨R, O, ha, e, h, rel, hp⟩ := hq
  refine ⟨R, O, ha, e, h, rel, pr_bind hp fun d1 h1 H1 O1 s1 rel1 hp1 v1 dv1 => ?_⟩
  split at hp1
  · rename_i ht
    refine ⟨hT cut_sub dv1 ht, R, O1, ha, e, h1, rel1, pr_bind hp1 fun d2 h2 H2 O2 s2 rel2 hp2 v2 dv2 => ?_⟩
    obtain ⟨d, e1, q⟩ := pr_opt hp2
    exact hr H2 v1 v2 d1 d2 d (Cut O2 H2) Q cut_sub (s2.dd dv1) dv2 e1 fun v H' gr hv => q H' O2 (rel2.step gr) (rel2.grow gr) v (hv _ (rel2.step gr).ex (new_cut rel2.g.dom))
  · exact hp1.elim
theorem de_cntL (hu : X.A.units + 65 < cLine) (h1 : DE X hs ω E o fa) (h2 : DE X hs ω E b fb) (hbase : attributeBase o "count" X.env (eval o X.env) = eval o X.env := by rfl)
    (hfew : ((backTo pos (starEach [b] X.env)).all (fun x => !x.1) && (backToKw pos (keywordEach [] X.env)).all (fun x => x.1.isSome)
      && decide (([b] : List Expr).length + ([] : List Keyword).length + (if ([] : List Keyword).isEmpty then 0 else 1) < 30)) = true := by rfl)
    (hline : (apos.endLine == pos.line) = true := by rfl) (hs1 : starEach [b] X.env = (false, eval b X.env) :: starEach [] X.env := by rfl) (hplain : (backTo pos (starEach [] X.env)).any (·.1) = false := by rfl) :
    DE X hs ω E (.Call (.Attribute o "count" apos) [b] [] pos) (mtM isLst cntL fa fb) := de_mt PySem.F.plainAttrs_list PySem.F.slot_list_count PySem.F.type_list_count (mt_cntD hu) md_cnt tyV_list h1 h2 hbase hfew hline hs1 hplain
theorem de_idxL (hu : X.A.units + 65 < cLine) (h1 : DE X hs ω E o fa) (h2 : DE X hs ω E b fb) (hbase : attributeBase o "index" X.env (eval o X.env) = eval o X.env := by rfl)
    (hfew : ((backTo pos (starEach [b] X.env)).all (fun x => !x.1) && (backToKw pos (keywordEach [] X.env)).all (fun x => x.1.isSome)
      && decide (([b] : List Expr).length + ([] : List Keyword).length + (if ([] : List Keyword).isEmpty then 0 else 1) < 30)) = true := by rfl)
    (hline : (apos.endLine == pos.line) = true := by rfl) (hs1 : starEach [b] X.env = (false, eval b X.env) :: starEach [] X.env := by rfl) (hplain : (backTo pos (starEach [] X.env)).any (·.1) = false := by rfl) :
    DE X hs ω E (.Call (.Attribute o "index" apos) [b] [] pos) (mtM isLst idxL fa fb) := de_mt PySem.F.plainAttrs_list PySem.F.slot_list_index PySem.F.type_list_index (mt_indexD hu) md_idx tyV_list h1 h2 hbase hfew hline hs1 hplain
end
end Sm


set_option maxRecDepth 100000
set_option maxHeartbeats 4000000
/-! Sim layer, part N: the word of what a lambda raises: try: call() / except TooMany as e: .. / except LoomError as e: flags .. -/
namespace Sm
open PySem PySem.Spec PyProof.Rows L2
section
variable {X : Cx} {a : Addr} {oe : Obj} {pn : List (Addr × Obj)} {i j : Nat} {e : Expr} {es : List Expr} {b : Bool} {bs cs : List Bool}
def tIs (i : Nat) (a : Addr) (b : Bool) : TE := fun σ H Q => σ[i]? = some (some (.ref a)) ∧ Q (.bl b) H
def tBs (i : Nat) (a : Addr) (bs : List Bool) : TA := fun σ H Q => σ[i]? = some (some (.ref a)) ∧ Q (bs.map V.bl) H
theorem pab_nil : PA X [] (tBs i a []) := pa_imp pa_nil fun σ H Q hq => hq.2
theorem pab_cons (h1 : PE X e (tIs i a b)) (h2 : PA X es (tBs i a bs)) (hst : starEach (e :: es) X.env = (false, eval e X.env) :: starEach es X.env := by rfl) : PA X (e :: es) (tBs i a (b :: bs)) :=
  pa_imp (pa_cons h1 h2 hst) fun σ H Q hq => ⟨hq.1, hq.1, hq.2⟩
theorem pe_isE {C A : Addr} {y n : Str} {p p1 p2 pos : Pos} (T : ExcC X.K C) (hz : Zc (.ref C) none oe) (hf : ∃ vs, oe.data = .fields vs) (hN : X.N[i]? = some n) (hv : Vis X.env.scope n) (hg : Gl X "isinstance") (hm : X.mg "isinstance" = none) (hgA : Gl X y) (hmA : X.mg y = some (.ref A))
    (hk : PySem.W.kitOne X.K (.ref C) (.ref A) = some b) (hd : (n == ("__debug__" : Str)) = false := by decide) (hcd : (n == ("__classdict__" : Str)) = false := by decide) (hdy : (y == ("__debug__" : Str)) = false := by decide)
    (he : starEach [.Name n p1, .Name y p2] X.env = (false, eval (.Name n p1) X.env) :: starEach [.Name y p2] X.env := by rfl) (he2 : starEach [.Name y p2] X.env = (false, eval (.Name y p2) X.env) :: starEach [] X.env := by rfl) (hpl : (backTo pos (starEach [.Name y p2] X.env)).any (·.1) = false := by rfl) :
    PE (X.suite a ((a, oe) :: pn)) (.Call (.Name "isinstance" p) [.Name n p1, .Name y p2] [] pos) (tIs i a b) :=
  pe_imp (pe_callB (X := X.suite a ((a, oe) :: pn)) (id := "isinstance") (call_isE T hz hf) hg hm boot_isinstance (pa_cons (pe_var (X := X.suite a ((a, oe) :: pn)) (i := i) hN hv hd hcd) (pa_cons (pe_glob (X := X.suite a ((a, oe) :: pn)) (v := .ref A) hgA hmA rfl hdy) pa_nil he2) he) (by decide) (by decide) he hpl) fun σ H Q hq =>
    ⟨.ref a, hq.1, .ref A, .ref A, b, rfl, fun u r => r, hk, hq.2⟩
/-- flags = [..] -/
def tFl (i j : Nat) (a : Addr) (bs : List Bool) : TS := fun D σ H => σ[i]? = some (some (.ref a)) ∧ ∀ p, H p = none → D.nx (σ.set j (some (.ref p))) (upd H p (.lst (bs.map V.bl)))
def tFl2 (i j : Nat) (a : Addr) (bs cs : List Bool) : TS := fun D σ H => σ[i]? = some (some (.ref a)) ∧ ∃ p, σ[j]? = some (some (.ref p)) ∧ H p = some (.lst (bs.map V.bl)) ∧ ∀ q H', Grow H H' → H' q = some (.lst ((bs ++ cs).map V.bl)) → D.nx (σ.set j (some (.ref q))) H'
variable {tg : Expr} {pos p1 p2 p3 : Pos} {x : Str}
theorem ps_fl (hps : ∀ te, PE X (.List es p1) te → PS X (.Assign [tg] (.List es p1) pos) (tAsg te (gName j))) (h : PA X es (tBs i a bs)) (hl : bs.length ≤ 1000 := by exact Nat.le_of_ble_eq_true rfl) : PS X (.Assign [tg] (.List es p1) pos) (tFl i j a bs) := ps_imp (hps _ (pe_lst h)) fun D σ H hq =>
  ⟨hq.1, by rw [List.length_map]; exact small_len hl, fun p hp => hq.2 p hp⟩
theorem ps_fl2 (hps : ∀ te, PE X (.BinOp (.Name x p3) .Add (.List es p1) p2) te → PS X (.Assign [tg] (.BinOp (.Name x p3) .Add (.List es p1) p2) pos) (tAsg te (gName j))) (hx : PE X (.Name x p3) (tVar j)) (h : PA X es (tBs i a cs)) (hl : bs.length + cs.length ≤ 1000 := by exact Nat.le_of_ble_eq_true rfl) :
    PS X (.Assign [tg] (.BinOp (.Name x p3) .Add (.List es p1) p2) pos) (tFl2 i j a bs cs) := ps_imp (hps _ (pe_op op_cat hx (pe_lst h))) fun D σ H hq => by
  obtain ⟨h1, p, h2, h3, h4⟩ := hq
  refine ⟨.ref p, h2, h1, by rw [List.length_map]; exact small_len (Nat.le_trans (Nat.le_add_left _ _) hl), fun q hq => ?_⟩
  have ne : p ≠ q := ne_of_none h3 hq
  refine ⟨p, q, _, _, rfl, rfl, by rw [upd_ne ne]; exact h3, upd_same, by rw [List.length_map, List.length_map]; exact small_len hl, fun r hr => ?_⟩
  have g1 : Grow H (upd H q (.lst (cs.map V.bl))) := Grow.new hq
  refine h4 r _ (g1.trans (Grow.new hr)) (by rw [upd_same, List.map_append])
end
/-! ### the def itself -/
/-- e.most, stored in slot 1 -/
def tMost (TM a : Addr) (cls : Value) (d : Option Addr) : TS := fun D σ H => cls = .ref TM ∧ σ[2]? = some (some (.ref a)) ∧ ∃ (dd : Addr) (fs : List (Str × V)) (v : V), d = some dd ∧ H dd = some (.xd fs) ∧ fs.lookup ("most" : Str) = some v ∧ D.nx (σ.set 1 (some v)) H
/-- from the error to its word -/
def tSu (T : List (Addr × Str)) (a : Addr) (n : Nat) (w : Str) : TS := fun D σ H => σ[2]? = some (some (.ref a)) ∧ σ.length = n ∧ LamX.Tabs T H ∧ ∀ σ' H', XT T H H' → σ'[1]? = some (some (.str w)) → D.nx σ' H'
theorem ps_most {X : Cx} {a TM : Addr} {oe : Obj} {cls : Value} {d : Option Addr} {pn : List (Addr × Obj)} {p1 p2 pos : Pos} {n : Str} {tg : Expr} (T : XfC X.K TM) (hno : PySem.W.findIn X.K (.ref TM) "most" = some none) (hz : Zc cls d oe) (hf : ∃ vs, oe.data = .fields vs)
    (hN : X.N[2]? = some n) (hv : Vis X.env.scope n) (hps : ∀ te, PE (X.suite a ((a, oe) :: pn)) (.Attribute (.Name n p1) "most" p2) te → PS (X.suite a ((a, oe) :: pn)) (.Assign [tg] (.Attribute (.Name n p1) "most" p2) pos) (tAsg te (gName 1)))
    (hd : (n == ("__debug__" : Str)) = false := by decide) (hcd : (n == ("__classdict__" : Str)) = false := by decide) (hb : attributeBase (.Name n p1) "most" X.env (eval (.Name n p1) X.env) = eval (.Name n p1) X.env := by rfl) :
    PS (X.suite a ((a, oe) :: pn)) (.Assign [tg] (.Attribute (.Name n p1) "most" p2) pos) (tMost TM a cls d) :=
  ps_imp (hps _ (pe_xf T hno hz hf (pe_var (X := X.suite a ((a, oe) :: pn)) (i := 2) hN hv hd hcd) hb)) fun D σ H hq => by
  obtain ⟨h1, h2, dd, fs, v, h3, h4, h5, h6⟩ := hq
  exact ⟨.ref a, h2, rfl, h1, dd, fs, v, h3, h4, h5, h6⟩
/-- the words that the errors get: the class' name, its address, the word -/
def wfT (tab : List (Str × Str)) (c : Ex) : Option D := match c.fld with
  | some (f, d) => if c.cls = "TooMany" ∧ f = "most" then some d else none
  | none => (tab.lookup c.cls).map .str
def wtab (tab : List (Str × Addr × Str)) : List (Str × Str) := tab.map fun p => (p.1, p.2.2)
theorem lookup_mem' {α β : Type} [BEq α] [LawfulBEq α] {l : List (α × β)} {k : α} {v : β} (h : l.lookup k = some v) : (k, v) ∈ l := by
  induction l with
  | nil => cases h
  | cons p l ih =>
    obtain ⟨k', v'⟩ := p
    rw [List.lookup_cons] at h
    cases hk : k == k' with
    | true =>
      rw [hk] at h
      cases h
      rw [eq_of_beq hk]
      exact List.mem_cons_self
    | false =>
      rw [hk] at h
      exact List.mem_cons_of_mem _ (ih h)
structure WordF (K : PySem.W.Frag) (mg : Str → Option Value) (TM LE : Addr) (tab : List (Str × Addr × Str)) : Prop where
  tm : mg "TooMany" = some (.ref TM)
  le : mg "LoomError" = some (.ref LE)
  tt : PySem.W.exmOne K (.ref TM) (.ref TM) = some true
  each : ∀ p ∈ tab, mg p.1 = some (.ref p.2.1) ∧ PySem.W.exmOne K (.ref p.2.1) (.ref TM) = some false ∧ PySem.W.exmOne K (.ref p.2.1) (.ref LE) = some true
theorem word_gives {X : Cx} {Ng : List Str} {x n q : Str} {sg : Scope} {g TM LE : Addr} {cdg : Value} {m j : Nat} {T : List (Addr × Str)} {tab : List (Str × Addr × Str)} {s1 b0 : Stmt} {bs : List Stmt} {p1 p2 p3 p4 p5 p6 p7 p8 p9 p10 p11 p12 p13 : Pos}
    (F : WordF X.K X.mg TM LE tab) (hN : Ng.Nodup) (hm : Ng.length = m + 1) (h0 : Ng[0]? = some ("call" : Str)) (h1 : Ng[1]? = some ("word" : Str)) (h2 : Ng[2]? = some n) (l1 : sg.names.lookup ("word" : Str) = some .local) (l2 : sg.names.lookup n = some .local)
    (g1 : sg.names.lookup ("TooMany" : Str) = some .globalImplicit) (g2 : sg.names.lookup ("LoomError" : Str) = some .globalImplicit)
    (hs1 : ∀ (s : Shared) (H : Hp) (a : Addr) (oe : Obj) (cls : Value) (d : Option Addr) (pn : List (Addr × Obj)), Zc cls d oe → (∃ vs, oe.data = .fields vs) →
      PS ((cxOf C8.CX0 X.prog X.w X.K X.mg X.base Ng x sg g cdg X.A X.stack s H C8.E0).nox.suite a ((a, oe) :: pn)) s1 (tMost TM a cls d))
    (hs2 : ∀ (s : Shared) (H : Hp) (a : Addr) (oe : Obj) (C : Addr) (w : Str) (pn : List (Addr × Obj)), (C, w) ∈ tab.map (·.2) → Zc (.ref C) none oe → (∃ vs, oe.data = .fields vs) →
      PSs ((cxOf C8.CX0 X.prog X.w X.K X.mg X.base Ng x sg g cdg X.A X.stack s H C8.E0).nox.suite a ((a, oe) :: pn)) (b0 :: bs) (tSu T a (m + 1) w)) (hdn : (n == ("__debug__" : Str)) = false := by decide) :
    LamX.GivesTo X Ng x sg g cdg [.Assign [.Name "word" p1] (.Constant (.str "let") j p2) p3, .Try [.Expr (.Call (.Name "call" p4) [] [] p5) p6] [.ExceptHandler (some (.Name "TooMany" p7)) (some n) [s1] p8, .ExceptHandler (some (.Name "LoomError" p9)) (some n) (b0 :: bs) p10] [] [] p11, .Return (some (.Name "word" p12)) p13]
      "call" q (TTw X.K X.mg T (wfT (wtab tab))) := by
  intro f c' s H Q tl act hc h
  let Y := (cxOf C8.CX0 X.prog X.w X.K X.mg X.base Ng x sg g cdg X.A X.stack s H C8.E0).nox
  have v1 : Vis Y.env.scope "word" := .inl l1
  have v2 : Vis Y.env.scope n := .inl l2
  have k1 : Loc Y.env.scope "word" := .inl l1
  let Ech : XK := fun cls dd H' => LamX.Tabs T H' ∧ ∃ c d, wfT (wtab tab) c = some d ∧ ExR X.mg c cls dd H' ∧ ∀ v H'', XT T H' H'' → DD X.K H'' v d → (∀ G, DD X.K G v d) → Q v H''
  have try_ := ps_try_named (X := Y) (n := n) (i := 2) (Wo := fun _ _ _ _ => False) (ps := p11) (bd := [.Expr (.Call (.Name "call" p4) [] [] p5) p6])
    (tb := fun W D σ H => ∃ Ech : XK, (∀ cls d σ' H', Ech cls d H' → W cls d σ' H') ∧ σ[0]? = some (some (.ref f)) ∧ H c' = some (LamX.CodeO c' q) ∧ tl Ech H (fun _ H' => D.nx σ H'))
    rfl rfl hN h2 l2 LamX.takes0 (fun W pn xe tk _ => ?_) (.cons (c := .ref TM) (t := fun a cls d => tMost TM a cls d) (x := "TooMany") (p1 := p7) (p2 := p8) ⟨g1, by decide, .inl F.tm⟩ (fun a oe cls d pn hz hf => pss_one (hs1 s H a oe cls d pn hz hf))
      (.cons (c := .ref LE) (t := fun a cls d => fun D σ H => ∃ C w, (C, w) ∈ tab.map (·.2) ∧ cls = .ref C ∧ d = none ∧ tSu T a (m + 1) w D σ H) (x := "LoomError") (b0 := b0) (bs := bs) (p1 := p9) (p2 := p10) ⟨g2, by decide, .inl F.le⟩ (fun a oe cls d pn hz hf => ⟨fun pins s' σ' H' D I hq => ?_⟩) .nil))
  · refine ⟨_, pss_cons (ps_asg (X := Y) (pos := p3) pe_str (pg_name (i := 1) hN h1 k1 (.inr l1)) rfl rfl rfl) (pss_cons try_ (pss_one (ps_ret (pe_var (X := Y) (i := 1) h1 v1)))), ?_⟩
    have lst : (L2.start Ng [V.ref f]).length = m + 1 := by
      unfold L2.start
      rw [List.length_append, List.length_map, List.length_replicate, hm]
      show 1 + (m + 1 - 1) = m + 1
      omega
    have hm1 : 1 < m + 1 := by
      have := (List.getElem?_eq_some_iff.mp h1).1
      omega
    have st1 : ((L2.start Ng [V.ref f]).set 1 (some (.str "let")))[1]? = some (some (.str "let")) := List.getElem?_set_self (by rw [lst]; exact hm1)
    refine ⟨Ech, fun cls d σ' H' hx hl => ?_, ?_, hc, ?_⟩
    · obtain ⟨hT, c, w, e1, ⟨⟨C, e2, e3⟩, e4⟩, e5⟩ := hx
      have hl' : σ'.length = m + 1 := hl.trans hm
      have hm2 : 2 < m + 1 := by
        have := (List.getElem?_eq_some_iff.mp h2).1
        omega
      have s2 : ∀ a : Addr, (σ'.set 2 (some (V.ref a)))[2]? = some (some (V.ref a)) := fun a => List.getElem?_set_self (by rw [hl']; exact hm2)
      unfold wfT at e1
      cases hfl : c.fld with
      | some p =>
        obtain ⟨fn, fd⟩ := p
        rw [hfl] at e1 e4
        dsimp only at e1 e4
        split at e1
        · rename_i hcc
          cases e1
          rw [hcc.1, F.tm] at e2
          cases e2
          obtain ⟨ad, v, z1, z2, z3⟩ := e4
          refine ⟨true, by rw [e3]; exact F.tt, fun _ a na => ⟨e3, s2 a, ad, _, v, z1, z2, ?_, ?_⟩, fun z => (by cases z)⟩
          · rw [hcc.2, List.lookup_cons_self]
          · refine ⟨v, ?_, e5 v H' (XT.refl H') (z3 _ _) fun G => z3 _ G⟩
            rw [List.getElem?_set_ne (by decide)]
            exact List.getElem?_set_self (by rw [List.length_set, hl']; exact hm1)
        · cases e1
      | none =>
        rw [hfl] at e1 e4
        dsimp only at e1 e4
        obtain ⟨w', z1, z2⟩ := map_some' e1
        obtain ⟨⟨cn, C', w2⟩, hmem, hp⟩ := List.mem_map.mp (lookup_mem' z1)
        obtain ⟨hp1, hp2⟩ := Prod.mk.inj hp
        dsimp only at hp1 hp2
        rw [hp1, hp2] at hmem
        obtain ⟨f1, f2, f3⟩ := F.each _ hmem
        rw [e2] at f1
        cases f1
        cases z2
        refine ⟨false, by rw [e3]; exact f2, fun z => (by cases z), fun _ => ⟨true, by rw [e3]; exact f3, fun _ a na => ⟨C', w', List.mem_map.mpr ⟨_, hmem, rfl⟩, e3, e4, s2 a, by rw [List.length_set]; exact hl', hT, fun σ2 H2 gr q1 => ?_⟩, fun z => (by cases z)⟩⟩
        refine ⟨.str w', ?_, e5 _ H2 gr (.str _) fun G => .str _⟩
        rw [List.getElem?_set_ne (by decide)]
        exact q1
    · show ((L2.start Ng [V.ref f]).set 1 (some (.str "let")))[0]? = _
      rw [List.getElem?_set_ne (by decide)]
      rfl
    · have eQ : (fun (_ : V) (H' : Hp) => Q (.str "let") H') = fun (_ : V) (H' : Hp) => ∃ v, ((L2.start Ng [V.ref f]).set 1 (some (.str "let")))[1]? = some (some v) ∧ Q v H' := by
        funext _ H'
        exact propext ⟨fun z => ⟨_, st1, z⟩, fun ⟨v, z1, z2⟩ => by
          rw [st1] at z1
          cases z1
          exact z2⟩
      have h' : tl Ech H (fun _ H' => Q (.str "let") H') := h
      rw [eQ] at h'
      exact h'
  · refine ⟨fun pins s' σ' H' D I h' => ?_⟩
    obtain ⟨Ech, hW, y1, y2, y3⟩ := h'
    exact (pss_one (ps_expr (pos := p6) (act W pn xe Ech p4 p5 tk hW) rfl)).run pins s' σ' H' D I ⟨y1, y2, y3⟩
  · obtain ⟨C, w, y1, rfl, rfl, y2⟩ := hq
    exact (hs2 s H a oe C w pn y1 hz hf).run pins s' σ' H' D I y2
/-- the suite's slots, where the flags lie in slot 3 -/
def flE (n : Nat) (bs : List Bool) : En := (List.replicate n none).set 3 (some (.list (bs.map PyData.bool)))
theorem dds_bl {K : PySem.W.Frag} {G : Hp} : ∀ (bs : List Bool), DDs K G (bs.map V.bl) (bs.map PyData.bool)
  | [] => .nil
  | b :: bs => .cons (.bl b) (dds_bl bs)
theorem flRel {K : PySem.W.Frag} {n : Nat} {bs : List Bool} {σ : L2.St} {H : Hp} {q : Addr} {T : List (Addr × Str)} (hT : LamX.Tabs T H) (hl : σ.length = n) (h3 : σ[3]? = some (some (.ref q))) (hq : H q = some (.lst (bs.map V.bl))) : Rel K (fun _ => False) (fun _ => False) none (noHand T) [] σ H (flE n bs) [] where
  g := ⟨fun _ z => z, fun _ z => z.elim, fun _ z => by cases z⟩
  val := fun i d h1 h2 h4 => by
    by_cases hi : 3 = i
    · subst hi
      have hn : 3 < n := by
        have := (List.getElem?_eq_some_iff.mp h3).1
        omega
      unfold flE at h4
      rw [List.getElem?_set_self (by rw [List.length_replicate]; exact hn)] at h4
      cases h4
      exact ⟨_, h3, .lst (by rw [cut_out (fun z => z)]; exact hq) (dds_bl bs)⟩
    · unfold flE at h4
      rw [List.getElem?_set_ne hi, List.getElem?_replicate] at h4
      split at h4 <;> cases h4
  own := fun _ z => by cases z
  inj := fun _ z => by cases z
  hand := fun _ z => by cases z
  len := by unfold flE; rw [List.length_set, List.length_replicate, hl]
  tb := hT
/-- the mirror of the suite's rest tells the word -/
def tellsW (n : Nat) (bs : List Bool) (gr : FS) (w : Str) : Prop := ∃ e', gr (flE n bs) [] = .nx e' [] ∧ slot e' 1 = some (.str w)
theorem su_rest {K : PySem.W.Frag} {mg : Str → Option Value} {n : Nat} {bs : List Bool} {σ : L2.St} {H H' : Hp} {q : Addr} {gr : FS} {w : Str} {D : Ends} {ω' : List Nat} {T : List (Addr × Str)} (hT : LamX.Tabs T H) (hw : tellsW n bs gr w) (h1 : 1 ∉ ω') (hl : σ.length = n) (h3 : σ[3]? = some (some (.ref q))) (hq : H' q = some (.lst (bs.map V.bl))) (gw : Grow H H')
    (hd : ∀ σ' H', XT T H H' → σ'[1]? = some (some (.str w)) → D.nx σ' H') : tsD K mg (noHand T) [] ω' [] (fun _ _ _ => False) gr D σ H' := by
  obtain ⟨e', e1, e2⟩ := hw
  refine ⟨fun _ => False, fun _ => False, none, flE n bs, [], flRel (hT.ext gw) hl h3 hq, ?_⟩
  rw [e1]
  intro σ' H'' O' s rel
  obtain ⟨v, e3, e4⟩ := rel.val 1 _ h1 (fun z => by cases z) (slot_some e2)
  obtain rfl := dd_str e4
  refine hd σ' H'' (gw.xt.trans ⟨fun a o h k => ?_, s.tabs⟩) e3
  have := s.ex a o (by rw [cut_out (fun z => z)]; exact h) k
  exact (cut_some this).2
variable {X : Cx} {a : Addr} {bs cs ds : List Bool} {ω' : List Nat} {gr : FS} {w : Str} {n : Nat} {s1 s2 s3 : Stmt} {rest : List Stmt} {T : List (Addr × Str)}
theorem su_1 (h1 : PS X s1 (tFl 2 3 a bs)) (hr : DSs X (noHand T) [] ω' [] (fun _ _ _ => False) rest gr) (hw : tellsW n bs gr w) (h : 1 ∉ ω' := by decide) (hn : 3 < n := by decide) : PSs X (s1 :: rest) (tSu T a n w) :=
  pss_imp (pss_cons h1 hr) fun D σ H hq => by
  obtain ⟨q1, q2, qT, q3⟩ := hq
  exact ⟨q1, fun p hp => su_rest qT hw h (by rw [List.length_set]; exact q2) (List.getElem?_set_self (by rw [q2]; exact hn)) upd_same (Grow.new hp) q3⟩
theorem su_2 (h1 : PS X s1 (tFl 2 3 a bs)) (h2 : PS X s2 (tFl2 2 3 a bs cs)) (hr : DSs X (noHand T) [] ω' [] (fun _ _ _ => False) rest gr) (hw : tellsW n (bs ++ cs) gr w) (h : 1 ∉ ω' := by decide) (hn : 3 < n := by decide) : PSs X (s1 :: s2 :: rest) (tSu T a n w) :=
  pss_imp (pss_cons h1 (pss_cons h2 hr)) fun D σ H hq => by
  obtain ⟨q1, q2, qT, q3⟩ := hq
  refine ⟨q1, fun p hp => ⟨by rw [List.getElem?_set_ne (by decide)]; exact q1, p, List.getElem?_set_self (by rw [q2]; exact hn), upd_same, fun q H' gw e => ?_⟩⟩
  exact su_rest qT hw h (by rw [List.length_set, List.length_set]; exact q2) (List.getElem?_set_self (by rw [List.length_set, q2]; exact hn)) e ((Grow.new hp).trans gw) q3
theorem su_3 (h1 : PS X s1 (tFl 2 3 a bs)) (h2 : PS X s2 (tFl2 2 3 a bs cs)) (h3 : PS X s3 (tFl2 2 3 a (bs ++ cs) ds)) (hr : DSs X (noHand T) [] ω' [] (fun _ _ _ => False) rest gr) (hw : tellsW n ((bs ++ cs) ++ ds) gr w) (h : 1 ∉ ω' := by decide) (hn : 3 < n := by decide) : PSs X (s1 :: s2 :: s3 :: rest) (tSu T a n w) :=
  pss_imp (pss_cons h1 (pss_cons h2 (pss_cons h3 hr))) fun D σ H hq => by
  obtain ⟨q1, q2, qT, q3⟩ := hq
  refine ⟨q1, fun p hp => ⟨by rw [List.getElem?_set_ne (by decide)]; exact q1, p, List.getElem?_set_self (by rw [q2]; exact hn), upd_same, fun q H' gw e => ⟨by rw [List.getElem?_set_ne (by decide), List.getElem?_set_ne (by decide)]; exact q1, q, List.getElem?_set_self (by rw [List.length_set, q2]; exact hn), e, fun q' H'' gw' e' => ?_⟩⟩⟩
  exact su_rest qT hw h (by rw [List.length_set, List.length_set, List.length_set]; exact q2) (List.getElem?_set_self (by rw [List.length_set, List.length_set, q2]; exact hn)) e' (((Grow.new hp).trans gw).trans gw') q3
end Sm


set_option maxRecDepth 100000
set_option maxHeartbeats 4000000
/-! Sim layer, part O: the hand's own def, the law's own def, the end. -/
namespace Sm
open PySem PySem.Spec PyProof.Rows L2
/-- the script lies in slot i -/
def Csc (K : PySem.W.Frag) (ns : List Int) (i : Nat) (σ : L2.St) (H : Hp) : Prop := ∃ a, σ[i]? = some (some (.ref a)) ∧ SqL K H a (ns.map V.int)
def cutM (ns : List Int) (k : Nat) : FL := fun _ h => .ok ((ns.take k).map PyData.int) h
theorem dds_int {K : PySem.W.Frag} {G : Hp} : ∀ ns : List Int, DDs K G (ns.map V.int) (ns.map PyData.int)
  | [] => .nil
  | n :: ns => .cons (.int n) (dds_int ns)
theorem cutV_to (xs : List V) (k : Nat) : cutV xs none (some (k : Int)) = xs.take k := by
  unfold cutV
  rw [show HT.sIx xs.length 0 none = 0 from HT.sIx_none _ _, HT.sIx_nat, List.drop_zero, Nat.sub_zero]
  rcases Nat.le_total k xs.length with h | h
  · rw [Nat.min_eq_left h]
  · rw [Nat.min_eq_right h, List.take_of_length_le (Nat.le_refl _), List.take_of_length_le h]
section
variable {X : Cx} {hs : HS} {ω ω1 ω' ωl : List Nat} {E : XK} {e a b c tg it elt : Expr} {fe fa fb : FE} {fl fi : FL} {ft : FB} {pos : Pos} {st : Stmt} {rest : List Stmt} {f g : FS} {es ifs : List Expr} {ns : List Int} {i0 k j : Nat}
theorem pi_cells {p1 p2 : Pos} (hv : PE X e (tVar i0)) (hl : ns.length ≤ 1000) : PI X tg (.Subscript e (.Slice none (some (.Constant (.int (k : Int)) j p1)) none p2) pos) (fun σ H Rk => Csc X.K ns i0 σ H ∧ tiD X.K X.mg hs ω E (cutM ns k) σ H Rk) :=
  pi_imp (pi_list (pe_slice sl_list hv po_none (po_some pe_int))) fun σ H Rk hq => by
  obtain ⟨⟨a, e1, e2⟩, R, O, ha, e, h, rel, hp⟩ := hq
  refine ⟨.ref a, e1, (k : Int), rfl, a, _, rfl, e2, fun p hpn => ?_⟩
  have gr : Grow H (upd H p (.lst (cutV (ns.map V.int) none (some (k : Int))))) := Grow.new hpn
  have ht : cutV (ns.map V.int) none (some (k : Int)) = (ns.take k).map V.int := by rw [cutV_to, List.map_take]
  refine ⟨p, rfl, ⟨_, .inl (.inl upd_same)⟩, hp _ O (rel.step gr) (rel.grow gr) _ ?_ (jg_list (xs := (ns.take k).map V.int) ?_ (dds_int _))⟩
  · rw [List.length_map, List.length_take]
    exact Nat.le_trans (Nat.min_le_right _ _) (Nat.le_trans hl (by decide))
  · rw [cut_out fun o => rel.g.dom p o hpn, upd_same, ht]
theorem ps_cells {own : List (Str × Nat)} {scope : Scope} {vs : List Nat} {g1 : D → En → Option En} {i : Nat} {y : Str} {py spos : Pos} {Cc : L2.St → Hp → Prop} (hc : X.calm = true) (hN : X.N.Nodup) (hy : X.N[i]? = some y) (hyl : X.env.scope.names.lookup y = some .local)
    (hsw : swapsWith (.ListComp elt [⟨tg, it, ifs, 0⟩] scope pos) (some (.Name y py)) spos.line X.env = pure true) (hi : PI X tg it (fun σ H Rk => Cc σ H ∧ tiD X.K X.mg hs ω E fi σ H Rk)) (ok : BlkOk X.N X.env.scope scope own) (hvs : own.map (·.2) = vs)
    (hg : ∀ (s : Shared) (H : Hp) (C : Addr) (cl : List (Str × Addr)) (fp : List Addr), DG (X.blk s H scope (compEnvC scope cl C X.env) fp) hs ω vs tg g1)
    (ht : ∀ (s : Shared) (H : Hp) (C : Addr) (cl : List (Str × Addr)) (fp : List Addr), DTs (X.blk s H scope (compEnvC scope cl C X.env) fp) hs ω E0 ifs ft)
    (he : ∀ (s : Shared) (H : Hp) (C : Addr) (cl : List (Str × Addr)) (fp : List Addr), DE (X.blk s H scope (compEnvC scope cl C X.env) fp) hs ω E0 elt fe)
    (hω : ∀ i ∈ vs, i ∉ ω := by decide) (hh : ∀ i ∈ vs, hs.ix ≠ some i := by exact of_decide_eq_true rfl) (hfs : ∀ x, foldedSetIterable it X.env x = pure x := by intro _; rfl) (hw : ω' = ω.filter (· != i) := by rfl) (hh2 : hs.ix ≠ some i := by exact of_decide_eq_true rfl) :
    PS X (.Assign [.Name y py] (.ListComp elt [⟨tg, it, ifs, 0⟩] scope pos) spos) (fun Dn σ H => Cc σ H ∧ tsD X.K X.mg hs ω ω' ωl E (asgS i (lstM (compM vs fi g1 ft fe))) Dn σ H) := by
  subst hvs
  refine ps_imp (ps_setLc (te := teD X.K X.mg hs ω E0 fe) (tt := ttD X.K X.mg hs ω E0 ft) (g := tgD X.K hs ω (own.map (·.2)) g1) hc hN hy hyl hsw hi ok hg ht he hfs) fun Dn σ H hq => ?_
  obtain ⟨hcc, R, O, ha, en, h, rel, hp⟩ := hq
  refine ⟨hcc, ?_⟩
  have main : tLc (tiD X.K X.mg hs ω E fi) (tgD X.K hs ω (own.map (·.2)) g1) (ttD X.K X.mg hs ω E0 ft) (teD X.K X.mg hs ω E0 fe) (own.map (·.2)) σ H (fun v H1 => gName i v σ H1 Dn.nx) := by
   refine lc_te hω hh ⟨R, O, ha, en, h, rel, ?_⟩
   have hp' : PS' X.K X.mg R ha hs ω' ωl E O H ((compM (own.map (·.2)) fi g1 ft fe en h).bindS fun ds h1 => .nx (en.set i (some (.list ds))) h1) Dn := by
     unfold asgS lstM at hp
     cases hr : compM (own.map (·.2)) fi g1 ft fe en h with
     | ok ds h1 => rw [hr] at hp; exact hp
     | ex c h1 => rw [hr] at hp; exact hp
     | no => rw [hr] at hp; exact hp
   refine ps_bind hp' fun ds h1 H1 O1 s1 rel1 hp1 p xs h2 h3 h4 h5 h6 => ?_
   have hp2 := ps_step hp1 (step_minus (p := p))
   exact ps_nx hp2 ((rel1.minus h3 h4).set (.lst (by rw [cut_out fun z => z.2 rfl]; exact h5) (dds_mono xn_minus h6)) hw hh2)
  exact main
/-- return a new list, to be owned by the caller -/
def retL (f : FL) : FS := fun e h => (f e h).bindS fun ds h1 => .rt (.list ds) h1
def trL (K : PySem.W.Frag) (mg : Str → Option Value) (hs : HS) (ω : List Nat) (E : XK) (f : FL) : TS := fun Dn σ H => teL K mg hs ω E f σ H Dn.rt
theorem ps_retL {fl : FL} (h1 : DL X hs ω E e fl) : PS X (.Return (some e) pos) (trL X.K X.mg hs ω E fl) := ps_imp (ps_ret h1) fun Dn σ H hq => hq
end
section
variable {P : Program} {w : World} {K : PySem.W.Frag} {mg : Str → Option Value} {base : Heap}
/-- the script's def: from the script to the hand's list -/
def spS (K : PySem.W.Frag) (T : List (Addr × Str)) (F : List Int → List D) : Sp := fun vs H Q _ => ∃ (a : Addr) (ns : List Int), vs = [.ref a] ∧ SqL K H a (ns.map V.int) ∧ ns.length ≤ 63 ∧ LamX.Tabs T H ∧
  ∀ p xs H', LamX.Tabs T H' → H' p = some (.lst xs) → DDs K (Cut (fun b => b = p) H') xs (F ns) → Q (.ref p) H'
theorem fnS {x qual : Str} {st : Stmt} {f : Addr} {fd : FuncData} {N : List Str} {sc : Str} {k n : Nat} {fl : FL} {T : List (Addr × Str)} {cdv : Value} {s1 s2 : Stmt} {ω' : List Nat} {F : List Int → List D} (Fv : FunV K x qual st f fd cdv) (S : FnScope N [sc] (defScope st)) (hn : N.length = n) (hb : defBody st = [s1, s2])
    (g : List Int → FS)
    (b1 : ∀ (A : Around) (outer : List Env) (s : Shared) (H : Hp) (E : XK) (ns : List Int), ns.length ≤ 63 → Room k (A.deeper (envOfC qual (defScope st) s.heap.objs.size f cdv)) → PS (cxOf (L2.CX P w) P w K mg base N qual (defScope st) f cdv A outer s H E) s1 (fun Dn σ H => Csc K ns 0 σ H ∧ tsD K mg (noHand T) [] ω' [] E (g ns) Dn σ H))
    (b2 : ∀ (A : Around) (outer : List Env) (s : Shared) (H : Hp) (E : XK), Room k (A.deeper (envOfC qual (defScope st) s.heap.objs.size f cdv)) → DL (cxOf (L2.CX P w) P w K mg base N qual (defScope st) f cdv A outer s H E) (noHand T) ω' E (match s2 with | .Return (some e) _ => e | _ => .Constant .none 0 ⟨0, 0, 0, 0⟩) fl)
    (h2 : ∃ e p, s2 = .Return (some e) p)
    (hF : ∀ ns : List Int, ns.length ≤ 63 → ∃ e', g ns (List.replicate n none) [] = .nx e' [] ∧ fl e' [] = .ok (F ns) []) :
    FnOk P w K mg base (L2.CX P w) (k + 1) f fd [sc] (spS K T F) := by
  subst hn
  obtain ⟨ex, px, rfl⟩ := h2
  refine Fv.okX S (fun vs H Q E h => ?_) (fun A outer s H vs Q E hr h => ?_)
  · obtain ⟨a, ns, rfl, _⟩ := h
    rfl
  · obtain ⟨a, ns, rfl, hS, hl, hT, q⟩ := h
    rw [hb]
    refine ⟨_, pss_cons (b1 A outer s H E ns hl hr) (pss_one (ps_retL (b2 A outer s H E hr))), ?_⟩
    have hle := scope_le S
    obtain ⟨e', k1, k2⟩ := hF ns hl
    refine ⟨⟨a, rfl, hS⟩, fun _ => False, fun _ => False, none, List.replicate N.length none, [], ⟨⟨fun _ z => z, fun _ z => z.elim, fun _ z => (by cases z)⟩, fun i d h1 h2 h3 => ?_, fun i hi => (by cases hi), fun i hi => (by cases hi), fun i hi => (by cases hi), ?_, hT⟩, ?_⟩
    · rw [List.getElem?_replicate] at h3
      split at h3 <;> cases h3
    · unfold L2.start
      rw [List.length_append, List.length_map, List.length_replicate, List.length_replicate]
      simp only [List.length_cons, List.length_nil] at hle ⊢
      omega
    · rw [k1]
      intro σ' H' O' s1 rel
      refine ⟨fun _ => False, O', none, e', [], rel, ?_⟩
      rw [k2]
      intro H2 O2 s2 rel2 p xs o1 o2 o3 o4 o5
      exact q p xs H2 rel2.tb o4 (dds_mono (xn_sup fun b hb => by rw [hb]; exact o1) o5)
/-- the law's own def: the hand is made, then the rest -/
def spLaw (K : PySem.W.Frag) (T : List (Addr × Str)) : Sp := fun vs H Q _ => ∃ (a : Addr) (ns : List Int), vs = [.ref a] ∧ SqL K H a (ns.map V.int) ∧ ns.length ≤ 63 ∧ LamX.Tabs T H ∧ ∀ H', Q (.bl true) H'
theorem fnLaw {x qual : Str} {st : Stmt} {f : Addr} {fd : FuncData} {N : List Str} {sc : Str} {k n : Nat} {g : FS} {T : List (Addr × Str)} {cdv : Value} {eh tg : Expr} {ph : Pos} {rest : List Stmt} {ω' : List Nat} {F : List Int → List D}
    (Fv : FunV K x qual st f fd cdv) (S : FnScope N [sc] (defScope st)) (hn : N.length = n + 2) (hb : defBody st = .Assign [tg] eh ph :: rest)
    (b1 : ∀ (A : Around) (outer : List Env) (s : Shared) (H : Hp) (E : XK), Room k (A.deeper (envOfC qual (defScope st) s.heap.objs.size f cdv)) → PS (cxOf (L2.CX P w) P w K mg base N qual (defScope st) f cdv A outer s H E) (.Assign [tg] eh ph) (tAsg (tCall (spS K T F) [] E fun σ H Q => ∃ v, σ[0]? = some (some v) ∧ Q [v] H) (gName 1)))
    (body : ∀ (A : Around) (outer : List Env) (s : Shared) (H : Hp) (E : XK), Room k (A.deeper (envOfC qual (defScope st) s.heap.objs.size f cdv)) → DSs (cxOf (L2.CX P w) P w K mg base N qual (defScope st) f cdv A outer s H E) ⟨some 1, T⟩ [] ω' [] E rest g)
    (hF : ∀ ns : List Int, ns.length ≤ 63 → ∃ h', g (List.replicate (n + 2) none) (F ns) = .rt (.bool true) h') :
    FnOk P w K mg base (L2.CX P w) (k + 1) f fd [sc] (spLaw K T) := by
  refine Fv.okX S (fun vs H Q E h => ?_) (fun A outer s H vs Q E hr h => ?_)
  · obtain ⟨a, ns, rfl, _⟩ := h
    rfl
  · obtain ⟨a, ns, rfl, hS, hl, hT, q⟩ := h
    rw [hb]
    refine ⟨_, pss_cons (b1 A outer s H E hr) (body A outer s H E hr), ?_⟩
    have hle := scope_le S
    obtain ⟨h', k1⟩ := hF ns hl
    refine ⟨.ref a, rfl, a, ns, rfl, hS, hl, hT, fun p xs H' hT' hp dx => ?_⟩
    have hsl : (L2.start N [V.ref a]).length = n + 2 := by
      unfold L2.start
      rw [List.length_append, List.length_map, List.length_replicate]
      simp only [List.length_cons, List.length_nil] at hle ⊢
      omega
    refine ⟨fun b => b = p, fun b => b = p, some p, List.replicate (n + 2) none, F ns, ⟨⟨fun _ z => z, fun b z => ⟨.lst xs, by rw [z]; exact hp, fun _ z => (by cases z)⟩, fun b z => ⟨(Option.some.inj z).symm, xs, by rw [← Option.some.inj z]; exact hp, dx⟩⟩, fun i d h1 h2 h3 => ?_, fun i hi => (by cases hi), fun i hi => (by cases hi), fun i hi => ⟨fun z => (by cases z), p, rfl, ?_⟩, ?_, hT'⟩, ?_⟩
    · rw [List.getElem?_replicate] at h3
      split at h3 <;> cases h3
    · cases hi
      exact List.getElem?_set_self (by rw [hsl]; omega)
    · rw [List.length_set, hsl, List.length_replicate]
    · rw [k1]
      intro v H2 O2 s2 g2 dv
      obtain rfl := dd_bl dv
      exact q H2
/-- the end, where the tables of any defs of the text are told -/
theorem walk_tabs {l : PySem.W.OpenLaw} {n k : Nat} {q : Program} {loose : List Str} {XP : (Str → Option Value) → Heap → Prop} {YP : World → Heap → Prop} {d : DefRec} {K : Params → PySem.W.Frag} {CX : World → CXT} {x : Str}
    (hn : l.most = some n) (hn2 : n ≤ sizeLine) (hdf : d.params.defaults = []) (hr : Room k callerA) (hY : ∀ (w : World) (h : Heap), YP w h → (K w.params).In h)
    (F : ∀ (w : World) (mg : Str → Option Value) (fa : Addr) (h : Heap), YP w h → (K w.params).In h → h.Ns mainGlobals mg → mg d.name = some (.ref fa) →
      (∀ (y : Str) (c P : Addr), ((PyProof.Rows.recsOf q).find? fun e => e.name == y).isSome = true → PySem.W.tabIn (K w.params) y = some (c, P) → PySem.W.CodeHd h c P ∧ h.get? P = some (PySem.W.tabObj #[])) → LamX.LawAtS l w (K w.params) (CX w) k n x mg fa h)
    (hCX : ∀ (w : World) (H : Hp) (s : Shared) (e : Value) (s' : Shared), CX w [] H s (fun _ _ _ => False) e s' → False) :
    PySem.W.WalkO q loose XP YP l.row.toRowW d [] (fun f vs => PySem.call f vs) := by
  refine Att.attach_callB hn hdf fun w r0 r1 mg mb fa o pm cd doc a vs ns G Y b1 b2 b3 b4 b5 b6 b7 b8 b9 => ?_
  have kin := hY w _ Y
  obtain ⟨fd, cs, sp, t1, t2, t3, t4, t5, t6⟩ := F w mg fa _ Y kin G.T.g b4 fun y c P hy ht => by
    obtain ⟨dd, hd⟩ := Option.isSome_iff_exists.mp hy
    exact PySem.W.tab_of G.T kin hd ht
  exact LamX.law_callTs kin G.T.g G.T.b G.T.builtins G.T.nolimit b9 t1 t2 t3 G.T.bmain b5 b6 (Nat.le_trans b7 hn2) hr t6 t4 (fun H z1 z2 => t5 H a ns b7 b8 z1 z2) fun H e s' => hCX w H r1 e s'
end
end Sm


set_option maxRecDepth 100000
set_option maxHeartbeats 4000000
/-! Sim layer, part P: short rules for the printer. -/
namespace Sm
open PySem PySem.Spec PyProof.Rows L2
section
variable {X : Cx} {hs : HS} {ω ω1 ω' ωl : List Nat} {E : XK} {e a b c tg it elt : Expr} {fe fa fb : FE} {fl fi : FL} {ft : FB} {pos p : Pos} {st : Stmt} {rest : List Stmt} {f g : FS} {es ifs : List Expr} {i : Nat}
theorem q_len (hm : X.mg "len" = none) (h1 : DQ X hs ω E a fa) (hg : Gl X "len" := by rfl) (he : starEach [a] X.env = (false, eval a X.env) :: starEach [] X.env := by rfl) : DE X hs ω E (.Call (.Name "len" p) [a] [] pos) (unM lenD fa) := de_fn1 call_len caq_len hg hm PySem.boot_len h1 (by decide) (by decide) he
theorem q_abs (hm : X.mg "abs" = none) (h1 : DQ X hs ω E a fa) (hg : Gl X "abs" := by rfl) (he : starEach [a] X.env = (false, eval a X.env) :: starEach [] X.env := by rfl) : DE X hs ω E (.Call (.Name "abs" p) [a] [] pos) (unM absD fa) := de_fn1 call_abs caq_abs hg hm (by decide +kernel) h1 (by decide) (by decide) he
theorem q_int (hm : X.mg "int" = none) (h1 : DQ X hs ω E a fa) (hg : Gl X "int" := by rfl) (he : starEach [a] X.env = (false, eval a X.env) :: starEach [] X.env := by rfl) : DE X hs ω E (.Call (.Name "int" p) [a] [] pos) (unM intD fa) := de_ty1 call_int1 caq_int hg hm (by decide +kernel) h1 (by decide) (by decide) he
theorem q_tuple (hm : X.mg "tuple" = none) (h1 : DQ X hs ω E a fa) (hg : Gl X "tuple" := by rfl) (he : starEach [a] X.env = (false, eval a X.env) :: starEach [] X.env := by rfl) : DE X hs ω E (.Call (.Name "tuple" p) [a] [] pos) (unM tupOf fa) := de_ty1 call_tupleN caq_tuple hg hm (by decide +kernel) h1 (by decide) (by decide) he
theorem q_all (hc : X.calm = true) (hm : X.mg "all" = none) (h1 : DQ X hs ω E a fa) (hg : Gl X "all" := by rfl) (he : starEach [a] X.env = (false, eval a X.env) :: starEach [] X.env := by rfl) : DE X hs ω E (.Call (.Name "all" p) [a] [] pos) (unM allD fa) := de_fn1 (cr_all hc) caq_all hg hm (by decide +kernel) h1 (by decide) (by decide) he
theorem q_any (hc : X.calm = true) (hm : X.mg "any" = none) (h1 : DQ X hs ω E a fa) (hg : Gl X "any" := by rfl) (he : starEach [a] X.env = (false, eval a X.env) :: starEach [] X.env := by rfl) : DE X hs ω E (.Call (.Name "any" p) [a] [] pos) (unM anyD fa) := de_fn1 (cr_any hc) caq_any hg hm (by decide +kernel) h1 (by decide) (by decide) he
theorem q_sum (hc : X.calm = true) (hm : X.mg "sum" = none) (h1 : DQ X hs ω E a fa) (hg : Gl X "sum" := by rfl) (he : starEach [a] X.env = (false, eval a X.env) :: starEach [] X.env := by rfl) : DE X hs ω E (.Call (.Name "sum" p) [a] [] pos) (unM sumD fa) := de_fn1 (cr_sumA hc) caq_sum hg hm (by decide +kernel) h1 (by decide) (by decide) he
theorem l_list (hm : X.mg "list" = none) (h1 : DQ X hs ω E a fa) (hg : Gl X "list" := by rfl) (he : starEach [a] X.env = (false, eval a X.env) :: starEach [] X.env := by rfl) : DL X hs ω E (.Call (.Name "list" p) [a] [] pos) (unL itemsD fa) := dl_ty1 call_list_of cal_list hg hm (by decide +kernel) h1 (by decide) (by decide) he
theorem l_sort (hu : X.A.units + 64 < cLine) (hm : X.mg "sorted" = none) (h1 : DQ X hs ω E a fa) (hg : Gl X "sorted" := by rfl) (he : starEach [a] X.env = (false, eval a X.env) :: starEach [] X.env := by rfl) : DL X hs ω E (.Call (.Name "sorted" p) [a] [] pos) (unL sortD fa) := dl_fn1 (cr_sortD hu) cal_sort hg hm (by decide +kernel) h1 (by decide) (by decide) he
/-! own operands -/
theorem o_eq1 (hu : X.A.units + 64 < cLine) (h1 : PE X a (tVar i)) (h2 : DE X hs ω E b fb) (hi : i ∈ ω := by decide) : DT X hs ω E (.Compare a [.Eq] [b] pos) (boolM (binM eqD (varM i) fb)) := dt_cmp1 (op_eqD hu) oq_eq h1 h2 (nomark _) hi
theorem o_ne1 (hu : X.A.units + 64 < cLine) (h1 : PE X a (tVar i)) (h2 : DE X hs ω E b fb) (hi : i ∈ ω := by decide) : DT X hs ω E (.Compare a [.NotEq] [b] pos) (boolM (binM neD (varM i) fb)) := dt_cmp1 (op_neD hu) oq_ne h1 h2 (nomark _) hi
/-! ### slots forgotten at a block's end -/
def dropM (is : List Nat) (f : FS) : FS := fun e h => match f e h with
  | .nx e1 h1 => .nx (wipeE e1 is) h1
  | r => r
theorem Rel.drop {K : PySem.W.Frag} {R O : Addr → Prop} {ha : Option Addr} {σ : L2.St} {H : Hp} {en : En} {h : List D} {is : List Nat} (r : Rel K R O ha hs ω σ H en h) (hω : ω' = ω.filter fun i => !is.contains i) : Rel K R O ha hs ω' σ H (wipeE en is) h := by
  have mem : ∀ {j}, j ∈ ω' → j ∈ ω ∧ j ∉ is := fun {j} hj => by
    rw [hω, List.mem_filter] at hj
    exact ⟨hj.1, by simpa using hj.2⟩
  exact { g := r.g
          val := fun i d h1 h2 h3 => by
            obtain ⟨h4, hi⟩ := wipeE_some h3
            exact r.val i d (fun z => h1 (by rw [hω, List.mem_filter]; exact ⟨z, by simpa using hi⟩)) h2 h4
          own := fun i hi => by
            obtain ⟨k1, k2⟩ := mem hi
            obtain ⟨a, o, d, e1, e2, q⟩ := r.own i k1
            exact ⟨a, o, d, e1, by rw [wipeE_get k2]; exact e2, q⟩
          inj := fun i hi j hj => r.inj i (mem hi).1 j (mem hj).1
          hand := fun i hi => ⟨fun z => (r.hand i hi).1 (mem z).1, (r.hand i hi).2⟩
          len := by rw [wipeE_length]; exact r.len
          tb := r.tb }
theorem dss_drop {is : List Nat} {st : List Stmt} (h : DSs X hs ω ω1 ωl E st f) (hω : ω' = ω1.filter fun i => !is.contains i) : DSs X hs ω ω' ωl E st (dropM is f) := pss_imp h fun Dn σ H hq => by
  obtain ⟨R, O, ha, en, h, rel, hp⟩ := hq
  refine ⟨R, O, ha, en, h, rel, ?_⟩
  unfold dropM at hp
  cases hf : f en h with
  | nx e1 h1 => rw [hf] at hp; exact fun σ' H' O' s r => hp σ' H' O' s (r.drop hω)
  | rt d h1 => rw [hf] at hp; exact hp
  | bk e1 h1 => rw [hf] at hp; exact hp
  | ct e1 h1 => rw [hf] at hp; exact hp
  | ex c h1 => rw [hf] at hp; exact hp
  | no => rw [hf] at hp; exact hp.elim
/-! ### in a lambda -/
theorem psLam {X : Cx} {A : Around} {outer : List Env} {s : Shared} {H : Hp} {E : XK} {scope : Scope} {f c' : Addr} : Passes (L2.CX (LamX.lamCx X A outer s H E scope f c').prog (LamX.lamCx X A outer s H E scope f c').w) (LamX.lamCx X A outer s H E scope f c') E := passes_call (takes_of rfl rfl rfl rfl) (fun _ _ _ _ h => h)
end
end Sm


set_option maxRecDepth 100000
set_option maxHeartbeats 4000000
/-! Sim layer, part R: min, max. -/
namespace Sm
open PySem PySem.Spec PyProof.Rows L2
def minOk (ds : List D) : Bool := allAlike ds && ds.all fun d => (!PyData.eqv d .none) && d.canLay0 && decide (d.depth ≤ 60)
def minQ : D → Option D
  | .list (x :: xs) => if minOk (x :: xs) then some (PySem.W.minD x xs) else none
  | .tuple (x :: xs) => if minOk (x :: xs) then some (PySem.W.minD x xs) else none
  | _ => none
def maxQ : D → Option D
  | .list (x :: xs) => if minOk (x :: xs) then some (PySem.W.maxD x xs) else none
  | .tuple (x :: xs) => if minOk (x :: xs) then some (PySem.W.maxD x xs) else none
  | _ => none
def rBest (K : PySem.W.Frag) (f : D → List D → D) : List V → Hp → VK → Prop := fun vs H Q => ∃ (a : Addr) (xs : List V) (x : D) (r : List D) (G : Hp), vs = [.ref a] ∧ (H a = some (.lst xs) ∨ SqT K H a xs) ∧ (∀ a o, G a = some o → H a = some o) ∧ DDs K G xs (x :: r) ∧ minOk (x :: r) = true ∧
  ∀ v, DD K G v (f x r) → Q v H
theorem canAll_of : ∀ {ds : List D}, (∀ d ∈ ds, d.canLay0 = true) → PyData.canLayAll0 ds = true
  | [], _ => rfl
  | d :: ds, h => by
    show (d.canLay0 && PyData.canLayAll0 ds) = true
    rw [h d List.mem_cons_self, canAll_of fun x hx => h x (List.mem_cons_of_mem _ hx)]; rfl
theorem depthAll_le : ∀ {ds : List D} {n : Nat}, (∀ d ∈ ds, d.depth ≤ n) → PyData.depthAll ds ≤ n
  | [], _, _ => Nat.zero_le _
  | d :: ds, n, h => by
    show max d.depth (PyData.depthAll ds) ≤ n
    exact Nat.max_le.mpr ⟨h d List.mem_cons_self, depthAll_le fun x hx => h x (List.mem_cons_of_mem _ hx)⟩
theorem minOk_parts {ds : List D} (h : minOk ds = true) : PySem.W.AlikeAll ds ∧ PyData.canLayAll0 ds = true ∧ PyData.depthAll ds ≤ 60 := by
  unfold minOk at h
  rw [Bool.and_eq_true, List.all_eq_true] at h
  obtain ⟨h1, h2⟩ := h
  have h3 : ∀ d ∈ ds, PyData.eqv d .none = false ∧ d.canLay0 = true ∧ d.depth ≤ 60 := fun d hd => by
    have := h2 d hd
    simp only [Bool.and_eq_true, Bool.not_eq_true', decide_eq_true_eq] at this
    exact ⟨this.1.1, this.1.2, this.2⟩
  refine ⟨⟨fun x hx y hy => ?_, fun x hx e => ?_⟩, canAll_of fun d hd => (h3 d hd).2.1, depthAll_le fun d hd => (h3 d hd).2.2⟩
  · exact (List.all_eq_true.mp ((List.all_eq_true.mp h1) x hx)) y hy
  · have := (h3 x hx).1
    rw [e] at this
    cases this
section
variable {X : Cx}
theorem best_end {pins : List (Addr × Obj)} {s : Shared} {σ : L2.St} {H : Hp} {Q : VK} {xs : List V} {its : List Value} {x : D} {r : List D} {G : Hp} {f : D → List D → D} (I : Inv X pins σ H s) (rv : Vals xs its) (hs : ∀ a o, G a = some o → H a = some o) (dd : DDs X.K G xs (x :: r)) (hc : PyData.canLayAll0 (x :: r) = true) (q : ∀ v, DD X.K G v (f x r) → Q v H)
    (i : Nat) (v : Value) (h' : Heap) (tk : Nat) (bs : List Addr) (hi : its.toArray[i]? = some v) (hr : Reads h' v (f x r) bs) (hk : ∀ b o, s.heap.get? b = some o → h'.get? b = some o) : EP X pins σ Q v { s with heap := h', toks := tk } := by
  have hi' : its[i]? = some v := by simpa using hi
  have hlt := (List.getElem?_eq_some_iff.mp hi').1
  have hlx : i < xs.length := by rw [rv.length]; exact hlt
  have hld : i < (x :: r).length := by rw [← dd.length]; exact hlx
  obtain ⟨y, hy1, hy2⟩ := dd.get (List.getElem?_eq_getElem hld)
  have rel : RelV y v := by
    obtain ⟨u, h1, h2⟩ := rv.get hy1
    rw [hi'] at h1
    cases h1
    exact h2
  have hcd : ((x :: r)[i]).canLay0 = true := by
    have : ∀ {ds : List D}, PyData.canLayAll0 ds = true → ∀ d ∈ ds, d.canLay0 = true := fun {ds} h => by
      induction ds with
      | nil => intro d hd; cases hd
      | cons a l ih =>
        have h' : (a.canLay0 && PyData.canLayAll0 l) = true := h
        rw [Bool.and_eq_true] at h'
        intro d hd
        rcases List.mem_cons.mp hd with e | hd
        · rw [e]; exact h'.1
        · exact ih h'.2 d hd
    exact this hc _ (List.getElem_mem hld)
  obtain ⟨as, rd⟩ := Dp.reads I _ y v (dd_dp hs hy2 (nd_lay _ hcd)) rel
  have e := PySem.SeqAt.Reads.unique _ _ _ _ _ hcd (Reads.keeps hk rd) hr
  exact ⟨y, H, I.kept (t' := tk) hk, rel, q y (by rw [← e]; exact hy2)⟩
theorem cr_best {id : String} {f : D → List D → D} (hc : X.calm = true) (hu : X.A.units + 65 < cLine)
    (hl : ∀ {s : Shared} {l : Addr} {vs : Array Value} {x : PyData} {xs : List PyData} {as : List Addr} {Q E : Value → Shared → Prop}, X.A.handled = none → s.heap.IsList l vs → ReadsAll s.heap vs.toList (x :: xs) as → PySem.W.AlikeAll (x :: xs) → X.A.units + 1 + PyData.depthAll (x :: xs) < cLine →
      (∀ (i : Nat) v h' tk bs, vs[i]? = some v → Reads h' v (f x xs) bs → (∀ b o, s.heap.get? b = some o → h'.get? b = some o) → Q v { s with heap := h', toks := tk }) → wpAny (model X.prog X.w) X.A (call (.builtin id) [.ref l]) Q E s)
    (ht : ∀ {s : Shared} {l : Addr} {vs : Array Value} {x : PyData} {xs : List PyData} {as : List Addr} {Q E : Value → Shared → Prop}, X.A.handled = none → s.heap.IsTuple l vs → ReadsAll s.heap vs.toList (x :: xs) as → PySem.W.AlikeAll (x :: xs) → X.A.units + 1 + PyData.depthAll (x :: xs) < cLine →
      (∀ (i : Nat) v h' tk bs, vs[i]? = some v → Reads h' v (f x xs) bs → (∀ b o, s.heap.get? b = some o → h'.get? b = some o) → Q v { s with heap := h', toks := tk }) → wpAny (model X.prog X.w) X.A (call (.builtin id) [.ref l]) Q E s) : CallR X (.builtin id) (rBest X.K f) := by
  intro pins s σ H vs us Q I r ⟨a, xs, x, rs, G, ev, hs1, hsub, dd, hok, q⟩
  subst ev
  rw [Vals.ref1 r]
  obtain ⟨k1, k2, k3⟩ := minOk_parts hok
  have hh := I.ok.hd hc
  rcases hs1 with hs1 | hs1
  · obtain ⟨its, rv, p, hz⟩ := I.list (.inl (.inl hs1))
    obtain ⟨as, ra⟩ := Dp.readsAll I _ _ its (dds_dp hsub dd (nd_lays _ k2)) rv
    exact hl hh p.isList (show ReadsAll s.heap its.toArray.toList (x :: rs) as from ra) k1 (by omega) fun i v h' tk bs => best_end I rv hsub dd k2 q i v h' tk bs
  · obtain ⟨its, rv, p, hz⟩ := I.tuple hs1
    obtain ⟨as, ra⟩ := Dp.readsAll I _ _ its (dds_dp hsub dd (nd_lays _ k2)) rv
    exact ht hh p (show ReadsAll s.heap its.toArray.toList (x :: rs) as from ra) k1 (by omega) fun i v h' tk bs => best_end I rv hsub dd k2 q i v h' tk bs
theorem cr_min (hc : X.calm = true) (hu : X.A.units + 65 < cLine) : CallR X (.builtin "min") (rBest X.K PySem.W.minD) := cr_best hc hu (fun h1 h2 h3 h4 h5 h6 => PySem.W.min_list_data h1 h2 h3 h4 h5 h6) (fun h1 h2 h3 h4 h5 h6 => PySem.W.min_tuple_data h1 h2 h3 h4 h5 h6)
theorem cr_max (hc : X.calm = true) (hu : X.A.units + 65 < cLine) : CallR X (.builtin "max") (rBest X.K PySem.W.maxD) := cr_best hc hu (fun h1 h2 h3 h4 h5 h6 => PySem.W.max_list_data h1 h2 h3 h4 h5 h6) (fun h1 h2 h3 h4 h5 h6 => PySem.W.max_tuple_data h1 h2 h3 h4 h5 h6)
end
theorem caq_best {K : PySem.W.Frag} {f : D → List D → D} {g : D → Option D} (hg : ∀ a d, g a = some d → ∃ x r, (a = .list (x :: r) ∨ a = .tuple (x :: r)) ∧ minOk (x :: r) = true ∧ d = f x r) : CaQ K (rBest K f) g := by
  intro H v a d G Q s hx e q
  obtain ⟨x, r, ha, hok, rfl⟩ := hg a d e
  rcases ha with rfl | rfl
  · rcases hx with hx | ⟨p, xs, ds', rfl, h2, h3, h4⟩
    · obtain ⟨p, xs, rfl, g1, g2⟩ := dd_list hx
      exact ⟨p, xs, x, r, G, rfl, .inl (s _ _ g1), s, g2, hok, fun v dv => q v H (Grow.refl H) fun G' x1 _ => dd_mono x1 dv⟩
    · cases h2
      exact ⟨p, xs, x, r, G, rfl, .inl h3, s, h4, hok, fun v dv => q v H (Grow.refl H) fun G' x1 _ => dd_mono x1 dv⟩
  · rcases hx with hx | ⟨p, xs, ds', rfl, h2, h3, h4⟩
    · obtain ⟨p, xs, rfl, g1, g2⟩ := dd_tup hx
      exact ⟨p, xs, x, r, G, rfl, .inr (sq_ts s g1), s, g2, hok, fun v dv => q v H (Grow.refl H) fun G' x1 _ => dd_mono x1 dv⟩
    · cases h2
theorem caq_min {K : PySem.W.Frag} : CaQ K (rBest K PySem.W.minD) minQ := caq_best fun a d e => by
  unfold minQ at e
  split at e
  · split at e
    · rename_i h; cases e; exact ⟨_, _, .inl rfl, h, rfl⟩
    · cases e
  · split at e
    · rename_i h; cases e; exact ⟨_, _, .inr rfl, h, rfl⟩
    · cases e
  · cases e
theorem caq_max {K : PySem.W.Frag} : CaQ K (rBest K PySem.W.maxD) maxQ := caq_best fun a d e => by
  unfold maxQ at e
  split at e
  · split at e
    · rename_i h; cases e; exact ⟨_, _, .inl rfl, h, rfl⟩
    · cases e
  · split at e
    · rename_i h; cases e; exact ⟨_, _, .inr rfl, h, rfl⟩
    · cases e
  · cases e
section
variable {X : Cx} {hs : HS} {ω : List Nat} {E : XK} {a : Expr} {fa : FE} {pos p : Pos}
theorem q_min (hc : X.calm = true) (hu : X.A.units + 65 < cLine) (hm : X.mg "min" = none) (h1 : DQ X hs ω E a fa) (hg : Gl X "min" := by rfl) (he : starEach [a] X.env = (false, eval a X.env) :: starEach [] X.env := by rfl) : DE X hs ω E (.Call (.Name "min" p) [a] [] pos) (unM minQ fa) := de_fn1 (cr_min hc hu) caq_min hg hm (by decide +kernel) h1 (by decide) (by decide) he
theorem q_max (hc : X.calm = true) (hu : X.A.units + 65 < cLine) (hm : X.mg "max" = none) (h1 : DQ X hs ω E a fa) (hg : Gl X "max" := by rfl) (he : starEach [a] X.env = (false, eval a X.env) :: starEach [] X.env := by rfl) : DE X hs ω E (.Call (.Name "max" p) [a] [] pos) (unM maxQ fa) := de_fn1 (cr_max hc hu) caq_max hg hm (by decide +kernel) h1 (by decide) (by decide) he
end
end Sm


set_option maxRecDepth 100000
set_option maxHeartbeats 4000000
/-! Sim layer, part T: slices. -/
namespace Sm
open PySem PySem.Spec PyProof.Rows L2
def cutG {α : Type} (xs : List α) (lo hi : Option Int) : List α := (xs.drop (HT.sIx xs.length 0 lo)).take (HT.sIx xs.length xs.length hi - HT.sIx xs.length 0 lo)
def cutD (d : D) (lo hi : Option Int) : Option D := match d with
  | .list ds => some (.list (cutG ds lo hi))
  | .tuple ds => some (.tuple (cutG ds lo hi))
  | .str z => if z.length ≤ LINE then some (.str (cutS z lo hi)) else none
  | _ => none
theorem DDs.cut {K : PySem.W.Frag} {G : Hp} {vs : List V} {ds : List D} (h : DDs K G vs ds) (lo hi : Option Int) : DDs K G (cutV vs lo hi) (cutG ds lo hi) := by
  unfold cutV cutG
  rw [h.length]
  exact (h.drop _).take _
abbrev FO := FX (Option Int)
def toD (K : PySem.W.Frag) (mg : Str → Option Value) (hs : HS) (ω : List Nat) (E : XK) (f : FO) : TO := fun σ H Q => ∃ R O ha e h, Rel K R O ha hs ω σ H e h ∧ PR K mg R ha hs ω E σ O H e (f e h) (fun i H' _ => Q i H')
abbrev DO (X : Cx) (hs : HS) (ω : List Nat) (E : XK) (o : Option Expr) (f : FO) : Prop := PO X o (toD X.K X.mg hs ω E f)
def noPart : FO := fun _ h => .ok none h
def aPart (f : FE) : FO := fun e h => (f e h).bind fun d h1 => match d with | .int i => .ok (some i) h1 | _ => .no
section
variable {X : Cx} {hs : HS} {ω : List Nat} {E : XK} {a : Expr} {fa : FE} {fl fh : FO} {lo hi : Option Expr} {pos p2 : Pos} {i : Nat}
theorem po_imp {o : Option Expr} {t t' : TO} (h : PO X o t) (w : ∀ σ H Q, t' σ H Q → t σ H Q) : PO X o t' := ⟨fun pins s σ H Q I q => h.run pins s σ H Q I (w σ H Q q)⟩
theorem do_none : DO X hs ω E none noPart := po_imp po_none fun σ H Q hq => by
  obtain ⟨R, O, ha, e, h, rel, hp⟩ := hq
  exact hp H O Step.refl rel
theorem do_some (h1 : DE X hs ω E a fa) : DO X hs ω E (some a) (aPart fa) := po_imp (po_some h1) fun σ H Q hq => by
  obtain ⟨R, O, ha, e, h, rel, hp⟩ := hq
  refine ⟨R, O, ha, e, h, rel, pr_bind hp fun d h1 H1 O1 s1 rel1 hp1 v dv => ?_⟩
  split at hp1
  · obtain rfl := dd_int dv
    exact ⟨_, rfl, hp1 H1 O1 Step.refl rel1⟩
  · exact hp1.elim
def sliceM (f : FE) (fl fh : FO) : FE := fun e h => (f e h).bind fun d h1 => (fl e h1).bind fun l h2 => (fh e h2).bind fun u h3 => opt (cutD d l u) h3
def rSlNny (K : PySem.W.Frag) : V → Option Int → Option Int → Hp → VK → Prop := fun x lo hi H Q => rSlL K x lo hi H Q ∨ (rSlN K x lo hi H Q ∨ rSlS x lo hi H Q)
theorem cut_end {lo hi : Option Int} {K : PySem.W.Frag} {H : Hp} {v : V} {a d : D} {G : Hp} {Q : VK} (s : ∀ a o, G a = some o → H a = some o) (hx : SeqV K G H v a) (e : cutD a lo hi = some d)
    (q : ∀ v H', Grow H H' → (∀ G', XN G G' → (∀ p, H p = none → G' p = H' p) → DD K G' v d) → Q v H') : rSlNny K v lo hi H Q := by
  unfold cutD at e
  split at e
  · cases e
    rcases hx with hx | ⟨p, xs, ds', rfl, h2, h3, h4⟩
    · obtain ⟨p, xs, rfl, g1, g2⟩ := dd_list hx
      exact .inl ⟨p, xs, rfl, .inl (.inl (s _ _ g1)), fun l hl => q _ _ (Grow.new hl) fun G' x1 x2 => .lst (by rw [x2 l hl, upd_same]) ((dds_mono x1 g2).cut lo hi)⟩
    · cases h2
      exact .inl ⟨p, xs, rfl, .inl (.inl h3), fun l hl => q _ _ (Grow.new hl) fun G' x1 x2 => .lst (by rw [x2 l hl, upd_same]) ((dds_mono x1 h4).cut lo hi)⟩
  · cases e
    rcases hx with hx | ⟨p, xs, ds', rfl, h2, h3, h4⟩
    · have hx' := hx
      obtain ⟨p, xs, rfl, g1, g2⟩ := dd_tupN hx
      refine .inr (.inl ⟨p, xs, rfl, sq_ts s g1.t, fun hw => ?_, fun _ l o hl oc od => ?_⟩)
      · refine q _ H (Grow.refl H) fun G' x1 _ => ?_
        have : cutG xs lo hi = xs := by
          unfold cutG
          rw [hw.1, hw.2, List.drop_zero, Nat.sub_zero, List.take_length]
        have hc := (dds_mono x1 g2).cut lo hi
        rw [show cutV xs lo hi = xs from this] at hc
        exact .tup (x1.sqN g1) hc
      · exact q _ _ (Grow.new hl) fun G' x1 x2 => .tup (.new (by rw [x2 l hl, upd_same]) oc od) ((dds_mono x1 g2).cut lo hi)
    · cases h2
  · split at e
    · rename_i hl
      cases e
      rcases hx with hx | ⟨p, xs, ds', rfl, h2, h3, h4⟩
      · obtain rfl := dd_str hx
        exact .inr (.inr ⟨_, rfl, by rw [line_eq]; exact hl, q _ H (Grow.refl H) fun G' _ _ => .str _⟩)
      · cases h2
    · cases e
  · cases e
theorem de_sl (h1 : DE X hs ω E a fa) (h2 : DO X hs ω E lo fl) (h3 : DO X hs ω E hi fh) : DE X hs ω E (.Subscript a (.Slice lo hi none p2) pos) (sliceM fa fl fh) :=
  pe_imp (pe_slice (SlR.or sl_list (SlR.or sl_tupN sl_str)) h1 h2 h3) fun σ H Q hq => by
  obtain ⟨R, O, ha, e, h, rel, hp⟩ := hq
  refine ⟨R, O, ha, e, h, rel, pr_bind hp fun d1 h1 H1 O1 s1 rel1 hp1 v1 dv1 => ?_⟩
  refine ⟨R, O1, ha, e, h1, rel1, pr_bind hp1 fun l h2 H2 O2 s2 rel2 hp2 => ?_⟩
  refine ⟨R, O2, ha, e, h2, rel2, pr_bind hp2 fun u h3 H3 O3 s3 rel3 hp3 => ?_⟩
  obtain ⟨d, e1, q⟩ := pr_opt hp3
  exact cut_end (G := Cut O3 H3) cut_sub (.inl (s3.dd (s2.dd dv1))) e1 fun v H' gr hv => q H' O3 (rel3.step gr) (rel3.grow gr) v (hv _ (rel3.step gr).ex (new_cut rel3.g.dom))
theorem de_sl1 (h1 : PE X a (tVar i)) (h2 : DO X hs ω E lo fl) (h3 : DO X hs ω E hi fh) (hi' : i ∈ ω := by decide) : DE X hs ω E (.Subscript a (.Slice lo hi none p2) pos) (sliceM (varM i) fl fh) :=
  pe_imp (pe_slice (SlR.or sl_list (SlR.or sl_tupN sl_str)) h1 h2 h3) fun σ H Q hq => by
  obtain ⟨R, O, ha, e, h, rel, hp⟩ := hq
  obtain ⟨v1, ev⟩ := own_val rel hi'
  refine ⟨v1, ev, ?_⟩
  unfold sliceM varM at hp
  cases hd : slot e i with
  | none => rw [hd] at hp; exact hp.elim
  | some d1 =>
    rw [hd] at hp
    refine ⟨R, O, ha, e, h, rel, pr_bind (show PR X.K X.mg R ha hs ω E σ O H e ((fl e h).bind fun l h2 => (fh e h2).bind fun u h3 => opt (cutD d1 l u) h3) (KE' X.K Q) from hp) fun l h2 H2 O2 s2 rel2 hp2 => ?_⟩
    refine ⟨R, O2, ha, e, h2, rel2, pr_bind hp2 fun u h3 H3 O3 s3 rel3 hp3 => ?_⟩
    obtain ⟨d, e1, q⟩ := pr_opt hp3
    exact cut_end (G := Cut O3 H3) cut_sub (own_seqv rel3 hi' hd ev) e1 fun v H' gr hv => q H' O3 (rel3.step gr) (rel3.grow gr) v (hv _ (rel3.step gr).ex (new_cut rel3.g.dom))
end
end Sm


set_option maxRecDepth 100000
set_option maxHeartbeats 4000000
/-! Sim layer, part U: ranges with a step, zip, enumerate, max and min of two, [::-1]. -/
namespace Sm
open PySem PySem.Spec PyProof.Rows L2 RZ
/-! ### ranges with a step -/
def stepsN (i j c : Int) : Nat := if c > 0 then (if i < j then ((j - i - 1) / c + 1).toNat else 0) else (if i > j then ((i - j - 1) / (-c) + 1).toNat else 0)
def stepsL (i c : Int) (n : Nat) : List D := (List.range n).map fun (k : Nat) => PyData.int (i + (k : Int) * c)
def range3D (x y z : D) : Option (List D) := match x, y, z with
  | .int i, .int j, .int c => if c ≠ 0 ∧ c.natAbs < 1000000 ∧ -1000000000 ≤ i ∧ i < 1000000000 ∧ -1000000000 ≤ j ∧ j < 1000000000 ∧ stepsN i j c ≤ LINE then some (stepsL i c (stepsN i j c)) else none
  | _, _, _ => none
def range3M (f g k : FE) : FL := fun e h => (f e h).bind fun d h1 => (g e h1).bind fun d2 h2 => (k e h2).bind fun d3 h3 => opt (range3D d d2 d3) h3
theorem steps_size (i j c : Int) : Builtin.Range.rangeSize i j c = (stepsN i j c : Int) := by
  have h := rangeSize_toNat i j c
  rw [h]
  congr 1
  unfold stepsN Builtin.Range.rangeSize
  split <;> split <;> rfl
theorem jg_rangeC {K : PySem.W.Frag} {G : Hp} {lo c : Int} {n : Nat} : JG K (Itc lo c n) (stepsL lo c n) G := fun i H O ho g => by
  unfold stepsL
  refine ⟨fun d e => ?_, fun e => by rw [List.length_map, List.length_range] at e; exact e⟩
  have hi : i < n := by
    have := (List.getElem?_eq_some_iff.mp e).1
    rw [List.length_map, List.length_range] at this
    exact this
  rw [List.getElem?_map, List.getElem?_range hi] at e
  cases e
  exact ⟨hi, fun x H' ⟨hH, hy⟩ => by subst hH hy; exact ⟨Grow.refl _, .int _⟩⟩
section
variable {X : Cx} {hs : HS} {ω : List Nat} {E : XK} {a b c tg it : Expr} {fa fb fc : FE} {pos p tpos : Pos} {elts : List Expr} {kk : Nat}
theorem di_range3 (hg : Gl X "range") (hm : X.mg "range" = none) (h1 : DE X hs ω E a fa) (h2 : DE X hs ω E b fb) (h3 : DE X hs ω E c fc) (hst : starEach [a, b, c] X.env = (false, eval a X.env) :: starEach [b, c] X.env := by rfl) (hst2 : starEach [b, c] X.env = (false, eval b X.env) :: starEach [c] X.env := by rfl) (hst3 : starEach [c] X.env = [(false, eval c X.env)] := by rfl) (hpl : (backTo pos (starEach [b, c] X.env)).any (·.1) = false := by rfl) :
    DI X hs ω E tg (.Call (.Name "range" p) [a, b, c] [] pos) (range3M fa fb fc) := pi_imp (pi_range3 hg hm (pa_cons h1 (pa_cons h2 (pa_cons h3 pa_nil hst3) hst2) hst) hst hpl) fun σ H Rk hq => by
  obtain ⟨R, O, ha, e, h, rel, hp⟩ := hq
  refine ⟨R, O, ha, e, h, rel, pr_bind hp fun d h1 H1 O1 s1 rel1 hp1 v dv => ?_⟩
  refine ⟨R, O1, ha, e, h1, rel1, pr_bind hp1 fun d2 h2 H2 O2 s2 rel2 hp2 v2 dv2 => ?_⟩
  refine ⟨R, O2, ha, e, h2, rel2, pr_bind hp2 fun d3 h3 H3 O3 s3 rel3 hp3 v3 dv3 => ?_⟩
  obtain ⟨zs, e1, q⟩ := pr_opt hp3
  unfold range3D at e1
  split at e1
  · rename_i i j k
    split at e1
    · rename_i hc
      obtain ⟨c0, c1, c2, c3, c4, c5, c6⟩ := hc
      cases e1
      obtain rfl := dd_int dv
      obtain rfl := dd_int dv2
      obtain rfl := dd_int dv3
      have hb : stepsN i j k < 4000000000 := by
        have := rangeSize_toNat_le i j k
        rw [steps_size] at this
        omega
      refine ⟨i, j, k, stepsN i j k, rfl, ⟨c0, by omega, ?_, steps_size i j k⟩, pr_ok q rel3 _ (by unfold stepsL; rw [List.length_map, List.length_range]; exact c6) jg_rangeC⟩
      unfold Builtin.Range.small
      rw [steps_size]
      simp only [Builtin.Range.rangeFitsLong, Bool.and_eq_true, Bool.or_eq_true, decide_eq_true_eq, beq_iff_eq]
      refine ⟨⟨⟨⟨⟨by omega, by omega⟩, ⟨by omega, by omega⟩⟩, ⟨by omega, by omega⟩⟩, ⟨by omega, by omega⟩⟩, .inr ?_⟩
      split
      · simp only [Bool.and_eq_true, decide_eq_true_eq]
        exact ⟨by omega, by omega⟩
      · simp only [Bool.and_eq_true, decide_eq_true_eq]
        exact ⟨by omega, by omega⟩
    · cases e1
  · cases e1
/-! ### lengths are small -/
def tSz (K : PySem.W.Frag) (ta : TA) : TA := fun σ H Q => ta σ H fun vs H1 => (∀ a xs, SqL K H1 a xs ∨ SqT K H1 a xs → xs.length ≤ sizeLine) → Q vs H1
theorem pa_size {es : List Expr} {ta : TA} (h : PA X es ta) : PA X es (tSz X.K ta) := ⟨fun pos pins s σ H Q I q => thn (h.run pos pins s σ H _ I q) fun us s1 ⟨vs, H1, I1, r1, q1⟩ => ⟨vs, H1, I1, r1, q1 fun a xs hx => by
  rcases hx with hx | hx
  · obtain ⟨its, rv, p, hz⟩ := I1.list hx
    exact hz
  · obtain ⟨its, rv, p, hz⟩ := I1.tuple hx
    exact hz⟩⟩
/-! ### zip -/
def zipL (a b : List D) : List D := List.zipWith (fun x y => PyData.tuple [x, y]) a b
def zipD (x y : D) : Option (List D) := match x, y with
  | .list a, .list b => some (zipL a b)
  | .tuple a, .tuple b => some (zipL a b)
  | _, _ => none
def zipM (f g : FE) : FL := fun e h => (f e h).bind fun d h1 => (g e h1).bind fun d2 h2 => opt (zipD d d2) h2
theorem pair_dd {K : PySem.W.Frag} {G : Hp} {O : Addr → Prop} {H H' : Hp} {u x y : V} {d d2 : D} (ho : ∀ a, O a → H a ≠ none) (g : XN G (Cut O H)) (hp : PairN H u x y H') (h1 : DD K G x d) (h2 : DD K G y d2) : Grow H H' ∧ DD K (Cut O H') u (.tuple [d, d2]) := by
  obtain ⟨T, o, rfl, hT, rfl, oc, od⟩ := hp
  have gr : Grow H (upd H T (.frz o (.tup [x, y]))) := Grow.new hT
  have g2 := g.trans (gr.cut ho).xn
  exact ⟨gr, .tup (.new (by rw [cut_out fun z => ho T z hT, upd_same]) oc od) (.cons (dd_mono g2 h1) (.cons (dd_mono g2 h2) .nil))⟩
theorem zip_get {a b : List D} {i : Nat} {d : D} (h : (zipL a b)[i]? = some d) : ∃ x y, a[i]? = some x ∧ b[i]? = some y ∧ d = .tuple [x, y] := by
  unfold zipL at h
  rw [List.getElem?_zipWith] at h
  cases h1 : a[i]? with
  | none => rw [h1] at h; cases h
  | some x =>
    cases h2 : b[i]? with
    | none => rw [h1, h2] at h; cases h
    | some y =>
      rw [h1, h2] at h
      cases h
      exact ⟨x, y, rfl, rfl, rfl⟩
theorem jg_zip {K : PySem.W.Frag} {G : Hp} {a b : Addr} {xs ys : List V} {ds es : List D} (h : G a = some (.lst xs)) (h' : G b = some (.lst ys)) (d : DDs K G xs ds) (d' : DDs K G ys es) : JG K (ItzN K a b) (zipL ds es) G := fun i H O ho g => by
  have h2 : SqL K H a xs := .inl (.inl (cut_some (g _ _ h (fun _ z => by cases z))).2)
  have h3 : SqL K H b ys := .inl (.inl (cut_some (g _ _ h' (fun _ z => by cases z))).2)
  refine ⟨fun q e => ?_, fun e => ⟨xs, ys, h2, h3, ?_⟩⟩
  · obtain ⟨u, w, e1, e2, rfl⟩ := zip_get e
    obtain ⟨v, f1, f2⟩ := d.get e1
    obtain ⟨v', f3, f4⟩ := d'.get e2
    refine ⟨⟨xs, ys, v, v', h2, h3, f1, f3⟩, fun x H' ⟨x1, y1, hP, k1, k2⟩ => ?_⟩
    have z1 := k1 xs h2
    have z2 := k2 ys h3
    rw [f1] at z1
    rw [f3] at z2
    cases z1
    cases z2
    exact pair_dd ho g hP f2 f4
  · unfold zipL at e
    rw [List.length_zipWith] at e
    rw [d.length, d'.length]
    omega
theorem jg_zipT {K : PySem.W.Frag} {G : Hp} {a b : Addr} {xs ys : List V} {ds es : List D} (h : SqT K G a xs) (h' : SqT K G b ys) (d : DDs K G xs ds) (d' : DDs K G ys es) : JG K (ItzTN K a b) (zipL ds es) G := fun i H O ho g => by
  have h2 : SqT K H a xs := XN.sqT xn_cut (g.sqT h)
  have h3 : SqT K H b ys := XN.sqT xn_cut (g.sqT h')
  refine ⟨fun q e => ?_, fun e => ⟨xs, ys, h2, h3, ?_⟩⟩
  · obtain ⟨u, w, e1, e2, rfl⟩ := zip_get e
    obtain ⟨v, f1, f2⟩ := d.get e1
    obtain ⟨v', f3, f4⟩ := d'.get e2
    refine ⟨⟨xs, ys, v, v', h2, h3, f1, f3⟩, fun x H' ⟨x1, y1, hP, k1, k2⟩ => ?_⟩
    have z1 := k1 xs h2
    have z2 := k2 ys h3
    rw [f1] at z1
    rw [f3] at z2
    cases z1
    cases z2
    exact pair_dd ho g hP f2 f4
  · unfold zipL at e
    rw [List.length_zipWith] at e
    rw [d.length, d'.length]
    omega
theorem zip_short {a b : List D} {n : Nat} (h : a.length ≤ n) : (zipL a b).length ≤ n := by
  unfold zipL
  rw [List.length_zipWith]
  omega
theorem di_zip (hg : Gl X "zip") (hm : X.mg "zip" = none) (h1 : DE X hs ω E a fa) (h2 : DE X hs ω E b fb) (hst : starEach [a, b] X.env = (false, eval a X.env) :: starEach [b] X.env := by rfl) (hst2 : starEach [b] X.env = [(false, eval b X.env)] := by rfl) (hpl : (backTo pos (starEach [b] X.env)).any (·.1) = false := by rfl) :
    DI X hs ω E (.Tuple elts kk tpos) (.Call (.Name "zip" p) [a, b] [] pos) (zipM fa fb) := pi_imp (pi_zipN hg hm (pa_size (pa_cons h1 (pa_cons h2 pa_nil hst2) hst)) hst hpl) fun σ H Rk hq => by
  obtain ⟨R, O, ha, e, h, rel, hp⟩ := hq
  refine ⟨R, O, ha, e, h, rel, pr_bind hp fun d h1 H1 O1 s1 rel1 hp1 v dv => ?_⟩
  refine ⟨R, O1, ha, e, h1, rel1, pr_bind hp1 fun d2 h2 H2 O2 s2 rel2 hp2 v2 dv2 => ?_⟩
  intro hz
  obtain ⟨zs, e1, q⟩ := pr_opt hp2
  have dv' := s2.dd dv
  unfold zipD at e1
  split at e1
  · cases e1
    obtain ⟨p1, xs, rfl, g1, g2⟩ := dd_list dv'
    obtain ⟨p2, ys, rfl, g3, g4⟩ := dd_list dv2
    have l1 : SqL X.K H2 p1 xs := .inl (.inl (cut_some g1).2)
    exact ⟨p1, p2, xs, ys, rfl, .inl ⟨l1, .inl (.inl (cut_some g3).2), pr_ok q rel2 _ (zip_short (by rw [← g2.length, ← line_eq]; exact hz _ _ (.inl l1))) (jg_zip g1 g3 g2 g4)⟩⟩
  · cases e1
    obtain ⟨p1, xs, rfl, g1, g2⟩ := dd_tup dv'
    obtain ⟨p2, ys, rfl, g3, g4⟩ := dd_tup dv2
    have l1 : SqT X.K H2 p1 xs := XN.sqT xn_cut g1
    exact ⟨p1, p2, xs, ys, rfl, .inr ⟨l1, XN.sqT xn_cut g3, pr_ok q rel2 _ (zip_short (by rw [← g2.length, ← line_eq]; exact hz _ _ (.inr l1))) (jg_zipT g1 g3 g2 g4)⟩⟩
  · cases e1
/-! ### max, min of two -/
def max2D (x y : D) : Option D := match x, y with
  | .int i, .int j => some (.int (if j > i then j else i))
  | _, _ => none
def min2D (x y : D) : Option D := match x, y with
  | .int i, .int j => some (.int (if j < i then j else i))
  | _, _ => none
theorem fn2_te {f : Int → Int → Int} {g : D → D → Option D} (hg : ∀ x y d, g x y = some d → ∃ i j, x = .int i ∧ y = .int j ∧ d = .int (f i j)) (σ : L2.St) (H : Hp) (Q : VK) (hq : teD X.K X.mg hs ω E (binM g fa fb) σ H Q) :
    tCB (fun xs H Q => ∃ i j, xs = [.int i, .int j] ∧ Q (.int (f i j)) H) (tCons (teD X.K X.mg hs ω E fa) (tCons (teD X.K X.mg hs ω E fb) tNil)) σ H Q := by
  obtain ⟨R, O, ha, e, h, rel, hp⟩ := hq
  refine ⟨R, O, ha, e, h, rel, pr_bind hp fun d1 h1 H1 O1 s1 rel1 hp1 v1 dv1 => ?_⟩
  refine ⟨R, O1, ha, e, h1, rel1, pr_bind hp1 fun d2 h2 H2 O2 s2 rel2 hp2 v2 dv2 => ?_⟩
  obtain ⟨d, e1, q⟩ := pr_opt hp2
  obtain ⟨i, j, rfl, rfl, rfl⟩ := hg _ _ _ e1
  obtain rfl := dd_int dv1
  obtain rfl := dd_int dv2
  exact ⟨i, j, rfl, pr_ok q rel2 _ (.int _)⟩
theorem de_max2 (hc : X.calm = true) (hm : X.mg "max" = none) (h1 : DE X hs ω E a fa) (h2 : DE X hs ω E b fb) (hg : Gl X "max" := by rfl) (hst : starEach [a, b] X.env = (false, eval a X.env) :: starEach [b] X.env := by rfl) (hst2 : starEach [b] X.env = (false, eval b X.env) :: starEach [] X.env := by rfl) (hpl : (backTo pos (starEach [b] X.env)).any (·.1) = false := by rfl) :
    DE X hs ω E (.Call (.Name "max" p) [a, b] [] pos) (binM max2D fa fb) := pe_imp (pe_callB (call_max2 hc) hg hm (by decide +kernel) (pa_cons h1 (pa_cons h2 pa_nil hst2) hst) (by decide) (by decide) hst hpl) (fn2_te fun x y d e => by
  unfold max2D at e
  split at e
  · cases e; exact ⟨_, _, rfl, rfl, rfl⟩
  · cases e)
theorem de_min2 (hc : X.calm = true) (hm : X.mg "min" = none) (h1 : DE X hs ω E a fa) (h2 : DE X hs ω E b fb) (hg : Gl X "min" := by rfl) (hst : starEach [a, b] X.env = (false, eval a X.env) :: starEach [b] X.env := by rfl) (hst2 : starEach [b] X.env = (false, eval b X.env) :: starEach [] X.env := by rfl) (hpl : (backTo pos (starEach [b] X.env)).any (·.1) = false := by rfl) :
    DE X hs ω E (.Call (.Name "min" p) [a, b] [] pos) (binM min2D fa fb) := pe_imp (pe_callB (call_min2 hc) hg hm (by decide +kernel) (pa_cons h1 (pa_cons h2 pa_nil hst2) hst) (by decide) (by decide) hst hpl) (fn2_te fun x y d e => by
  unfold min2D at e
  split at e
  · cases e; exact ⟨_, _, rfl, rfl, rfl⟩
  · cases e)
end
end Sm


set_option maxRecDepth 100000
set_option maxHeartbeats 4000000
/-! Sim layer, part V: enumerate, [::-1]. -/
namespace Sm
open PySem PySem.Spec PyProof.Rows L2 RZ
set_option maxHeartbeats 1000000 in
theorem enum_newB {v : Value} {o : Obj} {H : Heap → Prop} (B : Begins v o H) :
    Meets (Builtin.«enumerate.__new__» ⟨[.type "enumerate", v], []⟩) (fun _ R s => H s.heap ∧
      R (.ok (.ret (.ref (s.heap.push o).objs.size))) { s with heap := (s.heap.push o).push { cls := .type "enumerate", data := .fields #[.none, .bool false, .ref s.heap.objs.size, rawInt 0, .none, .none] } }) :=
  .of_wp fun prog w A R s h => by
    obtain ⟨hp, g, d, tk, os⟩ := s; obtain ⟨h1, h⟩ := h
    have hsub := sub_enumerate
    have q1 : ∀ {A' : Around} {E : Value → Shared → Prop} {Q : Value → Shared → Prop}, Q (.ref hp.objs.size) ⟨hp.push o, g, d, tk, os⟩ → wpAny (model prog w) A' (pyIter v) Q E ⟨hp, g, d, tk, os⟩ :=
      fun q => B.iter prog w _ _ ⟨hp, g, d, tk, os⟩ _ h1 q
    wp_walk using q1
    refine wpAny_stack_any fun st => wpAny_pure ?_
    split
    · rename_i c _ _ _ _ _
      cases (c == Value.type "enumerate")
      · wp_walk using q1
        exact ⟨_, rfl, h⟩
      · wp_walk using q1
        exact ⟨_, rfl, h⟩
    · wp_walk using q1
      exact ⟨_, rfl, h⟩
theorem call_enumB {prog : Program} {w : World} {A : Around} {E : Value → Shared → Prop} {s : Shared} {v : Value} {o : Obj} {H : Heap → Prop} {Q : Value → Shared → Prop} (B : Begins v o H) (h1 : H s.heap)
    (h : ∀ h', IsEnum h' (s.heap.objs.size + 1) s.heap.objs.size 0 .none → h'.get? s.heap.objs.size = some o → (∀ b o, s.heap.get? b = some o → h'.get? b = some o) → Q (.ref (s.heap.objs.size + 1)) { s with heap := h' }) :
    wpAny (model prog w) A (call (.type "enumerate") [v]) Q E s := by
  refine callType_new F.called_enumerate (by decide) (F.typeCall_enumerate_1 _) (F.newCall_enumerate_1 _) (fun obj => F.args_object_init_2 obj _) F.entry_enumerate_new (enum_newB B) ⟨h1, ?_⟩
  have hz : (s.heap.push o).objs.size = s.heap.objs.size + 1 := Heap.size_push ..
  show _ ∧ _
  rw [hz]
  have he : IsEnum ((s.heap.push o).push { cls := .type "enumerate", data := .fields #[.none, .bool false, .ref s.heap.objs.size, rawInt 0, .none, .none] }) (s.heap.objs.size + 1) s.heap.objs.size 0 .none := by
    have := Heap.get?_push_size (s.heap.push o) (o := { cls := .type "enumerate", data := .fields #[.none, .bool false, .ref s.heap.objs.size, rawInt 0, .none, .none] }) rfl
    rw [hz] at this; exact this
  exact ⟨⟨_, he, rfl⟩, h _ he (Heap.get?_push_of_some _ (Heap.get?_push_size _ B.free)) fun b o x => Heap.get?_push_of_some _ (Heap.get?_push_of_some _ x)⟩
/-- the tuple at a, each item in a new pair with its place -/
def IteT (K : PySem.W.Frag) (a : Addr) : It :=
  ⟨fun i H => ∃ (xs : List V) (x : V), SqT K H a xs ∧ xs[i]? = some x, fun i H v H' => ∃ x, PairN H v (.int (i : Nat)) x H' ∧ ∀ xs, SqT K H a xs → xs[i]? = some x, fun i H => ∃ xs : List V, SqT K H a xs ∧ xs.length ≤ i⟩
theorem turn_enumT {P : Program} {w : World} {K : PySem.W.Frag} {elts : List Expr} {kk : Nat} {tpos : Pos} (a e it : Addr) :
    Turn P w K (.Tuple elts kk tpos) (IteT K a) [e, it] e (fun i h => (∃ old, IsEnum h e it ((i : Nat) : Int) old) ∧ h.IsTupleIter it a i ∧ e ≠ it ∧ a ≠ it ∧ a ≠ e) where
  mem := by simp
  obj := fun i h st b hb => by
    obtain ⟨⟨old, he⟩, ⟨o, ho, hc, hd⟩, _⟩ := st
    have e' : b = e ∨ b = it := by simpa using hb
    rcases e' with z | z
    · rw [z]; exact ⟨_, he, fun v q => nomatch q⟩
    · rw [z]; exact ⟨o, ho, fun v q => by rw [hd] at q; cases q⟩
  keep := fun i h h' st k => let ⟨⟨old, he⟩, hi, hne⟩ := st; ⟨⟨old, k e (by simp) _ he⟩, hi.at fun o q => k it (by simp) o q, hne⟩
  item := by
    intro X hP hw hK hc i pins s σ H E I hf st hg
    subst hP hw hK
    obtain ⟨⟨old, he⟩, hit, hne, hai, hae⟩ := st
    obtain ⟨xs, x, hq, hx⟩ := hg
    obtain ⟨its, rv, p, hz⟩ := I.tuple hq
    obtain ⟨u, hu, ru⟩ := rv.get hx
    have hel : e < s.heap.objs.size := Heap.lt_size he
    have hil : it < s.heap.objs.size := by obtain ⟨_, q, _⟩ := hit; exact Heap.lt_size q
    have hlt : i < its.toArray.size := by
      have := (List.getElem?_eq_some_iff.mp hu).1
      rw [List.size_toArray]; exact this
    have D := Draws.tuple (prog := X.prog) (w := X.w) (A := X.A.in1) (show X.A.in1.handled = none from I.ok.hd hc) it a hai its.toArray
    refine wpAny_pyNext_enum_itemD D he ⟨hit, p⟩ hlt hne (by simp [hne, Ne.symm hae]) fun x' h' tk hP ho hst hT hsz hk => ?_
    have hx' : x' = u := by
      have q : its.toArray[i]? = some x' := hP
      rw [List.getElem?_toArray, hu] at q
      cases q; rfl
    subst hx'
    refine ⟨_, rfl, wpAny_letOwnedTupleGo_enum (s := { s with heap := h', toks := tk + 1 }) ho fun h'' he' sb => ?_⟩
    have hT2 : h''.get? s.heap.objs.size = some { cls := .type "tuple", data := .seq #[.int i tk, x'] } := (sb.2 _ (Nat.ne_of_gt hel)).trans hT
    have I1 :=
      I.turnedNew (t' := tk + 1) (ch := [e, it]) (fun b ob hb q => (sb.2 b (fun z => hb (by simp [z]))).trans (hk b ob (fun z => hb (by simp [z])) (fun z => hb (by simp [z])) q)) hf (Nat.le_refl _) (pairN hT2 (x := .int (i : Nat)) ⟨_, rfl⟩ ru _)
    refine ⟨.ref s.heap.objs.size, _, I1, rfl, ⟨x, ⟨_, _, rfl, I.hok.fresh (Nat.le_refl _), rfl, rfl, rfl⟩, fun ys hy => by rw [I.tuple_inj hy hq]; exact hx⟩, ⟨⟨x', ?_⟩, hst.1.at fun o q => (sb.2 it (Ne.symm hne)).trans q, hne, hai, hae⟩, fun b hb => ?_⟩
    · have e1 : ((i + 1 : Nat) : Int) = (i : Int) + 1 := by omega
      rw [e1]; exact he'
    · have hb' : b < s.heap.objs.size := by
        have e' : b = e ∨ b = it := by simpa using hb
        rcases e' with z | z
        · rw [z]; exact hel
        · rw [z]; exact hil
      rw [upd_ne (Nat.ne_of_lt hb')]
      exact (hf b hb).1
  done := by
    intro X hP hw hK hc i pins s σ H E I hf st hg
    subst hP hw hK
    obtain ⟨⟨old, he⟩, hit, hne, hai, hae⟩ := st
    obtain ⟨xs, hq, hx⟩ := hg
    obtain ⟨its, rv, p, hz⟩ := I.tuple hq
    obtain ⟨f0, f1, f2, f3, f4, f5⟩ := hf it (by simp)
    have hl := rv.length
    have hT : s.TypeIs (.ref e) "enumerate" := ⟨_, he, rfl⟩
    unfold pyNext
    refine wpAny_bind (wpAny_attempt (wpAny_callSpecial?_slot (name := Str.ofString "__next__") hT F.slot_enumerate_next (wpAny_call_entry F.slot_enumerate_next hT F.entry_enumerate_next ?_ (F.args_enumerate_next_1 _))))
    show wpAny _ _ (field (.ref e) 2 >>= _) _ _ _
    refine wpAny_bind (wpAny_field he rfl (x := .ref it) rfl ?_)
    refine wpAny_bind (wpAny_nextOf_tuple_end (I.ok.hd hc) hit p (by simp; omega) fun h' x he' hx' => ?_)
    obtain ⟨o, ho, hc'⟩ := hx'
    refine wpAny_bind (wpAny_isInstance (T := "StopIteration") (b := true) ⟨o, ho, hc'⟩ isSubtype_stop ?_)
    exact wpAny_pure ⟨rfl, I.turned (t' := s.toks) (fun b o hb q => he' b o hb q) f0 f1 f3 f4 f5⟩
  self := fun A i s Q E st h => let ⟨⟨_, he⟩, _⟩ := st; wpAny_pyIter_enum he h
def iEnumA (K : PySem.W.Frag) (ta : TA) : TI := fun σ H R => ta σ H fun vs H1 => ∃ a xs, vs = [.ref a] ∧ ((SqL K H1 a xs ∧ R (IteN K a) H1) ∨ (SqT K H1 a xs ∧ R (IteT K a) H1))
theorem two_new {X : Cx} {pins : List (Addr × Obj)} {σ : L2.St} {H : Hp} {s : Shared} (I : Inv X pins σ H s) : ∀ b ∈ [s.heap.objs.size + 1, s.heap.objs.size], FpOk X pins H b := fun b hb => by
  have e' : b = s.heap.objs.size + 1 ∨ b = s.heap.objs.size := by simpa using hb
  have hle : s.heap.objs.size ≤ b := by
    rcases e' with z | z
    · rw [z]; exact Nat.le_add_right _ _
    · rw [z]; exact Nat.le_refl _
  exact I.fpOk hle (I.hok.fresh hle)
theorem pi_enumA {X : Cx} {e : Expr} {ta : TA} {p pos tpos : Pos} {elts : List Expr} {kk : Nat} (hg : Gl X "enumerate") (hm : X.mg "enumerate" = none) (ha : PA X [e] ta) (hs : starEach [e] X.env = [(false, eval e X.env)] := by rfl) :
    PI X (.Tuple elts kk tpos) (.Call (.Name "enumerate" p) [e] [] pos) (iEnumA X.K ta) := by
  refine ⟨fun pins s σ H R I h => ?_⟩
  refine Call_ (ld_blt I hg hm boot_enumerate (PyProof.Rows.callWith_type1 (thn (ha.run pos pins s σ H _ I h) fun us s1 ⟨vs, H1, I1, r1, q1⟩ => ?_) hs rfl))
  obtain ⟨a, xs, ex, q⟩ := q1
  subst ex
  cases r1 with
  | cons r rr =>
    cases rr
    cases r
    rcases q with ⟨hq, q⟩ | ⟨hq, q⟩
    · obtain ⟨its, rv, p', hz⟩ := I1.list hq
      refine call_enumerate_list p'.isList fun h' he hit hsz hk => wpAny_pyIter_enum he ?_
      have I2 : Inv X pins σ H1 { s1 with heap := h' } := I1.kept (t' := s1.toks) hk
      exact ⟨s1.heap.objs.size + 1, [s1.heap.objs.size + 1, s1.heap.objs.size], _, _, H1, rfl, I2, turn_enumN a (s1.heap.objs.size + 1) s1.heap.objs.size, ⟨⟨.none, he⟩, hit, Nat.succ_ne_self _⟩, two_new I1, q⟩
    · obtain ⟨its, rv, p', hz⟩ := I1.tuple hq
      have hal : a < s1.heap.objs.size := by
        obtain ⟨o, ho, _⟩ := id p'
        exact Heap.lt_size ho
      refine call_enumB (begins_tuple a its.toArray) (show s1.heap.IsTuple a its.toArray from p') fun h' he hit hk => wpAny_pyIter_enum he ?_
      have I2 : Inv X pins σ H1 { s1 with heap := h' } := I1.kept (t' := s1.toks) hk
      refine ⟨s1.heap.objs.size + 1, [s1.heap.objs.size + 1, s1.heap.objs.size], _, _, H1, rfl, I2, turn_enumT a (s1.heap.objs.size + 1) s1.heap.objs.size, ⟨⟨.none, he⟩, ⟨_, hit, rfl, rfl⟩, Nat.succ_ne_self _, Nat.ne_of_lt hal, Nat.ne_of_lt (Nat.lt_succ_of_lt hal)⟩, two_new I1, q⟩
def enumL (ds : List D) : List D := ds.mapIdx fun i d => PyData.tuple [.int (i : Nat), d]
def enumD (x : D) : Option (List D) := (itemsD x).map enumL
def enumM (f : FE) : FL := fun e h => (f e h).bind fun d h1 => opt (enumD d) h1
theorem enum_get {ds : List D} {i : Nat} {d : D} (h : (enumL ds)[i]? = some d) : ∃ x, ds[i]? = some x ∧ d = .tuple [.int (i : Nat), x] := by
  unfold enumL at h
  rw [List.getElem?_mapIdx] at h
  cases h1 : ds[i]? with
  | none => rw [h1] at h; cases h
  | some x => rw [h1] at h; cases h; exact ⟨x, rfl, rfl⟩
theorem enum_len (ds : List D) : (enumL ds).length = ds.length := by unfold enumL; rw [List.length_mapIdx]
theorem jg_enum {K : PySem.W.Frag} {G : Hp} {a : Addr} {xs : List V} {ds : List D} (h : G a = some (.lst xs)) (d : DDs K G xs ds) : JG K (IteN K a) (enumL ds) G := fun i H O ho g => by
  have h2 : SqL K H a xs := .inl (.inl (cut_some (g _ _ h (fun _ z => by cases z))).2)
  refine ⟨fun q e => ?_, fun e => ⟨xs, h2, by rw [enum_len] at e; rw [d.length]; exact e⟩⟩
  obtain ⟨u, e1, rfl⟩ := enum_get e
  obtain ⟨v, f1, f2⟩ := d.get e1
  refine ⟨⟨xs, v, h2, f1⟩, fun x H' ⟨x1, hP, k1⟩ => ?_⟩
  have z1 := k1 xs h2
  rw [f1] at z1
  cases z1
  exact pair_dd ho g hP (.int _) f2
theorem jg_enumT {K : PySem.W.Frag} {G : Hp} {a : Addr} {xs : List V} {ds : List D} (h : SqT K G a xs) (d : DDs K G xs ds) : JG K (IteT K a) (enumL ds) G := fun i H O ho g => by
  have h2 : SqT K H a xs := XN.sqT xn_cut (g.sqT h)
  refine ⟨fun q e => ?_, fun e => ⟨xs, h2, by rw [enum_len] at e; rw [d.length]; exact e⟩⟩
  obtain ⟨u, e1, rfl⟩ := enum_get e
  obtain ⟨v, f1, f2⟩ := d.get e1
  refine ⟨⟨xs, v, h2, f1⟩, fun x H' ⟨x1, hP, k1⟩ => ?_⟩
  have z1 := k1 xs h2
  rw [f1] at z1
  cases z1
  exact pair_dd ho g hP (.int _) f2
section
variable {X : Cx} {hs : HS} {ω : List Nat} {E : XK} {a b c tg it : Expr} {fa fb fc : FE} {pos p p1 p2 p3 tpos : Pos} {elts : List Expr} {kk k : Nat}
theorem di_enum (hg : Gl X "enumerate") (hm : X.mg "enumerate" = none) (h1 : DE X hs ω E a fa) (hst : starEach [a] X.env = [(false, eval a X.env)] := by rfl) :
    DI X hs ω E (.Tuple elts kk tpos) (.Call (.Name "enumerate" p) [a] [] pos) (enumM fa) := pi_imp (pi_enumA hg hm (pa_size (pa_cons h1 pa_nil hst)) hst) fun σ H Rk hq => by
  obtain ⟨R, O, ha, e, h, rel, hp⟩ := hq
  refine ⟨R, O, ha, e, h, rel, pr_bind hp fun d h1 H1 O1 s1 rel1 hp1 v dv => ?_⟩
  intro hz
  obtain ⟨zs, e1, q⟩ := pr_opt hp1
  unfold enumD itemsD at e1
  split at e1
  · cases e1
    obtain ⟨p1, xs, rfl, g1, g2⟩ := dd_list dv
    have l1 : SqL X.K H1 p1 xs := .inl (.inl (cut_some g1).2)
    exact ⟨p1, xs, rfl, .inl ⟨l1, pr_ok q rel1 _ (by rw [enum_len, ← g2.length, ← line_eq]; exact hz _ _ (.inl l1)) (jg_enum g1 g2)⟩⟩
  · cases e1
    obtain ⟨p1, xs, rfl, g1, g2⟩ := dd_tup dv
    have l1 : SqT X.K H1 p1 xs := XN.sqT xn_cut g1
    exact ⟨p1, xs, rfl, .inr ⟨l1, pr_ok q rel1 _ (by rw [enum_len, ← g2.length, ← line_eq]; exact hz _ _ (.inr l1)) (jg_enumT g1 g2)⟩⟩
  · cases e1
end
end Sm


set_option maxRecDepth 100000
set_option maxHeartbeats 4000000
/-! Sim layer, part X: sequences times ints, count and index of tuples, [::-1], is of bools. -/
namespace Sm
open PySem PySem.Spec PyProof.Rows L2 RZ
theorem tup_mulS (l : Addr) (items : Array Value) (n : Nat) (dd : Option Addr) (sl : Array (Option Value)) (x : Int) (u : Tok) (c0 : (decide (x < -(2 ^ 63)) || decide (x ≥ 2 ^ 63)) = false) (c1 : (items.isEmpty || x == 1) = true) :
    Meets (Builtin.«tuple.__mul__» ⟨[.ref l, .int x u], []⟩) (fun _ R s => s.heap.get? l = some { cls := .type "tuple", dict := dd, data := .seq items n, slots := sl } ∧ R (.ok (.ret (Value.ref l))) s) :=
  .of_wp fun prog w A R s h => by
    obtain ⟨hp, g, d, tk, os⟩ := s
    obtain ⟨hl, h⟩ := h
    have f1 := AutoSeq1.idx_int
    wp_walk using wpAny_loadPart' hl
    repeat (first
      | (refine wpAny_ite_false (decide_eq_false (by rw [c0]; exact Bool.false_ne_true)) ?_; wp_walk using wpAny_loadPart' hl)
      | (refine wpAny_ite_true (decide_eq_true (by rw [c1])) ?_; wp_walk using wpAny_loadPart' hl))
    exact ⟨_, rfl, h⟩
theorem tup_mulZ (l : Addr) (items : Array Value) (n : Nat) (dd : Option Addr) (sl : Array (Option Value)) (x : Int) (u : Tok) (c0 : (decide (x < -(2 ^ 63)) || decide (x ≥ 2 ^ 63)) = false) (c1 : (items.isEmpty || x == 1) = false) (c2 : (decide (x ≤ 0) || items.isEmpty) = true) :
    Meets (Builtin.«tuple.__mul__» ⟨[.ref l, .int x u], []⟩) (fun _ R s => s.heap.get? l = some { cls := .type "tuple", dict := dd, data := .seq items n, slots := sl } ∧
      R (.ok (.ret (Value.ref s.heap.objs.size))) { s with heap := s.heap.push { cls := Value.type "tuple", data := Data.seq #[] } }) :=
  .of_wp fun prog w A R s h => by
    obtain ⟨hp, g, d, tk, os⟩ := s
    obtain ⟨hl, h⟩ := h
    have f1 := AutoSeq1.idx_int
    wp_walk using wpAny_loadPart' hl
    repeat (first
      | (refine wpAny_ite_false (decide_eq_false (by rw [c0]; exact Bool.false_ne_true)) ?_; wp_walk using wpAny_loadPart' hl)
      | (refine wpAny_ite_false (decide_eq_false (by rw [c1]; exact Bool.false_ne_true)) ?_; wp_walk using wpAny_loadPart' hl)
      | (refine wpAny_ite_true (decide_eq_true (by rw [c2])) ?_; wp_walk using wpAny_loadPart' hl))
    exact ⟨_, rfl, h⟩
def rRepS (K : PySem.W.Frag) : R2 := fun x y H Q => ∃ l k xs, x = .ref l ∧ y = .int k ∧ SqT K H l xs ∧ -1000 ≤ k ∧ k ≤ 1000 ∧ (xs = [] ∨ k = 1) ∧ Q (.ref l) H
def rRepZ (K : PySem.W.Frag) : R2 := fun x y H Q => ∃ l k xs, x = .ref l ∧ y = .int k ∧ SqT K H l xs ∧ -1000 ≤ k ∧ k ≤ 0 ∧ xs ≠ [] ∧ NewT H [] Q
section
variable {X : Cx}
theorem op_repS : OpR X (binaryOp .Mult) (rRepS X.K) := by
  intro pins s σ H x y v u Q I rx ry h
  obtain ⟨l, k, xs, rfl, rfl, hT, h1, h2, h3, q⟩ := h
  cases rx
  obtain ⟨t, rfl⟩ := ry
  obtain ⟨its, r, ⟨⟨cls, dd, data, sl⟩, ho, hc, n, hd⟩, hs⟩ := I.tuple hT
  simp only at hc hd
  subst hc hd
  have hle : its.length = xs.length := r.length.symm
  have c0 : (decide (k < -(2 ^ 63)) || decide (k ≥ 2 ^ 63)) = false := by
    rw [decide_eq_false (by omega), decide_eq_false (by omega)] <;> rfl
  have c1 : (its.toArray.isEmpty || k == 1) = true := by
    rcases h3 with e | e
    · subst e
      rw [List.eq_nil_of_length_eq_zero hle]; rfl
    · subst e
      rw [Bool.or_eq_true]; exact .inr rfl
  exact wpAny_binaryOp_repeat_ref (T := "tuple") (U := "int") (by decide) ⟨_, ho, rfl⟩ (fun s' => typeIs_int s' k t) noFill_tuple_mul F.fills_int_mul F.slot_int_rmul repeat_tuple F.slot_int_index.lookup
    (call_meets F.slot_int_rmul (typeIs_int s k t) F.entry_int_rmul (F.args_int_rmul_2 _ _) (int_rmul_tuple k t l its.toArray n dd sl)
      ⟨ho, rfl, ⟨_, ho, rfl⟩, call_meets F.slot_tuple_mul ⟨_, ho, rfl⟩ F.entry_tuple_mul (F.args_tuple_mul_2 _ _) (tup_mulS l its.toArray n dd sl k t c0 c1) ⟨ho, ⟨.ref l, H, I, rfl, q⟩⟩⟩)
theorem op_repZ : OpR X (binaryOp .Mult) (rRepZ X.K) := by
  intro pins s σ H x y v u Q I rx ry h
  obtain ⟨l, k, xs, rfl, rfl, hT, h1, h2, h3, q⟩ := h
  cases rx
  obtain ⟨t, rfl⟩ := ry
  obtain ⟨its, r, ⟨⟨cls, dd, data, sl⟩, ho, hc, n, hd⟩, hs⟩ := I.tuple hT
  simp only at hc hd
  subst hc hd
  have hle : its.length = xs.length := r.length.symm
  have hi : its.toArray.isEmpty = false := by
    cases its with
    | nil => exact absurd (List.eq_nil_of_length_eq_zero hle.symm) h3
    | cons a b => rfl
  have c0 : (decide (k < -(2 ^ 63)) || decide (k ≥ 2 ^ 63)) = false := by
    rw [decide_eq_false (by omega), decide_eq_false (by omega)] <;> rfl
  have c1 : (its.toArray.isEmpty || k == 1) = false := by
    rw [hi, Bool.false_or]
    exact beq_eq_false_iff_ne.mpr (by omega)
  have c2 : (decide (k ≤ 0) || its.toArray.isEmpty) = true := by
    rw [decide_eq_true (by omega)]; rfl
  refine wpAny_binaryOp_repeat_ref (T := "tuple") (U := "int") (by decide) ⟨_, ho, rfl⟩ (fun s' => typeIs_int s' k t) noFill_tuple_mul F.fills_int_mul F.slot_int_rmul repeat_tuple F.slot_int_index.lookup
    (call_meets F.slot_int_rmul (typeIs_int s k t) F.entry_int_rmul (F.args_int_rmul_2 _ _) (int_rmul_tuple k t l its.toArray n dd sl)
      ⟨ho, rfl, ⟨_, ho, rfl⟩, call_meets F.slot_tuple_mul ⟨_, ho, rfl⟩ F.entry_tuple_mul (F.args_tuple_mul_2 _ _) (tup_mulZ l its.toArray n dd sl k t c0 c1 c2) ⟨ho, ?_⟩⟩)
  exact end_new (its := []) I (by show 0 ≤ sizeLine; decide) .nil q
def rRepN (K : PySem.W.Frag) : R2 := fun x y H Q => ∃ l k xs, x = .ref l ∧ y = .int k ∧ SqT K H l xs ∧ xs ≠ [] ∧ 2 ≤ k ∧ k ≤ 1000 ∧ xs.length ≤ 1000 ∧ NewT H (List.replicate k.toNat xs).flatten Q
theorem op_repN : OpR X (binaryOp .Mult) (rRepN X.K) := by
  intro pins s σ H x y v u Q I rx ry h
  obtain ⟨l, k, xs, rfl, rfl, hT, h3, h1, h2, h4, q⟩ := h
  cases rx
  obtain ⟨t, rfl⟩ := ry
  obtain ⟨its, r, ⟨⟨cls, dd, data, sl⟩, ho, hc, n, hd⟩, hs⟩ := I.tuple hT
  simp only at hc hd
  subst hc hd
  have hle : its.length = xs.length := r.length.symm
  have hi : its.toArray.isEmpty = false := by
    cases its with
    | nil => exact absurd (List.eq_nil_of_length_eq_zero hle.symm) h3
    | cons a b => rfl
  have sz : its.toArray.size = xs.length := by rw [List.size_toArray, hle]
  have big : k.toNat * xs.length ≤ 1000 * 1000 := Nat.mul_le_mul (by omega) h4
  have hm : ((its.toArray.size : Nat) : Int) * k ≤ 1000000 := by
    rw [sz]
    have a1 : ((xs.length : Nat) : Int) * k ≤ 1000 * k := Int.mul_le_mul_of_nonneg_right (by omega) (by omega)
    omega
  have c0 : (decide (k < -(2 ^ 63)) || decide (k ≥ 2 ^ 63)) = false := by
    rw [decide_eq_false (by omega), decide_eq_false (by omega)] <;> rfl
  have c1 : (its.toArray.isEmpty || k == 1) = false := by
    rw [hi, Bool.false_or]
    exact beq_eq_false_iff_ne.mpr (by omega)
  have c2 : (decide (k ≤ 0) || its.toArray.isEmpty) = false := by
    rw [hi, Bool.or_false]
    exact decide_eq_false (by omega)
  have c4 : Builtin.Tuple.tupleTooMany (((its.toArray.size : Nat) : Int) * k) = false := by
    unfold Builtin.Tuple.tupleTooMany
    rw [sizeLine_eq]
    exact decide_eq_false (by omega)
  have fl : (List.replicate k.toNat its).flatten.length ≤ sizeLine := by
    rw [PyProof.Rows.lm_len_rep_flat, hle, sizeLine_eq]
    omega
  refine wpAny_binaryOp_repeat_ref (T := "tuple") (U := "int") (by decide) ⟨_, ho, rfl⟩ (fun s' => typeIs_int s' k t) noFill_tuple_mul F.fills_int_mul F.slot_int_rmul repeat_tuple F.slot_int_index.lookup
    (call_meets F.slot_int_rmul (typeIs_int s k t) F.entry_int_rmul (F.args_int_rmul_2 _ _) (int_rmul_tuple k t l its.toArray n dd sl)
      ⟨ho, rfl, ⟨_, ho, rfl⟩, call_meets F.slot_tuple_mul ⟨_, ho, rfl⟩ F.entry_tuple_mul (F.args_tuple_mul_2 _ _) (tuple_mulW l its.toArray n dd sl k t c0 c1 c2 (by omega) c4 (by rw [size_rep, List.size_toArray]; exact fl)) ⟨ho, ?_⟩⟩)
  rw [size_rep]
  exact end_new I (by rw [PyProof.Rows.lm_len_rep_flat, sizeLine_eq]; omega) (r.rep k.toNat) q
end
section
variable {X : Cx} {hs : HS} {ω : List Nat} {E : XK} {a b c o tg it x : Expr} {f f1 f2 fa fb fc : FE} {pos p p1 p2 p3 apos : Pos} {kk k : Nat}
/-- one of two rules, by what is met -/
theorem de_either (P1 : DE X hs ω E x f1) (P2 : DE X hs ω E x f2) (h : ∀ e h, f e h = f1 e h ∨ f e h = f2 e h ∨ f e h = .no) : DE X hs ω E x f := ⟨fun pins s σ H Q I hq => by
  obtain ⟨R, O, ha, e, h0, rel, hp⟩ := hq
  rcases h e h0 with q | q | q
  · exact P1.run pins s σ H Q I ⟨R, O, ha, e, h0, rel, by rw [← q]; exact hp⟩
  · exact P2.run pins s σ H Q I ⟨R, O, ha, e, h0, rel, by rw [← q]; exact hp⟩
  · rw [q] at hp; exact hp.elim⟩
/-! ### is of bools -/
def isBD (x y : D) : Option D := match x, y with
  | .bool a, .bool b => some (.bool (decide (a = b)))
  | _, _ => none
def notBD (x y : D) : Option D := match x, y with
  | .bool a, .bool b => some (.bool (!decide (a = b)))
  | _, _ => none
theorem od_isB {K : PySem.W.Frag} : OpD K rIsB isBD := by
  intro H x y a b d G Q s hx hy e q
  unfold isBD at e
  split at e
  · cases e
    obtain rfl := dd_bl hx
    obtain rfl := dd_bl hy
    exact ⟨_, _, rfl, rfl, q _ H (Grow.refl H) fun _ _ _ => .bl _⟩
  · cases e
theorem od_notB {K : PySem.W.Frag} : OpD K rNotB notBD := by
  intro H x y a b d G Q s hx hy e q
  unfold notBD at e
  split at e
  · cases e
    obtain rfl := dd_bl hx
    obtain rfl := dd_bl hy
    exact ⟨_, _, rfl, rfl, q _ H (Grow.refl H) fun _ _ _ => .bl _⟩
  · cases e
theorem de_isB (h1 : DE X hs ω E a fa) (h2 : DE X hs ω E b fb) : DE X hs ω E (.Compare a [.Is] [b] pos) (binM isBD fa fb) := de_cmp op_isBl od_isB h1 h2 (nomark _)
theorem de_notB (h1 : DE X hs ω E a fa) (h2 : DE X hs ω E b fb) : DE X hs ω E (.Compare a [.IsNot] [b] pos) (binM notBD fa fb) := de_cmp op_notBl od_notB h1 h2 (nomark _)
/-! ### sequences times ints -/
def repG {α : Type} (xs : List α) (k : Int) : List α := (List.replicate k.toNat xs).flatten
def mulT : D → D → Option D
  | .tuple xs, .int k => if -1000 ≤ k ∧ k ≤ 1000 ∧ xs.length ≤ 1000 then some (.tuple (repG xs k)) else none
  | _, _ => none
def mulLs : D → D → Option D
  | .list xs, .int k => if -1000 ≤ k ∧ k ≤ 1000 ∧ xs.length ≤ 1000 then some (.list (repG xs k)) else none
  | _, _ => none
def mulD (x y : D) : Option D := match x with
  | .tuple _ => mulT x y
  | .list _ => mulLs x y
  | _ => mulI x y
theorem DDs.rep {K : PySem.W.Frag} {G : Hp} {vs : List V} {ds : List D} (h : DDs K G vs ds) (k : Int) : DDs K G (repG vs k) (repG ds k) := by
  unfold repG
  induction k.toNat with
  | zero => exact .nil
  | succ n ih =>
    rw [List.replicate_succ, List.replicate_succ, List.flatten_cons, List.flatten_cons]
    exact h.append ih
theorem od_mulT {K : PySem.W.Frag} : OpD K (fun x y H Q => rRepS K x y H Q ∨ rRepZ K x y H Q ∨ rRepN K x y H Q) mulT := by
  intro H x y a b d G Q s hx hy e q
  unfold mulT at e
  split at e
  · rename_i ds k
    split at e
    · rename_i hc
      obtain ⟨h1, h2, h3⟩ := hc
      cases e
      obtain ⟨a1, xs, rfl, hs1, hd1⟩ := dd_tup hx
      obtain rfl := dd_int hy
      have hl := hd1.length
      by_cases c : xs = [] ∨ k = 1
      · refine .inl ⟨a1, k, xs, rfl, rfl, sq_ts s hs1, h1, h2, c, q _ H (Grow.refl H) fun G' x1 _ => ?_⟩
        have e : repG ds k = ds := by
          unfold repG
          rcases c with c | c
          · rw [c] at hl
            have : ds = [] := List.eq_nil_of_length_eq_zero hl.symm
            subst this
            simp
          · subst c
            simp
        rw [e]
        exact dd_mono x1 hx
      · have c1 : xs ≠ [] := fun z => c (.inl z)
        have c2 : k ≠ 1 := fun z => c (.inr z)
        by_cases c3 : k ≤ 0
        · refine .inr (.inl ⟨a1, k, xs, rfl, rfl, sq_ts s hs1, h1, c3, c1, fun p o hp oc od => ?_⟩)
          have e : repG ds k = [] := by
            unfold repG
            rw [show k.toNat = 0 by omega]; rfl
          rw [e] at q
          exact q _ _ (Grow.new hp) fun G' x1 x2 => .tup (.new (by rw [x2 p hp, upd_same]) oc od) .nil
        · refine .inr (.inr ⟨a1, k, xs, rfl, rfl, sq_ts s hs1, c1, by omega, h2, by omega, fun p o hp oc od => ?_⟩)
          exact q _ _ (Grow.new hp) fun G' x1 x2 => .tup (.new (by rw [x2 p hp, upd_same]; rfl) oc od) ((dds_mono x1 hd1).rep k)
    · cases e
  · cases e
theorem od_mulLs {K : PySem.W.Frag} : OpD K rRep mulLs := by
  intro H x y a b d G Q s hx hy e q
  unfold mulLs at e
  split at e
  · rename_i ds k
    split at e
    · rename_i hc
      obtain ⟨h1, h2, h3⟩ := hc
      cases e
      obtain ⟨a1, xs, rfl, hs1, hd1⟩ := dd_list hx
      obtain rfl := dd_int hy
      have hl := hd1.length
      refine ⟨a1, k, xs, rfl, rfl, s _ _ hs1, by omega, by omega, ?_, fun p hp => ?_⟩
      · rw [line_eq, hl]
        have : ds.length * k.toNat ≤ 1000 * 1000 := Nat.mul_le_mul h3 (by omega)
        show _ ≤ 16777216
        omega
      · exact q _ _ (Grow.new hp) fun G' x1 x2 => .lst (by rw [x2 p hp, upd_same]; rfl) ((dds_mono x1 hd1).rep k)
    · cases e
  · cases e
theorem de_mul (h1 : DE X hs ω E a fa) (h2 : DE X hs ω E b fb) : DE X hs ω E (.BinOp a .Mult b pos) (binM mulD fa fb) := by
  have P1 := de_mulI (pos := pos) h1 h2
  have P2 := de_op (op := .Mult) (pos := pos) (opR_or (op_repS (X := X)) (opR_or op_repZ op_repN)) od_mulT h1 h2
  have P3 := de_op (op := .Mult) (pos := pos) (op_rep (X := X)) od_mulLs h1 h2
  refine de_either P1 (de_either (f := binM (fun x y => match x with | .tuple _ => mulT x y | .list _ => mulLs x y | _ => none) fa fb) P2 P3 fun e h => ?_) fun e h => ?_
  · show _ ∨ _ ∨ _
    unfold binM
    cases fa e h with
    | ok x h1 =>
      cases x with
      | tuple xs => exact .inl rfl
      | list xs => exact .inr (.inl rfl)
      | _ => exact .inl rfl
    | ex c h1 => exact .inl rfl
    | no => exact .inl rfl
  · unfold binM
    cases fa e h with
    | ok x h1 =>
      cases x with
      | tuple xs => exact .inr (.inl rfl)
      | list xs => exact .inr (.inl rfl)
      | _ => exact .inl rfl
    | ex c h1 => exact .inl rfl
    | no => exact .inl rfl
end
/-! ### [::-1] -/
def revD : D → Option D
  | .list ds => some (.list ds.reverse)
  | .tuple ds => some (.tuple ds.reverse)
  | _ => none
theorem DDs.rev {K : PySem.W.Frag} {G : Hp} : ∀ {vs : List V} {ds : List D}, DDs K G vs ds → DDs K G vs.reverse ds.reverse
  | _, _, .nil => .nil
  | _, _, .cons p t => by
    rw [List.reverse_cons, List.reverse_cons]
    exact (DDs.rev t).append (.cons p .nil)
theorem rev_pick (xs : Array Value) : ((List.range xs.size).filterMap fun (k : Nat) => xs[((xs.size : Int) - 1 + (k : Int) * (-1)).toNat]?).toArray = xs.toList.reverse.toArray := by
  have e : ((List.range xs.size).filterMap fun (k : Nat) => xs[((xs.size : Int) - 1 + (k : Int) * (-1)).toNat]?) = ((List.range xs.size).map fun k => xs.size - 1 - k).filterMap fun k => xs[k]? := by
    rw [List.filterMap_map]
    congr 1
    funext k
    show xs[((xs.size : Int) - 1 + (k : Int) * (-1)).toNat]? = xs[xs.size - 1 - k]?
    congr 1
    omega
  rw [e, PySem.W.krv_range, List.filterMap_reverse, PySem.W.krv_all]
theorem getItem_tup_rev {prog : Program} {w : World} {A : Around} {E : Value → Shared → Prop} {s : Shared} {t sl : Addr} {items : Array Value} {vl vu vs : Value} {Q : Value → Shared → Prop} (ht : IsTup s.heap t items) (hs : s.heap.IsSliceOf sl vl vu vs) (pl : IsPart vl none) (pu : IsPart vu none) (ps : IsPart vs (some (-1)))
    (h : Q (.ref s.heap.objs.size) { s with heap := s.heap.push { cls := .type "tuple", data := .seq items.toList.reverse.toArray } })
    (hsz : items.size ≤ sizeLine) : wpAny (model prog w) A (getItem (.ref t) (.ref sl)) Q E s := by
  have htake : sizeOk (.seq items.toList.reverse.toArray) := by
    show items.toList.reverse.toArray.size ≤ sizeLine
    rw [List.size_toArray, List.length_reverse, Array.length_toList]
    exact hsz
  obtain ⟨os, hos, hcs, hds⟩ := id hs
  have hTs : s.TypeIs (.ref sl) "slice" := ⟨os, hos, hcs⟩
  unfold getItem
  try with_reducible refine wpAny_holding ?_
  first | refine wpAny_bind (wpAny_pure ?_) | skip
  refine wpAny_bind (wpAny_sequenceKey ht.typeIs (by decide) ?_)
  refine wpAny_bind (wpAny_callSpecial?_slot (name := Str.ofString "__getitem__") ht.typeIs PyProof.Rows.slot_tuple_getitem
    (wpAny_call_entry PyProof.Rows.slot_tuple_getitem ht.typeIs entry_tuple_getitem ?_ (args_tuple_getitem _ _)))
  show wpAny _ _ (Builtin.Tuple.tupleItemsOf (.ref t) >>= _) _ _ s
  refine wpAny_bind (tupleItemsOf_ ht ?_)
  refine wpAny_bind (wpAny_typeOf hTs ?_)
  rw [if_pos (by decide)]
  refine wpAny_bind (m := Builtin.Slice.sliceApplied (.ref sl) (pure (items.size : Int))) ?_
  unfold Builtin.Slice.sliceApplied Builtin.Slice.sliceFields
  refine wpAny_bind (wpAny_bind (wpAny_field hos hds (x := vl) rfl (wpAny_bind (wpAny_field hos hds (x := vu) rfl (wpAny_bind (wpAny_field hos hds (x := vs) rfl (wpAny_pure ?_)))))))
  refine wpAny_bind (HT.slicePart_ ps ?_)
  show wpAny _ _ (if ((-1 : Int) == 0) = true then _ else _) _ _ s
  rw [if_neg (by decide)]
  refine wpAny_bind (HT.slicePart_ pl (wpAny_bind (HT.slicePart_ pu (wpAny_bind (wpAny_pure ?_)))))
  have e : Builtin.Slice.sliceAdjust none none (-1) (items.size : Int) = ((items.size : Int) - 1, -1) := rfl
  show wpAny _ _ (match Builtin.Slice.sliceAdjust none none (-1) (items.size : Int) with | (lo, hi) => pure (lo, (-1 : Int), Builtin.Slice.slicePlaces lo hi (-1))) _ _ s
  rw [e]
  have e2 : Builtin.Slice.slicePlaces ((items.size : Int) - 1) (-1) (-1) = items.size := by
    unfold Builtin.Slice.slicePlaces
    rw [if_neg (by decide), show (-(-1 : Int)) = 1 from rfl, Int.ediv_one]
    split <;> omega
  show wpAny _ _ (pure ((items.size : Int) - 1, (-1 : Int), Builtin.Slice.slicePlaces ((items.size : Int) - 1) (-1) (-1))) _ _ s
  rw [e2]
  refine wpAny_pure ?_
  have hno : ¬ ((((items.size : Int) - 1) == 0 && (-1 : Int) == 1 && items.size == items.size) = true) := by
    intro q
    rw [Bool.and_eq_true, Bool.and_eq_true] at q
    exact absurd (eq_of_beq q.1.2) (by decide)
  show wpAny _ _ (if (((items.size : Int) - 1) == 0 && (-1 : Int) == 1 && items.size == items.size) = true then _ else _) _ _ s
  rw [if_neg hno, rev_pick]
  first
    | exact wpAny_bind (m := Builtin.Tuple.tupleExact _) (wpAny_newObj_type (wpAny_pure ⟨_, rfl, wpAny_pure h⟩) htake)
    | exact wpAny_bind (m := Builtin.Tuple.tupleExact _) (wpAny_newObj_type (wpAny_bind (wpAny_pure (wpAny_pure ⟨_, rfl, wpAny_pure h⟩))) htake)
    | exact wpAny_bind (wpAny_bind (m := Builtin.Tuple.tupleExact _) (wpAny_newObj_type (wpAny_pure (wpAny_pure ⟨_, rfl, wpAny_pure h⟩)) htake))
    | exact wpAny_bind (wpAny_bind (m := Builtin.Tuple.tupleExact _) (wpAny_newObj_type (wpAny_pure ⟨_, rfl, wpAny_pure h⟩) htake))
def tRevT (K : PySem.W.Frag) (te : TE) : TE := fun σ H Q => te σ H fun x H1 => ∃ a xs, x = .ref a ∧ SqT K H1 a xs ∧ NewT H1 xs.reverse Q
section
variable {X : Cx}
theorem pe_revT {e : Expr} {te : TE} {k : Nat} {p1 p2 p3 pos : Pos} (he : PE X e te) : PE X (.Subscript e (.Slice none none (some (.UnaryOp .USub (.Constant (.int 1) k p1) p2)) p3) pos) (tRevT X.K te) := by
  refine ⟨fun pins s σ H Q I h => ?_⟩
  refine Subscript_ (thn (he.run pins s σ H _ I h) fun v s1 ⟨x, H1, I1, r1, q1⟩ => ?_)
  obtain ⟨a, xs, ex, hx, q⟩ := q1
  subst ex
  cases r1
  have hst : PO X (some (.UnaryOp .USub (.Constant (.int 1) k p1) p2)) (tPart (tUn (rU fun i => .int (-i)) (tC (.int 1)))) := po_some (pe_un un_neg pe_int)
  refine wpAny_Slice (thn (po_none.run pins s1 σ H1 (fun o H2 => o = none ∧ H2 = H1) I1 ⟨rfl, rfl⟩) fun vl s2 ⟨l, H2, I2, pl, el, e2⟩ => ?_)
  subst el e2
  refine thn (po_none.run pins s2 σ H2 (fun o H3 => o = none ∧ H3 = H2) I2 ⟨rfl, rfl⟩) fun vu s3 ⟨u, H3, I3, pu, eu, e3⟩ => ?_
  subst eu e3
  refine thn (hst.run pins s3 σ H3 (fun o H4 => o = some (-1) ∧ H4 = H3) I3 ⟨1, rfl, -1, rfl, rfl, rfl⟩) fun vs s4 ⟨o, H4, I4, ps, eo, e4⟩ => ?_
  subst eo e4
  have I5 : Inv X pins σ H4 { s4 with heap := s4.heap.push { cls := .type "slice", data := .fields #[vl, vu, vs] } } := I4.kept (t' := s4.toks) fun b ob q => Heap.get?_push_of_some _ q
  obtain ⟨its, r, ht, hz⟩ := I5.tuple hx
  have hlen := r.length
  show wpAny (model X.prog X.w) X.A (subscriptTail e (.Slice none none (some (.UnaryOp .USub (.Constant (.int 1) k p1) p2)) p3) (.ref a) (.ref s4.heap.objs.size)) (EP X pins σ Q) X.xe { s4 with heap := s4.heap.push { cls := .type "slice", data := .fields #[vl, vu, vs] } }
  refine tail_any (ops := [.ref a, .ref s4.heap.objs.size]) ht.typeIs (PyProof.Rows.slot_tuple_getitem.lookup) ?_ (by with_unfolding_all rfl)
  refine getItem_tup_rev ht (Heap.IsSliceOf.new _ vl vu vs) pl pu ps ?_ (by rw [List.size_toArray]; omega)
  exact end_new I5 (by rw [List.length_reverse]; exact hz) r.reverse q
variable {hs : HS} {ω : List Nat} {E : XK} {a : Expr} {fa : FE} {pos p1 p2 p3 : Pos} {k i : Nat}
theorem de_rev (h1 : DE X hs ω E a fa) : DE X hs ω E (.Subscript a (.Slice none none (some (.UnaryOp .USub (.Constant (.int 1) k p1) p2)) p3) pos) (unM revD fa) := by
  have P1 : DE X hs ω E (.Subscript a (.Slice none none (some (.UnaryOp .USub (.Constant (.int 1) k p1) p2)) p3) pos) (unM (fun d => match d with | .list ds => some (.list ds.reverse) | _ => none) fa) := pe_imp (pe_revL h1) fun σ H Q hq => by
    obtain ⟨R, O, ha, e, h, rel, hp⟩ := hq
    refine ⟨R, O, ha, e, h, rel, pr_bind hp fun d1 h1 H1 O1 s1 rel1 hp1 v1 dv1 => ?_⟩
    obtain ⟨d, e1, q⟩ := pr_opt hp1
    dsimp only at e1
    split at e1
    · cases e1
      obtain ⟨p, xs, rfl, g1, g2⟩ := dd_list dv1
      exact ⟨p, xs, rfl, .inl (.inl (cut_some g1).2), fun l hl => pr_new q rel1 hl _ (.lst (by rw [cut_out fun z => rel1.g.dom l z hl, upd_same]) (dds_mono (rel1.step (Grow.new hl)).ex g2.rev))⟩
    · cases e1
  have P2 : DE X hs ω E (.Subscript a (.Slice none none (some (.UnaryOp .USub (.Constant (.int 1) k p1) p2)) p3) pos) (unM (fun d => match d with | .tuple ds => some (.tuple ds.reverse) | _ => none) fa) := pe_imp (pe_revT h1) fun σ H Q hq => by
    obtain ⟨R, O, ha, e, h, rel, hp⟩ := hq
    refine ⟨R, O, ha, e, h, rel, pr_bind hp fun d1 h1 H1 O1 s1 rel1 hp1 v1 dv1 => ?_⟩
    obtain ⟨d, e1, q⟩ := pr_opt hp1
    dsimp only at e1
    split at e1
    · cases e1
      obtain ⟨p, xs, rfl, g1, g2⟩ := dd_tup dv1
      exact ⟨p, xs, rfl, XN.sqT xn_cut g1, fun l o hl oc od => pr_new q rel1 hl _ (.tup (.new (by rw [cut_out fun z => rel1.g.dom l z hl, upd_same]) oc od) (dds_mono (rel1.step (Grow.new hl)).ex g2.rev))⟩
    · cases e1
  refine de_either P1 P2 fun e h => ?_
  unfold unM
  cases fa e h with
  | ok x h1 =>
    cases x with
    | tuple xs => exact .inr (.inl rfl)
    | list xs => exact .inl rfl
    | _ => exact .inl rfl
  | ex c h1 => exact .inl rfl
  | no => exact .inl rfl
end
end Sm


set_option maxRecDepth 100000
set_option maxHeartbeats 4000000
/-! Sim layer, part Z: what is never reached, more comparisons, item stores, pop, isinstance of two. -/
namespace Sm
open PySem PySem.Spec PyProof.Rows L2 RZ
section
variable {X : Cx} {hs : HS} {ω ω' ωl : List Nat} {E : XK} {e a b c o tg it x : Expr} {f f1 f2 fe fa fb fc : FE} {pos p p1 p2 p3 apos : Pos} {kk k i : Nat} {st : Stmt}
/-! ### never reached -/
def noM : FE := fun _ _ => .no
def noB : FB := fun _ _ => .no
def noL : FL := fun _ _ => .no
def noS : FS := fun _ _ => .no
theorem de_no : DE X hs ω E e noM := ⟨fun pins s σ H Q I hq => by
  obtain ⟨R, O, ha, e, h, rel, hp⟩ := hq
  exact hp.elim⟩
theorem dq_no : DQ X hs ω E e noM := ⟨fun pins s σ H Q I hq => by
  obtain ⟨R, O, ha, e, h, rel, hp⟩ := hq
  exact hp.elim⟩
theorem dl_no : DL X hs ω E e noL := ⟨fun pins s σ H Q I hq => by
  obtain ⟨R, O, ha, e, h, rel, hp⟩ := hq
  exact hp.elim⟩
theorem dt_no : DT X hs ω E e noB := ⟨fun pins s σ H Q I hq => by
  obtain ⟨R, O, ha, e, h, rel, hp⟩ := hq
  exact hp.elim⟩
theorem di_no : DI X hs ω E tg it noL := ⟨fun pins s σ H Q I hq => by
  obtain ⟨R, O, ha, e, h, rel, hp⟩ := hq
  exact hp.elim⟩
theorem de_d0 : DE X hs ω E (.Dict [] [] pos) (conM (.dict [])) := pe_imp pe_dnewK fun σ H Q hq => by
  obtain ⟨R, O, ha, e, h, rel, hp⟩ := hq
  exact fun p hp0 => pr_new hp rel hp0 _ (.dct (by rw [cut_out fun z => rel.g.dom p z hp0, upd_same]))
theorem dss_no {sts : List Stmt} : DSs X hs ω ω' ωl E sts noS := ⟨fun pins s σ H D I hq => by
  obtain ⟨R, O, ha, e, h, rel, hp⟩ := hq
  exact hp.elim⟩
theorem ds_no : DS X hs ω ω' ωl E st noS := ⟨fun pins s σ H D I hq => by
  obtain ⟨R, O, ha, e, h, rel, hp⟩ := hq
  exact hp.elim⟩
/-! ### comparisons -/
theorem de_ltLe (h1 : DE X hs ω E a fa) (h2 : DE X hs ω E b fb) (h3 : DE X hs ω E c fc) : DE X hs ω E (.Compare a [.Lt, .LtE] [b, c] pos) (chainM ltD leD fa fb fc) := de_chain op_lt od_cmp op_le od_cmp h1 h2 h3 (nomark2 b c)
theorem dt_ltLe (h1 : DE X hs ω E a fa) (h2 : DE X hs ω E b fb) (h3 : DE X hs ω E c fc) : DT X hs ω E (.Compare a [.Lt, .LtE] [b, c] pos) (boolM (chainM ltD leD fa fb fc)) := dt_chain op_lt od_cmp op_le od_cmp h1 h2 h3 (nomark2 b c)
theorem de_ltLt (h1 : DE X hs ω E a fa) (h2 : DE X hs ω E b fb) (h3 : DE X hs ω E c fc) : DE X hs ω E (.Compare a [.Lt, .Lt] [b, c] pos) (chainM ltD ltD fa fb fc) := de_chain op_lt od_cmp op_lt od_cmp h1 h2 h3 (nomark2 b c)
theorem dt_ltLt (h1 : DE X hs ω E a fa) (h2 : DE X hs ω E b fb) (h3 : DE X hs ω E c fc) : DT X hs ω E (.Compare a [.Lt, .Lt] [b, c] pos) (boolM (chainM ltD ltD fa fb fc)) := dt_chain op_lt od_cmp op_lt od_cmp h1 h2 h3 (nomark2 b c)
theorem dt_isB (h1 : DE X hs ω E a fa) (h2 : DE X hs ω E b fb) : DT X hs ω E (.Compare a [.Is] [b] pos) (boolM (binM isBD fa fb)) := dt_cmp op_isBl od_isB h1 h2 (nomark _)
theorem dt_notB (h1 : DE X hs ω E a fa) (h2 : DE X hs ω E b fb) : DT X hs ω E (.Compare a [.IsNot] [b] pos) (boolM (binM notBD fa fb)) := dt_cmp op_notBl od_notB h1 h2 (nomark _)
theorem o_in2 (hu : X.A.units + 65 < cLine) (h1 : DE X hs ω E a fa) (h2 : PE X b (tVar i)) (hm : behindInMarks .In b = false := by rfl) (hi : i ∈ ω := by decide) : DT X hs ω E (.Compare a [.In] [b] pos) (boolM (binM (inD false) fa (varM i))) := dt_cmp2 (op_inS hu) oq_in h1 h2 hm hi
theorem o_notIn2 (hu : X.A.units + 65 < cLine) (h1 : DE X hs ω E a fa) (h2 : PE X b (tVar i)) (hm : behindInMarks .NotIn b = false := by rfl) (hi : i ∈ ω := by decide) : DT X hs ω E (.Compare a [.NotIn] [b] pos) (boolM (binM (inD true) fa (varM i))) := dt_cmp2 (op_notInS hu) oq_in h1 h2 hm hi
theorem oe_in2 (hu : X.A.units + 65 < cLine) (h1 : DE X hs ω E a fa) (h2 : PE X b (tVar i)) (hm : behindInMarks .In b = false := by rfl) (hi : i ∈ ω := by decide) : DE X hs ω E (.Compare a [.In] [b] pos) (binM (inD false) fa (varM i)) := de_cmp2 (op_inS hu) oq_in h1 h2 hm hi
theorem oe_notIn2 (hu : X.A.units + 65 < cLine) (h1 : DE X hs ω E a fa) (h2 : PE X b (tVar i)) (hm : behindInMarks .NotIn b = false := by rfl) (hi : i ∈ ω := by decide) : DE X hs ω E (.Compare a [.NotIn] [b] pos) (binM (inD true) fa (varM i)) := de_cmp2 (op_notInS hu) oq_in h1 h2 hm hi
theorem oe_eq1 (hu : X.A.units + 64 < cLine) (h1 : PE X a (tVar i)) (h2 : DE X hs ω E b fb) (hi : i ∈ ω := by decide) : DE X hs ω E (.Compare a [.Eq] [b] pos) (binM eqD (varM i) fb) := de_cmp1 (op_eqD hu) oq_eq h1 h2 (nomark _) hi
theorem oe_ne1 (hu : X.A.units + 64 < cLine) (h1 : PE X a (tVar i)) (h2 : DE X hs ω E b fb) (hi : i ∈ ω := by decide) : DE X hs ω E (.Compare a [.NotEq] [b] pos) (binM neD (varM i) fb) := de_cmp1 (op_neD hu) oq_ne h1 h2 (nomark _) hi
theorem o_eq2 (hu : X.A.units + 64 < cLine) (h1 : DE X hs ω E a fa) (h2 : PE X b (tVar i)) (hi : i ∈ ω := by decide) : DT X hs ω E (.Compare a [.Eq] [b] pos) (boolM (binM eqD fa (varM i))) := dt_cmp2 (op_eqD hu) oq_eq h1 h2 (nomark _) hi
theorem o_ne2 (hu : X.A.units + 64 < cLine) (h1 : DE X hs ω E a fa) (h2 : PE X b (tVar i)) (hi : i ∈ ω := by decide) : DT X hs ω E (.Compare a [.NotEq] [b] pos) (boolM (binM neD fa (varM i))) := dt_cmp2 (op_neD hu) oq_ne h1 h2 (nomark _) hi
/-! ### own[i] = v -/
def setS (i : Nat) (fi f : FE) : FS := fun e h => (f e h).bindS fun d h1 => (fi e h1).bindS fun k h2 => match slot e i, k with
  | some (.list ds), .int n => (match ixN ds.length n with | some j => .nx (e.set i (some (.list (ds.set j d)))) h2 | none => .no)
  | _, _ => .no
theorem ds_item {i : Nat} {fi : FE} (hv : PE X a (tVar i)) (hi : i ∈ ω) (h2 : DE X hs ω E b fi) (h1 : DE X hs ω E e fe) (hsw : swapsWithSole [.Subscript a b p3] e pos.line X.env = pure false := by rfl) (hw : swappedStores [.Subscript a b p3] e X.env = pure none := by rfl)
    (ha1 : (assignEach [.Subscript a b p3] X.env).map (·.2) = [assign (.Subscript a b p3) X.env] := by rfl)
    (has : ∀ v, assign (.Subscript a b p3) X.env v = (do
      let ov ← holding [v] (eval a X.env)
      let iv ← holding [v, ov] (eval b X.env)
      standAt p3
      holding [v, ov, iv] (setItem ov iv v)
      release [v, ov, iv] []) := by intro _; rfl) : DS X hs ω ω ωl E (.Assign [.Subscript a b p3] e pos) (setS i fi fe) :=
  ps_imp (ps_asg h1 (pg_sub hv h2 set_list has) hsw hw ha1) fun Dn σ H hq => by
  obtain ⟨R, O, ha, en, h, rel, hp⟩ := hq
  refine ⟨R, O, ha, en, h, rel, ps_bind hp fun d h1 H1 O1 s1 rel1 hp1 v dv => ?_⟩
  obtain ⟨v1, ev⟩ := own_val rel1 hi
  refine ⟨v1, ev, R, O1, ha, en, h1, rel1, ps_bind hp1 fun k h2 H2 O2 s2 rel2 hp2 w dw => ?_⟩
  split at hp2
  · rename_i ds n hd
    split at hp2
    · rename_i j hj
      obtain ⟨p, xs, f1, f2, f3, f4, f5⟩ := own_list rel2 hi hd
      rw [ev] at f1
      cases f1
      obtain rfl := dd_int dw
      refine ⟨p, xs, n, j, rfl, rfl, f4, by rw [f5.length]; exact hj, ?_⟩
      exact hp2 σ _ O2 (step_mut f4 ⟨fun _ z => (by cases z), fun _ z => (by cases z)⟩ f2 f3) (rel2.mut f4 ⟨fun _ z => (by cases z), fun _ z => (by cases z)⟩ hi ev f2 f3 (.lst (f5.set j (s2.dd dv))))
    · exact hp2.elim
  · exact hp2.elim
/-! ### isinstance(x, (T, U)) -/
def isi2M (T U : String) (f : FE) : FE := fun e h => (f e h).bind fun d h1 => .ok (.bool (isiD T d || isiD U d)) h1
theorem de_isi2 {T U : String} {y z : Str} {q1 q2 q3 : Pos} {kt : Nat} (kT : KitAll T) (kU : KitAll U) (hg : Gl X "isinstance") (hm : X.mg "isinstance" = none) (hy : PE X (.Name y q1) (tC (.ty T))) (hz : PE X (.Name z q2) (tC (.ty U))) (h1 : DQ X hs ω E a fa)
    (he : starEach [a, .Tuple [.Name y q1, .Name z q2] kt q3] X.env = (false, eval a X.env) :: starEach [.Tuple [.Name y q1, .Name z q2] kt q3] X.env := by rfl) (he2 : starEach [.Tuple [.Name y q1, .Name z q2] kt q3] X.env = (false, eval (.Tuple [.Name y q1, .Name z q2] kt q3) X.env) :: starEach [] X.env := by rfl)
    (hs1 : starEach [.Name y q1, .Name z q2] X.env = (false, eval (.Name y q1) X.env) :: starEach [.Name z q2] X.env := by rfl) (hs2 : starEach [.Name z q2] X.env = (false, eval (.Name z q2) X.env) :: starEach [] X.env := by rfl)
    (hpl : (backTo pos (starEach [.Tuple [.Name y q1, .Name z q2] kt q3] X.env)).any (·.1) = false := by rfl) :
    DE X hs ω E (.Call (.Name "isinstance" p) [a, .Tuple [.Name y q1, .Name z q2] kt q3] [] pos) (isi2M T U fa) := pe_imp (pe_callB (id := "isinstance") call_isiT hg hm boot_isinstance (pa_cons h1 (pa_cons (pe_tup (pa_cons hy (pa_cons hz pa_nil hs2) hs1)) pa_nil he2) he) (by decide) (by decide) he hpl) fun σ H Q hq => by
  obtain ⟨R, O, ha, e, h, rel, hp⟩ := hq
  refine ⟨R, O, ha, e, h, rel, pr_bind hp fun d1 h1 H1 O1 s1 rel1 hp1 v1 dv1 => ?_⟩
  refine ⟨by show 2 ≤ sizeLine; decide, fun p hp0 => ?_⟩
  have gr : Grow H1 (upd H1 p (.tup [.ty T, .ty U])) := Grow.new hp0
  have gc := gr.cut rel1.g.dom
  have dv2 : SeqV X.K (Cut O1 (upd H1 p (.tup [.ty T, .ty U]))) (upd H1 p (.tup [.ty T, .ty U])) v1 d1 := by
    rcases dv1 with dv1 | ⟨q, xs, ds, r1, r2, r3, r4⟩
    · exact .inl (dd_mono gc.xn dv1)
    · exact .inr ⟨q, xs, ds, r1, r2, gr _ _ r3, dds_mono gc.xn r4⟩
  refine ⟨v1, p, [.ty T, .ty U], .type (kindD d1), [.type T, .type U], isiD T d1 || isiD U d1, rfl, upd_same, .cons (.ty T) (.cons (.ty U) .nil), tyx_of cut_sub dv2, ?_, pr_new hp1 rel1 hp0 _ (.bl _)⟩
  refine kitAny_cons (kit_ty (kT _ (kind_mem d1))) (fun hb => kitAny_cons (kit_ty (kU _ (kind_mem d1))) (fun hb2 => ?_) fun hb2 => ?_) fun hb => ?_
  · show some false = some (isiD T d1 || isiD U d1)
    rw [show isiD T d1 = false from hb, show isiD U d1 = false from hb2]; rfl
  · rw [show isiD U d1 = true from hb2, Bool.or_true]
  · rw [show isiD T d1 = true from hb, Bool.true_or]
/-! ### list and tuple of ranges -/
theorem dds_rg2 {K : PySem.W.Frag} {G : Hp} (i j : Int) : DDs K G (rgV i j) (rangeL i (j - i).toNat) := by
  unfold rgV rangeL
  induction List.range (j - i).toNat with
  | nil => exact .nil
  | cons k l ih => exact .cons (.int _) ih
theorem dl_lr2 {p2 : Pos} {pos2 : Pos} (hc : X.calm = true) (hg : Gl X "list") (hm : X.mg "list" = none) (hg2 : Gl X "range") (hm2 : X.mg "range" = none) (h1 : DE X hs ω E a fa) (h2 : DE X hs ω E b fb) (na : starEach [a, b] X.env = (false, eval a X.env) :: starEach [b] X.env := by rfl) (nb : starEach [b] X.env = (false, eval b X.env) :: starEach [] X.env := by rfl)
    (hp : (backTo pos2 (starEach [b] X.env)).any (·.1) = false := by rfl) (na2 : starEach [.Call (.Name "range" p2) [a, b] [] pos2] X.env = (false, eval (.Call (.Name "range" p2) [a, b] [] pos2) X.env) :: starEach [] X.env := by rfl) : DL X hs ω E (.Call (.Name "list" p) [.Call (.Name "range" p2) [a, b] [] pos2] [] pos) (range2M fa fb) :=
  pe_imp (pe_listRg hc hg hm (prg_2 hg2 hm2 h1 h2 na nb hp) na2) fun σ H Q hq => by
  obtain ⟨R, O, ha, e, h, rel, hp⟩ := hq
  refine ⟨R, O, ha, e, h, rel, pr_bind hp fun d h1 H1 O1 s1 rel1 hp1 v dv => ?_⟩
  refine ⟨R, O1, ha, e, h1, rel1, pr_bind hp1 fun d2 h2 H2 O2 s2 rel2 hp2 v2 dv2 => ?_⟩
  obtain ⟨zs, e1, q⟩ := pr_opt hp2
  obtain ⟨i, j, rfl, rfl, hl, hb, rfl⟩ := range2_some e1
  obtain rfl := dd_int dv
  obtain rfl := dd_int dv2
  have hL : LINE = 2 ^ 24 := rfl
  exact ⟨i, j, rfl, rfl, ⟨by omega, by omega, by omega, by omega, by omega⟩, fun q' nq => pl_new q rel2 (dds_rg2 i j) nq⟩
theorem de_tr1 {p2 : Pos} {pos2 : Pos} (hc : X.calm = true) (hg : Gl X "tuple") (hm : X.mg "tuple" = none) (hg2 : Gl X "range") (hm2 : X.mg "range" = none) (h1 : DE X hs ω E a fa) (na : starEach [a] X.env = (false, eval a X.env) :: starEach [] X.env := by rfl)
    (na2 : starEach [.Call (.Name "range" p2) [a] [] pos2] X.env = (false, eval (.Call (.Name "range" p2) [a] [] pos2) X.env) :: starEach [] X.env := by rfl) : DE X hs ω E (.Call (.Name "tuple" p) [.Call (.Name "range" p2) [a] [] pos2] [] pos) (tupM (range1M fa)) :=
  pe_imp (pe_tupRgN hc hg hm (prg_1 hg2 hm2 h1 na) na2) fun σ H Q hq => by
  obtain ⟨R, O, ha, e, h, rel, hp⟩ := hq
  unfold tupM range1M at hp
  rw [Res.bind_assoc] at hp
  refine ⟨R, O, ha, e, h, rel, pr_bind hp fun d h1 H1 O1 s1 rel1 hp1 v dv => ?_⟩
  cases e1 : range2D (.int 0) d with
  | none => rw [e1] at hp1; exact hp1.elim
  | some zs =>
  rw [e1] at hp1
  have q : PR X.K X.mg R ha hs ω E σ O1 H1 e (.ok (.tuple zs) h1) (KE' X.K Q) := hp1
  obtain ⟨i, j, e2, rfl, hl, hb, rfl⟩ := range2_some e1
  cases e2
  obtain rfl := dd_int dv
  have hL : LINE = 2 ^ 24 := rfl
  refine ⟨j, rfl, ⟨by omega, by omega, by omega, by omega, by omega⟩, fun q' o nq oc od => pr_new q rel1 nq _ (.tup (.new (by rw [cut_out fun z => rel1.g.dom q' z nq, upd_same]) oc od) (dds_rg2 0 j))⟩
/-! ### constants of the top -/
def kdata (K : PySem.W.Frag) : Nat → Value → Option D
  | 0, _ => none
  | n + 1, v => match v with
    | .none => some .none
    | .bool b => some (.bool b)
    | .int i _ => some (.int i)
    | .str x _ => some (.str x)
    | .ref a => match K.lookup a with
      | some ⟨.type "tuple", none, .seq its _, _⟩ => if its.size ≤ 1000 then (its.toList.mapM (kdata K n)).map .tuple else none
      | _ => none
    | _ => none
theorem mapM_pairs {α β : Type} {f : α → Option β} : ∀ {xs : List α} {ys : List β}, xs.mapM f = some ys → Paired (fun x y => f x = some y) xs ys := by
  intro xs
  induction xs with
  | nil => intro ys h; rw [List.mapM_nil] at h; cases h; exact .nil
  | cons x xs ih =>
    intro ys h
    rw [List.mapM_cons] at h
    cases hx : f x with
    | none => rw [hx] at h; cases h
    | some y =>
      rw [hx] at h
      cases hr : xs.mapM f with
      | none => rw [hr] at h; cases h
      | some zs => rw [hr] at h; cases h; exact .cons hx (ih hr)
theorem kdata_ok {K : PySem.W.Frag} : ∀ (n : Nat) (v : Value) (d : D), kdata K n v = some d → ∃ x, RelV x v ∧ ∀ G, DD K G x d := by
  intro n
  induction n with
  | zero => intro v d h; cases h
  | succ n ih =>
    intro v d h
    unfold kdata at h
    split at h
    · cases h; exact ⟨.non, rfl, fun _ => .non⟩
    · cases h; exact ⟨.bl _, rfl, fun _ => .bl _⟩
    · cases h; exact ⟨.int _, ⟨_, rfl⟩, fun _ => .int _⟩
    · cases h; exact ⟨.str _, ⟨_, rfl⟩, fun _ => .str _⟩
    · rename_i a
      split at h
      · rename_i its m sl hk
        split at h
        · rename_i hz
          obtain ⟨ds, h3, rfl⟩ := map_some' h
          have hp := mapM_pairs h3
          have : ∃ xs, Vals xs its.toList ∧ ∀ G, DDs K G xs ds := by
            clear h3 hk h hz
            generalize its.toList = l at hp
            induction hp with
            | nil => exact ⟨[], .nil, fun _ => .nil⟩
            | cons q _ ih2 =>
              obtain ⟨x, r1, r2⟩ := ih _ _ q
              obtain ⟨xs, r3, r4⟩ := ih2
              exact ⟨x :: xs, .cons r1 r3, fun G => .cons (r2 G) (r4 G)⟩
          obtain ⟨xs, r1, r2⟩ := this
          exact ⟨.ref a, rfl, fun G => .tup (.inr ⟨_, its, m, hk, rfl, rfl, rfl, Nat.le_trans hz (by decide), r1⟩) (r2 G)⟩
        · cases h
      · cases h
    · cases h
theorem de_globD {x : Str} {d : D} {u : Value} {n : Nat} (hg : Gl X x) (hm : X.mg x = some u) (r : kdata X.K n u = some d) (hd : (x == ("__debug__" : Str)) = false := by decide) : DE X hs ω E (.Name x pos) (conM d) := by
  obtain ⟨v, r1, r2⟩ := kdata_ok n u d r
  exact de_glob hg hm r1 r2 hd
end
/-! ### defs that call themselves -/
theorem fn_vac {P : Program} {w : World} {K : PySem.W.Frag} {mg : Str → Option Value} {base : Heap} {CX : CXT} {k : Nat} {f : Addr} {fd : FuncData} {ps : List Str} {T : List (Addr × Str)} {m : Nat} (hm : m = ps.length) : FnOk P w K mg base CX k f fd ps (spP K mg T m fun _ => .no) :=
  ⟨fun vs H Q E h => h.1.trans hm, fun A outer s H args us vs Q E hr he hb hv h => by
    obtain ⟨_, R, ds, _, _, _, z⟩ := h
    exact z.elim⟩
end Sm


set_option maxRecDepth 100000
set_option maxHeartbeats 4000000
/-! Sim layer, part Q: the mirrors' equations. -/
namespace Sm
open PySem PySem.Spec PyProof.Rows L2
section
variable {α β : Type} {a : α} {h h1 : List D} {k : α → List D → Res β} {ks : α → List D → Rs} {e : En} {fa fb fc f : FE} {g : D → D → Option D} {fl gl : FL} {c c2 : FB} {s t : FS} {i : Nat} {d : D} {ds : List D} {x y z : Int}
theorem bind_ok : (Res.ok a h).bind k = k a h := rfl
theorem bindS_ok : (Res.ok a h).bindS ks = ks a h := rfl
theorem bindN_ok : (Res.ok a h).bindN k = k a h := rfl
theorem opt_some : opt (some a) h = .ok a h := rfl
def thS (r : Rs) (g : FS) : Rs := match r with | .nx e1 h1 => g e1 h1 | r => r
theorem thS_nx : thS (.nx e h) s = s e h := rfl
theorem thS_rt : thS (.rt d h) s = .rt d h := rfl
theorem thS_ex {x : Ex} : thS (.ex x h) s = .ex x h := rfl
theorem seqS_e : seqS s t e h = thS (s e h) t := by unfold seqS thS; cases s e h <;> rfl
theorem skipS_e : skipS e h = .nx e h := rfl
theorem retS_e : retS f e h = (f e h).bindS fun d h1 => .rt d h1 := rfl
theorem asgS_e : asgS i f e h = (f e h).bindS fun d h1 => .nx (e.set i (some d)) h1 := rfl
theorem asgL_e : asgL i fl e h = (fl e h).bindS fun ds h1 => if i < e.length then .nx (e.set i (some (.list ds))) h1 else .no := rfl
theorem ifS_e : ifS c s t e h = (c e h).bindS fun k h1 => if k = true then s e h1 else t e h1 := rfl
theorem conM_e : conM d e h = .ok d h := rfl
theorem varM_e : varM i e h = opt (slot e i) h := rfl
theorem slot_0 : slot (some d :: e) 0 = some d := rfl
theorem slot_s {o : Option D} : slot (o :: e) (i + 1) = slot e i := by unfold slot; rw [List.getElem?_cons_succ]
theorem binM_e : binM g fa fb e h = (fa e h).bind fun x h1 => (fb e h1).bind fun y h2 => opt (g x y) h2 := rfl
theorem unM_e {u : D → Option D} : unM u f e h = (f e h).bind fun d h1 => opt (u d) h1 := rfl
theorem unL_e {u : D → Option (List D)} : unL u f e h = (f e h).bind fun d h1 => opt (u d) h1 := rfl
theorem boolM_e : boolM f e h = (f e h).bind fun d h1 => opt (asB d) h1 := rfl
theorem asB_e {b : Bool} : asB (.bool b) = some b := rfl
theorem truM_e : truM f e h = (f e h).bind fun d h1 => opt (truD d) h1 := rfl
theorem truD_b {b : Bool} : truD (.bool b) = some b := rfl
theorem andB_e : andB c c2 e h = (c e h).bind fun k h1 => if k = true then c2 e h1 else .ok false h1 := rfl
theorem orB_e : orB c c2 e h = (c e h).bind fun k h1 => if k = true then .ok true h1 else c2 e h1 := rfl
theorem notB_e : notB c e h = (c e h).bind fun k h1 => .ok (!k) h1 := rfl
theorem ifM_e : ifM c fa fb e h = (c e h).bind fun k h1 => if k = true then fa e h1 else fb e h1 := rfl
theorem andM_e : andM fa fb e h = (fa e h).bind fun d h1 => (opt (asB d) h1).bind fun k h2 => if k = true then fb e h2 else .ok (.bool false) h2 := rfl
theorem orM_e : orM fa fb e h = (fa e h).bind fun d h1 => (opt (asB d) h1).bind fun k h2 => if k = true then .ok (.bool true) h2 else fb e h2 := rfl
theorem notM_e : notM f e h = (f e h).bind fun d h1 => opt ((asB d).map fun k => .bool (!k)) h1 := rfl
theorem map_some_e {α β : Type} {a : α} {f : α → β} : Option.map f (some a) = some (f a) := rfl
theorem bind_some_e {α β : Type} {a : α} {f : α → Option β} : (some a).bind f = f a := rfl
theorem isiM_e {T : String} : isiM T f e h = (f e h).bind fun d h1 => .ok (.bool (isiD T d)) h1 := rfl
theorem chainM_e {g' : D → D → Option D} : chainM g g' fa fb fc e h = (fa e h).bind fun x h1 => (fb e h1).bind fun y h2 => (opt ((g x y).bind asB) h2).bind fun k h3 => if k = true then (fc e h3).bind fun z h4 => opt (g' y z) h4 else .ok (.bool false) h3 := rfl
theorem exprS_e : exprS f e h = (f e h).bindS fun _ h1 => .nx e h1 := rfl
theorem parS_e {is : List Nat} : parS is fl e h = (fl e h).bindS fun ds h1 => if is.all (· < e.length) then .nx (setE e is ds) h1 else .no := rfl
theorem setE_c {is : List Nat} : setE e (i :: is) (d :: ds) = setE (e.set i (some d)) is ds := rfl
theorem setE_n : setE e [] ds = e := by cases ds <;> rfl
theorem raiS_e {x : Str} : raiS x e h = .ex ⟨x, none⟩ h := rfl
theorem bind_ex {x : Ex} : (Res.ex x h).bind k = .ex x h := rfl
theorem bindS_ex {x : Ex} : (Res.ex (α := α) x h).bindS ks = .ex x h := rfl
theorem wipeE_n : wipeE e [] = e := rfl
theorem yesM_e : yesM e h = .ok true h := rfl
theorem gN_e : gN i d e = some (e.set i (some d)) := rfl
theorem items_l : itemsD (.list ds) = some ds := rfl
theorem items_t : itemsD (.tuple ds) = some ds := rfl
theorem tup_l : tupOf (.list ds) = some (.tuple ds) := rfl
theorem tup_t : tupOf (.tuple ds) = some (.tuple ds) := rfl
theorem nilM_e : nilM e h = .ok [] h := rfl
theorem consM_e : consM f fl e h = (f e h).bind fun d h1 => (fl e h1).bind fun ds h2 => .ok (d :: ds) h2 := rfl
theorem lstM_e : lstM fl e h = (fl e h).bind fun ds h1 => .ok (.list ds) h1 := rfl
theorem tupM_e : tupM fl e h = (fl e h).bind fun ds h1 => .ok (.tuple ds) h1 := rfl
theorem seqM_e : seqM f e h = (f e h).bind fun d h1 => opt (itemsD d) h1 := rfl
theorem callP_e {F : List D → Ro} : callP F fl e h = (fl e h).bind fun ds h1 => (F ds).res h1 := rfl
theorem callH_e {F : List D → List D → Res D} : callH F fl e h = (fl e h).bind fun ds h1 => (F ds h1).nex := rfl
theorem res_ok : (Ro.ok d).res h = .ok d h := rfl
theorem res_ex {x : Ex} : (Ro.ex x).res h = .ex x h := rfl
theorem nex_ok : (Res.ok d h).nex = .ok d h := rfl
theorem compM_e {vs : List Nat} {g1 : D → En → Option En} : compM vs fl g1 c f e h = (fl e h).bind fun ds h1 => compL g1 c f ds (wipeE e vs) h1 := rfl
theorem forS_e {g1 : D → En → Option En} : forS fl g1 s e h = (fl e h).bindS fun ds h1 => loopS g1 s ds e h1 := rfl
theorem dropM_e {is : List Nat} : dropM is s e h = (match s e h with | .nx e1 h1 => .nx (wipeE e1 is) h1 | r => r) := rfl
theorem range1M_e : range1M f e h = (f e h).bind fun d h1 => opt (range2D (.int 0) d) h1 := rfl
theorem range2M_e : range2M fa fb e h = (fa e h).bind fun d h1 => (fb e h1).bind fun d2 h2 => opt (range2D d d2) h2 := rfl
/-! ints -/
theorem mulD_i : mulD (.int x) (.int y) = mulI (.int x) (.int y) := rfl
theorem addD_i : addD (.int x) (.int y) = some (.int (x + y)) := rfl
theorem subD_i : subD (.int x) (.int y) = some (.int (x - y)) := rfl
theorem intD_i : intD (.int x) = some (.int x) := rfl
theorem ltD_i : ltD (.int x) (.int y) = some (.bool (decide (x < y))) := rfl
theorem leD_i : leD (.int x) (.int y) = some (.bool (decide (x ≤ y))) := rfl
theorem gtD_i : gtD (.int x) (.int y) = some (.bool (decide (y < x))) := rfl
theorem geD_i : geD (.int x) (.int y) = some (.bool (decide (y ≤ x))) := rfl
theorem eqv_i : PyData.eqv (.int x) (.int y) = decide (x = y) := by
  show (x == y) = decide (x = y)
  by_cases e : x = y
  · subst e; simp
  · simp [e]
theorem eqD_i : eqD (.int x) (.int y) = some (.bool (decide (x = y))) := by
  show some (PyData.bool (PyData.eqv _ _)) = _
  rw [eqv_i]
theorem neD_i : neD (.int x) (.int y) = some (.bool (!decide (x = y))) := by
  show some (PyData.bool (!PyData.eqv _ _)) = _
  rw [eqv_i]
theorem mulI_r (hy : -(2 ^ 64) < y ∧ y < 2 ^ 64) : mulI (.int x) (.int y) = some (.int (x * y)) := by
  show Option.map PyData.int (if iMulOk x y = true then some (x * y) else none) = _
  rw [if_pos (by unfold iMulOk; rw [Bool.or_eq_true]; exact .inr (decide_eq_true hy))]; rfl
theorem mulI_l (hy : -(2 ^ 64) < x ∧ x < 2 ^ 64) : mulI (.int x) (.int y) = some (.int (x * y)) := by
  show Option.map PyData.int (if iMulOk x y = true then some (x * y) else none) = _
  rw [if_pos (by unfold iMulOk; rw [Bool.or_eq_true]; exact .inl (decide_eq_true hy))]; rfl
theorem modD_p (hy : 0 < y) : modD (.int x) (.int y) = some (.int (x % y)) := by
  show Option.map PyData.int (if 0 < y then some (x % y) else none) = _
  rw [if_pos hy]; rfl
theorem fdivD_p (hy : 0 < y ∧ y < 1073741824) : fdivD (.int x) (.int y) = some (.int (x / y)) := by
  show Option.map PyData.int (if 0 < y ∧ y < 1073741824 then some (x / y) else none) = _
  rw [if_pos hy]; rfl
theorem range2_i (h : (y - x).toNat ≤ 16777216 ∧ -4611686018427387904 ≤ x ∧ x < 4611686018427387904 ∧ -4611686018427387904 ≤ y ∧ y < 4611686018427387904) : range2D (.int x) (.int y) = some (rangeL x (y - x).toNat) := by
  unfold range2D
  exact if_pos h
/-! the hand -/
theorem handM_e {n : Int} : handM n e h = opt (atI h n) h := rfl
theorem handS_e {n : Int} : handS n f e h = (f e h).bindS fun d h1 => match ixN h1.length n with | some j => .nx e (h1.set j d) | none => .no := rfl
section
variable {d0 d1 d2 d3 d4 : D}
theorem at0 : atI [d0, d1, d2, d3, d4] 0 = some d0 := rfl
theorem at1 : atI [d0, d1, d2, d3, d4] 1 = some d1 := rfl
theorem at2 : atI [d0, d1, d2, d3, d4] 2 = some d2 := rfl
theorem at3 : atI [d0, d1, d2, d3, d4] 3 = some d3 := rfl
theorem at4 : atI [d0, d1, d2, d3, d4] 4 = some d4 := rfl
theorem st1 : handS 1 f e h = (f e h).bindS fun d h1 => match ixN h1.length 1 with | some j => .nx e (h1.set j d) | none => .no := rfl
theorem ix5_1 : ixN [d0, d1, d2, d3, d4].length 1 = some 1 := rfl
theorem ix5_2 : ixN [d0, d1, d2, d3, d4].length 2 = some 2 := rfl
theorem ix5_3 : ixN [d0, d1, d2, d3, d4].length 3 = some 3 := rfl
theorem ix5_4 : ixN [d0, d1, d2, d3, d4].length 4 = some 4 := rfl
end
theorem atI_get {α : Type} {xs : List α} {i : Int} {x : α} (h0 : 0 ≤ i) (h : xs[i.toNat]? = some x) : atI xs i = some x := by
  have hl := (List.getElem?_eq_some_iff.mp h).1
  unfold atI ixN
  rw [if_pos h0, if_pos (by omega)]
  exact h
/-! how a def ends -/
def outP (r : Rs) : Ro := match r with | .nx _ _ => .ok .none | .rt d _ => .ok d | .ex c _ => .ex c | _ => .no
def outH (r : Rs) : Res D := match r with | .nx _ h' => .ok .none h' | .rt d h' => .ok d h' | .ex c h' => .ex c h' | _ => .no
theorem runP_e {n : Nat} : runP n s ds = outP (s (startE n ds) []) := by
  unfold runP outP
  cases s (startE n ds) [] <;> rfl
theorem runH_e {n : Nat} : runH n s ds h = outH (s (startE n (.none :: ds)) h) := by
  unfold runH outH
  cases s (startE n (.none :: ds)) h <;> rfl
theorem outP_rt : outP (.rt d h) = .ok d := rfl
theorem outP_nx : outP (.nx e h) = .ok .none := rfl
theorem outP_ex {x : Ex} : outP (.ex x h) = .ex x := rfl
theorem outH_rt : outH (.rt d h) = .ok d h := rfl
/-! data -/
mutual
theorem eqv_rfl : ∀ d : D, d.canLay0 = true → PyData.eqv d d = true
  | .none, _ => rfl
  | .bool b, _ => by show (b == b) = true; simp
  | .int b, _ => by show (b == b) = true; simp
  | .str b, _ => by show (b == b) = true; simp
  | .list xs, h => eqvAll_rfl xs h
  | .tuple xs, h => eqvAll_rfl xs h
  | .dict _, h => by cases h
theorem eqvAll_rfl : ∀ ds : List D, PyData.canLayAll0 ds = true → PyData.eqvAll ds ds = true
  | [], _ => rfl
  | d :: ds, h => by
    have h' : (d.canLay0 && PyData.canLayAll0 ds) = true := h
    rw [Bool.and_eq_true] at h'
    show (PyData.eqv d d && PyData.eqvAll ds ds) = true
    rw [eqv_rfl d h'.1, eqvAll_rfl ds h'.2]; rfl
end
theorem eqD_self (hk : okE d = true) : eqD d d = some (.bool true) := by
  unfold eqD
  rw [hk, if_pos (show (true && true) = true from rfl), eqv_rfl d (SeqAt.canLay_of_shaped hk)]
theorem neD_self (hk : okE d = true) : neD d d = some (.bool false) := by
  unfold neD
  rw [hk, if_pos (show (true && true) = true from rfl), eqv_rfl d (SeqAt.canLay_of_shaped hk)]; rfl
def IL (xs : List Nat) : List D := xs.map fun (k : Nat) => PyData.int (k : Int)
theorem canLay_map {α : Type} {f : α → D} (hf : ∀ x, (f x).canLay0 = true) : ∀ xs : List α, PyData.canLayAll0 (xs.map f) = true
  | [] => rfl
  | x :: xs => by
    show ((f x).canLay0 && PyData.canLayAll0 (xs.map f)) = true
    rw [hf x, canLay_map hf xs]; rfl
theorem depth_map {α : Type} {f : α → D} {n : Nat} (hf : ∀ x, (f x).depth ≤ n) : ∀ xs : List α, PyData.depthAll (xs.map f) ≤ n
  | [] => Nat.zero_le _
  | x :: xs => by
    show max (f x).depth (PyData.depthAll (xs.map f)) ≤ n
    exact Nat.max_le.mpr ⟨hf x, depth_map hf xs⟩
theorem okE_listM {α : Type} {f : α → D} {n : Nat} (h1 : ∀ x, (f x).canLay0 = true) (h2 : ∀ x, (f x).depth ≤ n) (hn : n ≤ 60) (xs : List α) : okE (.list (xs.map f)) = true := by
  show (PyData.canLayAll0 _ && decide (PyData.depthAll (xs.map f) + 1 ≤ 64)) = true
  rw [canLay_map h1, Bool.true_and]
  exact decide_eq_true (by have := depth_map h2 xs; omega)
theorem okE_tupM {α : Type} {f : α → D} {n : Nat} (h1 : ∀ x, (f x).canLay0 = true) (h2 : ∀ x, (f x).depth ≤ n) (hn : n ≤ 60) (xs : List α) : okE (.tuple (xs.map f)) = true := okE_listM h1 h2 hn xs
theorem okE_IL (xs : List Nat) : okE (.list (IL xs)) = true := okE_listM (f := fun (k : Nat) => PyData.int (k : Int)) (n := 0) (fun _ => rfl) (fun _ => Nat.zero_le _) (by decide) xs
theorem okE_ILt (xs : List Nat) : okE (.tuple (IL xs)) = true := okE_listM (f := fun (k : Nat) => PyData.int (k : Int)) (n := 0) (fun _ => rfl) (fun _ => Nat.zero_le _) (by decide) xs
theorem eqvAll_IL : ∀ xs ys : List Nat, PyData.eqvAll (IL xs) (IL ys) = decide (xs = ys)
  | [], [] => rfl
  | [], _ :: _ => rfl
  | _ :: _, [] => rfl
  | x :: xs, y :: ys => by
    show (PyData.eqv (.int x) (.int y) && PyData.eqvAll (IL xs) (IL ys)) = _
    rw [eqv_i, eqvAll_IL xs ys]
    by_cases e : x = y
    · subst e; simp
    · have : ¬ ((x : Int) = (y : Int)) := by omega
      simp [e, this]
theorem eqD_IL (xs ys : List Nat) : eqD (.list (IL xs)) (.list (IL ys)) = some (.bool (decide (xs = ys))) := by
  unfold eqD
  rw [okE_IL, okE_IL, if_pos (show (true && true) = true from rfl)]
  show some (PyData.bool (PyData.eqvAll _ _)) = _
  rw [eqvAll_IL]
theorem IL_len (xs : List Nat) : (IL xs).length = xs.length := List.length_map _
theorem rangeL_IL (a n : Nat) : rangeL (a : Int) n = IL (List.range' a n) := by
  unfold rangeL IL
  rw [List.range'_eq_map_range, List.map_map]
  refine List.map_congr_left fun k _ => ?_
  show PyData.int _ = PyData.int _
  congr 1
theorem range2_n {a b : Nat} (h : b ≤ 1000) (ha : a ≤ 1000) : range2D (.int (a : Int)) (.int (b : Int)) = some (IL (List.range' a (b - a))) := by
  rw [range2_i (by omega), show ((b : Int) - (a : Int)).toNat = b - a by omega, rangeL_IL]
theorem inD_IL {neg : Bool} (k : Nat) (xs : List Nat) : inD neg (.int (k : Int)) (.tuple (IL xs)) = some (.bool (decide (k ∈ xs) != neg)) := by
  unfold inD
  show (if (okE (.int (k : Int)) && PyData.canLayAll0 (IL xs)) = true then _ else _) = _
  rw [show PyData.canLayAll0 (IL xs) = true from canLay_map (f := fun (k : Nat) => PyData.int (k : Int)) (fun _ => rfl) xs]
  rw [if_pos (show (okE (.int (k : Int)) && true) = true from rfl)]
  congr 3
  induction xs with
  | nil => rfl
  | cons x xs ih =>
    show (PyData.eqv (.int x) (.int k) || (IL xs).any _) = _
    rw [eqv_i, ih]
    by_cases e : x = k
    · subst e; simp
    · have h1 : ¬ ((x : Int) = (k : Int)) := by omega
      have h2 : ¬ k = x := fun z => e z.symm
      simp [h1, h2]
theorem mulN (a b : Nat) (h : a < 1000000) : mulI (.int (a : Int)) (.int (b : Int)) = some (.int ((a * b : Nat) : Int)) := by
  have h1 : -(2 ^ 64) < (a : Int) ∧ (a : Int) < 2 ^ 64 := ⟨by omega, by omega⟩
  rw [mulI_l h1, Int.natCast_mul]
theorem modN (a b : Nat) (hb : 0 < b) : modD (.int (a : Int)) (.int (b : Int)) = some (.int ((a % b : Nat) : Int)) := by
  rw [modD_p (by omega)]
  rfl
theorem filter_all {α : Type} (xs : List α) : xs.filter (fun _ => true) = xs := by
  induction xs with
  | nil => rfl
  | cons x xs ih => rw [List.filter_cons_of_pos rfl, ih]
/-! comprehensions that keep the hand -/
theorem compL_of {α : Type} {g1 : D → En → Option En} {ft : FB} {fe : FE} {en : α → D} {p : α → Bool} {q : α → D} {e : En} {h : List D} (xs : List α)
    (H : ∀ x ∈ xs, ∃ e1, g1 (en x) e = some e1 ∧ ft e1 h = .ok (p x) h ∧ (p x = true → fe e1 h = .ok (q x) h)) : compL g1 ft fe (xs.map en) e h = .ok ((xs.filter p).map q) h := by
  induction xs with
  | nil => rfl
  | cons x xs ih =>
    obtain ⟨e1, h1, h2, h3⟩ := H x List.mem_cons_self
    have ih' := ih fun y hy => H y (List.mem_cons_of_mem _ hy)
    rw [List.map_cons]
    unfold compL
    rw [h1]
    show (ft e1 h).bindN _ = _
    rw [h2]
    show (if p x = true then _ else _) = _
    cases hp : p x with
    | true =>
      rw [if_pos rfl, h3 hp]
      show (compL g1 ft fe (xs.map en) e h).bind _ = _
      rw [ih', List.filter_cons_of_pos hp]
      rfl
    | false =>
      rw [if_neg (by decide), ih', List.filter_cons_of_neg (by simp [hp])]
end
end Sm


set_option maxRecDepth 100000
set_option maxHeartbeats 4000000
/-! Sim layer, part Y: evaluation of comprehensions to lists of Lean. -/
namespace Sm
open PySem PySem.Spec PyProof.Rows L2
/-- a list of Lean as data -/
def mL {α : Type} (f : α → D) (xs : List α) : List D := xs.map f
/-- a row, rows of rows -/
def eT (r : List Int) : D := .tuple (mL PyData.int r)
def eTT (c : List (List Int)) : D := .tuple (mL eT c)
theorem wipeE_c {e : En} {i : Nat} {is : List Nat} : wipeE e (i :: is) = (wipeE e is).set i none := rfl
/-- the items, one after another -/
def mapR {α : Type} (xs : List α) (k : α → List D → Res (Option D)) (h : List D) : Res (List D) := match xs with
  | [] => .ok [] h
  | x :: xs => (k x h).bindN fun o h1 => (mapR xs k h1).bind fun ys h2 => .ok (match o with | some y => y :: ys | none => ys) h2
theorem mapR_congr {α : Type} {xs xs' : List α} {k k' : α → List D → Res (Option D)} {h h' : List D} (e : xs = xs') (eh : h = h') (H : ∀ x, x ∈ xs' → ∀ g, k x g = k' x g) : mapR xs k h = mapR xs' k' h' := by
  subst e eh
  induction xs generalizing h with
  | nil => rfl
  | cons x xs ih =>
    unfold mapR
    rw [H x List.mem_cons_self h]
    congr 1
    funext o h1
    rw [ih fun y hy g => H y (List.mem_cons_of_mem _ hy) g]
/-- what a comprehension does with one item -/
def stepR (g : D → En → Option En) (ft : FB) (fe : FE) (e : En) (d : D) (h : List D) : Res (Option D) := match g d e with
  | none => .no
  | some e1 => (ft e1 h).bindN fun b h1 => if b = true then (fe e1 h1).bindN fun y h2 => .ok (some y) h2 else .ok none h1
theorem compL_m {α : Type} {f : α → D} {g : D → En → Option En} {ft : FB} {fe : FE} {e : En} {xs : List α} {h : List D} : compL g ft fe (mL f xs) e h = mapR xs (fun x h => stepR g ft fe e (f x) h) h := by
  induction xs generalizing h with
  | nil => rfl
  | cons x xs ih =>
    unfold mapR stepR
    show compL g ft fe (f x :: mL f xs) e h = _
    unfold compL
    cases g (f x) e with
    | none => rfl
    | some e1 =>
      show (ft e1 h).bindN _ = Res.bindN ((ft e1 h).bindN _) _
      cases ft e1 h with
      | ok b h1 =>
        show (if b = true then _ else _) = Res.bindN (if b = true then _ else _) _
        cases b with
        | true =>
          rw [if_pos rfl, if_pos rfl]
          show (fe e1 h1).bindN _ = Res.bindN ((fe e1 h1).bindN _) _
          cases fe e1 h1 with
          | ok y h2 =>
            show (compL g ft fe (mL f xs) e h2).bind _ = (mapR xs _ h2).bind _
            rw [ih]
            rfl
          | ex c h2 => rfl
          | no => rfl
        | false =>
          rw [if_neg (by decide), if_neg (by decide)]
          show compL g ft fe (mL f xs) e h1 = (mapR xs (fun x h => stepR g ft fe e (f x) h) h1).bind fun ys h2 => .ok ys h2
          rw [ih]
          generalize mapR xs (fun x h => stepR g ft fe e (f x) h) h1 = r
          cases r <;> rfl
      | ex c h1 => rfl
      | no => rfl
theorem stepR_e {g : D → En → Option En} {ft : FB} {fe : FE} {e : En} {d : D} {h : List D} {e1 : En} (hg : g d e = some e1) : stepR g ft fe e d h = (ft e1 h).bindN fun b h1 => if b = true then (fe e1 h1).bindN fun y h2 => .ok (some y) h2 else .ok none h1 := by
  unfold stepR
  rw [hg]
theorem stepR_gN {i : Nat} {ft : FB} {fe : FE} {e : En} {d : D} {h : List D} : stepR (gN i) ft fe e d h = (ft (e.set i (some d)) h).bindN fun b h1 => if b = true then (fe (e.set i (some d)) h1).bindN fun y h2 => .ok (some y) h2 else .ok none h1 := rfl
theorem stepR_g2 {i j : Nat} {ft : FB} {fe : FE} {e : En} {a b : D} {h : List D} : stepR (gT (gsC (gN i) (gsC (gN j) gsN))) ft fe e (.tuple [a, b]) h = (ft ((e.set i (some a)).set j (some b)) h).bindN fun c h1 => if c = true then (fe ((e.set i (some a)).set j (some b)) h1).bindN fun y h2 => .ok (some y) h2 else .ok none h1 := rfl
section
variable {α β : Type} {xs ys : List α} {h : List D} {G : α → D} {c : α → Bool} {g : α → Int} {r : α → List Int} {b : α → Bool}
theorem mapR_all : mapR xs (fun x h => .ok (some (G x)) h) h = .ok (mL G xs) h := by
  induction xs with
  | nil => rfl
  | cons x xs ih => unfold mapR; show Res.bind (mapR xs _ h) _ = _; rw [ih]; rfl
theorem mL_int : mL (fun x => PyData.int (g x)) xs = mL PyData.int (xs.map g) := by unfold mL; rw [List.map_map]; rfl
theorem mL_bool : mL (fun x => PyData.bool (b x)) xs = mL PyData.bool (xs.map b) := by unfold mL; rw [List.map_map]; rfl
theorem mL_row : mL (fun x => PyData.tuple (mL PyData.int (r x))) xs = mL eT (xs.map r) := by unfold mL; rw [List.map_map]; rfl
theorem mL_rows {r : α → List (List Int)} : mL (fun x => PyData.tuple (mL eT (r x))) xs = mL eTT (xs.map r) := by unfold mL; rw [List.map_map]; rfl
theorem mapR_if : mapR xs (fun x h => if c x = true then .ok (some (G x)) h else .ok none h) h = .ok (mL G (xs.filter c)) h := by
  induction xs with
  | nil => rfl
  | cons x xs ih =>
    unfold mapR
    by_cases e : c x = true
    · rw [if_pos e]
      show Res.bind (mapR xs _ h) _ = _
      rw [ih, List.filter_cons_of_pos e]; rfl
    · rw [if_neg e]
      show Res.bind (mapR xs _ h) _ = _
      rw [ih, List.filter_cons_of_neg e]; rfl
end
/-! #### what is done with such lists -/
section
variable {α β γ : Type} {f : α → D} {f2 : β → D} {xs ys : List α} {zs : List β} {ns ms : List Int} {bs : List Bool} {i j : Int} {h : List D} {g : α → β}
theorem eT_e : eT ns = .tuple (mL PyData.int ns) := rfl
theorem eTT_e {c : List (List Int)} : eTT c = .tuple (mL eT c) := rfl
theorem mL_len : (mL f xs).length = xs.length := List.length_map _
theorem mL_nil : mL f [] = [] := rfl
theorem mL_cons {x : α} : mL f (x :: xs) = f x :: mL f xs := rfl
theorem mL_app : mL f xs ++ mL f ys = mL f (xs ++ ys) := List.map_append.symm
theorem lenD_l {ds : List D} : lenD (.list ds) = some (.int (ds.length : Int)) := rfl
theorem lenD_t {ds : List D} : lenD (.tuple ds) = some (.int (ds.length : Int)) := rfl
theorem mapM_int : (mL PyData.int ns).mapM asI = some ns := by
  induction ns with
  | nil => rfl
  | cons n ns ih => rw [mL_cons, List.mapM_cons, ih]; rfl
theorem mapM_bool : (mL PyData.bool bs).mapM asB = some bs := by
  induction bs with
  | nil => rfl
  | cons n ns ih => rw [mL_cons, List.mapM_cons, ih]; rfl
theorem sumD_i : sumD (.list (mL PyData.int ns)) = some (.int ns.sum) := by
  show (List.mapM asI _).map _ = _
  rw [mapM_int]; rfl
theorem sumD_t : sumD (.tuple (mL PyData.int ns)) = some (.int ns.sum) := by
  show (List.mapM asI _).map _ = _
  rw [mapM_int]; rfl
theorem allD_b : allD (.list (mL PyData.bool bs)) = some (.bool (bs.all id)) := by
  show (List.mapM asB _).map _ = _
  rw [mapM_bool]; rfl
theorem anyD_b : anyD (.list (mL PyData.bool bs)) = some (.bool (bs.any id)) := by
  show (List.mapM asB _).map _ = _
  rw [mapM_bool]; rfl
theorem cutG_m {lo hi : Option Int} : cutG (mL f xs) lo hi = mL f (cutG xs lo hi) := by
  unfold cutG mL
  rw [List.length_map, List.map_take, List.map_drop]
theorem cutD_l {ds : List D} {lo hi : Option Int} : cutD (.list ds) lo hi = some (.list (cutG ds lo hi)) := rfl
theorem cutD_t {ds : List D} {lo hi : Option Int} : cutD (.tuple ds) lo hi = some (.tuple (cutG ds lo hi)) := rfl
theorem rev_m : (mL f xs).reverse = mL f xs.reverse := List.map_reverse.symm
theorem revD_l {ds : List D} : revD (.list ds) = some (.list ds.reverse) := rfl
theorem revD_t {ds : List D} : revD (.tuple ds) = some (.tuple ds.reverse) := rfl
theorem addD_l {ds es : List D} (hl : ds.length + es.length ≤ 16777216) : addD (.list ds) (.list es) = some (.list (ds ++ es)) := if_pos hl
theorem addD_t {ds es : List D} (hl : ds.length + es.length ≤ 16777216) : addD (.tuple ds) (.tuple es) = some (.tuple (ds ++ es)) := if_pos hl
theorem zip_m : zipL (mL f xs) (mL f2 zs) = mL (fun p : α × β => .tuple [f p.1, f2 p.2]) (xs.zip zs) := by
  unfold zipL mL
  induction xs generalizing zs with
  | nil => rfl
  | cons x xs ih =>
    cases zs with
    | nil => rfl
    | cons z zs => rw [List.map_cons, List.map_cons, List.zipWith_cons_cons, ih, List.zip_cons_cons, List.map_cons]
theorem zipD_l {ds es : List D} : zipD (.list ds) (.list es) = some (zipL ds es) := rfl
theorem zipD_t {ds es : List D} : zipD (.tuple ds) (.tuple es) = some (zipL ds es) := rfl
theorem enum_m : enumL (mL f xs) = mL (fun p : Int × α => .tuple [.int p.1, f p.2]) ((xs.mapIdx fun i x => ((i : Int), x))) := by
  unfold enumL mL
  rw [List.mapIdx_eq_zipIdx_map, List.mapIdx_eq_zipIdx_map, List.map_map, List.zipIdx_map, List.map_map]
  rfl
theorem enumD_l {ds : List D} : enumD (.list ds) = some (enumL ds) := rfl
theorem enumD_t {ds : List D} : enumD (.tuple ds) = some (enumL ds) := rfl
/-- lo, lo + 1, .. -/
def rgI (lo : Int) (n : Nat) : List Int := (List.range n).map fun (k : Nat) => lo + (k : Int)
theorem rangeL_m {lo : Int} {n : Nat} : rangeL lo n = mL PyData.int (rgI lo n) := by
  unfold rangeL mL rgI
  rw [List.map_map]; rfl
theorem rg_mem {lo x : Int} {n : Nat} : x ∈ rgI lo n ↔ lo ≤ x ∧ x < lo + n := by
  unfold rgI
  rw [List.mem_map]
  constructor
  · rintro ⟨k, hk, rfl⟩
    have := List.mem_range.mp hk
    omega
  · rintro ⟨h1, h2⟩
    exact ⟨(x - lo).toNat, List.mem_range.mpr (by omega), by omega⟩
theorem rg_len {lo : Int} {n : Nat} : (rgI lo n).length = n := by unfold rgI; rw [List.length_map, List.length_range]
theorem range_m {x y : Int} (h : (y - x).toNat ≤ 16777216 ∧ -4611686018427387904 ≤ x ∧ x < 4611686018427387904 ∧ -4611686018427387904 ≤ y ∧ y < 4611686018427387904) : range2D (.int x) (.int y) = some (mL PyData.int (rgI x (y - x).toNat)) := by
  rw [range2_i h, rangeL_m]
/-- the item at a place that is there -/
def nth {α : Type} [Inhabited α] (xs : List α) (i : Int) : α := xs.getD (if i < 0 then i + xs.length else i).toNat default
theorem atI_nth [Inhabited α] (h0 : -(xs.length : Int) ≤ i) (h1 : i < xs.length) : atI (mL f xs) i = some (f (nth xs i)) := by
  unfold atI ixN nth
  have key : ∀ k : Nat, k < xs.length → (mL f xs)[k]? = some (f (xs.getD k default)) := fun k hk => by
    unfold mL
    rw [List.getElem?_map, List.getElem?_eq_getElem hk]
    simp [List.getD_eq_getElem?_getD, List.getElem?_eq_getElem hk]
  by_cases hi : i < 0
  · rw [if_pos hi, mL_len, if_neg (by omega), if_pos h0]
    exact key _ (by omega)
  · rw [if_neg hi, mL_len, if_pos (by omega), if_pos h1]
    exact key _ (by omega)
theorem ixD_l {ds : List D} : ixD (.list ds) (.int i) = atI ds i := rfl
theorem ixD_t {ds : List D} : ixD (.tuple ds) (.int i) = atI ds i := rfl
theorem atI_mod [Inhabited α] (h : 0 < xs.length) : atI (mL f xs) (i % (xs.length : Int)) = some (f (nth xs (i % (xs.length : Int)))) := atI_nth (by have := Int.emod_nonneg i (show (xs.length : Int) ≠ 0 by omega); omega) (Int.emod_lt_of_pos i (by omega))
theorem range_0 (h : -1000000 ≤ i ∧ i ≤ 1000000) : range2D (.int 0) (.int i) = some (mL PyData.int (rgI 0 i.toNat)) := by
  rw [range_m (by omega), Int.sub_zero]
/-! ranges: the bounds of each are at hand -/
def mapRg (lo : Int) (n : Nat) (k : Int → List D → Res (Option D)) (h : List D) : Res (List D) := mapR (rgI lo n) k h
theorem mapRg_congr {lo lo' : Int} {n n' : Nat} {k k' : Int → List D → Res (Option D)} {h h' : List D} (e1 : lo = lo') (e2 : n = n') (eh : h = h') (H : ∀ x, lo' ≤ x → x < lo' + (n' : Int) → ∀ g, k x g = k' x g) : mapRg lo n k h = mapRg lo' n' k' h' := by
  subst e1 e2 eh
  exact mapR_congr rfl rfl fun x hx g => H x (rg_mem.mp hx).1 (rg_mem.mp hx).2 g
theorem compL_rg {g1 : D → En → Option En} {ft : FB} {fe : FE} {e : En} {lo : Int} {n : Nat} : compL g1 ft fe (mL PyData.int (rgI lo n)) e h = mapRg lo n (fun x h => stepR g1 ft fe e (.int x) h) h := compL_m
theorem mapRg_all {lo : Int} {n : Nat} {G : Int → D} : mapRg lo n (fun x h => .ok (some (G x)) h) h = .ok (mL G (rgI lo n)) h := mapR_all
theorem mapRg_if {lo : Int} {n : Nat} {G : Int → D} {c : Int → Bool} : mapRg lo n (fun x h => if c x = true then .ok (some (G x)) h else .ok none h) h = .ok (mL G ((rgI lo n).filter c)) h := mapR_if
end
/-! #### data that are told apart -/
class Enc {α : Type} [DecidableEq α] (f : α → D) (n : outParam Nat) : Prop where
  lay : ∀ x, (f x).canLay0 = true
  dep : ∀ x, (f x).depth ≤ n
  eq : ∀ x y, PyData.eqv (f x) (f y) = decide (x = y)
instance encI : Enc PyData.int 0 := ⟨fun _ => rfl, fun _ => Nat.zero_le _, fun _ _ => eqv_i⟩
instance encB : Enc PyData.bool 0 := ⟨fun _ => rfl, fun _ => Nat.zero_le _, fun x y => by cases x <;> cases y <;> rfl⟩
theorem eqvAll_m {α : Type} [DecidableEq α] {f : α → D} {n : Nat} [E : Enc f n] : ∀ xs ys : List α, PyData.eqvAll (mL f xs) (mL f ys) = decide (xs = ys)
  | [], [] => rfl
  | [], _ :: _ => rfl
  | _ :: _, [] => rfl
  | x :: xs, y :: ys => by
    show (PyData.eqv (f x) (f y) && PyData.eqvAll (mL f xs) (mL f ys)) = _
    rw [E.eq, eqvAll_m xs ys]
    by_cases e : x = y
    · subst e; simp
    · simp [e]
instance encT : Enc eT 1 := ⟨fun r => canLay_map (fun _ => rfl) r, fun r => by
  show PyData.depthAll (List.map PyData.int r) + 1 ≤ 1
  have := depth_map (f := PyData.int) (n := 0) (fun _ => Nat.zero_le _) r
  omega, fun x y => eqvAll_m x y⟩
instance encTT : Enc eTT 2 := ⟨fun r => canLay_map encT.lay r, fun r => by
  show PyData.depthAll (List.map eT r) + 1 ≤ 2
  have := depth_map (f := eT) (n := 1) encT.dep r
  omega, fun x y => eqvAll_m x y⟩
section
variable {α : Type} [DecidableEq α] {f : α → D} {n : Nat} [E : Enc f n] {xs ys : List α} {neg : Bool}
theorem okE_l (h : n ≤ 60) : okE (.list (mL f xs)) = true := okE_listM E.lay E.dep h xs
theorem okE_t (h : n ≤ 60) : okE (.tuple (mL f xs)) = true := okE_listM E.lay E.dep h xs
theorem okE_f (h : n ≤ 60) (x : α) : okE (f x) = true := by
  show ((f x).canLay0 && decide ((f x).depth ≤ 64)) = true
  rw [E.lay, Bool.true_and]
  exact decide_eq_true (Nat.le_trans (E.dep x) (by omega))
theorem eqD_l (h : n ≤ 60 := by decide) : eqD (.list (mL f xs)) (.list (mL f ys)) = some (.bool (decide (xs = ys))) := by
  unfold eqD
  rw [okE_l h, okE_l h, if_pos (show (true && true) = true from rfl)]
  show some (PyData.bool (PyData.eqvAll _ _)) = _
  rw [eqvAll_m]
theorem eqD_t (h : n ≤ 60 := by decide) : eqD (.tuple (mL f xs)) (.tuple (mL f ys)) = some (.bool (decide (xs = ys))) := eqD_l h
theorem neD_l (h : n ≤ 60 := by decide) : neD (.list (mL f xs)) (.list (mL f ys)) = some (.bool (!decide (xs = ys))) := by
  unfold neD
  rw [okE_l h, okE_l h, if_pos (show (true && true) = true from rfl)]
  show some (PyData.bool (!PyData.eqvAll _ _)) = _
  rw [eqvAll_m]
theorem neD_t (h : n ≤ 60 := by decide) : neD (.tuple (mL f xs)) (.tuple (mL f ys)) = some (.bool (!decide (xs = ys))) := neD_l h
theorem neD_lnil (h : n ≤ 60 := by decide) : neD (.list (mL f xs)) (.list []) = some (.bool (!decide (xs = []))) := neD_l (f := f) (ys := []) h
theorem eqD_lnil (h : n ≤ 60 := by decide) : eqD (.list (mL f xs)) (.list []) = some (.bool (decide (xs = []))) := eqD_l (f := f) (ys := []) h
theorem any_eqv [E : Enc f n] (x : α) : (mL f xs).any (fun z => PyData.eqv z (f x)) = decide (x ∈ xs) := by
  induction xs with
  | nil => rfl
  | cons y xs ih =>
    show (PyData.eqv (f y) (f x) || (mL f xs).any _) = _
    rw [E.eq, ih]
    by_cases e : y = x
    · subst e; simp
    · have : ¬ x = y := fun z => e z.symm
      simp [e, this]
theorem inD_f (h : n ≤ 60) (x : α) {ds : D} (hd : itemsD ds = some (mL f xs)) : inD neg (f x) ds = some (.bool (decide (x ∈ xs) != neg)) := by
  unfold inD
  rw [hd]
  show (if (okE (f x) && PyData.canLayAll0 (mL f xs)) = true then _ else _) = _
  rw [okE_f h, show PyData.canLayAll0 (mL f xs) = true from canLay_map E.lay xs, if_pos (show (true && true) = true from rfl), any_eqv]
end
section
variable {ns : List Int} {rs : List (List Int)} {cs : List (List (List Int))} {k : Int} {r : List Int} {c : List (List Int)} {neg : Bool}
theorem inD_il : inD neg (.int k) (.list (mL PyData.int ns)) = some (.bool (decide (k ∈ ns) != neg)) := inD_f (by decide) k rfl
theorem inD_it : inD neg (.int k) (.tuple (mL PyData.int ns)) = some (.bool (decide (k ∈ ns) != neg)) := inD_f (by decide) k rfl
theorem inD_rl : inD neg (.tuple (mL PyData.int r)) (.list (mL eT rs)) = some (.bool (decide (r ∈ rs) != neg)) := (inD_f (f := eT) (by decide) r rfl).trans (by congr)
theorem inD_rt : inD neg (.tuple (mL PyData.int r)) (.tuple (mL eT rs)) = some (.bool (decide (r ∈ rs) != neg)) := (inD_f (f := eT) (by decide) r rfl).trans (by congr)
theorem inD_cl : inD neg (.tuple (mL eT c)) (.list (mL eTT cs)) = some (.bool (decide (c ∈ cs) != neg)) := (inD_f (f := eTT) (by decide) c rfl).trans (by congr)
end
theorem eqD_b {a b : Bool} : eqD (.bool a) (.bool b) = some (.bool (decide (a = b))) := by cases a <;> cases b <;> rfl
theorem neD_b {a b : Bool} : neD (.bool a) (.bool b) = some (.bool (!decide (a = b))) := by cases a <;> cases b <;> rfl
/-! #### loops -/
section
variable {α σ : Type} {f : α → D} {i : Nat} {body : FS} {h : List D}
/-- a loop that carries s -/
theorem loop_fold {S : σ → En} {step : σ → α → σ} : ∀ (xs : List α) (s : σ), (∀ s x, x ∈ xs → body ((S s).set i (some (f x))) h = .nx (S (step s x)) h) → loopS (gN i) body (mL f xs) (S s) h = .nx (S (xs.foldl step s)) h
  | [], _, _ => rfl
  | x :: xs, s, H => by
    show (match body ((S s).set i (some (f x))) h with
      | .nx e2 h2 => loopS (gN i) body (mL f xs) e2 h2
      | .ct e2 h2 => loopS (gN i) body (mL f xs) e2 h2
      | .bk e2 h2 => .nx e2 h2
      | r => r) = _
    rw [H s x List.mem_cons_self]
    exact loop_fold xs (step s x) fun s y hy => H s y (List.mem_cons_of_mem _ hy)
/-- a loop that ends the def as soon as p is met -/
theorem loop_find {e : En} {d : D} {p : α → Bool} : ∀ xs : List α, (∀ x, x ∈ xs → body (e.set i (some (f x))) h = if p x = true then .rt d h else .nx e h) → loopS (gN i) body (mL f xs) e h = if xs.any p = true then .rt d h else .nx e h
  | [], _ => rfl
  | x :: xs, H => by
    show (match body (e.set i (some (f x))) h with
      | .nx e2 h2 => loopS (gN i) body (mL f xs) e2 h2
      | .ct e2 h2 => loopS (gN i) body (mL f xs) e2 h2
      | .bk e2 h2 => .nx e2 h2
      | r => r) = _
    rw [H x List.mem_cons_self, List.any_cons]
    by_cases c : p x = true
    · rw [if_pos c, c, Bool.true_or, if_pos rfl]
    · rw [if_neg c, Bool.eq_false_iff.mpr c, Bool.false_or]
      exact loop_find xs fun y hy => H y (List.mem_cons_of_mem _ hy)
end
/-! #### tests -/
section
variable {h : List D} {a b : Bool} {β : Type} {x y : β}
theorem if_and : (if a = true then Res.ok b h else Res.ok false h) = Res.ok (a && b) h := by cases a <;> rfl
theorem if_or : (if a = true then Res.ok true h else Res.ok b h) = Res.ok (a || b) h := by cases a <;> rfl
theorem if_andD : (if a = true then Res.ok (PyData.bool b) h else Res.ok (.bool false) h) = Res.ok (.bool (a && b)) h := by cases a <;> rfl
theorem if_orD : (if a = true then Res.ok (PyData.bool true) h else Res.ok (.bool b) h) = Res.ok (.bool (a || b)) h := by cases a <;> rfl
theorem all_id {γ : Type} {f : γ → Bool} {zs : List γ} : (zs.map f).all id = zs.all f := by rw [List.all_map]; rfl
theorem any_id {γ : Type} {f : γ → Bool} {zs : List γ} : (zs.map f).any id = zs.any f := by rw [List.any_map]; rfl
def partR (d : D) (h : List D) : Res (Option Int) := match d with | .int i => .ok (some i) h | _ => .no
theorem partR_i {i : Int} : partR (.int i) h = .ok (some i) h := rfl
theorem aPart_e {f : FE} {e : En} : aPart f e h = (f e h).bind fun d h1 => partR d h1 := rfl
theorem noPart_e {e : En} : noPart e h = .ok none h := rfl
theorem sliceM_e {f : FE} {fl fh : FO} {e : En} : sliceM f fl fh e h = (f e h).bind fun d h1 => (fl e h1).bind fun l h2 => (fh e h2).bind fun u h3 => opt (cutD d l u) h3 := rfl
theorem cutG_le {γ : Type} (xs : List γ) (lo hi : Option Int) : (cutG xs lo hi).length ≤ xs.length := by
  unfold cutG
  rw [List.length_take, List.length_drop]
  omega
theorem addD_m {γ : Type} {f : γ → D} {xs ys : List γ} (hl : xs.length + ys.length ≤ 16777216) : addD (.tuple (mL f xs)) (.tuple (mL f ys)) = some (.tuple (mL f (xs ++ ys))) := by
  rw [addD_t (by rw [mL_len, mL_len]; exact hl), mL_app]
theorem addD_ml {γ : Type} {f : γ → D} {xs ys : List γ} (hl : xs.length + ys.length ≤ 16777216) : addD (.list (mL f xs)) (.list (mL f ys)) = some (.list (mL f (xs ++ ys))) := by
  rw [addD_l (by rw [mL_len, mL_len]; exact hl), mL_app]
theorem addD_cut {γ : Type} {f : γ → D} {xs : List γ} {a b c d : Option Int} (hl : xs.length ≤ 1000000) : addD (.tuple (mL f (cutG xs a b))) (.tuple (mL f (cutG xs c d))) = some (.tuple (mL f (cutG xs a b ++ cutG xs c d))) :=
  addD_m (by have := cutG_le xs a b; have := cutG_le xs c d; omega)
theorem addD_cutl {γ : Type} {f : γ → D} {xs : List γ} {a b c d : Option Int} (hl : xs.length ≤ 1000000) : addD (.list (mL f (cutG xs a b))) (.list (mL f (cutG xs c d))) = some (.list (mL f (cutG xs a b ++ cutG xs c d))) :=
  addD_ml (by have := cutG_le xs a b; have := cutG_le xs c d; omega)
theorem range1_M {f : FE} {e : En} : range1M f e h = (f e h).bind fun d h1 => opt (range2D (.int 0) d) h1 := rfl
theorem range3_e {f g k : FE} {e : En} : range3M f g k e h = (f e h).bind fun d h1 => (g e h1).bind fun d2 h2 => (k e h2).bind fun d3 h3 => opt (range3D d d2 d3) h3 := rfl
theorem zipM_e {f g : FE} {e : En} : zipM f g e h = (f e h).bind fun d h1 => (g e h1).bind fun d2 h2 => opt (zipD d d2) h2 := rfl
theorem enumM_e {f : FE} {e : En} : enumM f e h = (f e h).bind fun d h1 => opt (enumD d) h1 := rfl
theorem isi2M_e {T U : String} {f : FE} {e : En} : isi2M T U f e h = (f e h).bind fun d h1 => .ok (.bool (isiD T d || isiD U d)) h1 := rfl
theorem isNM_e {neg : Bool} {f : FE} {e : En} : isNM neg f e h = (f e h).bind fun d h1 => .ok (isN neg d) h1 := rfl
theorem max2_i {x y : Int} : max2D (.int x) (.int y) = some (.int (if y > x then y else x)) := rfl
theorem min2_i {x y : Int} : min2D (.int x) (.int y) = some (.int (if y < x then y else x)) := rfl
def negR (d : D) (h : List D) : Res D := match d with | .int i => .ok (.int (-i)) h | _ => .no
theorem negM_e {f : FE} {e : En} : negM f e h = (f e h).bind fun d h1 => negR d h1 := rfl
theorem negR_i {i : Int} : negR (.int i) h = .ok (.int (-i)) h := rfl
def wordR (wf : Ex → Option D) (r : Res D) : Res D := match r with | .ok _ h' => .ok (.str "let") h' | .ex c h' => opt (wf c) h' | .no => .no
theorem wordM_r {ω : List Nat} {wf : Ex → Option D} {f : FE} {e : En} : wordM ω wf f e h = wordR wf (f (wipeE e ω) h) := rfl
theorem wordR_ok {wf : Ex → Option D} {d : D} : wordR wf (.ok d h) = .ok (.str "let") h := rfl
theorem wordR_ex {wf : Ex → Option D} {c : Ex} : wordR wf (.ex c h) = opt (wf c) h := rfl
def appR (i : Nat) (d : D) (e : En) (o : Option D) (h : List D) : Rs := match o with | some (.list ds) => if ds.length < LINE then .nx (e.set i (some (.list (ds ++ [d])))) h else .no | _ => .no
theorem appS_r {i : Nat} {f : FE} {e : En} : appS i f e h = (f e h).bindS fun d h1 => appR i d e (slot e i) h1 := rfl
theorem appR_l {i : Nat} {d : D} {e : En} {ds : List D} (hl : ds.length < 16777216) : appR i d e (some (.list ds)) h = .nx (e.set i (some (.list (ds ++ [d])))) h := if_pos hl
def extR (i : Nat) (d : D) (e : En) (o : Option D) (h : List D) : Rs := match o, d with | some (.list ds), .list es => if ds.length + es.length ≤ LINE then .nx (e.set i (some (.list (ds ++ es)))) h else .no | _, _ => .no
theorem extS_r {i : Nat} {f : FE} {e : En} : extS i f e h = (f e h).bindS fun d h1 => extR i d e (slot e i) h1 := rfl
theorem extR_l {i : Nat} {e : En} {ds es : List D} (hl : ds.length + es.length ≤ 16777216) : extR i (.list es) e (some (.list ds)) h = .nx (e.set i (some (.list (ds ++ es)))) h := if_pos hl
theorem mL_app1 {γ : Type} {f : γ → D} {xs : List γ} {y : γ} : mL f xs ++ [f y] = mL f (xs ++ [y]) := by unfold mL; rw [List.map_append]; rfl
theorem mL_row1 {rs : List (List Int)} {r : List Int} : mL eT rs ++ [.tuple (mL PyData.int r)] = mL eT (rs ++ [r]) := mL_app1
theorem frzS_e {i : Nat} {f : FS} {e : En} : frzS i f e h = if isL e i = true then f e h else .no := rfl
theorem frzS_l {i : Nat} {f : FS} {e : En} (hl : isL e i = true) : frzS i f e h = f e h := if_pos hl
theorem isL_0 {e : En} {ds : List D} : isL (some (.list ds) :: e) 0 = true := rfl
theorem isL_s {e : En} {o : Option D} {i : Nat} : isL (o :: e) (i + 1) = isL e i := by unfold isL; rw [List.getElem?_cons_succ]
theorem asgL_l {i : Nat} {fl : FL} {e : En} {ds : List D} {g : List D} (hf : fl e h = .ok ds g) (hl : i < e.length) : asgL i fl e h = .nx (e.set i (some (.list ds))) g := by
  rw [asgL_e, hf, bindS_ok, if_pos hl]
end
/-! #### a turn of the law -/
def Good (r : Rs) (P : En → List D → Prop) : Prop := ∃ e h, r = .nx e h ∧ P e h
theorem good_seq {s t : FS} {e e1 : En} {h h1 : List D} {P : En → List D → Prop} (hf : s e h = .nx e1 h1) (ht : Good (t e1 h1) P) : Good (seqS s t e h) P := by
  rw [seqS_e, hf]; exact ht
theorem mapR_ok {α : Type} {xs : List α} {k : α → List D → Res (Option D)} {G : α → D} {h : List D} (H : ∀ x, x ∈ xs → ∀ g, k x g = .ok (some (G x)) g) : mapR xs k h = .ok (mL G xs) h := (mapR_congr (k' := fun x g => .ok (some (G x)) g) rfl rfl H).trans mapR_all
theorem mapR_okIf {α : Type} {xs : List α} {k : α → List D → Res (Option D)} {c : α → Bool} {G : α → D} {h : List D} (H : ∀ x, x ∈ xs → ∀ g, k x g = if c x = true then .ok (some (G x)) g else .ok none g) : mapR xs k h = .ok (mL G (xs.filter c)) h := (mapR_congr (k' := fun x g => if c x = true then .ok (some (G x)) g else .ok none g) rfl rfl H).trans mapR_if
/-! #### branches -/
theorem seqS_assoc (s t u : FS) (e : En) (h : List D) : seqS s (seqS t u) e h = thS (seqS s t e h) u := by
  rw [seqS_e, seqS_e]
  cases s e h <;> first | rfl | exact seqS_e
def dropR (is : List Nat) (r : Rs) : Rs := match r with | .nx e1 h1 => .nx (wipeE e1 is) h1 | r => r
section
variable {is : List Nat} {s t : FS} {e : En} {h : List D} {d : D} {c : Prop} [Decidable c] {r r' : Rs} {x : Ex}
theorem dropM_r : dropM is s e h = dropR is (s e h) := rfl
theorem dropR_nx : dropR is (.nx e h) = .nx (wipeE e is) h := rfl
theorem dropR_rt : dropR is (.rt d h) = .rt d h := rfl
theorem dropR_ex : dropR is (.ex x h) = .ex x h := rfl
theorem dropR_ct : dropR is (.ct e h) = .ct e h := rfl
theorem dropR_bk : dropR is (.bk e h) = .bk e h := rfl
theorem dropR_ite : dropR is (if c then r else r') = if c then dropR is r else dropR is r' := by split <;> rfl
theorem thS_ite : thS (if c then r else r') t = if c then thS r t else thS r' t := by split <;> rfl
theorem outP_ite : outP (if c then r else r') = if c then outP r else outP r' := by split <;> rfl
theorem outH_ite : outH (if c then r else r') = if c then outH r else outH r' := by split <;> rfl
end
def lrot {α : Type} (xs : List α) (j : Int) : List α := cutG xs (some j) none ++ cutG xs none (some j)
theorem lrot_e {α : Type} {xs : List α} {j : Int} : cutG xs (some j) none ++ cutG xs none (some j) = lrot xs j := rfl
/-! #### draws in comprehensions; loops with a fact that is kept -/
theorem mapR_draw {α β : Type} {f : β → D} {P : List D → Prop} {Q : β → Prop} {k : α → List D → Res (Option D)} : ∀ (xs : List α) (h : List D), (∀ x, x ∈ xs → ∀ h, P h → ∃ y h', k x h = .ok (some (f y)) h' ∧ P h' ∧ Q y) → P h → ∃ ys h', mapR xs k h = .ok (mL f ys) h' ∧ P h' ∧ ys.length = xs.length ∧ ∀ y ∈ ys, Q y
  | [], h, _, hp => ⟨[], h, rfl, hp, rfl, fun _ hy => by cases hy⟩
  | x :: xs, h, H, hp => by
    obtain ⟨y, h1, e1, p1, q1⟩ := H x List.mem_cons_self h hp
    obtain ⟨ys, h2, e2, p2, l2, q2⟩ := mapR_draw xs h1 (fun z hz => H z (List.mem_cons_of_mem _ hz)) p1
    refine ⟨y :: ys, h2, ?_, p2, by simp [l2], fun z hz => ?_⟩
    · unfold mapR
      rw [e1]
      show Res.bind (mapR xs k h1) _ = _
      rw [e2]
      rfl
    · rcases List.mem_cons.mp hz with e | hz
      · rw [e]; exact q1
      · exact q2 z hz
theorem mapRg_draw {β : Type} {f : β → D} {P : List D → Prop} {Q : β → Prop} {lo : Int} {n : Nat} {k : Int → List D → Res (Option D)} (h : List D) (H : ∀ x h, P h → ∃ y h', k x h = .ok (some (f y)) h' ∧ P h' ∧ Q y) (hp : P h) : ∃ ys h', mapRg lo n k h = .ok (mL f ys) h' ∧ P h' ∧ ys.length = n ∧ ∀ y ∈ ys, Q y := by
  obtain ⟨ys, h', e, p, l, q⟩ := mapR_draw (rgI lo n) h (fun x _ h hp => H x h hp) hp
  exact ⟨ys, h', e, p, l.trans rg_len, q⟩
theorem loop_foldP {α σ : Type} {f : α → D} {i : Nat} {body : FS} {h : List D} {S : σ → En} {step : σ → α → σ} {P : σ → Prop} : ∀ (xs : List α) (s : σ), P s → (∀ s x, x ∈ xs → P s → P (step s x) ∧ body ((S s).set i (some (f x))) h = .nx (S (step s x)) h) → loopS (gN i) body (mL f xs) (S s) h = .nx (S (xs.foldl step s)) h ∧ P (xs.foldl step s)
  | [], _, hp, _ => ⟨rfl, hp⟩
  | x :: xs, s, hp, H => by
    obtain ⟨p1, e1⟩ := H s x List.mem_cons_self hp
    obtain ⟨e2, p2⟩ := loop_foldP xs (step s x) p1 fun s y hy => H s y (List.mem_cons_of_mem _ hy)
    refine ⟨?_, p2⟩
    show (match body ((S s).set i (some (f x))) h with
      | .nx e2 h2 => loopS (gN i) body (mL f xs) e2 h2
      | .ct e2 h2 => loopS (gN i) body (mL f xs) e2 h2
      | .bk e2 h2 => .nx e2 h2
      | r => r) = _
    rw [e1]
    exact e2
theorem loop_foldG {α σ : Type} {f : α → D} {g : D → En → Option En} {body : FS} {h : List D} {S : σ → En} {step : σ → α → σ} {P : Nat → σ → Prop} : ∀ (xs : List α) (n : Nat) (s : σ), P n s → (∀ k s x, xs[k]? = some x → P (n + k) s → P (n + k + 1) (step s x) ∧ ∃ e1, g (f x) (S s) = some e1 ∧ body e1 h = .nx (S (step s x)) h) → loopS g body (mL f xs) (S s) h = .nx (S (xs.foldl step s)) h ∧ P (n + xs.length) (xs.foldl step s)
  | [], _, _, hp, _ => ⟨rfl, hp⟩
  | x :: xs, n, s, hp, H => by
    obtain ⟨p1, e0, g1, e1⟩ := H 0 s x rfl hp
    obtain ⟨e2, p2⟩ := loop_foldG xs (n + 1) (step s x) p1 fun k s y hy hk => by
      have := H (k + 1) s y (by simpa using hy) (by rw [show n + (k + 1) = n + 1 + k by omega]; exact hk)
      rw [show n + (k + 1) = n + 1 + k by omega] at this
      exact this
    refine ⟨?_, by rw [List.length_cons, show n + (xs.length + 1) = n + 1 + xs.length by omega]; exact p2⟩
    show loopS g body (f x :: mL f xs) (S s) h = _
    unfold loopS
    rw [g1]
    show (match body e0 h with
      | .nx e2 h2 => loopS g body (mL f xs) e2 h2
      | .ct e2 h2 => loopS g body (mL f xs) e2 h2
      | .bk e2 h2 => .nx e2 h2
      | r => r) = _
    rw [e1]
    exact e2
theorem gT2 {i j : Nat} {a b : D} {e : En} : gT (gsC (gN i) (gsC (gN j) gsN)) (.tuple [a, b]) e = some ((e.set i (some a)).set j (some b)) := rfl
theorem addD_1 {xs : List Int} {y : Int} (hl : xs.length ≤ 1000000) : addD (.tuple (mL PyData.int xs)) (.tuple [.int y]) = some (.tuple (mL PyData.int (xs ++ [y]))) := addD_m (f := PyData.int) (ys := [y]) (by simp; omega)
theorem loop_foldI {α σ : Type} {f : α → D} {i : Nat} {body : FS} {h : List D} {S : σ → En} {step : σ → α → σ} {P : Nat → σ → Prop} : ∀ (xs : List α) (n : Nat) (s : σ), P n s → (∀ k s x, xs[k]? = some x → P (n + k) s → P (n + k + 1) (step s x) ∧ body ((S s).set i (some (f x))) h = .nx (S (step s x)) h) → loopS (gN i) body (mL f xs) (S s) h = .nx (S (xs.foldl step s)) h ∧ P (n + xs.length) (xs.foldl step s)
  | [], _, _, hp, _ => ⟨rfl, hp⟩
  | x :: xs, n, s, hp, H => by
    obtain ⟨p1, e1⟩ := H 0 s x rfl hp
    obtain ⟨e2, p2⟩ := loop_foldI xs (n + 1) (step s x) p1 fun k s y hy hk => by
      have := H (k + 1) s y (by simpa using hy) (by rw [show n + (k + 1) = n + 1 + k by omega]; exact hk)
      rw [show n + (k + 1) = n + 1 + k by omega] at this
      exact this
    refine ⟨?_, by rw [List.length_cons, show n + (xs.length + 1) = n + 1 + xs.length by omega]; exact p2⟩
    show (match body ((S s).set i (some (f x))) h with
      | .nx e2 h2 => loopS (gN i) body (mL f xs) e2 h2
      | .ct e2 h2 => loopS (gN i) body (mL f xs) e2 h2
      | .bk e2 h2 => .nx e2 h2
      | r => r) = _
    rw [e1]
    exact e2
theorem rg_succ (lo : Int) (n : Nat) : rgI lo (n + 1) = rgI lo n ++ [lo + (n : Int)] := by
  unfold rgI
  rw [List.range_succ, List.map_append]
  rfl
theorem rg_cons (lo : Int) (n : Nat) : rgI lo (n + 1) = lo :: rgI (lo + 1) n := by
  unfold rgI
  rw [List.range_succ_eq_map, List.map_cons, List.map_map]
  congr 1
  · simp
  · refine List.map_congr_left fun k _ => ?_
    show lo + ((k + 1 : Nat) : Int) = lo + 1 + (k : Int)
    omega
theorem nth_last {α : Type} [Inhabited α] (xs : List α) (y : α) : nth (xs ++ [y]) (-1) = y := by
  unfold nth
  rw [if_pos (by decide), List.length_append, List.length_singleton]
  have : ((-1 : Int) + ((xs.length + 1 : Nat) : Int)).toNat = xs.length := by omega
  rw [this]
  simp [List.getD_eq_getElem?_getD]
theorem nth_get {α : Type} [Inhabited α] {xs : List α} {i : Int} (h0 : 0 ≤ i) (h1 : i < xs.length) : nth xs i = xs[i.toNat]'(by omega) := by
  unfold nth
  rw [if_neg (by omega)]
  simp [List.getD_eq_getElem?_getD, List.getElem?_eq_getElem (show i.toNat < xs.length by omega)]
theorem cut_from {α : Type} (xs : List α) (a : Int) (h0 : 0 ≤ a) : cutG xs (some a) none = xs.drop a.toNat := by
  unfold cutG HT.sIx
  dsimp only
  rw [if_neg (by omega)]
  by_cases h : a.toNat ≤ xs.length
  · rw [Nat.min_eq_left h, List.take_of_length_le (by rw [List.length_drop]; omega)]
  · rw [Nat.min_eq_right (by omega), List.drop_of_length_le (Nat.le_refl _), List.drop_of_length_le (by omega), List.take_nil]
theorem cut_to {α : Type} (xs : List α) (a : Int) (h0 : 0 ≤ a) : cutG xs none (some a) = xs.take a.toNat := by
  unfold cutG HT.sIx
  dsimp only
  rw [if_neg (by omega), List.drop_zero, Nat.sub_zero]
  by_cases h : a.toNat ≤ xs.length
  · rw [Nat.min_eq_left h]
  · rw [Nat.min_eq_right (by omega), List.take_of_length_le (Nat.le_refl _), List.take_of_length_le (by omega)]
theorem cut_between {α : Type} (xs : List α) (a b : Int) (h0 : 0 ≤ a) (h1 : 0 ≤ b) : cutG xs (some a) (some b) = (xs.take b.toNat).drop a.toNat := by
  unfold cutG HT.sIx
  dsimp only
  rw [if_neg (by omega), if_neg (by omega), List.drop_take]
  apply List.ext_getElem?
  intro i
  rw [List.getElem?_take, List.getElem?_take, List.getElem?_drop, List.getElem?_drop]
  by_cases h : i < b.toNat - a.toNat
  · rw [if_pos h]
    by_cases h2 : i < min b.toNat xs.length - min a.toNat xs.length
    · rw [if_pos h2]
      congr 1
      omega
    · rw [if_neg h2, List.getElem?_eq_none (by omega)]
  · rw [if_neg h, if_neg (by omega)]
end Sm


set_option maxRecDepth 100000
set_option maxHeartbeats 4000000
/-! Sim layer, part S: the order of rows of ints; sorted, min, max of them. -/
namespace Sm
open PySem PySem.Spec PyProof.Rows L2 PySem.SeqAt
def rowLt : List Int → List Int → Bool
  | [], [] => false
  | [], _ :: _ => true
  | _ :: _, [] => false
  | x :: xs, y :: ys => if x = y then rowLt xs ys else decide (x < y)
theorem toks_rows : ∀ r s : List Int, PyProof.Rows.lexLt itemOrd (PySem.W.keyToksAll (mL PyData.int r)) (PySem.W.keyToksAll (mL PyData.int s)) = rowLt r s
  | [], [] => by rfl
  | [], y :: ys => by
    show PyProof.Rows.lexLt itemOrd [.inl 0] (.inl 1 :: _) = true
    exact (PySem.W.lex_atom (p := .inl 0) (q := .inl 1) (by decide) [] _).trans ((PySem.W.lex_one _ _).trans rfl)
  | x :: xs, [] => by
    show PyProof.Rows.lexLt itemOrd (.inl 1 :: _) [.inl 0] = false
    exact (PySem.W.lex_atom (p := .inl 1) (q := .inl 0) (by decide) _ []).trans ((PySem.W.lex_one _ _).trans rfl)
  | x :: xs, y :: ys => by
    show PyProof.Rows.lexLt itemOrd (PySem.W.keyToksAll (.int x :: mL PyData.int xs)) (PySem.W.keyToksAll (.int y :: mL PyData.int ys)) = if x = y then rowLt xs ys else decide (x < y)
    by_cases e : x = y
    · subst e
      rw [if_pos rfl, PySem.W.dataLt_all_yes (show PySem.W.alike (.int x) (.int x) = true from rfl) (by rw [eqv_i]; simp), toks_rows xs ys]
    · rw [if_neg e, PySem.W.dataLt_all_no (show PySem.W.alike (.int x) (.int y) = true from rfl) (by rw [eqv_i]; simp [e]), PySem.W.dataLt_int]
theorem dataLt_row (r s : List Int) : PySem.W.dataLt (eT r) (eT s) = rowLt r s := (PySem.W.dataLt_tuple _ _).trans (toks_rows r s)
theorem rowLt_irrefl : ∀ r : List Int, rowLt r r = false
  | [] => rfl
  | x :: xs => by
    show (if x = x then rowLt xs xs else _) = false
    rw [if_pos rfl, rowLt_irrefl xs]
theorem rowLt_trans : ∀ {a b c : List Int}, rowLt a b = true → rowLt b c = true → rowLt a c = true
  | [], [], _, h, _ => by cases h
  | [], _ :: _, [], _, h => by cases h
  | [], _ :: _, _ :: _, _, _ => rfl
  | _ :: _, [], _, h, _ => by cases h
  | _ :: _, _ :: _, [], _, h => by cases h
  | x :: xs, y :: ys, z :: zs, h1, h2 => by
    have h1' : (if x = y then rowLt xs ys else decide (x < y)) = true := h1
    have h2' : (if y = z then rowLt ys zs else decide (y < z)) = true := h2
    show (if x = z then rowLt xs zs else decide (x < z)) = true
    by_cases e1 : x = y
    · subst e1
      rw [if_pos rfl] at h1'
      by_cases e2 : x = z
      · subst e2
        rw [if_pos rfl] at h2'
        rw [if_pos rfl]
        exact rowLt_trans h1' h2'
      · rw [if_neg e2] at h2'
        rw [if_neg e2]
        exact h2'
    · rw [if_neg e1] at h1'
      have l1 := of_decide_eq_true h1'
      by_cases e2 : y = z
      · subst e2
        rw [if_neg e1]
        exact h1'
      · rw [if_neg e2] at h2'
        have l2 := of_decide_eq_true h2'
        rw [if_neg (by omega)]
        exact decide_eq_true (by omega)
theorem rowLt_tri : ∀ {a b : List Int}, rowLt a b = false → rowLt b a = false → a = b
  | [], [], _, _ => rfl
  | [], _ :: _, h, _ => by cases h
  | _ :: _, [], _, h => by cases h
  | x :: xs, y :: ys, h1, h2 => by
    have h1' : (if x = y then rowLt xs ys else decide (x < y)) = false := h1
    have h2' : (if y = x then rowLt ys xs else decide (y < x)) = false := h2
    by_cases e : x = y
    · subst e
      rw [if_pos rfl] at h1' h2'
      rw [rowLt_tri h1' h2']
    · rw [if_neg e] at h1'
      rw [if_neg (fun z => e z.symm)] at h2'
      have l1 := of_decide_eq_false h1'
      have l2 := of_decide_eq_false h2'
      omega
def rowLe (a b : List Int) : Bool := !rowLt b a
theorem rowLe_total (a b : List Int) : (rowLe a b || rowLe b a) = true := by
  unfold rowLe
  cases h : rowLt b a with
  | false => rfl
  | true =>
    cases h2 : rowLt a b with
    | false => rfl
    | true =>
      have := rowLt_trans h h2
      rw [rowLt_irrefl] at this
      cases this
theorem rowLe_trans (a b c : List Int) (h1 : rowLe a b = true) (h2 : rowLe b c = true) : rowLe a c = true := by
  unfold rowLe at *
  rw [Bool.not_eq_true'] at *
  cases h : rowLt c a with
  | false => rfl
  | true =>
    cases h3 : rowLt a b with
    | true =>
      have := rowLt_trans h h3
      rw [this] at h2
      cases h2
    | false =>
      have := rowLt_tri h3 h1
      subst this
      rw [h] at h2
      cases h2
theorem rowLe_anti {a b : List Int} (h1 : rowLe a b = true) (h2 : rowLe b a = true) : a = b := by
  unfold rowLe at *
  rw [Bool.not_eq_true'] at *
  exact rowLt_tri h2 h1
def sortR (rs : List (List Int)) : List (List Int) := rs.mergeSort rowLe
theorem sortL_rows (rs : List (List Int)) : sortL (mL eT rs) = mL eT (sortR rs) := by
  unfold sortL sortR mL
  refine (List.map_mergeSort fun a _ b _ => ?_).symm
  show rowLe a b = !PySem.W.dataLt (eT b) (eT a)
  rw [dataLt_row]; rfl
theorem alike_rows : ∀ r s : List Int, PySem.W.alikeAll (mL PyData.int r) (mL PyData.int s) = true
  | [], [] => rfl
  | [], _ :: _ => rfl
  | _ :: _, [] => rfl
  | x :: xs, y :: ys => by
    show (PySem.W.alike (.int x) (.int y) && PySem.W.alikeAll (mL PyData.int xs) (mL PyData.int ys)) = true
    rw [alike_rows xs ys]; rfl
theorem sortOk_rows {rs : List (List Int)} (h : ∀ r ∈ rs, r ≠ []) : sortOk (mL eT rs) = true := by
  unfold sortOk
  rw [Bool.and_eq_true, Bool.and_eq_true, Bool.or_eq_true]
  refine ⟨⟨?_, .inl ?_⟩, ?_⟩
  · refine List.all_eq_true.mpr fun a ha => List.all_eq_true.mpr fun b hb => ?_
    obtain ⟨r, _, rfl⟩ := List.mem_map.mp ha
    obtain ⟨s, _, rfl⟩ := List.mem_map.mp hb
    exact alike_rows r s
  · refine List.all_eq_true.mpr fun a ha => ?_
    obtain ⟨r, hr, rfl⟩ := List.mem_map.mp ha
    cases r with
    | nil => exact absurd rfl (h _ hr)
    | cons x xs => rfl
  · refine List.all_eq_true.mpr fun a ha => ?_
    obtain ⟨r, _, rfl⟩ := List.mem_map.mp ha
    have := encT.dep r
    exact decide_eq_true (by omega)
theorem sortD_rows {rs : List (List Int)} (h : ∀ r ∈ rs, r ≠ []) : sortD (.list (mL eT rs)) = some (mL eT (sortR rs)) := by
  show (if sortOk (mL eT rs) = true then some (sortL (mL eT rs)) else none) = _
  rw [if_pos (sortOk_rows h), sortL_rows]
theorem sortR_eq {rs ss : List (List Int)} (hp : ss.Perm rs) (hs : ss.Pairwise fun a b => rowLe a b = true) : sortR rs = ss :=
  List.Perm.eq_of_pairwise (fun a b _ _ h1 h2 => rowLe_anti h1 h2) (List.pairwise_mergeSort rowLe_trans rowLe_total rs) hs ((List.mergeSort_perm rs rowLe).trans hp.symm)
/-! ints -/
theorem sortL_ints (ns : List Int) : sortL (mL PyData.int ns) = mL PyData.int (ns.mergeSort fun a b => decide (a ≤ b)) := by
  unfold sortL mL
  refine (List.map_mergeSort fun a _ b _ => ?_).symm
  show decide (a ≤ b) = !PySem.W.dataLt (.int b) (.int a)
  rw [PySem.W.dataLt_int]
  by_cases h : a ≤ b
  · rw [decide_eq_true h, decide_eq_false (by omega)]; rfl
  · rw [decide_eq_false h, decide_eq_true (by omega)]; rfl
theorem sortOk_ints (ns : List Int) : sortOk (mL PyData.int ns) = true := by
  unfold sortOk
  rw [Bool.and_eq_true, Bool.and_eq_true, Bool.or_eq_true]
  refine ⟨⟨?_, .inr ?_⟩, ?_⟩
  · refine List.all_eq_true.mpr fun a ha => List.all_eq_true.mpr fun b hb => ?_
    obtain ⟨r, _, rfl⟩ := List.mem_map.mp ha
    obtain ⟨s, _, rfl⟩ := List.mem_map.mp hb
    rfl
  · refine List.all_eq_true.mpr fun a ha => ?_
    obtain ⟨r, _, rfl⟩ := List.mem_map.mp ha
    rfl
  · refine List.all_eq_true.mpr fun a ha => ?_
    obtain ⟨r, _, rfl⟩ := List.mem_map.mp ha
    rfl
theorem sortD_ints (ns : List Int) : sortD (.list (mL PyData.int ns)) = some (mL PyData.int (ns.mergeSort fun a b => decide (a ≤ b))) := by
  show (if sortOk (mL PyData.int ns) = true then some (sortL (mL PyData.int ns)) else none) = _
  rw [if_pos (sortOk_ints ns), sortL_ints]
theorem sort_ints_eq {ns ms : List Int} (hp : ms.Perm ns) (hs : ms.Pairwise fun a b => a ≤ b) : (ns.mergeSort fun a b => decide (a ≤ b)) = ms :=
  List.Perm.eq_of_pairwise (le := fun a b => decide (a ≤ b) = true) (fun a b _ _ h1 h2 => Int.le_antisymm (of_decide_eq_true h1) (of_decide_eq_true h2)) (List.pairwise_mergeSort (le := fun (a b : Int) => decide (a ≤ b)) (fun a b c h1 h2 => decide_eq_true (Int.le_trans (of_decide_eq_true h1) (of_decide_eq_true h2))) (fun a b => by
    by_cases h : a ≤ b
    · rw [decide_eq_true h]; rfl
    · rw [decide_eq_true (show b ≤ a by omega), Bool.or_true]) ns) (hs.imp fun h => decide_eq_true h) ((List.mergeSort_perm ns _).trans hp.symm)
/-! min, max -/
def minRow (r : List Int) (rs : List (List Int)) : List Int := rs.foldl (fun a y => if rowLt y a then y else a) r
theorem minD_rows (r : List Int) : ∀ rs : List (List Int), PySem.W.minD (eT r) (mL eT rs) = eT (minRow r rs) := by
  intro rs
  induction rs generalizing r with
  | nil => rfl
  | cons s rs ih =>
    show PySem.W.minD (if PySem.W.dataLt (eT s) (eT r) = true then eT s else eT r) (mL eT rs) = eT (minRow (if rowLt s r = true then s else r) rs)
    rw [dataLt_row, ← ih]
    congr 1
    split <;> rfl
theorem minOk_rows (rs : List (List Int)) : minOk (mL eT rs) = true := by
  unfold minOk
  rw [Bool.and_eq_true]
  refine ⟨?_, List.all_eq_true.mpr fun a ha => ?_⟩
  · refine List.all_eq_true.mpr fun a ha => List.all_eq_true.mpr fun b hb => ?_
    obtain ⟨r, _, rfl⟩ := List.mem_map.mp ha
    obtain ⟨s, _, rfl⟩ := List.mem_map.mp hb
    exact alike_rows r s
  · obtain ⟨r, _, rfl⟩ := List.mem_map.mp ha
    have := encT.dep r
    rw [encT.lay r, decide_eq_true (show (eT r).depth ≤ 60 by omega)]
    rfl
theorem minQ_rows (r : List Int) (rs : List (List Int)) : minQ (.list (mL eT (r :: rs))) = some (eT (minRow r rs)) := by
  show (if minOk (mL eT (r :: rs)) = true then some (PySem.W.minD (eT r) (mL eT rs)) else none) = _
  rw [if_pos (minOk_rows _), minD_rows]
theorem minRow_le {r : List Int} : ∀ {rs : List (List Int)}, minRow r rs ∈ r :: rs ∧ ∀ s ∈ r :: rs, rowLe (minRow r rs) s = true := by
  intro rs
  induction rs generalizing r with
  | nil => exact ⟨List.mem_cons_self, fun s hs => by
      rcases List.mem_cons.mp hs with e | hs
      · subst e
        show (!rowLt s s) = true
        rw [rowLt_irrefl]; rfl
      · cases hs⟩
  | cons q rs ih =>
    obtain ⟨h1, h2⟩ := ih (r := if rowLt q r then q else r)
    have e : minRow r (q :: rs) = minRow (if rowLt q r then q else r) rs := rfl
    rw [e]
    have k1 : rowLe (if rowLt q r then q else r) r = true ∧ rowLe (if rowLt q r then q else r) q = true := by
      cases h : rowLt q r with
      | true =>
        rw [if_pos rfl]
        refine ⟨?_, by unfold rowLe; rw [rowLt_irrefl]; rfl⟩
        have := rowLe_total q r
        unfold rowLe at this ⊢
        rw [h] at this
        simpa using this
      | false =>
        rw [if_neg (by decide)]
        exact ⟨by unfold rowLe; rw [rowLt_irrefl]; rfl, by unfold rowLe; rw [h]; rfl⟩
    refine ⟨?_, fun s hs => ?_⟩
    · rcases List.mem_cons.mp h1 with h1 | h1
      · rw [h1]
        split
        · exact List.mem_cons_of_mem _ List.mem_cons_self
        · exact List.mem_cons_self
      · exact List.mem_cons_of_mem _ (List.mem_cons_of_mem _ h1)
    · have h3 := h2 _ List.mem_cons_self
      rcases List.mem_cons.mp hs with e | hs
      · subst e
        exact rowLe_trans _ _ _ h3 k1.1
      · rcases List.mem_cons.mp hs with e | hs
        · subst e
          exact rowLe_trans _ _ _ h3 k1.2
        · exact h2 _ (List.mem_cons_of_mem _ hs)
def minR : List (List Int) → List Int
  | [] => []
  | r :: rs => minRow r rs
theorem minQ_R {rs : List (List Int)} (h : 0 < rs.length) : minQ (.list (mL eT rs)) = some (.tuple (mL PyData.int (minR rs))) := by
  cases rs with
  | nil => cases h
  | cons r rs => exact minQ_rows r rs
theorem minR_spec {rs : List (List Int)} (h : 0 < rs.length) : minR rs ∈ rs ∧ ∀ s ∈ rs, rowLe (minR rs) s = true := by
  cases rs with
  | nil => cases h
  | cons r rs => exact minRow_le
/-! ints -/
def minI : List Int → Int
  | [] => 0
  | x :: xs => xs.foldl min x
def maxI : List Int → Int
  | [] => 0
  | x :: xs => xs.foldl max x
theorem minOk_ints (ns : List Int) : minOk (mL PyData.int ns) = true := by
  unfold minOk
  rw [Bool.and_eq_true]
  refine ⟨?_, List.all_eq_true.mpr fun a ha => ?_⟩
  · refine List.all_eq_true.mpr fun a ha => List.all_eq_true.mpr fun b hb => ?_
    obtain ⟨r, _, rfl⟩ := List.mem_map.mp ha
    obtain ⟨s, _, rfl⟩ := List.mem_map.mp hb
    rfl
  · obtain ⟨r, _, rfl⟩ := List.mem_map.mp ha
    rfl
theorem minQ_i {ns : List Int} (h : 0 < ns.length) : minQ (.list (mL PyData.int ns)) = some (.int (minI ns)) := by
  cases ns with
  | nil => cases h
  | cons x xs =>
    show (if minOk (mL PyData.int (x :: xs)) = true then some (PySem.W.minD (.int x) (mL PyData.int xs)) else none) = _
    rw [if_pos (minOk_ints _)]
    show some (PySem.W.minD (.int x) (xs.map .int)) = _
    rw [PySem.W.minD_ints]; rfl
theorem maxQ_i {ns : List Int} (h : 0 < ns.length) : maxQ (.list (mL PyData.int ns)) = some (.int (maxI ns)) := by
  cases ns with
  | nil => cases h
  | cons x xs =>
    show (if minOk (mL PyData.int (x :: xs)) = true then some (PySem.W.maxD (.int x) (mL PyData.int xs)) else none) = _
    rw [if_pos (minOk_ints _)]
    show some (PySem.W.maxD (.int x) (xs.map .int)) = _
    rw [PySem.W.maxD_ints]; rfl
theorem foldl_min_spec : ∀ (xs : List Int) (x : Int), xs.foldl min x ∈ x :: xs ∧ ∀ y ∈ x :: xs, xs.foldl min x ≤ y
  | [], x => ⟨List.mem_cons_self, fun y hy => by
    rcases List.mem_cons.mp hy with e | hy
    · rw [e]; exact Int.le_refl _
    · cases hy⟩
  | z :: xs, x => by
    obtain ⟨h1, h2⟩ := foldl_min_spec xs (min x z)
    rw [List.foldl_cons]
    have h3 := h2 _ List.mem_cons_self
    refine ⟨?_, fun y hy => ?_⟩
    · rcases List.mem_cons.mp h1 with e | h1
      · rw [e]
        by_cases c : x ≤ z
        · rw [Int.min_eq_left c]; exact List.mem_cons_self
        · rw [Int.min_eq_right (by omega)]; exact List.mem_cons_of_mem _ List.mem_cons_self
      · exact List.mem_cons_of_mem _ (List.mem_cons_of_mem _ h1)
    · rcases List.mem_cons.mp hy with e | hy
      · rw [e]; omega
      · rcases List.mem_cons.mp hy with e | hy
        · rw [e]; omega
        · exact h2 y (List.mem_cons_of_mem _ hy)
theorem minI_spec {ns : List Int} (h : 0 < ns.length) : minI ns ∈ ns ∧ ∀ y ∈ ns, minI ns ≤ y := by
  cases ns with
  | nil => cases h
  | cons x xs => exact foldl_min_spec xs x
/-! an int ahead of a row -/
def eP (p : Int × List Int) : D := .tuple [.int p.1, eT p.2]
theorem eP_e {p : Int × List Int} : eP p = .tuple [.int p.1, .tuple (mL PyData.int p.2)] := rfl
def prLt (p q : Int × List Int) : Bool := if p.1 = q.1 then rowLt p.2 q.2 else decide (p.1 < q.1)
theorem dataLt_pr (p q : Int × List Int) : PySem.W.dataLt (eP p) (eP q) = prLt p q := by
  refine (PySem.W.dataLt_tuple _ _).trans ?_
  unfold prLt
  by_cases e : p.1 = q.1
  · rw [if_pos e, e, PySem.W.dataLt_all_yes (show PySem.W.alike (.int q.1) (.int q.1) = true from rfl) (by rw [eqv_i]; simp)]
    by_cases e2 : p.2 = q.2
    · rw [e2, rowLt_irrefl, PySem.W.dataLt_all_yes (show PySem.W.alike (eT q.2) (eT q.2) = true from alike_rows _ _) (by rw [encT.eq]; simp)]
      exact toks_rows [] []
    · rw [PySem.W.dataLt_all_no (show PySem.W.alike (eT p.2) (eT q.2) = true from alike_rows _ _) (by rw [encT.eq]; simp [e2]), dataLt_row]
  · rw [if_neg e, PySem.W.dataLt_all_no (show PySem.W.alike (.int p.1) (.int q.1) = true from rfl) (by rw [eqv_i]; simp [e]), PySem.W.dataLt_int]
def minPr (p : Int × List Int) (ps : List (Int × List Int)) : Int × List Int := ps.foldl (fun a y => if prLt y a then y else a) p
theorem minD_pr (p : Int × List Int) : ∀ ps : List (Int × List Int), PySem.W.minD (eP p) (mL eP ps) = eP (minPr p ps) := by
  intro ps
  induction ps generalizing p with
  | nil => rfl
  | cons s rs ih =>
    show PySem.W.minD (if PySem.W.dataLt (eP s) (eP p) = true then eP s else eP p) (mL eP rs) = eP (minPr (if prLt s p = true then s else p) rs)
    rw [dataLt_pr, ← ih]
    congr 1
    split <;> rfl
theorem minOk_pr (ps : List (Int × List Int)) : minOk (mL eP ps) = true := by
  unfold minOk
  rw [Bool.and_eq_true]
  refine ⟨?_, List.all_eq_true.mpr fun a ha => ?_⟩
  · refine List.all_eq_true.mpr fun a ha => List.all_eq_true.mpr fun b hb => ?_
    obtain ⟨r, _, rfl⟩ := List.mem_map.mp ha
    obtain ⟨s, _, rfl⟩ := List.mem_map.mp hb
    show (PySem.W.alike (.int r.1) (.int s.1) && (PySem.W.alike (eT r.2) (eT s.2) && true)) = true
    rw [show PySem.W.alike (eT r.2) (eT s.2) = true from alike_rows _ _]; rfl
  · obtain ⟨r, _, rfl⟩ := List.mem_map.mp ha
    have h1 := encT.dep r.2
    have h2 : (eP r).depth ≤ 60 := by
      show max 0 (max (eT r.2).depth 0) + 1 ≤ 60
      omega
    have h3 : (eP r).canLay0 = true := by
      show (true && ((eT r.2).canLay0 && true)) = true
      rw [encT.lay]; rfl
    rw [h3, decide_eq_true h2]
    rfl
def minP : List (Int × List Int) → Int × List Int
  | [] => (0, [])
  | p :: ps => minPr p ps
theorem minQ_P {ps : List (Int × List Int)} (h : 0 < ps.length) : minQ (.list (mL eP ps)) = some (eP (minP ps)) := by
  cases ps with
  | nil => cases h
  | cons p ps =>
    show (if minOk (mL eP (p :: ps)) = true then some (PySem.W.minD (eP p) (mL eP ps)) else none) = _
    rw [if_pos (minOk_pr _), minD_pr]; rfl
theorem mL_pr {α : Type} {xs : List α} {a : α → Int} {r : α → List Int} : mL (fun x => PyData.tuple [.int (a x), .tuple (mL PyData.int (r x))]) xs = mL eP (xs.map fun x => (a x, r x)) := by unfold mL; rw [List.map_map]; rfl
/-- of ascending rows, the first of the least -/
theorem minPr_asc {v : List Int → Int} : ∀ (rs : List (List Int)) (r : List Int), (r :: rs).Pairwise (fun a b => rowLt a b = true) →
    (minPr (v r, r) (rs.map fun x => (v x, x))).1 = (rs.map v).foldl min (v r) ∧ ∃ tl, (r :: rs).filter (fun x => decide (v x = (rs.map v).foldl min (v r))) = (minPr (v r, r) (rs.map fun x => (v x, x))).2 :: tl := by
  intro rs
  induction rs with
  | nil => intro r _; exact ⟨rfl, [], by simp [minPr]⟩
  | cons s rs ih =>
    intro r hp
    have h1 := List.pairwise_cons.mp hp
    have h2 := List.pairwise_cons.mp h1.2
    have hrs : rowLt r s = true := h1.1 s List.mem_cons_self
    have hsr : rowLt s r = false := by
      cases q : rowLt s r with
      | false => rfl
      | true =>
        have := rowLt_trans hrs q
        rw [rowLt_irrefl] at this
        cases this
    rw [List.map_cons, List.map_cons, List.foldl_cons]
    show (minPr (if prLt (v s, s) (v r, r) = true then (v s, s) else (v r, r)) _).1 = _ ∧ ∃ tl, _ = (minPr (if prLt (v s, s) (v r, r) = true then (v s, s) else (v r, r)) _).2 :: tl
    by_cases c : v s < v r
    · have e : prLt (v s, s) (v r, r) = true := by
        unfold prLt
        rw [if_neg (show ¬ v s = v r by omega)]
        exact decide_eq_true c
      obtain ⟨k1, tl, k2⟩ := ih s h1.2
      rw [if_pos e, Int.min_eq_right (by omega)]
      refine ⟨k1, tl, ?_⟩
      have := (foldl_min_spec (rs.map v) (v s)).2 _ List.mem_cons_self
      rw [List.filter_cons_of_neg (by simp; omega)]
      exact k2
    · have e : prLt (v s, s) (v r, r) = false := by
        unfold prLt
        by_cases c2 : v s = v r
        · rw [if_pos c2]; exact hsr
        · rw [if_neg c2]; exact decide_eq_false c
      have hp2 : (r :: rs).Pairwise (fun a b => rowLt a b = true) := List.pairwise_cons.mpr ⟨fun x hx => h1.1 x (List.mem_cons_of_mem _ hx), h2.2⟩
      obtain ⟨k1, tl, k2⟩ := ih r hp2
      rw [e, if_neg (by decide), Int.min_eq_left (by omega)]
      refine ⟨k1, ?_⟩
      generalize hm : (rs.map v).foldl min (v r) = m at k1 k2 ⊢
      by_cases c3 : v r = m
      · rw [List.filter_cons_of_pos (by simp [c3])] at k2 ⊢
        exact ⟨(s :: rs).filter (fun x => decide (v x = m)), congrArg (· :: _) (List.cons.inj k2).1⟩
      · rw [List.filter_cons_of_neg (by simp [c3])] at k2 ⊢
        have hle : m ≤ v r := by
          have := (foldl_min_spec (rs.map v) (v r)).2 _ List.mem_cons_self
          omega
        rw [List.filter_cons_of_neg (by simp; omega)]
        exact ⟨tl, k2⟩
theorem minP_asc {v : List Int → Int} {rs : List (List Int)} (h : 0 < rs.length) (hp : rs.Pairwise (fun a b => rowLt a b = true)) :
    (minP (rs.map fun x => (v x, x))).1 = minI (rs.map v) ∧ ∃ tl, rs.filter (fun x => decide (v x = minI (rs.map v))) = (minP (rs.map fun x => (v x, x))).2 :: tl := by
  cases rs with
  | nil => cases h
  | cons r rs => exact minPr_asc rs r hp
end Sm


set_option maxRecDepth 100000
set_option maxHeartbeats 1000000
namespace Sm
open PySem PySem.Spec PyProof.Rows L2
/-! Sim layer, part W: loops that answer at the first find; places. -/
section
variable {α : Type} {f : α → D} {g : D → En → Option En} {body : FS} {e : En} {h : List D}
/-- what a find ends with -/
def fndR (o : Option D) (e : En) (h : List D) : Rs := match o with | some d => .rt d h | none => .nx e h
theorem fndR_s {d : D} : fndR (some d) e h = .rt d h := rfl
theorem fndR_n : fndR none e h = .nx e h := rfl
theorem fndR_if {c : Bool} {d : D} : (if c = true then Rs.rt d h else Rs.nx e h) = fndR (if c = true then some d else none) e h := by cases c <;> rfl
theorem loop_some {Q : α → Option D} : ∀ xs : List α, (∀ x, x ∈ xs → ∃ e1, g (f x) e = some e1 ∧ body e1 h = fndR (Q x) e h) → loopS g body (mL f xs) e h = fndR (xs.findSome? Q) e h
  | [], _ => rfl
  | x :: xs, H => by
    obtain ⟨e0, g1, e1⟩ := H x List.mem_cons_self
    show loopS g body (f x :: mL f xs) e h = _
    unfold loopS
    rw [g1]
    show (match body e0 h with
      | .nx e2 h2 => loopS g body (mL f xs) e2 h2
      | .ct e2 h2 => loopS g body (mL f xs) e2 h2
      | .bk e2 h2 => .nx e2 h2
      | r => r) = _
    rw [e1, List.findSome?_cons]
    cases Q x with
    | some d => rfl
    | none => exact loop_some xs fun y hy => H y (List.mem_cons_of_mem _ hy)
theorem dropR_fnd {is : List Nat} {o : Option D} : dropR is (fndR o e h) = fndR o (wipeE e is) h := by cases o <;> rfl
theorem outP_fnd {o : Option D} {t : FS} : thS (fndR o e h) t = (match o with | some d => .rt d h | none => t e h) := by cases o <;> rfl
end
/-! places -/
def eC (p : Int × Int) : D := .tuple [.int p.1, .int p.2]
theorem eC_e {p : Int × Int} : eC p = .tuple [.int p.1, .int p.2] := rfl
theorem eC_i {a b : Int} : PyData.tuple [.int a, .int b] = eC (a, b) := rfl
instance encC : Enc eC 1 := ⟨fun _ => rfl, fun _ => Nat.le_refl _, fun x y => by
  show (PyData.eqv (.int x.1) (.int y.1) && (PyData.eqv (.int x.2) (.int y.2) && true)) = _
  rw [eqv_i, eqv_i, Bool.and_true]
  rcases x with ⟨a, b⟩
  rcases y with ⟨c, d⟩
  by_cases h1 : a = c <;> by_cases h2 : b = d <;> simp [h1, h2]⟩
/-- a list, a tuple of such -/
theorem encL {α : Type} [DecidableEq α] {f : α → D} {n : Nat} (E : Enc f n) : Enc (fun xs : List α => PyData.list (mL f xs)) (n + 1) := ⟨fun r => canLay_map E.lay r, fun r => by
  show PyData.depthAll (List.map f r) + 1 ≤ n + 1
  have := depth_map (f := f) (n := n) E.dep r
  omega, fun x y => eqvAll_m x y⟩
theorem encTu {α : Type} [DecidableEq α] {f : α → D} {n : Nat} (E : Enc f n) : Enc (fun xs : List α => PyData.tuple (mL f xs)) (n + 1) := ⟨fun r => canLay_map E.lay r, fun r => by
  show PyData.depthAll (List.map f r) + 1 ≤ n + 1
  have := depth_map (f := f) (n := n) E.dep r
  omega, fun x y => eqvAll_m x y⟩
def eCs (ps : List (Int × Int)) : D := .list (mL eC ps)
def eCt (ps : List (Int × Int)) : D := .tuple (mL eC ps)
instance encCs : Enc eCs 2 := encL encC
instance encCt : Enc eCt 2 := encTu encC
theorem mL_C {α : Type} {xs : List α} {a b : α → Int} : mL (fun x => PyData.tuple [.int (a x), .int (b x)]) xs = mL eC (xs.map fun x => (a x, b x)) := by unfold mL; rw [List.map_map]; rfl
theorem mL_Cs {α : Type} {xs : List α} {a : α → List (Int × Int)} : mL (fun x => PyData.list (mL eC (a x))) xs = mL eCs (xs.map a) := by unfold mL; rw [List.map_map]; rfl
theorem mL_Ct {α : Type} {xs : List α} {a : α → List (Int × Int)} : mL (fun x => PyData.tuple (mL eC (a x))) xs = mL eCt (xs.map a) := by unfold mL; rw [List.map_map]; rfl
/-- a thing or None -/
def oN {α : Type} (f : α → D) (o : Option α) : D := match o with | some x => f x | none => .none
theorem oN_s {α : Type} {f : α → D} {x : α} : oN f (some x) = f x := rfl
theorem oN_n {α : Type} {f : α → D} : oN f none = .none := rfl
/-- data of Lean that are alike -/
theorem neD_s {α : Type} [DecidableEq α] {f : α → D} {n : Nat} [E : Enc f n] (x : α) (h : n ≤ 60 := by decide) : neD (f x) (f x) = some (.bool false) := neD_self (okE_f h x)
instance encO : Enc (oN eC) 1 := ⟨fun o => by cases o <;> rfl, fun o => by cases o; exact Nat.zero_le _; exact Nat.le_refl _, fun x y => by
  cases x with
  | none =>
    cases y with
    | none => rfl
    | some q => rfl
  | some p =>
    cases y with
    | none => rfl
    | some q =>
      show PyData.eqv (eC p) (eC q) = _
      rw [encC.eq]
      by_cases h : p = q <;> simp [h]⟩
section
variable {α : Type} [DecidableEq α] {f : α → D} {n : Nat} [E : Enc f n] {xs : List α}
theorem mtM_e {g : D → D → Option D} {fa fb : FE} {e : En} {h : List D} : mtM isLst g fa fb e h = (fa e h).bind fun x h1 => if isLst x = true then (fb e h1).bind fun y h2 => opt (g x y) h2 else .no := rfl
theorem isLst_l {ds : List D} : isLst (.list ds) = true := rfl
theorem idxL_m (x : α) (h : n ≤ 60 := by decide) : idxL (.list (mL f xs)) (f x) = (xs.findIdx? fun z => decide (z = x)).map fun j => .int (j : Nat) := by
  show (if (okE (PyData.list (mL f xs)) && okE (f x)) = true then (List.findIdx? (fun z => PyData.eqv z (f x)) (mL f xs)).map (fun (j : Nat) => PyData.int (j : Int)) else none) = _
  rw [okE_l h, okE_f h x]
  show (List.findIdx? _ (List.map f xs)).map _ = _
  rw [List.findIdx?_map]
  congr 2
  funext z
  exact E.eq z x
theorem cntL_m (x : α) (h : n ≤ 60 := by decide) : cntL (.list (mL f xs)) (f x) = some (.int (xs.countP fun z => decide (z = x) : Nat)) := by
  show (if (okE (PyData.list (mL f xs)) && okE (f x)) = true then some (PyData.int (((mL f xs).countP fun z => PyData.eqv z (f x) : Nat) : Int)) else none) = _
  rw [okE_l h, okE_f h x]
  show some (PyData.int ((List.countP _ (List.map f xs) : Nat) : Int)) = _
  rw [List.countP_map]
  congr 4
  funext z
  exact E.eq z x
end
theorem rg_asc (lo : Int) (n : Nat) : (rgI lo n).Pairwise (· < ·) := by
  unfold rgI
  rw [List.pairwise_map]
  exact List.pairwise_lt_range.imp fun h => by omega
theorem nth_mem {α : Type} [Inhabited α] {xs : List α} {i : Int} (h0 : -(xs.length : Int) ≤ i) (h1 : i < xs.length) : nth xs i ∈ xs := by
  unfold nth
  rw [List.getD_eq_getElem?_getD]
  have k : (if i < 0 then i + (xs.length : Int) else i).toNat < xs.length := by split <;> omega
  rw [List.getElem?_eq_getElem k]
  exact List.getElem_mem _
/-- the first place of a range at which p holds -/
theorem find_first {p : Int → Bool} {n : Nat} {s : Int} {ss : List Int} (h : (rgI 0 n).filter p = s :: ss) : (rgI 0 n).findIdx? p = some s.toNat ∧ 0 ≤ s ∧ s < n ∧ p s = true := by
  have hm : s ∈ (rgI 0 n).filter p := by rw [h]; exact List.mem_cons_self
  obtain ⟨h1, h2⟩ := List.mem_filter.mp hm
  rw [rg_mem] at h1
  have at' : ∀ i (hi : i < (rgI 0 n).length), (rgI 0 n)[i] = (i : Int) := fun i hi => by unfold rgI; simp
  refine ⟨?_, by omega, by omega, h2⟩
  rw [List.findIdx?_eq_some_iff_getElem]
  refine ⟨by rw [rg_len]; omega, ?_, fun j hj => ?_⟩
  · rw [at', Int.toNat_of_nonneg h1.1]; exact h2
  · rw [at']
    intro q
    have hj2 : (j : Int) ∈ (rgI 0 n).filter p := List.mem_filter.mpr ⟨rg_mem.mpr (by omega), q⟩
    rw [h] at hj2
    have asc := (rg_asc 0 n).sublist (List.filter_sublist (p := p))
    rw [h, List.pairwise_cons] at asc
    rcases List.mem_cons.mp hj2 with e | e
    · omega
    · have := asc.1 _ e
      omega
section
variable {a b c d : D} {ds : List D}
theorem at_n {k : Nat} {x : D} (h : ds[k]? = some x) : atI ds (k : Int) = some x := atI_get (by omega) h
theorem at_0 : atI (a :: ds) 0 = some a := at_n (k := 0) rfl
theorem at_1 : atI (a :: b :: ds) 1 = some b := at_n (k := 1) rfl
theorem at_2 : atI (a :: b :: c :: ds) 2 = some c := at_n (k := 2) rfl
theorem at_3 : atI (a :: b :: c :: d :: ds) 3 = some d := at_n (k := 3) rfl
theorem at_m1 : atI [a] (-1) = some a := rfl
theorem at_m2 : atI [a, b] (-1) = some b := rfl
theorem at_m3 : atI [a, b, c] (-1) = some c := rfl
theorem isi_tt : isiD "tuple" (.tuple ds) = true := rfl
theorem isi_ts {s : Str} : isiD "tuple" (.str s) = false := rfl
theorem isi_ti {i : Int} : isiD "tuple" (.int i) = false := rfl
theorem isi_tl : isiD "tuple" (.list ds) = false := rfl
theorem isi_tn : isiD "tuple" .none = false := rfl
theorem isi_ss {s : Str} : isiD "str" (.str s) = true := rfl
theorem isi_st : isiD "str" (.tuple ds) = false := rfl
theorem isi_si {i : Int} : isiD "str" (.int i) = false := rfl
theorem isi_sl : isiD "str" (.list ds) = false := rfl
theorem isi_sn : isiD "str" .none = false := rfl
theorem isi_ll : isiD "list" (.list ds) = true := rfl
theorem isi_lt : isiD "list" (.tuple ds) = false := rfl
end
theorem rep1 {α : Type} (x : α) (k : Int) : repG [x] k = List.replicate k.toNat x := by
  unfold repG
  induction k.toNat with
  | zero => rfl
  | succ n ih => rw [List.replicate_succ, List.flatten_cons, ih]; rfl
theorem mul_l1 {x : D} {k : Int} (h : -1000 ≤ k ∧ k ≤ 1000) : mulD (.list [x]) (.int k) = some (.list (List.replicate k.toNat x)) := by
  show (if _ then _ else _) = _
  rw [if_pos ⟨h.1, h.2, show [x].length ≤ 1000 by simp⟩, rep1]
theorem mul_t1 {x : D} {k : Int} (h : -1000 ≤ k ∧ k ≤ 1000) : mulD (.tuple [x]) (.int k) = some (.tuple (List.replicate k.toNat x)) := by
  show (if _ then _ else _) = _
  rw [if_pos ⟨h.1, h.2, show [x].length ≤ 1000 by simp⟩, rep1]
theorem rep_m {α : Type} {f : α → D} {k : Nat} {x : α} : List.replicate k (f x) = mL f (List.replicate k x) := List.map_replicate.symm
theorem notBD_b {a b : Bool} : notBD (.bool a) (.bool b) = some (.bool (a != b)) := by cases a <;> cases b <;> rfl
theorem isBD_b {a b : Bool} : isBD (.bool a) (.bool b) = some (.bool (a == b)) := by cases a <;> cases b <;> rfl
/-! loops that carry a state and may answer; loops that draw -/
/-- a loop's run: an answer, or the state behind -/
def runL {α σ : Type} (step : σ → α → D ⊕ σ) : List α → σ → D ⊕ σ
  | [], s => .inr s
  | x :: xs, s => match step s x with | .inl d => .inl d | .inr s' => runL step xs s'
def sumR {σ : Type} (S : σ → En) (h : List D) (o : D ⊕ σ) : Rs := match o with | .inl d => .rt d h | .inr s => .nx (S s) h
theorem loop_sum {α σ : Type} {f : α → D} {g : D → En → Option En} {body : FS} {h : List D} {S : σ → En} {step : σ → α → D ⊕ σ} {P : Nat → σ → Prop} : ∀ (xs : List α) (n : Nat) (s : σ), P n s →
    (∀ k s x, xs[k]? = some x → P (n + k) s → (∀ s', step s x = .inr s' → P (n + k + 1) s') ∧ ∃ e1, g (f x) (S s) = some e1 ∧ body e1 h = sumR S h (step s x)) → loopS g body (mL f xs) (S s) h = sumR S h (runL step xs s)
  | [], _, _, _, _ => rfl
  | x :: xs, n, s, hp, H => by
    obtain ⟨p1, e0, g1, e1⟩ := H 0 s x rfl hp
    show loopS g body (f x :: mL f xs) (S s) h = _
    unfold loopS
    rw [g1]
    show (match body e0 h with
      | .nx e2 h2 => loopS g body (mL f xs) e2 h2
      | .ct e2 h2 => loopS g body (mL f xs) e2 h2
      | .bk e2 h2 => .nx e2 h2
      | r => r) = _
    rw [e1]
    unfold runL
    cases hs : step s x with
    | inl d => rfl
    | inr s' =>
      exact loop_sum xs (n + 1) s' (p1 s' hs) fun k s y hy hk => by
        have := H (k + 1) s y (by simpa using hy) (by rw [show n + (k + 1) = n + 1 + k by omega]; exact hk)
        rw [show n + (k + 1) = n + 1 + k by omega] at this
        exact this
theorem loop_draw {α σ : Type} {f : α → D} {g : D → En → Option En} {body : FS} {S : σ → En} {P : Nat → σ → Prop} {HO : List D → Prop} : ∀ (xs : List α) (n : Nat) (s : σ) (h : List D), P n s → HO h →
    (∀ k s x h, xs[k]? = some x → P (n + k) s → HO h → ∃ e1 s' h', g (f x) (S s) = some e1 ∧ body e1 h = .nx (S s') h' ∧ P (n + k + 1) s' ∧ HO h') → ∃ s' h', loopS g body (mL f xs) (S s) h = .nx (S s') h' ∧ P (n + xs.length) s' ∧ HO h'
  | [], _, s, h, hp, hh, _ => ⟨s, h, rfl, hp, hh⟩
  | x :: xs, n, s, h, hp, hh, H => by
    obtain ⟨e0, s1, h1, g1, e1, p1, o1⟩ := H 0 s x h rfl hp hh
    obtain ⟨s2, h2, e2, p2, o2⟩ := loop_draw xs (n + 1) s1 h1 p1 o1 fun k s y h hy hk => by
      have := H (k + 1) s y h (by simpa using hy) (by rw [show n + (k + 1) = n + 1 + k by omega]; exact hk)
      rw [show n + (k + 1) = n + 1 + k by omega] at this
      exact this
    refine ⟨s2, h2, ?_, by rw [List.length_cons, show n + (xs.length + 1) = n + 1 + xs.length by omega]; exact p2, o2⟩
    show loopS g body (f x :: mL f xs) (S s) h = _
    unfold loopS
    rw [g1]
    show (match body e0 h with
      | .nx e2 h2 => loopS g body (mL f xs) e2 h2
      | .ct e2 h2 => loopS g body (mL f xs) e2 h2
      | .bk e2 h2 => .nx e2 h2
      | r => r) = _
    rw [e1]
    exact e2
def abI (x : Int) : Int := if x < 0 then -x else x
theorem absD_i {x : Int} : absD (.int x) = some (.int (abI x)) := rfl
theorem zip_snoc {α : Type} [Inhabited α] {w : List α} {y : α} (h : 0 < w.length) : (w ++ [y]).zip (cutG (w ++ [y]) (some 1) none) = w.zip (cutG w (some 1) none) ++ [(nth w (-1), y)] := by
  rw [cut_from _ _ (by decide), cut_from _ _ (by decide)]
  show (w ++ [y]).zip ((w ++ [y]).drop 1) = w.zip (w.drop 1) ++ _
  induction w with
  | nil => cases h
  | cons a w ih =>
    cases w with
    | nil => rfl
    | cons b w =>
      have := ih (by rw [List.length_cons]; omega)
      show (a, b) :: ((b :: w) ++ [y]).zip (((b :: w) ++ [y]).drop 1) = (a, b) :: ((b :: w).zip ((b :: w).drop 1)) ++ _
      rw [this]
      have e : nth (a :: b :: w) (-1) = nth (b :: w) (-1) := by
        unfold nth
        rw [if_pos (by decide), if_pos (by decide)]
        have e1 : ((-1 : Int) + ((a :: b :: w).length : Nat)).toNat = w.length + 1 := by rw [List.length_cons, List.length_cons]; omega
        have e2 : ((-1 : Int) + ((b :: w).length : Nat)).toNat = w.length := by rw [List.length_cons]; omega
        rw [e1, e2]
        simp [List.getD_eq_getElem?_getD]
      rw [e]
      rfl
theorem sum_app (xs ys : List Int) : (xs ++ ys).sum = xs.sum + ys.sum := by
  induction xs with
  | nil => simp
  | cons x xs ih => rw [List.cons_append, List.sum_cons, List.sum_cons, ih]; omega
/-- a comprehension that draws -/
theorem comp_draw {α β : Type} {fa : α → D} {f : β → D} {P : List D → Prop} {Q : β → Prop} {own : List Nat} {fi : FL} {g : D → En → Option En} {ft : FB} {fe : FE} {e : En} {xs : List α} {h : List D} (hi : fi e h = .ok (mL fa xs) h)
    (H : ∀ x, x ∈ xs → ∀ h, P h → ∃ y h', stepR g ft fe (wipeE e own) (fa x) h = .ok (some (f y)) h' ∧ P h' ∧ Q y) (hp : P h) : ∃ ys h', compM own fi g ft fe e h = .ok (mL f ys) h' ∧ P h' ∧ ys.length = xs.length ∧ ∀ y ∈ ys, Q y := by
  obtain ⟨ys, h', e1, p, l, q⟩ := mapR_draw (f := f) (P := P) (Q := Q) (k := fun x h => stepR g ft fe (wipeE e own) (fa x) h) xs h H hp
  refine ⟨ys, h', ?_, p, l, q⟩
  rw [compM_e, hi]
  show compL g ft fe (mL fa xs) (wipeE e own) h = _
  rw [compL_m]
  exact e1
/-! pairs sorted -/
def prLe (p q : Int × List Int) : Bool := !prLt q p
theorem prLe_total (p q : Int × List Int) : (prLe p q || prLe q p) = true := by
  unfold prLe prLt
  by_cases e : p.1 = q.1
  · rw [if_pos e.symm, if_pos e]
    exact rowLe_total p.2 q.2
  · rw [if_neg (fun z => e z.symm), if_neg e]
    by_cases l : p.1 < q.1
    · rw [decide_eq_false (show ¬ q.1 < p.1 by omega)]; rfl
    · rw [decide_eq_false l]; simp
theorem prLe_iff (p q : Int × List Int) : prLe p q = true ↔ p.1 < q.1 ∨ (p.1 = q.1 ∧ rowLe p.2 q.2 = true) := by
  unfold prLe prLt
  by_cases e : p.1 = q.1
  · rw [if_pos e.symm]
    constructor
    · exact fun h => .inr ⟨e, h⟩
    · rintro (h | h)
      · omega
      · exact h.2
  · rw [if_neg (fun z => e z.symm)]
    constructor
    · intro h
      simp at h
      exact .inl (by omega)
    · rintro (h | h)
      · simp; omega
      · exact absurd h.1 e
theorem prLe_trans (a b c : Int × List Int) (h1 : prLe a b = true) (h2 : prLe b c = true) : prLe a c = true := by
  rw [prLe_iff] at *
  rcases h1 with h1 | ⟨h1, k1⟩
  · rcases h2 with h2 | ⟨h2, k2⟩ <;> exact .inl (by omega)
  · rcases h2 with h2 | ⟨h2, k2⟩
    · exact .inl (by omega)
    · exact .inr ⟨by omega, rowLe_trans _ _ _ k1 k2⟩
theorem prLe_anti {a b : Int × List Int} (h1 : prLe a b = true) (h2 : prLe b a = true) : a = b := by
  rw [prLe_iff] at *
  rcases h1 with h1 | ⟨h1, k1⟩
  · rcases h2 with h2 | ⟨h2, k2⟩ <;> omega
  · rcases h2 with h2 | ⟨h2, k2⟩
    · omega
    · exact Prod.ext h1 (rowLe_anti k1 k2)
def sortP (ps : List (Int × List Int)) : List (Int × List Int) := ps.mergeSort prLe
theorem sortL_pr (ps : List (Int × List Int)) : sortL (mL eP ps) = mL eP (sortP ps) := by
  unfold sortL sortP mL
  refine (List.map_mergeSort fun a _ b _ => ?_).symm
  show prLe a b = !PySem.W.dataLt (eP b) (eP a)
  rw [dataLt_pr]; rfl
theorem sortOk_pr (ps : List (Int × List Int)) : sortOk (mL eP ps) = true := by
  unfold sortOk
  rw [Bool.and_eq_true, Bool.and_eq_true, Bool.or_eq_true]
  refine ⟨⟨?_, .inl ?_⟩, ?_⟩
  · refine List.all_eq_true.mpr fun a ha => List.all_eq_true.mpr fun b hb => ?_
    obtain ⟨r, _, rfl⟩ := List.mem_map.mp ha
    obtain ⟨s, _, rfl⟩ := List.mem_map.mp hb
    show (PySem.W.alike (.int r.1) (.int s.1) && (PySem.W.alike (eT r.2) (eT s.2) && true)) = true
    rw [show PySem.W.alike (eT r.2) (eT s.2) = true from alike_rows _ _]; rfl
  · refine List.all_eq_true.mpr fun a ha => ?_
    obtain ⟨r, hr, rfl⟩ := List.mem_map.mp ha
    rfl
  · refine List.all_eq_true.mpr fun a ha => ?_
    obtain ⟨r, _, rfl⟩ := List.mem_map.mp ha
    have h1 := encT.dep r.2
    refine decide_eq_true ?_
    show max 0 (max (eT r.2).depth 0) + 1 ≤ _
    omega
theorem sortD_pr (ps : List (Int × List Int)) : sortD (.list (mL eP ps)) = some (mL eP (sortP ps)) := by
  show (if sortOk (mL eP ps) = true then some (sortL (mL eP ps)) else none) = _
  rw [if_pos (sortOk_pr ps), sortL_pr]
theorem sortP_eq {rs ss : List (Int × List Int)} (hp : ss.Perm rs) (hs : ss.Pairwise fun a b => prLe a b = true) : sortP rs = ss :=
  List.Perm.eq_of_pairwise (fun a b _ _ h1 h2 => prLe_anti h1 h2) (List.pairwise_mergeSort prLe_trans prLe_total rs) hs ((List.mergeSort_perm rs prLe).trans hp.symm)
/-- the place of a thing in a list -/
def ix {α : Type} [DecidableEq α] (xs : List α) (x : α) : Int := ((xs.findIdx fun z => decide (z = x) : Nat) : Int)
theorem ix_lt {α : Type} [DecidableEq α] {xs : List α} {x : α} (h : x ∈ xs) : 0 ≤ ix xs x ∧ ix xs x < xs.length := by
  unfold ix
  have := List.findIdx_lt_length_of_exists (xs := xs) (p := fun z => decide (z = x)) ⟨x, h, by simp⟩
  omega
theorem ix_get {α : Type} [DecidableEq α] [Inhabited α] {xs : List α} {x : α} (h : x ∈ xs) : nth xs (ix xs x) = x := by
  obtain ⟨h0, h1⟩ := ix_lt h
  rw [nth_get h0 h1]
  have := List.findIdx_getElem (xs := xs) (p := fun z => decide (z = x)) (w := List.findIdx_lt_length_of_exists ⟨x, h, by simp⟩)
  unfold ix
  simpa using this
theorem idx_in {α : Type} [DecidableEq α] {f : α → D} {n : Nat} [E : Enc f n] {xs : List α} {x : α} (h : x ∈ xs) (hn : n ≤ 60 := by decide) : idxL (.list (mL f xs)) (f x) = some (.int (ix xs x)) := by
  rw [idxL_m x hn]
  have : xs.findIdx? (fun z => decide (z = x)) = some (xs.findIdx fun z => decide (z = x)) := by
    rw [List.findIdx?_eq_some_iff_getElem]
    have hl := List.findIdx_lt_length_of_exists (xs := xs) (p := fun z => decide (z = x)) ⟨x, h, by simp⟩
    refine ⟨hl, List.findIdx_getElem (w := hl), fun j hj => ?_⟩
    have := List.not_of_lt_findIdx hj
    simpa using this
  rw [this]
  rfl
def unpR (o : Option En) (h : List D) : Rs := match o with | some e1 => .nx e1 h | none => .no
theorem unpS_r {g : D → En → Option En} {f : FE} {e : En} {h : List D} : unpS g f e h = (f e h).bindS fun d h1 => unpR (g d e) h1 := rfl
theorem unpR_s {e : En} {h : List D} : unpR (some e) h = .nx e h := rfl
theorem gT3 {i j k : Nat} {a b c : D} {e : En} : gT (gsC (gN i) (gsC (gN j) (gsC (gN k) gsN))) (.tuple [a, b, c]) e = some (((e.set i (some a)).set j (some b)).set k (some c)) := rfl
/-- draws, item by item -/
theorem mapR_draw2 {α β : Type} {f : β → D} {P : List D → Prop} {R : α → β → Prop} {k : α → List D → Res (Option D)} : ∀ (xs : List α) (h : List D), (∀ x, x ∈ xs → ∀ h, P h → ∃ y h', k x h = .ok (some (f y)) h' ∧ P h' ∧ R x y) → P h → ∃ ys h', mapR xs k h = .ok (mL f ys) h' ∧ P h' ∧ ys.length = xs.length ∧ ∀ (i : Nat) (h1 : i < xs.length) (h2 : i < ys.length), R xs[i] ys[i]
  | [], h, _, hp => ⟨[], h, rfl, hp, rfl, fun i h1 => by cases h1⟩
  | x :: xs, h, H, hp => by
    obtain ⟨y, h1, e1, p1, q1⟩ := H x List.mem_cons_self h hp
    obtain ⟨ys, h2, e2, p2, l2, q2⟩ := mapR_draw2 xs h1 (fun z hz => H z (List.mem_cons_of_mem _ hz)) p1
    refine ⟨y :: ys, h2, ?_, p2, by simp [l2], fun i k1 k2 => ?_⟩
    · unfold mapR
      rw [e1]
      show Res.bind (mapR xs k h1) _ = _
      rw [e2]
      rfl
    · cases i with
      | zero => exact q1
      | succ i => exact q2 i (by simpa using k1) (by simpa using k2)
end Sm


set_option maxRecDepth 100000
set_option maxHeartbeats 4000000
/-! Sim layer, part AA: raise C(x) where C has its own __init__ that keeps x. -/
namespace Sm
open PySem PySem.Spec PyProof.Rows L2
def raiA (c f : Str) (fe : FE) : FS := fun e h => (fe e h).bindS fun d h1 => match d with | .int i => .ex ⟨c, some (f, .int i)⟩ h1 | _ => .no
/-- self.f = y, of an exception that is being made -/
def spI (C : Addr) (f : Str) : Sp := fun vs H Q _ => ∃ a y, vs = [.ref a, y] ∧ H a = some (exo a C none) ∧ ∀ dx, H dx = none → dx ≠ a → Q .non (upd (upd H dx (exd dx [(f, y)])) a (exo a C (some dx)))
theorem fnI {P : Program} {w : World} {K : PySem.W.Frag} {mg : Str → Option Value} {base : Heap} {x qual : Str} {st : Stmt} {f0 C : Addr} {fd : FuncData} {cdv : Value} {f n1 n2 : Str} {p1 p2 p3 p4 : Pos} (F : FunV K x qual st f0 fd cdv) (S : FnScope [n1, n2] [n1, n2] (defScope st))
    (hb : defBody st = [.Assign [.Attribute (.Name n1 p1) f p2] (.Name n2 p3) p4]) (h1 : (defScope st).names.lookup n1 = some .local) (h2 : (defScope st).names.lookup n2 = some .local) (g1 : (n1 == ("__debug__" : Str)) = false) (g2 : (n2 == ("__debug__" : Str)) = false) (g3 : (n1 == ("__classdict__" : Str)) = false) (g4 : (n2 == ("__classdict__" : Str)) = false)
    (T : OexC K C) (hno : PySem.W.findIn K (.ref C) f = some none) (hs : ∀ env : Env, swapsWith (.Name n2 p3) (some (.Attribute (.Name n1 p1) f p2)) p4.line env = pure false) : FnOk P w K mg base (L2.CX P w) 1 f0 fd [n1, n2] (spI C f) := by
  refine F.okX S (fun vs H Q E h => by obtain ⟨a, y, rfl, _⟩ := h; rfl) (fun A outer s H vs Q E hr h => ?_)
  rw [hb]
  refine ⟨_, pss_one (ps_ost (pv 0 rfl (.inl h1) g1 g3) (pv 1 rfl (.inl h2) g2 g4) (hs _)), ?_⟩
  obtain ⟨a, y, rfl, ha, hq⟩ := h
  exact ⟨y, rfl, .ref a, rfl, a, C, rfl, T, hno, .inl ⟨ha, hq⟩⟩
section
variable {X : Cx} {hs : HS} {ω ω' ωl : List Nat} {E : XK} {e : Expr} {fe : FE} {pos : Pos}
theorem ds_raiseA {C fI : Addr} {x f : Str} {p pos' : Pos} {fd : FuncData} {ps : List Str} {k : Nat} (hc : X.calm = true) (tk : Takes X (fun cls d _ H => E cls d H)) (gC : X.mg x = some (.ref C)) (T : OexC X.K C) (iC : PySem.W.findIn X.K (.ref C) "__init__" = some (some (.ref fI))) (tI : PySem.W.typeIn X.K (.ref fI) = some (.type "function"))
    (F1 : FnOk X.prog X.w X.K X.mg X.base (L2.CX X.prog X.w) 1 fI fd ps (spI C f)) (hr : Room (k + 2) X.A) (hb : Binds X.K fd ps []) (hx : Passes (L2.CX X.prog X.w) X (fun _ _ _ => False)) (hg : Gl X x) (h1 : DE X hs ω E e fe)
    (hdb : (x == ("__debug__" : Str)) = false := by decide) (he : starEach [e] X.env = [(false, eval e X.env)] := by rfl) : DS X hs ω ω' ωl E (.Raise (some (.Call (.Name x p) [e] [] pos')) none pos) (raiA x f fe) :=
  ps_imp (ps_raise hc tk (pmk_oex (k := 1) (dvs := []) T iC tI F1 (hr.mono (by omega)) hb .nil hx hg gC (pa_cons h1 pa_nil he) hdb he)) fun Dn σ H hq => by
  obtain ⟨R, O, ha, en, h, rel, hp⟩ := hq
  refine ⟨R, O, ha, en, h, rel, ?_⟩
  unfold raiA at hp
  refine ps_bind hp fun d h1 H1 O1 s1 rel1 hp1 v dv => ?_
  cases d with
  | int i =>
    obtain rfl := dd_int dv
    refine ⟨by show 1 ≤ 1000; decide, fun a hn => ⟨a, .int i, rfl, upd_same, fun dx hdx hne => ⟨rfl, dx, [(f, .int i)], upd_same, by rw [upd_ne hne, upd_same], by rw [upd_ne hne] at hdx; exact hdx, ?_⟩⟩⟩
    rw [upd_ne hne] at hdx
    have e1 : upd (del (upd (upd (upd H1 a (exo a C none)) dx (exd dx [(f, .int i)])) a (exo a C (some dx))) a) dx (.xd [(f, .int i)]) = upd H1 dx (.xd [(f, .int i)]) := by
      funext b
      by_cases hbd : b = dx
      · rw [hbd, upd_same, upd_same]
      · rw [upd_ne hbd, upd_ne hbd]
        by_cases hba : b = a
        · rw [hba, del_same, hn]
        · rw [del_ne hba, upd_ne hba, upd_ne hbd, upd_ne hba]
    rw [e1]
    have gr : Grow H1 (upd H1 dx (.xd [(f, .int i)])) := Grow.new hdx
    exact hp1 (.ref C) (some dx) _ O1 (rel1.step gr) (rel1.grow gr).g ⟨⟨C, gC, rfl⟩, dx, .int i, rfl, upd_same, fun K G => .int i⟩
  | _ => exact hp1.elim
end
theorem raiA_e {x f : Str} {fe : FE} {e : En} {h : List D} : raiA x f fe e h = (fe e h).bindS fun d h1 => match d with | .int i => .ex ⟨x, some (f, .int i)⟩ h1 | _ => .no := rfl
theorem psF {P : Program} {w : World} {K : PySem.W.Frag} {mg : Str → Option Value} {base : Heap} {N : List Str} {q : Str} {sc : Scope} {f : Addr} {cd : Value} {A : Around} {outer : List Env} {s : Shared} {H : Hp} {E : XK} :
    Passes (L2.CX P w) (cxOf (L2.CX P w) P w K mg base N q sc f cd A outer s H E) (fun _ _ _ => False) := passes_call (takes_of rfl rfl rfl rfl) (fun _ _ _ _ h => h.elim)
def clsBody : Stmt → List Stmt
  | .ClassDef _ _ _ body _ _ _ _ _ _ _ => body
  | _ => []
/-- a class with its own __init__, as the written part shows it -/
def oexB (K : PySem.W.Frag) (C : Addr) : Bool := match K.lookup C with
  | some ⟨.type "type", _, .cls cd, sl⟩ => (match cd.mro, sl.toList with
    | .ref C' :: bm, [_, _, _, _, some (.builtin n), _] => C' == C && n == "ValueError.__new__" && !cd.hasDel && cd.hasDict && PySem.HandSPX.refsVE bm
    | _, _ => false)
  | _ => false
theorem oex_of {K : PySem.W.Frag} {C : Addr} (q : oexB K C = true) (sa : PySem.W.findIn K (.ref C) "__setattr__" = some (some (.builtin "object.__setattr__"))) (e : PySem.W.subIn K (.ref C) (.type "BaseException") = some true) (y : PySem.W.typeIn K (.ref C) = some (.type "type")) (k : PySem.W.keepIn K (.ref C) = true) : OexC K C := by
  refine ⟨?_, sa, e, y, k⟩
  unfold oexB at q
  split at q
  · rename_i dd cd sl ho
    split at q
    · rename_i C' bm k0 k1 k2 k3 n k5 hm hs
      simp only [Bool.and_eq_true, beq_iff_eq, Bool.not_eq_true'] at q
      obtain ⟨⟨⟨⟨rfl, rfl⟩, hdel⟩, hdict⟩, ht⟩ := q
      obtain ⟨nm, bs, mro, ns, qn, hd, sn, sub, ab, col, del⟩ := cd
      dsimp only at hm hdel hdict
      subst hm hdel hdict
      have hsl : sl = #[k0, k1, k2, k3, some (.builtin "ValueError.__new__"), k5] := by
        obtain ⟨l⟩ := sl
        simp only at hs
        rw [hs]
      subst hsl
      exact ⟨nm, qn, ns, bs, bm, sn, sub, ab, col, dd, k0, k1, k2, k3, k5, ho, ht⟩
    · cases q
  · cases q
end Sm


set_option maxRecDepth 100000
set_option maxHeartbeats 4000000
/-! Sim layer, part AB: a suite that asks what the caught error is: isinstance(e, C) in lists, tests; errors with or without a field. -/
namespace Sm
open PySem PySem.Spec PyProof.Rows L2
/-- the error's dict, where it has one -/
def HasD (d : Option Addr) (H : Hp) : Prop := match d with | none => True | some dd => ∃ fs, H dd = some (.xd fs)
theorem HasD.xn {d : Option Addr} {H H' : Hp} (h : HasD d H) (x : XN H H') : HasD d H' := by
  cases d with
  | none => trivial
  | some dd => obtain ⟨fs, e⟩ := h; exact ⟨fs, x _ _ e (fun _ z => by cases z)⟩
def rIs2 (K : PySem.W.Frag) (D a : Addr) (d : Option Addr) : List V → Hp → VK → Prop := fun xs H Q => HasD d H ∧ rIsE K D a xs H Q
theorem call_is2 {X : Cx} {a D : Addr} {d : Option Addr} {oe : Obj} {pn : List (Addr × Obj)} (C : ExcC X.K D) (hz : Zc (.ref D) d oe) (hf : ∃ vs, oe.data = .fields vs) : CallR (X.suite a ((a, oe) :: pn)) (.builtin "isinstance") (rIs2 X.K D a d) := by
  intro pins s σ H xs us Q I r h
  obtain ⟨hd, c, cv, b, rfl, hcv, e, q⟩ := h
  cases r with
  | cons rx rr =>
    cases rr with
    | cons rt rr =>
      cases rr
      cases rx
      have ec := hcv _ rt
      subst ec
      obtain ⟨hget, _⟩ := I.pin (a, oe) (List.mem_append.mpr (.inl List.mem_cons_self))
      obtain ⟨vs, hv⟩ := hf
      have J : ∃ od, PySem.W.InstAt s.heap a oe D od := by
        obtain ⟨oc, od, oda, osl⟩ := oe
        obtain ⟨h1, h2⟩ := hz
        dsimp only at h1 h2 hv
        subst h1 h2 hv
        cases od with
        | none => exact ⟨none, hget, rfl, rfl, trivial⟩
        | some dd =>
          obtain ⟨fs, hx⟩ := hd
          obtain ⟨mA, ⟨o, es, ep, ho, hr⟩, _⟩ := I.hok dd _ hx
          exact ⟨some o, hget, rfl, rfl, ho⟩
      obtain ⟨od, J⟩ := J
      obtain ⟨cdD, hcD, _⟩ := PySem.W.any_some C.hd
      exact PySem.W.kia_one (PySem.W.kitx_exc (by rw [hcD]; rfl) C.hg C.hk C.hs C.ha C.hn C.ht C.hm) I.kIn J e (fun z => nomatch z) fun tk => ⟨.bl b, H, I.kept (t' := tk) fun _ _ z => z, rfl, q⟩
section
variable {X : Cx} {a : Addr} {d : Option Addr} {oe : Obj} {pn : List (Addr × Obj)} {i j : Nat} {e c : Expr} {es : List Expr} {b : Bool} {bs cs : List Bool}
def tIsX (i : Nat) (a : Addr) (d : Option Addr) (b : Bool) : TE := fun σ H Q => σ[i]? = some (some (.ref a)) ∧ HasD d H ∧ Q (.bl b) H
def tBsX (i : Nat) (a : Addr) (d : Option Addr) (bs : List Bool) : TA := fun σ H Q => σ[i]? = some (some (.ref a)) ∧ HasD d H ∧ Q (bs.map V.bl) H
theorem pax_nil : PA X [] (tBsX i a d []) := pa_imp pa_nil fun σ H Q hq => hq.2.2
theorem pax_cons (h1 : PE X e (tIsX i a d b)) (h2 : PA X es (tBsX i a d bs)) (hst : starEach (e :: es) X.env = (false, eval e X.env) :: starEach es X.env := by rfl) : PA X (e :: es) (tBsX i a d (b :: bs)) :=
  pa_imp (pa_cons h1 h2 hst) fun σ H Q hq => ⟨hq.1, hq.2.1, hq.1, hq.2.1, hq.2.2⟩
theorem pe_isX {C : Addr} {y n : Str} {v : V} {cv : Value} {p p1 p2 pos : Pos} (T : ExcC X.K C) (hz : Zc (.ref C) d oe) (hf : ∃ vs, oe.data = .fields vs) (hN : X.N[i]? = some n) (hv : Vis X.env.scope n) (hg : Gl X "isinstance") (hm : X.mg "isinstance" = none)
    (hy : PE (X.suite a ((a, oe) :: pn)) (.Name y p2) (tC v)) (hcv : ∀ u, RelV v u → u = cv) (hk : PySem.W.kitOne X.K (.ref C) cv = some b) (hd : (n == ("__debug__" : Str)) = false := by decide) (hcd : (n == ("__classdict__" : Str)) = false := by decide)
    (he : starEach [.Name n p1, .Name y p2] X.env = (false, eval (.Name n p1) X.env) :: starEach [.Name y p2] X.env := by rfl) (he2 : starEach [.Name y p2] X.env = (false, eval (.Name y p2) X.env) :: starEach [] X.env := by rfl) (hpl : (backTo pos (starEach [.Name y p2] X.env)).any (·.1) = false := by rfl) :
    PE (X.suite a ((a, oe) :: pn)) (.Call (.Name "isinstance" p) [.Name n p1, .Name y p2] [] pos) (tIsX i a d b) :=
  pe_imp (pe_callB (X := X.suite a ((a, oe) :: pn)) (id := "isinstance") (call_is2 T hz hf) hg hm boot_isinstance (pa_cons (pe_var (X := X.suite a ((a, oe) :: pn)) (i := i) hN hv hd hcd) (pa_cons hy pa_nil he2) he) (by decide) (by decide) he hpl) fun σ H Q hq =>
    ⟨.ref a, hq.1, hq.2.1, v, cv, b, rfl, hcv, hk, hq.2.2⟩
/-- flags = [..]; flags = flags + [..]; flags.extend([..]); flags.append(..) -/
def tFlX (i j : Nat) (a : Addr) (d : Option Addr) (bs : List Bool) : TS := fun D σ H => σ[i]? = some (some (.ref a)) ∧ HasD d H ∧ ∀ p, H p = none → D.nx (σ.set j (some (.ref p))) (upd H p (.lst (bs.map V.bl)))
def tFlX2 (i j : Nat) (a : Addr) (d : Option Addr) (bs cs : List Bool) : TS := fun D σ H => σ[i]? = some (some (.ref a)) ∧ HasD d H ∧ ∃ p, σ[j]? = some (some (.ref p)) ∧ H p = some (.lst (bs.map V.bl)) ∧
  (∀ q H', (q = p ∨ H q = none) → (∀ b o, b ≠ p → H b = some o → H' b = some o) → H' q = some (.lst ((bs ++ cs).map V.bl)) → D.nx (σ.set j (some (.ref q))) H')
variable {tg call : Expr} {pos p1 p2 p3 : Pos} {x : Str}
theorem psx_fl (hps : ∀ te, PE X (.List es p1) te → PS X (.Assign [tg] (.List es p1) pos) (tAsg te (gName j))) (h : PA X es (tBsX i a d bs)) (hl : bs.length ≤ 1000 := by exact Nat.le_of_ble_eq_true rfl) : PS X (.Assign [tg] (.List es p1) pos) (tFlX i j a d bs) := ps_imp (hps _ (pe_lst h)) fun D σ H hq =>
  ⟨hq.1, hq.2.1, by rw [List.length_map]; exact small_len hl, fun p hp => hq.2.2 p hp⟩
theorem psx_fl2 (hps : ∀ te, PE X (.BinOp (.Name x p3) .Add (.List es p1) p2) te → PS X (.Assign [tg] (.BinOp (.Name x p3) .Add (.List es p1) p2) pos) (tAsg te (gName j))) (hx : PE X (.Name x p3) (tVar j)) (h : PA X es (tBsX i a d cs)) (hl : bs.length + cs.length ≤ 1000 := by exact Nat.le_of_ble_eq_true rfl) :
    PS X (.Assign [tg] (.BinOp (.Name x p3) .Add (.List es p1) p2) pos) (tFlX2 i j a d bs cs) := ps_imp (hps _ (pe_op op_cat hx (pe_lst h))) fun D σ H hq => by
  obtain ⟨h1, hd, p, h2, h3, h4⟩ := hq
  refine ⟨.ref p, h2, h1, hd, by rw [List.length_map]; exact small_len (Nat.le_trans (Nat.le_add_left _ _) hl), fun q hq => ?_⟩
  have ne : p ≠ q := ne_of_none h3 hq
  refine ⟨p, q, _, _, rfl, rfl, by rw [upd_ne ne]; exact h3, upd_same, by rw [List.length_map, List.length_map]; exact small_len hl, fun r hr => ?_⟩
  have g1 : Grow H (upd H q (.lst (cs.map V.bl))) := Grow.new hq
  have hr' : H r = none := by
    by_cases z : r = q
    · rw [z]; exact hq
    · rw [upd_ne z] at hr; exact hr
  refine h4 r _ (.inr hr') (fun b o _ e => (Grow.new hr) b o (g1 b o e)) (by rw [upd_same, List.map_append])
theorem set_back {σ : L2.St} {j : Nat} {v : Option V} (h : σ[j]? = some v) : σ.set j v = σ := by
  obtain ⟨h1, h2⟩ := List.getElem?_eq_some_iff.mp h
  refine List.ext_getElem? fun k => ?_
  by_cases hk : j = k
  · subst hk
    rw [List.getElem?_set_self h1, h]
  · rw [List.getElem?_set_ne hk]
theorem psx_ext (hpe : ∀ t, PE X (.List es p1) t → PE X call (tBM X.K "list" rExtend (tVar j) (tCons t tNil))) (h : PA X es (tBsX i a d cs)) (hl : bs.length + cs.length ≤ 1000 := by exact Nat.le_of_ble_eq_true rfl) (hsw : swapsWith call none pos.line X.env = pure false := by rfl) :
    PS X (.Expr call pos) (tFlX2 i j a d bs cs) := ps_imp (ps_expr (hpe _ (pe_lst h)) hsw) fun D σ H hq => by
  obtain ⟨h1, hd, p, h2, h3, h4⟩ := hq
  refine ⟨.ref p, h2, .inl ⟨rfl, _, .inl (.inl h3)⟩, h1, hd, by rw [List.length_map]; exact small_len (Nat.le_trans (Nat.le_add_left _ _) hl), fun q hq => ?_⟩
  have ne : p ≠ q := ne_of_none h3 hq
  refine ⟨p, q, _, _, rfl, rfl, by rw [upd_ne ne]; exact h3, upd_same, by rw [List.length_map, List.length_map]; exact small_len hl, ?_⟩
  have := h4 p (upd (upd H q (.lst (cs.map V.bl))) p (.lst (bs.map V.bl ++ cs.map V.bl))) (.inl rfl) (fun b o hb e => by rw [upd_ne hb]; exact (Grow.new hq) b o e) (by rw [upd_same, List.map_append])
  rw [set_back h2] at this
  exact this
theorem psx_app (hpe : ∀ t, PE X e t → PE X call (tBM X.K "list" rAppend (tVar j) (tCons t tNil))) (h : PE X e (tIsX i a d b)) (hl : bs.length ≤ 1000 := by exact Nat.le_of_ble_eq_true rfl) (hsw : swapsWith call none pos.line X.env = pure false := by rfl) :
    PS X (.Expr call pos) (tFlX2 i j a d bs [b]) := ps_imp (ps_expr (hpe _ h) hsw) fun D σ H hq => by
  obtain ⟨h1, hd, p, h2, h3, h4⟩ := hq
  refine ⟨.ref p, h2, .inl ⟨rfl, _, .inl (.inl h3)⟩, h1, hd, p, _, _, rfl, rfl, h3, by rw [List.length_map]; exact Nat.lt_of_le_of_lt hl (by rw [sizeLine_eq]; decide), ?_⟩
  have := h4 p (upd H p (.lst (bs.map V.bl ++ [V.bl b]))) (.inl rfl) (fun b o hb e => by rw [upd_ne hb]; exact e) (by rw [upd_same, List.map_append]; rfl)
  rw [set_back h2] at this
  exact this
end
/-! ### what stands behind the flags: data, and what the error is -/
section
variable (K : PySem.W.Frag) (mg : Str → Option Value) (hs : HS) (ω : List Nat) (E : XK) (i : Nat) (a : Addr) (d : Option Addr)
def teX (f : FE) : TE := fun σ H Q => σ[i]? = some (some (.ref a)) ∧ ∃ R O ha e h, HasD d (Cut O H) ∧ Rel K R O ha hs ω σ H e h ∧ PR K mg R ha hs ω E σ O H e (f e h) (KE' K Q)
def ttX (f : FB) : TT := fun σ H Q => σ[i]? = some (some (.ref a)) ∧ ∃ R O ha e h, HasD d (Cut O H) ∧ Rel K R O ha hs ω σ H e h ∧ PR K mg R ha hs ω E σ O H e (f e h) (KB' Q)
def tsX (ω' ωl : List Nat) (f : FS) : TS := fun Dn σ H => σ[i]? = some (some (.ref a)) ∧ ∃ R O ha e h, HasD d (Cut O H) ∧ Rel K R O ha hs ω σ H e h ∧ PS' K mg R ha hs ω' ωl E O H (f e h) Dn
end
theorem HasD.out {d : Option Addr} {O : Addr → Prop} {H : Hp} (h : HasD d (Cut O H)) : HasD d H := by
  cases d with
  | none => trivial
  | some dd => obtain ⟨fs, e⟩ := h; exact ⟨fs, (cut_some e).2⟩
section
variable {X : Cx} {hs : HS} {ω ω1 ω' ωl : List Nat} {E : XK} {i j : Nat} {a : Addr} {d : Option Addr} {e c x y tg : Expr} {fe fa fb : FE} {gc ga gb : FB} {f g k : FS} {b : Bool} {pos : Pos} {s1 s2 rest : List Stmt}
theorem xe_of (h : DE X hs ω E e fe) : PE X e (teX X.K X.mg hs ω E i a d fe) := pe_imp h fun σ H Q ⟨_, R, O, ha, en, h, _, rel, hp⟩ => ⟨R, O, ha, en, h, rel, hp⟩
theorem xt_of (h : DT X hs ω E e gc) : PT X e (ttX X.K X.mg hs ω E i a d gc) := pt_imp h fun σ H Q ⟨_, R, O, ha, en, h, _, rel, hp⟩ => ⟨R, O, ha, en, h, rel, hp⟩
theorem xt_is (h : PE X e (tIsX i a d b)) (he : ∀ whole, isTrue e X.env whole = (do let v ← whole; standAt e.pos; holding [v] (truthy v)) := by intro _; rfl) : PT X e (ttX X.K X.mg hs ω E i a d fun _ h => .ok b h) := pt_imp (pt_truth h he) fun σ H Q ⟨h1, R, O, ha, en, h, hd, rel, hp⟩ =>
  ⟨h1, hd.out, b, rfl, pr_ok (Ka := KB' Q) hp rel⟩
theorem xt_and (h1 : PT X x (ttX X.K X.mg hs ω E i a d ga)) (h2 : PT X y (ttX X.K X.mg hs ω E i a d gb)) : PT X (.BoolOp .And [x, y] pos) (ttX X.K X.mg hs ω E i a d (andB ga gb)) := pt_imp (pw_and h1 (pw_and1 h2)).pt fun σ H Q ⟨q1, R, O, ha, en, h, hd, rel, hp⟩ => by
  refine ⟨q1, R, O, ha, en, h, hd, rel, pr_bind hp fun k h1 H1 O1 s1 rel1 hp1 => ?_⟩
  cases k with
  | true => exact ⟨q1, R, O1, ha, en, h1, hd.xn s1.ex, rel1, hp1⟩
  | false => exact pr_ok (Ka := KB' Q) hp1 rel1
theorem xe_if (h0 : PT X c (ttX X.K X.mg hs ω E i a d gc)) (h1 : DE X hs ω E x fa) (h2 : DE X hs ω E y fb) : PE X (.IfExp c x y pos) (teX X.K X.mg hs ω E i a d (ifM gc fa fb)) := pe_imp (pe_ifExp h0 h1 h2) fun σ H Q ⟨q1, R, O, ha, en, h, hd, rel, hp⟩ => by
  refine ⟨q1, R, O, ha, en, h, hd, rel, pr_bind hp fun k h1 H1 O1 s1 rel1 hp1 => ?_⟩
  cases k with
  | true => exact ⟨R, O1, ha, en, h1, rel1, hp1⟩
  | false => exact ⟨R, O1, ha, en, h1, rel1, hp1⟩
theorem xs_of (h : DSs X hs ω ω' ωl E rest f) : PSs X rest (tsX X.K X.mg hs ω E i a d ω' ωl f) := pss_imp h fun σ H Q ⟨_, R, O, ha, en, h, _, rel, hp⟩ => ⟨R, O, ha, en, h, rel, hp⟩
theorem seq_asg {e : En} {h : List D} : seqS (asgS j fe) f e h = (fe e h).bindS fun d h1 => f (e.set j (some d)) h1 := by
  show (match (fe e h).bindS fun d h1 => .nx (e.set j (some d)) h1 with | .nx e1 h1 => f e1 h1 | r => r) = _
  cases fe e h <;> rfl
theorem xs_asg (hps : ∀ te, PE X e te → PS X (.Assign [tg] e pos) (tAsg te (gName j))) (h1 : PE X e (teX X.K X.mg hs ω E i a d fe)) (hr : PSs X rest (tsX X.K X.mg hs ω1 E i a d ω' ωl f)) (hω : ω1 = ω.filter (· != j) := by rfl) (hh : hs.ix ≠ some j := by exact of_decide_eq_true rfl) (hij : j ≠ i := by decide) :
    PSs X (.Assign [tg] e pos :: rest) (tsX X.K X.mg hs ω E i a d ω' ωl (seqS (asgS j fe) f)) := pss_imp (pss_cons (hps _ h1) hr) fun D σ H ⟨q1, R, O, ha, en, h, hd, rel, hp⟩ => by
  rw [seq_asg] at hp
  exact ⟨q1, R, O, ha, en, h, hd, rel, ps_bind hp fun d0 h1 H1 O1 s1 rel1 hp1 v dv => ⟨by rw [List.getElem?_set_ne hij]; exact q1, R, O1, ha, _, h1, hd.xn s1.ex, rel1.set dv hω hh, hp1⟩⟩
theorem xs_asg1 (hps : ∀ te, PE X e te → PS X (.Assign [tg] e pos) (tAsg te (gName j))) (h1 : PE X e (teX X.K X.mg hs ω E i a d fe)) (hω : ω' = ω.filter (· != j) := by rfl) (hh : hs.ix ≠ some j := by exact of_decide_eq_true rfl) :
    PSs X [.Assign [tg] e pos] (tsX X.K X.mg hs ω E i a d ω' ωl (asgS j fe)) := pss_imp (pss_one (hps _ h1)) fun D σ H ⟨q1, R, O, ha, en, h, hd, rel, hp⟩ =>
  ⟨q1, R, O, ha, en, h, hd, rel, ps_bind hp fun d0 h1 H1 O1 s1 rel1 hp1 v dv => ps_nx hp1 (rel1.set dv hω hh)⟩
theorem xs_if (h0 : PT X c (ttX X.K X.mg hs ω E i a d gc)) (h1 : DSs X hs ω ω' ωl E s1 f) (h2 : DSs X hs ω ω' ωl E s2 g) : PSs X [.If c s1 s2 pos] (tsX X.K X.mg hs ω E i a d ω' ωl (ifS gc f g)) := pss_imp (pss_one (ps_if h0 h1 h2)) fun D σ H ⟨q1, R, O, ha, en, h, hd, rel, hp⟩ => by
  refine ⟨q1, R, O, ha, en, h, hd, rel, ps_bind hp fun k h1 H1 O1 s1 rel1 hp1 => ?_⟩
  cases k with
  | true => exact ⟨R, O1, ha, en, h1, rel1, hp1⟩
  | false => exact ⟨R, O1, ha, en, h1, rel1, hp1⟩
theorem xs_if2 (h0 : PT X c (ttX X.K X.mg hs ω E i a d gc)) (h1 : DSs X hs ω ω1 ωl E s1 f) (h2 : DSs X hs ω ω1 ωl E s2 g) (hr : DSs X hs ω1 ω' ωl E rest k) : PSs X (.If c s1 s2 pos :: rest) (tsX X.K X.mg hs ω E i a d ω' ωl (seqS (ifS gc f g) k)) := pss_imp (pss_cons (ps_if h0 h1 h2) hr) fun Dn σ H ⟨q1, R, O, ha, en, h, hd, rel, hp⟩ => by
  refine ⟨q1, R, O, ha, en, h, hd, rel, ?_⟩
  have e1 : seqS (ifS gc f g) k en h = (gc en h).bindS fun b h1 => seqS (if b = true then f else g) k en h1 := by
    show (match (gc en h).bindS fun b h1 => if b = true then f en h1 else g en h1 with | .nx e1 h1 => k e1 h1 | r => r) = _
    cases gc en h with
    | ok b h1 => cases b <;> rfl
    | ex x h1 => rfl
    | no => rfl
  rw [e1] at hp
  have done : ∀ (f : FS) {h1 : List D} {H1 : Hp} {O1 : Addr → Prop}, Rel X.K R O1 ha hs ω σ H1 en h1 → PS' X.K X.mg R ha hs ω' ωl E O1 H1 (seqS f k en h1) Dn → tsD X.K X.mg hs ω ω1 ωl E f { Dn with nx := tsD X.K X.mg hs ω1 ω' ωl E k Dn } σ H1 := by
    intro f h1 H1 O1 rel1 hp1
    refine ⟨R, O1, ha, en, h1, rel1, ?_⟩
    unfold seqS at hp1
    cases hr : f en h1 with
    | nx e2 h2 =>
      rw [hr] at hp1
      exact fun σ' H' O' s rel' => ⟨R, O', ha, e2, h2, rel', ps_step hp1 s⟩
    | rt d2 h2 => rw [hr] at hp1; exact hp1
    | bk e2 h2 => rw [hr] at hp1; exact hp1
    | ct e2 h2 => rw [hr] at hp1; exact hp1
    | ex c2 h2 => rw [hr] at hp1; exact hp1
    | no => rw [hr] at hp1; exact hp1
  refine ps_bind hp fun b h1 H1 O1 s1 rel1 hp1 => ?_
  cases b with
  | true => exact done f rel1 hp1
  | false => exact done g rel1 hp1
end
/-! ### the suite -/
/-- the wish: the word at the end (m: in slot 1, with the next statement; else returned) -/
def endX (m : Bool) (T : List (Addr × Str)) (w : Str) (D : Ends) (H : Hp) : Prop := match m with
  | true => ∀ σ' H', XT T H H' → σ'[1]? = some (some (.str w)) → D.nx σ' H'
  | false => ∀ H', XT T H H' → D.rt (.str w) H'
def tSuX (m : Bool) (i : Nat) (a : Addr) (d : Option Addr) (T : List (Addr × Str)) (n : Nat) (w : Str) : TS := fun D σ H => σ[i]? = some (some (.ref a)) ∧ HasD d H ∧ σ.length = n ∧ LamX.Tabs T H ∧ endX m T w D H
def flJ (n j : Nat) (bs : List Bool) : En := (List.replicate n none).set j (some (.list (bs.map PyData.bool)))
theorem flJ_rel {K : PySem.W.Frag} {n j : Nat} {bs : List Bool} {σ : L2.St} {H : Hp} {q : Addr} {T : List (Addr × Str)} (hT : LamX.Tabs T H) (hl : σ.length = n) (h3 : σ[j]? = some (some (.ref q))) (hq : H q = some (.lst (bs.map V.bl))) : Rel K (fun _ => False) (fun _ => False) none (noHand T) [] σ H (flJ n j bs) [] where
  g := ⟨fun _ z => z, fun _ z => z.elim, fun _ z => by cases z⟩
  val := fun k d h1 h2 h4 => by
    by_cases hi : j = k
    · subst hi
      have hn : j < n := by
        have := (List.getElem?_eq_some_iff.mp h3).1
        omega
      unfold flJ at h4
      rw [List.getElem?_set_self (by rw [List.length_replicate]; exact hn)] at h4
      cases h4
      exact ⟨_, h3, .lst (by rw [cut_out (fun z => z)]; exact hq) (dds_bl bs)⟩
    · unfold flJ at h4
      rw [List.getElem?_set_ne hi, List.getElem?_replicate] at h4
      split at h4 <;> cases h4
  own := fun _ z => by cases z
  inj := fun _ z => by cases z
  hand := fun _ z => by cases z
  len := by unfold flJ; rw [List.length_set, List.length_replicate, hl]
  tb := hT
def tellsX (m : Bool) (n j : Nat) (bs : List Bool) (gr : FS) (w : Str) : Prop := match m with
  | true => ∃ e', gr (flJ n j bs) [] = .nx e' [] ∧ slot e' 1 = some (.str w)
  | false => gr (flJ n j bs) [] = .rt (.str w) []
abbrev PSx (X : Cx) (i : Nat) (a : Addr) (d : Option Addr) (T : List (Addr × Str)) (rest : List Stmt) (gr : FS) (ω' : List Nat) : Prop := PSs X rest (tsX X.K X.mg (noHand T) [] (fun _ _ _ => False) i a d ω' [] gr)
theorem suX_rest {K : PySem.W.Frag} {mg : Str → Option Value} {m : Bool} {i n j : Nat} {a : Addr} {d : Option Addr} {bs : List Bool} {σ : L2.St} {H H' : Hp} {q : Addr} {gr : FS} {w : Str} {D : Ends} {ω' : List Nat} {T : List (Addr × Str)} (hT : LamX.Tabs T H) (hw : tellsX m n j bs gr w) (h1 : 1 ∉ ω') (hi : σ[i]? = some (some (.ref a))) (hd0 : HasD d H') (hl : σ.length = n) (h3 : σ[j]? = some (some (.ref q)))
    (hq : H' q = some (.lst (bs.map V.bl))) (gw : Grow H H') (hd : endX m T w D H) : tsX K mg (noHand T) [] (fun _ _ _ => False) i a d ω' [] gr D σ H' := by
  refine ⟨hi, fun _ => False, fun _ => False, none, flJ n j bs, [], ?_, flJ_rel (hT.ext gw) hl h3 hq, ?_⟩
  · cases d with
    | none => trivial
    | some dd => obtain ⟨fs, e⟩ := hd0; exact ⟨fs, by rw [cut_out (fun z => z)]; exact e⟩
  have xt : ∀ {O' : Addr → Prop} {H'' : Hp}, Step T (fun _ => False) none (fun _ => False) H' O' H'' → XT T H H'' := fun {O' H''} s => gw.xt.trans ⟨fun a o h k => by
    have := s.ex a o (by rw [cut_out (fun z => z)]; exact h) k
    exact (cut_some this).2, s.tabs⟩
  cases m with
  | true =>
    obtain ⟨e', e1, e2⟩ := hw
    rw [e1]
    intro σ' H'' O' s rel
    obtain ⟨v, e3, e4⟩ := rel.val 1 _ h1 (fun z => by cases z) (slot_some e2)
    obtain rfl := dd_str e4
    exact hd σ' H'' (xt s) e3
  | false =>
    have e1 : gr (flJ n j bs) [] = .rt (.str w) [] := hw
    rw [e1]
    intro v H'' O' s rel dv
    obtain rfl := dd_str dv
    exact hd H'' (xt s)
section
variable {X : Cx} {a : Addr} {dd : Option Addr} {m : Bool} {i j : Nat} {bs cs ds : List Bool} {ω' : List Nat} {gr : FS} {w : Str} {n : Nat} {s1 s2 s3 : Stmt} {rest : List Stmt} {T : List (Addr × Str)}
theorem HasD.lst {d : Option Addr} {H H' : Hp} {p : Addr} {xs : List V} (h : HasD d H) (hp : H p = some (.lst xs)) (k : ∀ b o, b ≠ p → H b = some o → H' b = some o) : HasD d H' := by
  cases d with
  | none => trivial
  | some dd =>
    obtain ⟨fs, e⟩ := h
    exact ⟨fs, k dd _ (fun z => by rw [z, hp] at e; cases e) e⟩
theorem suX_1 (h1 : PS X s1 (tFlX i j a dd bs)) (hr : PSx X i a dd T rest gr ω') (hw : tellsX m n j bs gr w) (h : 1 ∉ ω' := by decide) (hn : j < n := by decide) (hij : j ≠ i := by decide) : PSs X (s1 :: rest) (tSuX m i a dd T n w) :=
  pss_imp (pss_cons h1 hr) fun D σ H hq => by
  obtain ⟨q1, qd, q2, qT, q3⟩ := hq
  exact ⟨q1, qd, fun p hp => suX_rest qT hw h (by rw [List.getElem?_set_ne hij]; exact q1) (qd.xn (Grow.new hp).xn) (by rw [List.length_set]; exact q2) (List.getElem?_set_self (by rw [q2]; exact hn)) upd_same (Grow.new hp) q3⟩
theorem suX_2 (h1 : PS X s1 (tFlX i j a dd bs)) (h2 : PS X s2 (tFlX2 i j a dd bs cs)) (hr : PSx X i a dd T rest gr ω') (hw : tellsX m n j (bs ++ cs) gr w) (h : 1 ∉ ω' := by decide) (hn : j < n := by decide) (hij : j ≠ i := by decide) : PSs X (s1 :: s2 :: rest) (tSuX m i a dd T n w) :=
  pss_imp (pss_cons h1 (pss_cons h2 hr)) fun D σ H hq => by
  obtain ⟨q1, qd, q2, qT, q3⟩ := hq
  refine ⟨q1, qd, fun p hp => ?_⟩
  have hd1 := qd.xn (Grow.new (o := .lst (bs.map V.bl)) hp).xn
  refine ⟨by rw [List.getElem?_set_ne hij]; exact q1, hd1, p, List.getElem?_set_self (by rw [q2]; exact hn), upd_same, fun q H' hqp k e => ?_⟩
  have gw : Grow H H' := fun b o hb => k b o (fun z => by rw [z, hp] at hb; cases hb) ((Grow.new hp) b o hb)
  exact suX_rest qT hw h (by rw [List.getElem?_set_ne hij, List.getElem?_set_ne hij]; exact q1) (qd.xn gw.xn) (by rw [List.length_set, List.length_set]; exact q2) (List.getElem?_set_self (by rw [List.length_set, q2]; exact hn)) e gw q3
theorem suX_3 (h1 : PS X s1 (tFlX i j a dd bs)) (h2 : PS X s2 (tFlX2 i j a dd bs cs)) (h3 : PS X s3 (tFlX2 i j a dd (bs ++ cs) ds)) (hr : PSx X i a dd T rest gr ω') (hw : tellsX m n j ((bs ++ cs) ++ ds) gr w) (h : 1 ∉ ω' := by decide) (hn : j < n := by decide) (hij : j ≠ i := by decide) : PSs X (s1 :: s2 :: s3 :: rest) (tSuX m i a dd T n w) :=
  pss_imp (pss_cons h1 (pss_cons h2 (pss_cons h3 hr))) fun D σ H hq => by
  obtain ⟨q1, qd, q2, qT, q3⟩ := hq
  refine ⟨q1, qd, fun p hp => ?_⟩
  have hd1 := qd.xn (Grow.new (o := .lst (bs.map V.bl)) hp).xn
  refine ⟨by rw [List.getElem?_set_ne hij]; exact q1, hd1, p, List.getElem?_set_self (by rw [q2]; exact hn), upd_same, fun q H' hqp k e => ?_⟩
  have gw : Grow H H' := fun b o hb => k b o (fun z => by rw [z, hp] at hb; cases hb) ((Grow.new hp) b o hb)
  have hq0 : H q = none := by
    rcases hqp with z | z
    · rw [z]; exact hp
    · by_cases zp : q = p
      · rw [zp]; exact hp
      · rw [upd_ne zp] at z; exact z
  refine ⟨by rw [List.getElem?_set_ne hij, List.getElem?_set_ne hij]; exact q1, qd.xn gw.xn, q, List.getElem?_set_self (by rw [List.length_set, q2]; exact hn), e, fun q' H'' hqp' k' e' => ?_⟩
  have gw2 : Grow H H'' := fun b o hb => k' b o (fun z => by rw [z, hq0] at hb; cases hb) (gw b o hb)
  exact suX_rest qT hw h (by rw [List.getElem?_set_ne hij, List.getElem?_set_ne hij, List.getElem?_set_ne hij]; exact q1) (qd.xn gw2.xn) (by rw [List.length_set, List.length_set, List.length_set]; exact q2) (List.getElem?_set_self (by rw [List.length_set, List.length_set, q2]; exact hn)) e' gw2 q3
end
end Sm


set_option maxRecDepth 100000
set_option maxHeartbeats 4000000
/-! Sim layer, part AC: further words of what a lambda raises: one except clause. -/
namespace Sm
open PySem PySem.Spec PyProof.Rows L2
def wfX (tab : List (Str × Str)) (c : Ex) : Option D := (tab.lookup c.cls).map .str
structure WordG (K : PySem.W.Frag) (mg : Str → Option Value) (LN : Str) (LE : Addr) (tab : List (Str × Addr × Str)) : Prop where
  le : mg LN = some (.ref LE)
  each : ∀ p ∈ tab, mg p.1 = some (.ref p.2.1) ∧ PySem.W.exmOne K (.ref p.2.1) (.ref LE) = some true
theorem WordG.of {K : PySem.W.Frag} {mg : Str → Option Value} {LN : Str} {LE : Addr} {tab : List (Str × Addr × Str)} (F : WordG K mg LN LE tab) {c : Ex} {d : PyData} {cls : Value} {dd : Option Addr} {H : Hp} (e1 : wfX (wtab tab) c = some d) (x : ExR mg c cls dd H) : ∃ C w, (C, w) ∈ tab.map (·.2) ∧ cls = .ref C ∧ d = .str w ∧ HasD dd H ∧ PySem.W.exmOne K cls (.ref LE) = some true := by
  obtain ⟨⟨C, e2, e3⟩, e4⟩ := x
  unfold wfX at e1
  obtain ⟨w', z1, z2⟩ := map_some' e1
  obtain ⟨⟨cn, C', w2⟩, hmem, hp⟩ := List.mem_map.mp (lookup_mem' z1)
  obtain ⟨hp1, hp2⟩ := Prod.mk.inj hp
  dsimp only at hp1 hp2
  rw [hp1, hp2] at hmem
  obtain ⟨f1, f3⟩ := F.each _ hmem
  rw [e2] at f1
  cases f1
  refine ⟨C', w', List.mem_map.mpr ⟨_, hmem, rfl⟩, e3, z2.symm, ?_, by rw [e3]; exact f3⟩
  cases hfl : c.fld with
  | none => rw [hfl] at e4; rw [e4]; trivial
  | some p =>
    obtain ⟨fn, fd⟩ := p
    rw [hfl] at e4
    obtain ⟨ad, v, q1, q2, q3⟩ := e4
    rw [q1]
    exact ⟨_, q2⟩
section
variable {X : Cx} {Ng : List Str} {x n q LN w0 : Str} {sg : Scope} {g LE : Addr} {cdg : Value} {m j : Nat} {T : List (Addr × Str)} {tab : List (Str × Addr × Str)} {b0 : Stmt} {bs : List Stmt} {p1 p2 p3 p4 p5 p6 p9 p10 p11 p12 p13 : Pos}
/-- try: call() / except E as e: ..return / return "let" -/
theorem word_givesR (F : WordG X.K X.mg LN LE tab) (hN : Ng.Nodup) (hm : Ng.length = m + 1) (h0 : Ng[0]? = some ("call" : Str)) (h1 : Ng[1]? = some n) (l1 : sg.names.lookup n = some .local) (g2 : sg.names.lookup LN = some .globalImplicit)
    (hs2 : ∀ (s : Shared) (H : Hp) (a : Addr) (oe : Obj) (C : Addr) (d : Option Addr) (w : Str) (pn : List (Addr × Obj)), (C, w) ∈ tab.map (·.2) → Zc (.ref C) d oe → (∃ vs, oe.data = .fields vs) →
      PSs ((cxOf C8.CX0 X.prog X.w X.K X.mg X.base Ng x sg g cdg X.A X.stack s H C8.E0).nox.suite a ((a, oe) :: pn)) (b0 :: bs) (tSuX false 1 a d T (m + 1) w)) (hdl : (LN == ("__debug__" : Str)) = false := by decide) :
    LamX.GivesTo X Ng x sg g cdg [.Try [.Expr (.Call (.Name "call" p4) [] [] p5) p6] [.ExceptHandler (some (.Name LN p9)) (some n) (b0 :: bs) p10] [] [] p11, .Return (some (.Constant (.str "let") j p12)) p13]
      "call" q (TTw X.K X.mg T (wfX (wtab tab))) := by
  intro f c' s H Q tl act hc h
  let Y := (cxOf C8.CX0 X.prog X.w X.K X.mg X.base Ng x sg g cdg X.A X.stack s H C8.E0).nox
  let Ech : XK := fun cls dd H' => LamX.Tabs T H' ∧ ∃ c d, wfX (wtab tab) c = some d ∧ ExR X.mg c cls dd H' ∧ ∀ v H'', XT T H' H'' → DD X.K H'' v d → (∀ G, DD X.K G v d) → Q v H''
  have try_ := ps_try_named (X := Y) (n := n) (i := 1) (Wo := fun _ _ _ _ => False) (ps := p11) (bd := [.Expr (.Call (.Name "call" p4) [] [] p5) p6])
    (tb := fun W D σ H => ∃ Ech : XK, (∀ cls d σ' H', Ech cls d H' → W cls d σ' H') ∧ σ[0]? = some (some (.ref f)) ∧ H c' = some (LamX.CodeO c' q) ∧ tl Ech H (fun _ H' => D.nx σ H'))
    rfl rfl hN h1 l1 LamX.takes0 (fun W pn xe tk _ => ?_)
      (.cons (c := .ref LE) (t := fun a cls d => fun D σ H => ∃ C w, (C, w) ∈ tab.map (·.2) ∧ cls = .ref C ∧ tSuX false 1 a d T (m + 1) w D σ H) (x := LN) (b0 := b0) (bs := bs) (p1 := p9) (p2 := p10) ⟨g2, hdl, .inl F.le⟩ (fun a oe cls d pn hz hf => ⟨fun pins s' σ' H' D I hq => ?_⟩) .nil)
  · refine ⟨_, pss_cons try_ (pss_one (ps_ret (X := Y) pe_str)), ?_⟩
    have lst : (L2.start Ng [V.ref f]).length = m + 1 := by
      unfold L2.start
      rw [List.length_append, List.length_map, List.length_replicate, hm]
      show 1 + (m + 1 - 1) = m + 1
      omega
    refine ⟨Ech, fun cls d σ' H' hx hl => ?_, rfl, hc, h⟩
    obtain ⟨hT, c, dw, e1, ex, e5⟩ := hx
    have hl' : σ'.length = m + 1 := hl.trans hm
    have hm1 : 1 < m + 1 := by
      have := (List.getElem?_eq_some_iff.mp h1).1
      omega
    obtain ⟨C, w, f1, f2, f3, f4, f5⟩ := F.of e1 ex
    refine ⟨true, f5, fun _ a na => ⟨C, w, f1, f2, List.getElem?_set_self (by rw [hl']; exact hm1), f4, by rw [List.length_set]; exact hl', hT, fun H2 gr => ?_⟩, fun z => (by cases z)⟩
    subst f3
    exact e5 _ H2 gr (.str _) fun G => .str _
  · refine ⟨fun pins s' σ' H' D I h' => ?_⟩
    obtain ⟨Ech, hW, y1, y2, y3⟩ := h'
    exact (pss_one (ps_expr (pos := p6) (act W pn xe Ech p4 p5 tk hW) rfl)).run pins s' σ' H' D I ⟨y1, y2, y3⟩
  · obtain ⟨C, w, y1, rfl, y2⟩ := hq
    exact (hs2 s H a oe C d w pn y1 hz hf).run pins s' σ' H' D I y2
/-- w = "let" / try: call() / except E as e: .. / return w -/
theorem word_givesN (F : WordG X.K X.mg LN LE tab) (hN : Ng.Nodup) (hm : Ng.length = m + 1) (h0 : Ng[0]? = some ("call" : Str)) (h1 : Ng[1]? = some w0) (h2 : Ng[2]? = some n) (l1 : sg.names.lookup w0 = some .local) (l2 : sg.names.lookup n = some .local) (g2 : sg.names.lookup LN = some .globalImplicit)
    (hs2 : ∀ (s : Shared) (H : Hp) (a : Addr) (oe : Obj) (C : Addr) (d : Option Addr) (w : Str) (pn : List (Addr × Obj)), (C, w) ∈ tab.map (·.2) → Zc (.ref C) d oe → (∃ vs, oe.data = .fields vs) →
      PSs ((cxOf C8.CX0 X.prog X.w X.K X.mg X.base Ng x sg g cdg X.A X.stack s H C8.E0).nox.suite a ((a, oe) :: pn)) (b0 :: bs) (tSuX true 2 a d T (m + 1) w)) (hdl : (LN == ("__debug__" : Str)) = false := by decide) (hdw : (w0 == ("__debug__" : Str)) = false := by decide) (hcw : (w0 == ("__classdict__" : Str)) = false := by decide) :
    LamX.GivesTo X Ng x sg g cdg [.Assign [.Name w0 p1] (.Constant (.str "let") j p2) p3, .Try [.Expr (.Call (.Name "call" p4) [] [] p5) p6] [.ExceptHandler (some (.Name LN p9)) (some n) (b0 :: bs) p10] [] [] p11, .Return (some (.Name w0 p12)) p13]
      "call" q (TTw X.K X.mg T (wfX (wtab tab))) := by
  intro f c' s H Q tl act hc h
  let Y := (cxOf C8.CX0 X.prog X.w X.K X.mg X.base Ng x sg g cdg X.A X.stack s H C8.E0).nox
  have v1 : Vis Y.env.scope w0 := .inl l1
  have k1 : Loc Y.env.scope w0 := .inl l1
  let Ech : XK := fun cls dd H' => LamX.Tabs T H' ∧ ∃ c d, wfX (wtab tab) c = some d ∧ ExR X.mg c cls dd H' ∧ ∀ v H'', XT T H' H'' → DD X.K H'' v d → (∀ G, DD X.K G v d) → Q v H''
  have try_ := ps_try_named (X := Y) (n := n) (i := 2) (Wo := fun _ _ _ _ => False) (ps := p11) (bd := [.Expr (.Call (.Name "call" p4) [] [] p5) p6])
    (tb := fun W D σ H => ∃ Ech : XK, (∀ cls d σ' H', Ech cls d H' → W cls d σ' H') ∧ σ[0]? = some (some (.ref f)) ∧ H c' = some (LamX.CodeO c' q) ∧ tl Ech H (fun _ H' => D.nx σ H'))
    rfl rfl hN h2 l2 LamX.takes0 (fun W pn xe tk _ => ?_)
      (.cons (c := .ref LE) (t := fun a cls d => fun D σ H => ∃ C w, (C, w) ∈ tab.map (·.2) ∧ cls = .ref C ∧ tSuX true 2 a d T (m + 1) w D σ H) (x := LN) (b0 := b0) (bs := bs) (p1 := p9) (p2 := p10) ⟨g2, hdl, .inl F.le⟩ (fun a oe cls d pn hz hf => ⟨fun pins s' σ' H' D I hq => ?_⟩) .nil)
  · refine ⟨_, pss_cons (ps_asg (X := Y) (pos := p3) pe_str (pg_name (i := 1) hN h1 k1 (.inr l1)) rfl rfl rfl) (pss_cons try_ (pss_one (ps_ret (pe_var (X := Y) (i := 1) h1 v1 hdw hcw)))), ?_⟩
    have lst : (L2.start Ng [V.ref f]).length = m + 1 := by
      unfold L2.start
      rw [List.length_append, List.length_map, List.length_replicate, hm]
      show 1 + (m + 1 - 1) = m + 1
      omega
    have hm1 : 1 < m + 1 := by
      have := (List.getElem?_eq_some_iff.mp h1).1
      omega
    have st1 : ((L2.start Ng [V.ref f]).set 1 (some (.str "let")))[1]? = some (some (.str "let")) := List.getElem?_set_self (by rw [lst]; exact hm1)
    refine ⟨Ech, fun cls d σ' H' hx hl => ?_, ?_, hc, ?_⟩
    · obtain ⟨hT, c, dw, e1, ex, e5⟩ := hx
      have hl' : σ'.length = m + 1 := hl.trans hm
      have hm2 : 2 < m + 1 := by
        have := (List.getElem?_eq_some_iff.mp h2).1
        omega
      obtain ⟨C, w, f1, f2, f3, f4, f5⟩ := F.of e1 ex
      refine ⟨true, f5, fun _ a na => ⟨C, w, f1, f2, List.getElem?_set_self (by rw [hl']; exact hm2), f4, by rw [List.length_set]; exact hl', hT, fun σ2 H2 gr q1 => ?_⟩, fun z => (by cases z)⟩
      subst f3
      refine ⟨.str w, ?_, e5 _ H2 gr (.str _) fun G => .str _⟩
      rw [List.getElem?_set_ne (by decide)]
      exact q1
    · show ((L2.start Ng [V.ref f]).set 1 (some (.str "let")))[0]? = _
      rw [List.getElem?_set_ne (by decide)]
      rfl
    · have eQ : (fun (_ : V) (H' : Hp) => Q (.str "let") H') = fun (_ : V) (H' : Hp) => ∃ v, ((L2.start Ng [V.ref f]).set 1 (some (.str "let")))[1]? = some (some v) ∧ Q v H' := by
        funext _ H'
        exact propext ⟨fun z => ⟨_, st1, z⟩, fun ⟨v, z1, z2⟩ => by
          rw [st1] at z1
          cases z1
          exact z2⟩
      have h' : tl Ech H (fun _ H' => Q (.str "let") H') := h
      rw [eQ] at h'
      exact h'
  · refine ⟨fun pins s' σ' H' D I h' => ?_⟩
    obtain ⟨Ech, hW, y1, y2, y3⟩ := h'
    exact (pss_one (ps_expr (pos := p6) (act W pn xe Ech p4 p5 tk hW) rfl)).run pins s' σ' H' D I ⟨y1, y2, y3⟩
  · obtain ⟨C, w, y1, rfl, y2⟩ := hq
    exact (hs2 s H a oe C d w pn y1 hz hf).run pins s' σ' H' D I y2
end
end Sm


set_option maxRecDepth 100000
set_option maxHeartbeats 4000000
/-! Sim layer, part AD: own[i], own[j] = v, w; names = own.pop(). -/
namespace Sm
open PySem PySem.Spec PyProof.Rows L2
variable {X : Cx} {hs : HS} {ω ω1 ω' ωl : List Nat} {E : XK} {e a b c tg it elt : Expr} {fe fa fb : FE} {fl fi : FL} {ft : FB} {pos p1 p2 p3 p4 : Pos} {st : Stmt} {rest : List Stmt} {f g : FS} {es : List Expr}
/-- e with own[k] = d -/
def setO (e : En) (i : Nat) (k d : D) : Option En := match slot e i, k with
  | some (.list ds), .int n => (ixN ds.length n).map fun j => e.set i (some (.list (ds.set j d)))
  | _, _ => none
def set2K (e : En) (i : Nat) (fj : FE) (k1 d1 d2 : D) (h2 : List D) : Rs := match setO e i k1 d1 with
  | some e1 => (fj e1 h2).bindS fun k2 h3 => match setO e1 i k2 d2 with | some e2 => .nx e2 h3 | none => .no
  | none => .no
def set2S (i : Nat) (fl : FL) (fi fj : FE) : FS := fun e h => (fl e h).bindS fun ds h1 => match ds with
  | [d1, d2] => (fi e h1).bindS fun k1 h2 => set2K e i fj k1 d1 d2 h2
  | _ => .no
theorem set_tg {R O : Addr → Prop} {ha : Option Addr} {σ : L2.St} {H : Hp} {e : En} {h : List D} {i : Nat} {k d : D} {v w ov : V} {e1 : En} {Q : Hp → Prop} (rel : Rel X.K R O ha hs ω σ H e h) (hi : i ∈ ω) (ev : σ[i]? = some (some ov)) (dv : DD X.K (Cut O H) v d) (dw : DD X.K (Cut O H) w k) (hs1 : setO e i k d = some e1)
    (q : ∀ H', Step hs.tabs R ha O H O H' → Rel X.K R O ha hs ω σ H' e1 h → Q H') : rSetL ov w v H Q := by
  unfold setO at hs1
  split at hs1
  · rename_i ds n hd
    cases hj : ixN ds.length n with
    | none => rw [hj] at hs1; cases hs1
    | some j =>
      rw [hj] at hs1
      cases hs1
      obtain ⟨p, xs, f1, f2, f3, f4, f5⟩ := own_list rel hi hd
      rw [ev] at f1
      cases f1
      obtain rfl := dd_int dw
      refine ⟨p, xs, n, j, rfl, rfl, f4, by rw [f5.length]; exact hj, ?_⟩
      exact q _ (step_mut f4 ⟨fun _ z => (by cases z), fun _ z => (by cases z)⟩ f2 f3) (rel.mut f4 ⟨fun _ z => (by cases z), fun _ z => (by cases z)⟩ hi ev f2 f3 (.lst (f5.set j dv)))
  · cases hs1
theorem dds_two {K : PySem.W.Frag} {G : Hp} {vs : List V} {d1 d2 : D} (h : DDs K G vs [d1, d2]) : ∃ v1 v2, vs = [v1, v2] ∧ DD K G v1 d1 ∧ DD K G v2 d2 := by
  cases h with
  | cons a t =>
    cases t with
    | cons b t =>
      cases t
      exact ⟨_, _, rfl, a, b⟩
theorem ds_item2 {i : Nat} {fi fj : FE} {b1 b2 a2 : Expr} {e1 e2 : Expr} {kt k2 : Nat} {pt pt2 : Pos} (hc : X.calm = true) (hv : PE X a (tVar i)) (hv2 : PE X a2 (tVar i)) (hi : i ∈ ω) (h2 : DE X hs ω E b1 fi) (h3 : DE X hs ω E b2 fj) (h1 : DAn X hs ω E [e1, e2] fl)
    (hsw : swapsWithSole [.Tuple [.Subscript a b1 p3, .Subscript a2 b2 p4] kt pt] (.Tuple [e1, e2] k2 pt2) pos.line X.env = pure false := by rfl) (hw : swappedStores [.Tuple [.Subscript a b1 p3, .Subscript a2 b2 p4] kt pt] (.Tuple [e1, e2] k2 pt2) X.env = pure none := by rfl)
    (ha1 : (assignEach [.Tuple [.Subscript a b1 p3, .Subscript a2 b2 p4] kt pt] X.env).map (·.2) = [assign (.Tuple [.Subscript a b1 p3, .Subscript a2 b2 p4] kt pt) X.env] := by rfl)
    (hn : (assignEach [.Subscript a b1 p3, .Subscript a2 b2 p4] X.env).length = 2 := by rfl) (hst : (assignEach [.Subscript a b1 p3, .Subscript a2 b2 p4] X.env).findIdx? (·.1) = none := by rfl)
    (hm1 : (assignEach [.Subscript a b1 p3, .Subscript a2 b2 p4] X.env).map (·.2) = assign (.Subscript a b1 p3) X.env :: (assignEach [.Subscript a2 b2 p4] X.env).map (·.2) := by rfl)
    (hm2 : (assignEach [.Subscript a2 b2 p4] X.env).map (·.2) = assign (.Subscript a2 b2 p4) X.env :: (assignEach [] X.env).map (·.2) := by rfl)
    (has : ∀ v, assign (.Subscript a b1 p3) X.env v = (do
      let ov ← holding [v] (eval a X.env)
      let iv ← holding [v, ov] (eval b1 X.env)
      standAt p3
      holding [v, ov, iv] (setItem ov iv v)
      release [v, ov, iv] []) := by intro _; rfl)
    (has2 : ∀ v, assign (.Subscript a2 b2 p4) X.env v = (do
      let ov ← holding [v] (eval a2 X.env)
      let iv ← holding [v, ov] (eval b2 X.env)
      standAt p4
      holding [v, ov, iv] (setItem ov iv v)
      release [v, ov, iv] []) := by intro _; rfl) :
    DS X hs ω ω ωl E (.Assign [.Tuple [.Subscript a b1 p3, .Subscript a2 b2 p4] kt pt] (.Tuple [e1, e2] k2 pt2) pos) (set2S i fl fi fj) :=
  ps_imp (ps_asg (pe_tup h1.da) (pg_tup hc (pgs_cons (pg_sub hv h2 set_list has) (pgs_cons (pg_sub hv2 h3 set_list has2) pgs_nil hm2) hm1) hn hst) hsw hw ha1) fun Dn σ H hq => by
  obtain ⟨R, O, ha, en, h, rel, hp⟩ := hq
  refine ⟨R, O, ha, en, h, rel, ps_bind hp fun ds h1 H1 O1 s1 rel1 hp1 vs dvs => ?_⟩
  match ds, dvs, hp1 with
  | [d1, d2], dvs, hp1 =>
    obtain ⟨v1, v2, rfl, dv1, dv2⟩ := dds_two dvs
    refine ⟨by show 2 ≤ sizeLine; decide, fun p np => ⟨p, _, rfl, .inl (.inl upd_same), rfl, ?_⟩⟩
    have gr : Grow H1 (upd H1 p (.tup [v1, v2])) := Grow.new np
    have rel1' := rel1.grow gr
    have st1 := rel1.step gr
    have hp1' := ps_step hp1 st1
    obtain ⟨ov, ev⟩ := own_val rel1' hi
    refine ⟨v1, _, rfl, ov, ev, R, O1, ha, en, h1, rel1', ps_bind hp1' fun k h2 H2 O2 s2 rel2 hp2 w dw => ?_⟩
    unfold set2K at hp2
    cases hs1 : setO en i k d1 with
    | none => rw [hs1] at hp2; exact hp2.elim
    | some e1 =>
      rw [hs1] at hp2
      refine set_tg rel2 hi ev (s2.dd (st1.dd dv1)) dw hs1 fun H3 s3 rel3 => ?_
      obtain ⟨ov2, ev2⟩ := own_val rel3 hi
      refine ⟨v2, _, rfl, ov2, ev2, R, O2, ha, e1, h2, rel3, ps_bind (ps_step hp2 s3) fun k2 h3 H4 O4 s4 rel4 hp4 w2 dw2 => ?_⟩
      cases hs2 : setO e1 i k2 d2 with
      | none => rw [hs2] at hp4; exact hp4.elim
      | some e2 =>
        rw [hs2] at hp4
        refine set_tg rel4 hi ev2 (s4.dd (s3.dd (s2.dd (st1.dd dv2)))) dw2 hs2 fun H5 s5 rel5 => ?_
        exact ⟨rfl, ps_nx (ps_step hp4 s5) rel5⟩
  | [], _, hp1 => exact hp1.elim
  | [_], _, hp1 => exact hp1.elim
  | _ :: _ :: _ :: _, _, hp1 => exact hp1.elim
/-! equations -/
def nxO (o : Option En) (h : List D) : Rs := match o with | some e => .nx e h | none => .no
theorem nxO_s {e : En} {h : List D} : nxO (some e) h = .nx e h := rfl
def set2R (i : Nat) (fi fj : FE) (e : En) (ds : List D) (h : List D) : Rs := match ds with
  | [d1, d2] => (fi e h).bindS fun k1 h2 => set2K e i fj k1 d1 d2 h2
  | _ => .no
theorem set2S_r {i : Nat} {fi fj : FE} {e : En} {h : List D} : set2S i fl fi fj e h = (fl e h).bindS fun ds h1 => set2R i fi fj e ds h1 := rfl
theorem set2R_2 {i : Nat} {fi fj : FE} {e : En} {h : List D} {d1 d2 : D} : set2R i fi fj e [d1, d2] h = (fi e h).bindS fun k1 h2 => set2K e i fj k1 d1 d2 h2 := rfl
def set2X (i : Nat) (fj : FE) (d2 : D) (h : List D) (o : Option En) : Rs := match o with
  | some e1 => (fj e1 h).bindS fun k2 h3 => nxO (setO e1 i k2 d2) h3
  | none => .no
theorem set2K_e {i : Nat} {fj : FE} {e : En} {k1 d1 d2 : D} {h : List D} : set2K e i fj k1 d1 d2 h = set2X i fj d2 h (setO e i k1 d1) := rfl
theorem set2X_s {i : Nat} {fj : FE} {d2 : D} {h : List D} {e1 : En} : set2X i fj d2 h (some e1) = (fj e1 h).bindS fun k2 h3 => nxO (setO e1 i k2 d2) h3 := rfl
def setD (i : Nat) (e : En) (o : Option D) (k d : D) : Option En := match o, k with
  | some (.list ds), .int n => (ixN ds.length n).map fun j => e.set i (some (.list (ds.set j d)))
  | _, _ => none
theorem setO_e {i : Nat} {e : En} {k d : D} : setO e i k d = setD i e (slot e i) k d := rfl
theorem setD_l {i : Nat} {e : En} {d : D} {ds : List D} {n : Int} (h0 : 0 ≤ n) (h1 : n < ds.length) : setD i e (some (.list ds)) (.int n) d = some (e.set i (some (.list (ds.set n.toNat d)))) := by
  show (ixN ds.length n).map _ = _
  unfold ixN
  rw [if_pos h0, if_pos (by omega)]
  rfl
theorem mL_set {α : Type} {f : α → D} {xs : List α} {j : Nat} {x : α} : (mL f xs).set j (f x) = mL f (xs.set j x) := by unfold mL; rw [List.map_set]
theorem mL_seti {xs : List Int} {j : Nat} {x : Int} : (mL PyData.int xs).set j (.int x) = mL PyData.int (xs.set j x) := mL_set
/-- own[k] = v -/
theorem setS_r {i : Nat} {fi f : FE} {e : En} {h : List D} : setS i fi f e h = (f e h).bindS fun d h1 => (fi e h1).bindS fun k h2 => nxO (setO e i k d) h2 := by
  unfold setS
  congr 1
  funext d h1
  congr 1
  funext k h2
  rw [setO_e]
  unfold setD
  cases slot e i with
  | none => rfl
  | some o =>
    cases o with
    | list ds =>
      cases k with
      | int n =>
        show _ = nxO ((ixN ds.length n).map _) h2
        cases hj : ixN ds.length n <;> simp [hj, nxO]
      | _ => rfl
    | _ => rfl
end Sm


set_option maxRecDepth 100000
set_option maxHeartbeats 4000000
/-! Sim layer, part AE: count and index of lists and of tuples. -/
namespace Sm
open PySem PySem.Spec PyProof.Rows L2
section
variable {X : Cx} {o e : Expr} {es : List Expr} {to : TE} {t : TA} {name : Str} {apos cpos : Pos} {T id : String} {r : V → List V → Hp → VK → Prop}
def tBMG (ty : V → Hp → Prop) (r : V → List V → Hp → VK → Prop) (to : TE) (t : TA) : TE := fun σ H Q => to σ H fun x H1 => ty x H1 ∧ t σ H1 fun xs H2 => r x xs H2 Q
theorem pe_bmG {ty : V → Hp → Prop} (hT : ∀ {pins : List (Addr × Obj)} {σ : L2.St} {H : Hp} {s : Shared} {x : V} {v : Value}, Inv X pins σ H s → RelV x v → ty x H → s.TypeIs v T ∧ ∀ a, v = .ref a → ∃ ob, s.heap.get? a = some ob ∧ ob.dict = none)
    (pa : PlainAttrs T) (slot : Slot T name id) (hty : typeOf (.builtin id) = pure (.type "method_descriptor")) (hm : MtR X id r) (ho : PE X o to) (ha : PA X (e :: es) t)
    (hbase : attributeBase o name X.env (eval o X.env) = eval o X.env := by rfl)
    (hfew : ((backTo cpos (starEach (e :: es) X.env)).all (fun x => !x.1) && (backToKw cpos (keywordEach [] X.env)).all (fun x => x.1.isSome)
      && decide ((e :: es).length + ([] : List Keyword).length + (if ([] : List Keyword).isEmpty then 0 else 1) < 30)) = true := by rfl)
    (hline : (apos.endLine == cpos.line) = true := by rfl) (hs : starEach (e :: es) X.env = (false, eval e X.env) :: starEach es X.env := by rfl) (hplain : (backTo cpos (starEach es X.env)).any (·.1) = false := by rfl) :
    PE X (.Call (.Attribute o name apos) (e :: es) [] cpos) (tBMG ty r to t) := ⟨fun pins s σ H Q I h =>
  wpAny_Call_method_late hbase hfew hline rfl (thn (ho.run pins s σ H _ I h) fun v s1 ⟨x, H1, I1, r1, ty1, q1⟩ => by
    obtain ⟨h1, h2⟩ := hT I1 r1 ty1
    refine ⟨T, id, pa, slot, hty, h1, h2, ?_⟩
    have hA := ha.run cpos pins s1 σ H1 _ I1 q1
    rw [hs] at hA ⊢
    exact Calls.callWith_builtin (by show (false || (backTo cpos (starEach es X.env)).any (·.1)) = false; rw [hplain] <;> rfl) (Calls.evalArgs_plain (thn hA fun us s2 ⟨vs, H2, I2, r2, q2⟩ => hm pins s2 σ H2 x vs v us Q I2 r1 r2 q2)))⟩
def tyN (K : PySem.W.Frag) (x : V) (H : Hp) : Prop := ∃ p xs, x = .ref p ∧ SqN K H p xs
theorem tyN_is {pins : List (Addr × Obj)} {σ : L2.St} {H : Hp} {s : Shared} {x : V} {v : Value} (I : Inv X pins σ H s) (r1 : RelV x v) (ty : tyN X.K x H) : s.TypeIs v "tuple" ∧ ∀ a, v = .ref a → ∃ ob, s.heap.get? a = some ob ∧ ob.dict = none := by
  obtain ⟨p, xs, ex, hq⟩ := ty
  subst ex
  cases r1
  rcases hq with ⟨ob, g, c, d⟩ | ⟨ob, its, n, g, c, d, _⟩
  · have g' := (I.hok p _ g).1
    exact ⟨⟨ob, g', c⟩, fun a e => by cases e; exact ⟨ob, g', d⟩⟩
  · have g' := I.kIn p ob g
    exact ⟨⟨ob, g', c⟩, fun a e => by cases e; exact ⟨ob, g', d⟩⟩
def rCntT (K : PySem.W.Frag) : V → List V → Hp → VK → Prop := fun x xs H Q => ∃ (a : Addr) (y : V) (d : PyData) (ds : List PyData), x = .ref a ∧ xs = [y] ∧ Dp K H (.ref a) (.tuple ds) ∧ Dp K H y d ∧ SeqAt.shaped (.tuple ds) = true ∧ SeqAt.shaped d = true ∧ Q (.int (ds.countP fun z => PyData.eqv z d : Nat)) H
theorem mt_cntT (hu : X.A.units + 65 < cLine) : MtR X "tuple.count" (rCntT X.K) := by
  intro pins s σ H x xs v us Q I rx rxs h
  obtain ⟨a, y, d, ds, ex, exs, hl, hy, sl, sd, q⟩ := h
  subst ex exs
  cases rx
  obtain ⟨u, eu, ry⟩ := rxs.one
  subst eu
  obtain ⟨bs, r1⟩ := Dp.reads I d y u hy ry
  have hxs : PyData.canLayAll0 ds = true := SeqAt.canLay_of_shaped sl
  cases hl with
  | tup hs ha =>
    obtain ⟨its, rv, ⟨⟨cls, dd, data, sls⟩, ho, hc, n, hdt⟩, hlen⟩ := I.tuple hs
    simp only at hc hdt
    subst hc hdt
    obtain ⟨as, h4⟩ := Dp.readsAll I ds _ its ha rv
    have hmap : its.map (SeqAt.readOf s.heap) = ds := SeqAt.readsAll_map ds its as hxs h4
    refine call_meets PySem.F.slot_tuple_count ⟨_, ho, rfl⟩ PySem.F.entry_tuple_count (PySem.F.args_tuple_count_2 _ _)
      (SeqAt.tuple_countAt a its.toArray n dd sls u (fun u => PyData.eqv (SeqAt.readOf s.heap u) d)) ⟨ho, SeqAt.items_eqAt (vs := its.toArray) (show ReadsAll s.heap its.toArray.toList ds as from h4) r1 hxs (SeqAt.canLay_of_shaped sd) (room_in_shaped sd hu), ?_⟩
    refine ⟨.int (ds.countP fun z => PyData.eqv z d : Nat), H, I.tok _, ⟨s.toks, ?_⟩, q⟩
    have e : its.countP (fun u => PyData.eqv (SeqAt.readOf s.heap u) d) = ds.countP fun z => PyData.eqv z d := by rw [← hmap, List.countP_map]; rfl
    show Value.int ((its.toArray.toList.countP _ : Nat) : Int) _ = _
    rw [List.toList_toArray, e]
def rIndexT (K : PySem.W.Frag) : V → List V → Hp → VK → Prop := fun x xs H Q => ∃ (a : Addr) (y : V) (d : PyData) (ds : List PyData) (j : Nat), x = V.ref a ∧ xs = [y] ∧ Dp K H (V.ref a) (.tuple ds) ∧ Dp K H y d ∧
  SeqAt.shaped (.tuple ds) = true ∧ SeqAt.shaped d = true ∧ (ds.findIdx? fun z => PyData.eqv z d) = some j ∧ Q (.int (j : Nat)) H
theorem mt_indexT (hu : X.A.units + 65 < cLine) : MtR X "tuple.index" (rIndexT X.K) := by
  intro pins s σ H x xs v us Q I rx rxs h
  obtain ⟨a, y, d, ds, j, ex, exs, hl, hy, sl, sd, hj, q⟩ := h
  subst ex exs
  cases rx
  obtain ⟨u, eu, ry⟩ := rxs.one
  subst eu
  obtain ⟨bs, r1⟩ := Dp.reads I d y u hy ry
  have hxs : PyData.canLayAll0 ds = true := SeqAt.canLay_of_shaped sl
  cases hl with
  | tup hs ha =>
    obtain ⟨its, rv, ⟨⟨cls, dd, data, sls⟩, ho, hc, n, hdt⟩, hlen⟩ := I.tuple hs
    simp only at hc hdt
    subst hc hdt
    obtain ⟨as, h4⟩ := Dp.readsAll I ds _ its ha rv
    have hmap : its.map (SeqAt.readOf s.heap) = ds := SeqAt.readsAll_map ds its as hxs h4
    subst hmap
    rw [List.findIdx?_map, List.findIdx?_eq_some_iff_getElem] at hj
    obtain ⟨j1, j2, j3⟩ := hj
    refine call_meets PySem.F.slot_tuple_index ⟨_, ho, rfl⟩ PySem.F.entry_tuple_index (PySem.F.args_tuple_index_2 _ _)
      (TI.tuple_indexAt a its.toArray n dd sls u (fun u => PyData.eqv (SeqAt.readOf s.heap u) d) j (by simpa using j1) ?_ ?_) ⟨ho, SeqAt.items_eqAt (vs := its.toArray) (show ReadsAll s.heap its.toArray.toList _ as from h4) r1 hxs (SeqAt.canLay_of_shaped sd) (room_in_shaped sd hu), ?_⟩
    · simpa using j2
    · intro m hm hmj
      have := j3 m hmj
      simpa using this
    · exact ⟨.int (j : Nat), H, I.tok _, ⟨_, rfl⟩, q⟩
end
def cntT : D → D → Option D
  | .tuple ds, d => if okE (.tuple ds) && okE d then some (.int (ds.countP fun z => PyData.eqv z d : Nat)) else none
  | _, _ => none
def idxT : D → D → Option D
  | .tuple ds, d => if okE (.tuple ds) && okE d then (ds.findIdx? fun z => PyData.eqv z d).map fun j => .int (j : Nat) else none
  | _, _ => none
theorem md_cntT {K : PySem.W.Frag} : MtD K (rCntT K) cntT := by
  intro H x y a b d G Q s hx hy e q
  unfold cntT at e
  split at e
  · split at e
    · rename_i hl
      cases e
      rw [Bool.and_eq_true] at hl
      have h1 := dd_dp s hx (nd_sh hl.1)
      obtain ⟨p, xs, rfl, g1, g2⟩ := dd_tup hx
      exact ⟨p, y, _, _, rfl, rfl, h1, dd_dp s hy (nd_sh hl.2), hl.1, hl.2, q _ H (Grow.refl H) fun _ _ _ => .int _⟩
    · cases e
  · cases e
theorem md_idxT {K : PySem.W.Frag} : MtD K (rIndexT K) idxT := by
  intro H x y a b d G Q s hx hy e q
  unfold idxT at e
  split at e
  · split at e
    · rename_i hl
      obtain ⟨j, h3, rfl⟩ := map_some' e
      rw [Bool.and_eq_true] at hl
      have h1 := dd_dp s hx (nd_sh hl.1)
      obtain ⟨p, xs, rfl, g1, g2⟩ := dd_tup hx
      exact ⟨p, y, _, _, j, rfl, rfl, h1, dd_dp s hy (nd_sh hl.2), hl.1, hl.2, h3, q _ H (Grow.refl H) fun _ _ _ => .int _⟩
    · cases e
  · cases e
section
variable {X : Cx} {hs : HS} {ω : List Nat} {E : XK} {e a b c o : Expr} {fe fa fb : FE} {pos apos : Pos}
def isTup : D → Bool
  | .tuple _ => true
  | _ => false
def isSq : D → Bool
  | .list _ => true
  | .tuple _ => true
  | _ => false
def cntA : D → D → Option D
  | .list ds, d => cntL (.list ds) d
  | .tuple ds, d => cntT (.tuple ds) d
  | _, _ => none
def idxA : D → D → Option D
  | .list ds, d => idxL (.list ds) d
  | .tuple ds, d => idxT (.tuple ds) d
  | _, _ => none
theorem tyN_tup {K : PySem.W.Frag} {G H : Hp} {v : V} {d : D} (s : ∀ p o, G p = some o → H p = some o) (h : DD K G v d) (k : isTup d = true) : tyN K v H := by
  cases h with
  | tup h1 _ => exact ⟨_, _, rfl, XN.sqN (fun a o h _ => s a o h) h1⟩
  | _ => cases k
theorem de_mtN {id : String} {name : Str} {r : V → List V → Hp → VK → Prop} {g : D → D → Option D} (slot : Slot "tuple" name id) (hty : typeOf (.builtin id) = pure (.type "method_descriptor")) (hm : MtR X id r) (hr : MtD X.K r g)
    (h1 : DE X hs ω E o fa) (h2 : DE X hs ω E b fb)
    (hbase : attributeBase o name X.env (eval o X.env) = eval o X.env := by rfl)
    (hfew : ((backTo pos (starEach [b] X.env)).all (fun x => !x.1) && (backToKw pos (keywordEach [] X.env)).all (fun x => x.1.isSome)
      && decide (([b] : List Expr).length + ([] : List Keyword).length + (if ([] : List Keyword).isEmpty then 0 else 1) < 30)) = true := by rfl)
    (hline : (apos.endLine == pos.line) = true := by rfl) (hs1 : starEach [b] X.env = (false, eval b X.env) :: starEach [] X.env := by rfl) (hplain : (backTo pos (starEach [] X.env)).any (·.1) = false := by rfl) :
    DE X hs ω E (.Call (.Attribute o name apos) [b] [] pos) (mtM isTup g fa fb) := pe_imp (pe_bmG tyN_is PySem.F.plainAttrs_tuple slot hty hm h1 (pa_cons h2 pa_nil hs1) hbase hfew hline hs1 hplain) fun σ H Q hq => by
  obtain ⟨R, O, ha, e, h, rel, hp⟩ := hq
  refine ⟨R, O, ha, e, h, rel, pr_bind hp fun d1 h1 H1 O1 s1 rel1 hp1 v1 dv1 => ?_⟩
  split at hp1
  · rename_i ht
    refine ⟨tyN_tup cut_sub dv1 ht, R, O1, ha, e, h1, rel1, pr_bind hp1 fun d2 h2 H2 O2 s2 rel2 hp2 v2 dv2 => ?_⟩
    obtain ⟨d, e1, q⟩ := pr_opt hp2
    exact hr H2 v1 v2 d1 d2 d (Cut O2 H2) Q cut_sub (s2.dd dv1) dv2 e1 fun v H' gr hv => q H' O2 (rel2.step gr) (rel2.grow gr) v (hv _ (rel2.step gr).ex (new_cut rel2.g.dom))
  · exact hp1.elim
theorem mtM_or {gl gt gA : D → D → Option D} (hl : ∀ ds d, gA (.list ds) d = gl (.list ds) d) (ht : ∀ ds d, gA (.tuple ds) d = gt (.tuple ds) d) (e : En) (h : List D) : mtM isSq gA fa fb e h = mtM isLst gl fa fb e h ∨ mtM isSq gA fa fb e h = mtM isTup gt fa fb e h ∨ mtM isSq gA fa fb e h = .no := by
  unfold mtM
  cases fa e h with
  | ok x h1 =>
    cases x with
    | list ds =>
      refine .inl ?_
      show (fb e h1).bind _ = (fb e h1).bind _
      congr 1
      funext y h2
      rw [hl]
    | tuple ds =>
      refine .inr (.inl ?_)
      show (fb e h1).bind _ = (fb e h1).bind _
      congr 1
      funext y h2
      rw [ht]
    | _ => exact .inr (.inr rfl)
  | ex c h1 => exact .inl rfl
  | no => exact .inl rfl
theorem de_cntA (hu : X.A.units + 65 < cLine) (h1 : DE X hs ω E o fa) (h2 : DE X hs ω E b fb) (hbase : attributeBase o "count" X.env (eval o X.env) = eval o X.env := by rfl)
    (hfew : ((backTo pos (starEach [b] X.env)).all (fun x => !x.1) && (backToKw pos (keywordEach [] X.env)).all (fun x => x.1.isSome)
      && decide (([b] : List Expr).length + ([] : List Keyword).length + (if ([] : List Keyword).isEmpty then 0 else 1) < 30)) = true := by rfl)
    (hline : (apos.endLine == pos.line) = true := by rfl) (hs1 : starEach [b] X.env = (false, eval b X.env) :: starEach [] X.env := by rfl) (hplain : (backTo pos (starEach [] X.env)).any (·.1) = false := by rfl) :
    DE X hs ω E (.Call (.Attribute o "count" apos) [b] [] pos) (mtM isSq cntA fa fb) :=
  de_either (de_cntL hu h1 h2 hbase hfew hline hs1 hplain) (de_mtN PySem.F.slot_tuple_count PySem.F.type_tuple_count (mt_cntT hu) md_cntT h1 h2 hbase hfew hline hs1 hplain) (mtM_or (fun _ _ => rfl) fun _ _ => rfl)
theorem de_idxA (hu : X.A.units + 65 < cLine) (h1 : DE X hs ω E o fa) (h2 : DE X hs ω E b fb) (hbase : attributeBase o "index" X.env (eval o X.env) = eval o X.env := by rfl)
    (hfew : ((backTo pos (starEach [b] X.env)).all (fun x => !x.1) && (backToKw pos (keywordEach [] X.env)).all (fun x => x.1.isSome)
      && decide (([b] : List Expr).length + ([] : List Keyword).length + (if ([] : List Keyword).isEmpty then 0 else 1) < 30)) = true := by rfl)
    (hline : (apos.endLine == pos.line) = true := by rfl) (hs1 : starEach [b] X.env = (false, eval b X.env) :: starEach [] X.env := by rfl) (hplain : (backTo pos (starEach [] X.env)).any (·.1) = false := by rfl) :
    DE X hs ω E (.Call (.Attribute o "index" apos) [b] [] pos) (mtM isSq idxA fa fb) :=
  de_either (de_idxL hu h1 h2 hbase hfew hline hs1 hplain) (de_mtN PySem.F.slot_tuple_index PySem.F.type_tuple_index (mt_indexT hu) md_idxT h1 h2 hbase hfew hline hs1 hplain) (mtM_or (fun _ _ => rfl) fun _ _ => rfl)
/-! equations -/
theorem mtA_e {g : D → D → Option D} {e : En} {h : List D} : mtM isSq g fa fb e h = (fa e h).bind fun x h1 => if isSq x = true then (fb e h1).bind fun y h2 => opt (g x y) h2 else .no := rfl
theorem isSq_l {ds : List D} : isSq (.list ds) = true := rfl
theorem isSq_t {ds : List D} : isSq (.tuple ds) = true := rfl
end
section
variable {α : Type} [DecidableEq α] {f : α → D} {n : Nat} [E : Enc f n] {xs : List α}
theorem idxA_l (x : α) (h : n ≤ 60 := by decide) : idxA (.list (mL f xs)) (f x) = (xs.findIdx? fun z => decide (z = x)).map fun j => .int (j : Nat) := idxL_m x h
theorem cntA_l (x : α) (h : n ≤ 60 := by decide) : cntA (.list (mL f xs)) (f x) = some (.int (xs.countP fun z => decide (z = x) : Nat)) := cntL_m x h
theorem idxA_t (x : α) (h : n ≤ 60 := by decide) : idxA (.tuple (mL f xs)) (f x) = (xs.findIdx? fun z => decide (z = x)).map fun j => .int (j : Nat) := idxL_m x h
theorem cntA_t (x : α) (h : n ≤ 60 := by decide) : cntA (.tuple (mL f xs)) (f x) = some (.int (xs.countP fun z => decide (z = x) : Nat)) := cntL_m x h
end
section
variable {xs : List Int} {rs : List (List Int)} {k : Int} {r : List Int}
theorem cntA_ti : cntA (.tuple (mL PyData.int xs)) (.int k) = some (.int (xs.countP fun z => decide (z = k) : Nat)) := cntA_t (f := PyData.int) k
theorem cntA_li : cntA (.list (mL PyData.int xs)) (.int k) = some (.int (xs.countP fun z => decide (z = k) : Nat)) := cntA_l (f := PyData.int) k
theorem cntA_tr : cntA (.tuple (mL eT rs)) (.tuple (mL PyData.int r)) = some (.int (rs.countP fun z => decide (z = r) : Nat)) := cntA_t (f := eT) r
theorem cntA_lr : cntA (.list (mL eT rs)) (.tuple (mL PyData.int r)) = some (.int (rs.countP fun z => decide (z = r) : Nat)) := cntA_l (f := eT) r
end
end Sm


set_option maxRecDepth 100000
set_option maxHeartbeats 8000000
namespace Lw
open PySem PySem.Spec PyProof.Rows L2 Sm
def topS (i : Nat) : Stmt := PySem.Challenge.pw_loomhouse_k57_whole_warps_wound_by_passe.main.body.getD i (.Pass ⟨0, 0, 0, 0⟩)
abbrev s_is_integer : Stmt := topS 1
theorem sc_is_integer : FnScope ["thing"] ["thing"] (defScope s_is_integer) := ⟨rfl, rfl, rfl, by decide +kernel, rfl, by decide +kernel, by decide +kernel⟩
abbrev s_is_within : Stmt := topS 2
theorem sc_is_within : FnScope ["thing", "low", "high"] ["thing", "low", "high"] (defScope s_is_within) := ⟨rfl, rfl, rfl, by decide +kernel, rfl, by decide +kernel, by decide +kernel⟩
abbrev s_is_sized : Stmt := topS 3
theorem sc_is_sized : FnScope ["thing", "low", "high"] ["thing", "low", "high"] (defScope s_is_sized) := ⟨rfl, rfl, rfl, by decide +kernel, rfl, by decide +kernel, by decide +kernel⟩
abbrev s_is_order : Stmt := topS 19
theorem sc_is_order : FnScope ["thing", "colour"] ["thing"] (defScope s_is_order) := ⟨rfl, rfl, rfl, by decide +kernel, rfl, by decide +kernel, by decide +kernel⟩
abbrev s_check_order : Stmt := topS 20
theorem sc_check_order : FnScope ["thing"] ["thing"] (defScope s_check_order) := ⟨rfl, rfl, rfl, by decide +kernel, rfl, by decide +kernel, by decide +kernel⟩
abbrev s_check_at_once : Stmt := topS 21
theorem sc_check_at_once : FnScope ["order", "p"] ["order", "p"] (defScope s_check_at_once) := ⟨rfl, rfl, rfl, by decide +kernel, rfl, by decide +kernel, by decide +kernel⟩
abbrev s_raw_passes : Stmt := topS 22
theorem sc_raw_passes : FnScope ["order", "p", "at"] ["order", "p"] (defScope s_raw_passes) := ⟨rfl, rfl, rfl, by decide +kernel, rfl, by decide +kernel, by decide +kernel⟩
abbrev s_passes : Stmt := topS 23
theorem sc_passes : FnScope ["order", "p"] ["order", "p"] (defScope s_passes) := ⟨rfl, rfl, rfl, by decide +kernel, rfl, by decide +kernel, by decide +kernel⟩
abbrev s_raw_cones : Stmt := topS 24
theorem sc_raw_cones : FnScope ["order", "p", "some", "colour", "here"] ["order", "p"] (defScope s_raw_cones) := ⟨rfl, rfl, rfl, by decide +kernel, rfl, by decide +kernel, by decide +kernel⟩
abbrev s_cones_at : Stmt := topS 25
theorem sc_cones_at : FnScope ["order", "p"] ["order", "p"] (defScope s_cones_at) := ⟨rfl, rfl, rfl, by decide +kernel, rfl, by decide +kernel, by decide +kernel⟩
abbrev s_cone_count : Stmt := topS 26
theorem sc_cone_count : FnScope ["order", "p"] ["order", "p"] (defScope s_cone_count) := ⟨rfl, rfl, rfl, by decide +kernel, rfl, by decide +kernel, by decide +kernel⟩
abbrev s_unlike_holes : Stmt := topS 27
theorem sc_unlike_holes : FnScope ["one", "other", "here", "there"] ["one", "other"] (defScope s_unlike_holes) := ⟨rfl, rfl, rfl, by decide +kernel, rfl, by decide +kernel, by decide +kernel⟩
abbrev s_raw_changes : Stmt := topS 28
theorem sc_raw_changes : FnScope ["order", "p", "some", "one", "other"] ["order", "p"] (defScope s_raw_changes) := ⟨rfl, rfl, rfl, by decide +kernel, rfl, by decide +kernel, by decide +kernel⟩
abbrev s_changes : Stmt := topS 29
theorem sc_changes : FnScope ["order", "p"] ["order", "p"] (defScope s_changes) := ⟨rfl, rfl, rfl, by decide +kernel, rfl, by decide +kernel, by decide +kernel⟩
abbrev s__law_hand : Stmt := topS 31
theorem sc__law_hand : FnScope ["script", "cells", "cell"] ["script"] (defScope s__law_hand) := ⟨rfl, rfl, rfl, by decide +kernel, rfl, by decide +kernel, by decide +kernel⟩
abbrev s__law_draw : Stmt := topS 32
theorem sc__law_draw : FnScope ["hand", "many", "cell", "digit", "number"] ["hand", "many"] (defScope s__law_draw) := ⟨rfl, rfl, rfl, by decide +kernel, rfl, by decide +kernel, by decide +kernel⟩
abbrev s__law_any : Stmt := topS 33
theorem sc__law_any : FnScope ["hand", "some"] ["hand", "some"] (defScope s__law_any) := ⟨rfl, rfl, rfl, by decide +kernel, rfl, by decide +kernel, by decide +kernel⟩
abbrev s__law_order : Stmt := topS 34
theorem sc__law_order : FnScope ["hand", "most", "top", "thread"] ["hand", "most"] (defScope s__law_order) := ⟨rfl, rfl, rfl, by decide +kernel, rfl, by decide +kernel, by decide +kernel⟩
abbrev s__law_passes : Stmt := topS 35
theorem sc__law_passes : FnScope ["order", "p", "at"] ["order", "p"] (defScope s__law_passes) := ⟨rfl, rfl, rfl, by decide +kernel, rfl, by decide +kernel, by decide +kernel⟩
abbrev s__law_no_order : Stmt := topS 36
theorem sc__law_no_order : FnScope ["hand"] ["hand"] (defScope s__law_no_order) := ⟨rfl, rfl, rfl, by decide +kernel, rfl, by decide +kernel, by decide +kernel⟩
abbrev s__law_word : Stmt := topS 37
theorem sc__law_word : FnScope ["call", "word", "e", "flags", "names"] ["call"] (defScope s__law_word) := ⟨rfl, rfl, rfl, by decide +kernel, rfl, by decide +kernel, by decide +kernel⟩
abbrev s_law : Stmt := topS 38
theorem sc_law : FnScope ["script", "hand", "turn", "p", "rows", "row", "cones", "colours", "total", "other", "words", "bad", "off", "order", "colour", "one", "two"] ["script"] (defScope s_law) := ⟨rfl, rfl, rfl, by decide +kernel, rfl, by decide +kernel, by decide +kernel⟩
/-! ### the mirrors -/
def fuel : Nat := 100
def wf : Ex → Option D := wfT [("NoCount", "count"), ("NoCounts", "counts"), ("NoLength", "length"), ("NoOrder", "order"), ("NoPeg", "peg"), ("NoPlaces", "places"), ("NoWay", "way"), ("Same", "same")]
def m_is_integer : FS := retS (andM (isiM "int" (varM 0)) (notM (isiM "bool" (varM 0))))
def F_is_integer : List D → Ro := runP 1 m_is_integer
def m_is_within : FS := retS (andM (callP F_is_integer (consM (varM 0) nilM)) (chainM leD leD (varM 1) (varM 0) (varM 2)))
def F_is_within : List D → Ro := runP 3 m_is_within
def m_is_sized : FS := retS (andM (isiM "tuple" (varM 0)) (chainM leD leD (varM 1) (unM lenD (varM 0)) (varM 2)))
def F_is_sized : List D → Ro := runP 3 m_is_sized
def m_is_order : FS := retS (andM (callP F_is_sized (consM (varM 0) (consM (conM (.int 1)) (consM (conM (.int 24)) nilM)))) (unM allD (lstM (compM [1] (seqM (varM 0)) (gN 1) yesM (callP F_is_within (consM (varM 1) (consM (conM (.int 0)) (consM (conM (.int 5)) nilM))))))))
def F_is_order : List D → Ro := runP 2 m_is_order
def m_check_order : FS := ifS (notB (truM (callP F_is_order (consM (varM 0) nilM)))) (raiS "NoOrder") skipS
def F_check_order : List D → Ro := runP 1 m_check_order
def m_check_at_once : FS := seqS (exprS (callP F_check_order (consM (varM 0) nilM)))
  (ifS (notB (truM (callP F_is_within (consM (varM 1) (consM (conM (.int 1)) (consM (conM (.int 8)) nilM)))))) (raiS "NoCount") skipS)
def F_check_at_once : List D → Ro := runP 2 m_check_at_once
def m_raw_passes : FS := retS (lstM (compM [2] (range3M (conM (.int 0)) (unM lenD (varM 0)) (varM 1)) (gN 2) yesM (sliceM (varM 0) (aPart (varM 2)) (aPart (binM addD (varM 2) (varM 1))))))
def F_raw_passes : List D → Ro := runP 3 m_raw_passes
def m_passes : FS := seqS (exprS (callP F_check_at_once (consM (varM 0) (consM (varM 1) nilM))))
  (retS (unM tupOf (callP F_raw_passes (consM (varM 0) (consM (varM 1) nilM)))))
def F_passes : List D → Ro := runP 2 m_passes
def m_raw_cones : FS := seqS (asgS 2 (callP F_raw_passes (consM (varM 0) (consM (varM 1) nilM))))
  (retS (lstM (compM [3] (range1M (binM addD (conM (.int 5)) (conM (.int 1)))) (gN 3) yesM (unM maxQ (lstM (compM [4] (seqM (varM 2)) (gN 4) yesM (mtM isSq cntA (varM 4) (varM 3))))))))
def F_raw_cones : List D → Ro := runP 5 m_raw_cones
def m_cones_at : FS := seqS (exprS (callP F_check_at_once (consM (varM 0) (consM (varM 1) nilM))))
  (retS (unM tupOf (callP F_raw_cones (consM (varM 0) (consM (varM 1) nilM)))))
def F_cones_at : List D → Ro := runP 2 m_cones_at
def m_cone_count : FS := seqS (exprS (callP F_check_at_once (consM (varM 0) (consM (varM 1) nilM))))
  (retS (unM sumD (callP F_raw_cones (consM (varM 0) (consM (varM 1) nilM)))))
def F_cone_count : List D → Ro := runP 2 m_cone_count
def m_unlike_holes : FS := retS (unM lenD (lstM (compM [2, 3] (zipM (varM 0) (varM 1)) (gT (gsC (gN 2) (gsC (gN 3) gsN))) (boolM (binM neD (varM 2) (varM 3))) (conM (.int 1)))))
def F_unlike_holes : List D → Ro := runP 4 m_unlike_holes
def m_raw_changes : FS := seqS (asgS 2 (callP F_raw_passes (consM (varM 0) (consM (varM 1) nilM))))
  (retS (unM sumD (lstM (compM [3, 4] (zipM (varM 2) (sliceM (varM 2) (aPart (conM (.int 1))) noPart)) (gT (gsC (gN 3) (gsC (gN 4) gsN))) yesM (callP F_unlike_holes (consM (varM 3) (consM (varM 4) nilM)))))))
def F_raw_changes : List D → Ro := runP 5 m_raw_changes
def m_changes : FS := seqS (exprS (callP F_check_at_once (consM (varM 0) (consM (varM 1) nilM))))
  (retS (callP F_raw_changes (consM (varM 0) (consM (varM 1) nilM))))
def F_changes : List D → Ro := runP 2 m_changes
def m__law_draw : FS := seqS (ifS (andB (boolM (binM eqD (handM 2) (conM (.int 0)))) (boolM (binM ltD (handM 1) (unM lenD (handM 0))))) (seqS (asgS 2 (binM ixD (handM 0) (handM 1)))
  (seqS (handS 1 (binM addD (handM 1) (conM (.int 1))))
  (seqS (handS 3 (binM modD (unM intD (binM addD (binM addD (binM mulD (handM 3) (conM (.int 69621))) (binM mulD (varM 2) (conM (.int 40692)))) (conM (.int 31)))) (conM (.int 2147483629))))
  (ifS (boolM (binM geD (varM 2) (binM powD (conM (.int 10)) (conM (.int 18))))) (handS 2 (varM 2)) skipS)))) skipS)
  (seqS (ifS (boolM (binM gtD (handM 2) (conM (.int 0)))) (seqS (asgS 3 (binM modD (unM intD (handM 2)) (varM 1)))
  (seqS (handS 2 (binM fdivD (handM 2) (varM 1)))
  (retS (varM 3)))) skipS)
  (seqS (handS 4 (binM addD (handM 4) (conM (.int 1))))
  (seqS (asgS 4 (binM modD (unM intD (binM mulD (unM intD (binM addD (handM 3) (binM mulD (conM (.int 7919)) (handM 4)))) (conM (.int 48271)))) (conM (.int 2147483647))))
  (seqS (asgS 4 (binM modD (unM intD (binM mulD (varM 4) (binM addD (binM fdivD (varM 4) (conM (.int 1009))) (conM (.int 69621))))) (conM (.int 2147483647))))
  (seqS (asgS 4 (binM modD (unM intD (binM mulD (varM 4) (binM addD (binM fdivD (varM 4) (conM (.int 2003))) (conM (.int 40014))))) (conM (.int 2147483563))))
  (retS (binM modD (unM intD (binM fdivD (varM 4) (conM (.int 16)))) (varM 1))))))))
def F__law_draw : List D → List D → Res D := runH 5 m__law_draw
def m__law_any : FS := retS (binM ixD (varM 1) (callH F__law_draw (consM (unM lenD (varM 1)) nilM)))
def F__law_any : List D → List D → Res D := runH 2 m__law_any
def m__law_order : FS := seqS (asgS 2 (binM addD (conM (.int 1)) (callH F__law_draw (consM (conM (.int 6)) nilM))))
  (retS (unM tupOf (lstM (compM [3] (range1M (binM addD (conM (.int 1)) (callH F__law_draw (consM (varM 1) nilM)))) (gN 3) yesM (callH F__law_draw (consM (varM 2) nilM))))))
def F__law_order : List D → List D → Res D := runH 4 m__law_order
def m__law_passes : FS := retS (lstM (compM [2] (range3M (conM (.int 0)) (unM lenD (varM 0)) (varM 1)) (gN 2) yesM (sliceM (varM 0) (aPart (varM 2)) (aPart (binM addD (varM 2) (varM 1))))))
def F__law_passes : List D → Ro := runP 3 m__law_passes
def m__law_no_order : FS := retS (callH F__law_any (consM (lstM (consM (conM .none) (consM (tupM nilM) (consM (lstM (consM (conM (.int 0)) nilM)) (consM (tupM (consM (conM (.int 6)) nilM)) (consM (tupM (consM (negM (conM (.int 1))) nilM)) (consM (tupM (consM (conM (.bool true)) nilM)) (consM (conM (.int 0)) (consM (conM (.str "0")) (consM (binM mulD (tupM (consM (conM (.int 0)) nilM)) (conM (.int 25))) nilM)))))))))) nilM))
def F__law_no_order : List D → List D → Res D := runH 1 m__law_no_order
def m_law : FS := seqS (forS (range1M (conM (.int 5))) (gN 2) (dropM [2, 3, 4, 5, 6, 7, 8, 9, 10, 11, 12, 13] (seqS (parS [13, 3] (consM (callH F__law_order (consM (conM (.int 24)) nilM)) (consM (binM addD (conM (.int 1)) (callH F__law_draw (consM (conM (.int 8)) nilM))) nilM)))
  (seqS (asgS 4 (callP F__law_passes (consM (varM 13) (consM (varM 3) nilM))))
  (seqS (asgS 6 (unM tupOf (lstM (compM [14] (range1M (conM (.int 6))) (gN 14) yesM (unM maxQ (lstM (compM [5] (seqM (varM 4)) (gN 5) yesM (mtM isSq cntA (varM 5) (varM 14)))))))))
  (seqS (ifS (orB (boolM (binM neD (callP F_passes (consM (varM 13) (consM (varM 3) nilM))) (unM tupOf (varM 4)))) (orB (boolM (binM neD (callP F_cones_at (consM (varM 13) (consM (varM 3) nilM))) (varM 6))) (boolM (binM neD (callP F_cone_count (consM (varM 13) (consM (varM 3) nilM))) (unM sumD (varM 6)))))) (retS (conM (.bool false))) skipS)
  (seqS (asgS 7 (unM lenD (lstM (compM [14] (range1M (conM (.int 6))) (gN 14) (boolM (binM (inD false) (varM 14) (varM 13))) (varM 14)))))
  (seqS (ifS (notB (boolM (chainM leD leD (varM 7) (callP F_cone_count (consM (varM 13) (consM (varM 3) nilM))) (binM mulD (varM 3) (varM 7))))) (retS (conM (.bool false))) skipS)
  (seqS (asgS 8 (conM (.int 0)))
  (seqS (forS (zipM (varM 4) (sliceM (varM 4) (aPart (conM (.int 1))) noPart)) (gT (gsC (gN 5) (gsC (gN 9) gsN))) (dropM [5, 9] (asgS 8 (binM addD (varM 8) (unM lenD (lstM (compM [15, 16] (zipM (varM 5) (varM 9)) (gT (gsC (gN 15) (gsC (gN 16) gsN))) (boolM (binM neD (varM 15) (varM 16))) (conM (.int 1)))))))))
  (seqS (ifS (boolM (binM neD (callP F_changes (consM (varM 13) (consM (varM 3) nilM))) (varM 8))) (retS (conM (.bool false))) skipS)
  (seqS (parS [11, 12] (consM (callH F__law_no_order nilM) (consM (callH F__law_any (consM (lstM (consM (conM .none) (consM (conM (.int 0)) (consM (conM (.int 9)) (consM (conM (.bool true)) (consM (conM (.str "1")) nilM)))))) nilM)) nilM)))
  (seqS (asgL 10 (consM (wordM [] wf (callP F_passes (consM (varM 11) (consM (varM 12) nilM)))) nilM))
  (seqS (appS 10 (wordM [10] wf (callP F_passes (consM (varM 13) (consM (varM 12) nilM)))))
  (seqS (appS 10 (wordM [10] wf (callP F_cones_at (consM (varM 13) (consM (varM 12) nilM)))))
  (seqS (appS 10 (wordM [10] wf (callP F_cone_count (consM (varM 11) (consM (varM 12) nilM)))))
  (seqS (appS 10 (wordM [10] wf (callP F_changes (consM (varM 11) (consM (varM 12) nilM)))))
  (seqS (appS 10 (wordM [10] wf (callP F_changes (consM (varM 13) (consM (varM 12) nilM)))))
  (ifS (boolM (binM neD (varM 10) (lstM (consM (conM (.str "order")) (consM (conM (.str "count")) (consM (conM (.str "count")) (consM (conM (.str "order")) (consM (conM (.str "order")) (consM (conM (.str "count")) nilM))))))))) (retS (conM (.bool false))) skipS)))))))))))))))))))
  (retS (conM (.bool true)))
def g_hand (ns : List Int) : FS := asgS 1 (lstM (compM [2] (cutM ns 63) (gN 2) yesM (unM absD (unM intD (varM 2)))))
def l_hand : FL := consM (varM 1) (consM (conM (.int 0)) (consM (conM (.int 0)) (consM (binM addD (conM (.int 61)) (binM mulD (conM (.int 7)) (unM lenD (varM 1)))) (consM (conM (.int 0)) nilM))))
/-! ### what the top has written -/
structure TxD where
  a_is_integer : Addr
  fd_is_integer : FuncData
  cd_is_integer : Value
  a_is_within : Addr
  fd_is_within : FuncData
  cd_is_within : Value
  a_is_sized : Addr
  fd_is_sized : FuncData
  cd_is_sized : Value
  a_is_order : Addr
  fd_is_order : FuncData
  cd_is_order : Value
  a_check_order : Addr
  fd_check_order : FuncData
  cd_check_order : Value
  a_check_at_once : Addr
  fd_check_at_once : FuncData
  cd_check_at_once : Value
  a_raw_passes : Addr
  fd_raw_passes : FuncData
  cd_raw_passes : Value
  a_passes : Addr
  fd_passes : FuncData
  cd_passes : Value
  a_raw_cones : Addr
  fd_raw_cones : FuncData
  cd_raw_cones : Value
  a_cones_at : Addr
  fd_cones_at : FuncData
  cd_cones_at : Value
  a_cone_count : Addr
  fd_cone_count : FuncData
  cd_cone_count : Value
  a_unlike_holes : Addr
  fd_unlike_holes : FuncData
  cd_unlike_holes : Value
  a_raw_changes : Addr
  fd_raw_changes : FuncData
  cd_raw_changes : Value
  a_changes : Addr
  fd_changes : FuncData
  cd_changes : Value
  a__law_hand : Addr
  fd__law_hand : FuncData
  cd__law_hand : Value
  a__law_draw : Addr
  fd__law_draw : FuncData
  cd__law_draw : Value
  a__law_any : Addr
  fd__law_any : FuncData
  cd__law_any : Value
  a__law_order : Addr
  fd__law_order : FuncData
  cd__law_order : Value
  a__law_passes : Addr
  fd__law_passes : FuncData
  cd__law_passes : Value
  a__law_no_order : Addr
  fd__law_no_order : FuncData
  cd__law_no_order : Value
  a__law_word : Addr
  fd__law_word : FuncData
  cd__law_word : Value
  a_law : Addr
  fd_law : FuncData
  cd_law : Value
  cc_law : Addr
  P_law : Addr
  c_NoCount : Addr
  c_NoCounts : Addr
  c_NoLength : Addr
  c_NoOrder : Addr
  c_NoPeg : Addr
  c_NoPlaces : Addr
  c_NoWay : Addr
  c_Same : Addr
  c_TooMany : Addr
  c_LoomError : Addr
  k_MOST_ORDER : Value
  k_MOST_COLOUR : Value
  k_MOST_AT_ONCE : Value
structure Txt (K : PySem.W.Frag) (mg : Str → Option Value) (t : TxD) : Prop where
  f_is_integer : FunV K "is_integer" "is_integer" s_is_integer t.a_is_integer t.fd_is_integer t.cd_is_integer
  g_is_integer : mg "is_integer" = some (.ref t.a_is_integer)
  b_is_integer : Binds K t.fd_is_integer ["thing"] []
  f_is_within : FunV K "is_within" "is_within" s_is_within t.a_is_within t.fd_is_within t.cd_is_within
  g_is_within : mg "is_within" = some (.ref t.a_is_within)
  b_is_within : Binds K t.fd_is_within ["thing", "low", "high"] []
  f_is_sized : FunV K "is_sized" "is_sized" s_is_sized t.a_is_sized t.fd_is_sized t.cd_is_sized
  g_is_sized : mg "is_sized" = some (.ref t.a_is_sized)
  b_is_sized : Binds K t.fd_is_sized ["thing", "low", "high"] []
  f_is_order : FunV K "is_order" "is_order" s_is_order t.a_is_order t.fd_is_order t.cd_is_order
  g_is_order : mg "is_order" = some (.ref t.a_is_order)
  b_is_order : Binds K t.fd_is_order ["thing"] []
  f_check_order : FunV K "check_order" "check_order" s_check_order t.a_check_order t.fd_check_order t.cd_check_order
  g_check_order : mg "check_order" = some (.ref t.a_check_order)
  b_check_order : Binds K t.fd_check_order ["thing"] []
  f_check_at_once : FunV K "check_at_once" "check_at_once" s_check_at_once t.a_check_at_once t.fd_check_at_once t.cd_check_at_once
  g_check_at_once : mg "check_at_once" = some (.ref t.a_check_at_once)
  b_check_at_once : Binds K t.fd_check_at_once ["order", "p"] []
  f_raw_passes : FunV K "raw_passes" "raw_passes" s_raw_passes t.a_raw_passes t.fd_raw_passes t.cd_raw_passes
  g_raw_passes : mg "raw_passes" = some (.ref t.a_raw_passes)
  b_raw_passes : Binds K t.fd_raw_passes ["order", "p"] []
  f_passes : FunV K "passes" "passes" s_passes t.a_passes t.fd_passes t.cd_passes
  g_passes : mg "passes" = some (.ref t.a_passes)
  b_passes : Binds K t.fd_passes ["order", "p"] []
  f_raw_cones : FunV K "raw_cones" "raw_cones" s_raw_cones t.a_raw_cones t.fd_raw_cones t.cd_raw_cones
  g_raw_cones : mg "raw_cones" = some (.ref t.a_raw_cones)
  b_raw_cones : Binds K t.fd_raw_cones ["order", "p"] []
  f_cones_at : FunV K "cones_at" "cones_at" s_cones_at t.a_cones_at t.fd_cones_at t.cd_cones_at
  g_cones_at : mg "cones_at" = some (.ref t.a_cones_at)
  b_cones_at : Binds K t.fd_cones_at ["order", "p"] []
  f_cone_count : FunV K "cone_count" "cone_count" s_cone_count t.a_cone_count t.fd_cone_count t.cd_cone_count
  g_cone_count : mg "cone_count" = some (.ref t.a_cone_count)
  b_cone_count : Binds K t.fd_cone_count ["order", "p"] []
  f_unlike_holes : FunV K "unlike_holes" "unlike_holes" s_unlike_holes t.a_unlike_holes t.fd_unlike_holes t.cd_unlike_holes
  g_unlike_holes : mg "unlike_holes" = some (.ref t.a_unlike_holes)
  b_unlike_holes : Binds K t.fd_unlike_holes ["one", "other"] []
  f_raw_changes : FunV K "raw_changes" "raw_changes" s_raw_changes t.a_raw_changes t.fd_raw_changes t.cd_raw_changes
  g_raw_changes : mg "raw_changes" = some (.ref t.a_raw_changes)
  b_raw_changes : Binds K t.fd_raw_changes ["order", "p"] []
  f_changes : FunV K "changes" "changes" s_changes t.a_changes t.fd_changes t.cd_changes
  g_changes : mg "changes" = some (.ref t.a_changes)
  b_changes : Binds K t.fd_changes ["order", "p"] []
  f__law_hand : FunV K "_law_hand" "_law_hand" s__law_hand t.a__law_hand t.fd__law_hand t.cd__law_hand
  g__law_hand : mg "_law_hand" = some (.ref t.a__law_hand)
  b__law_hand : Binds K t.fd__law_hand ["script"] []
  f__law_draw : FunV K "_law_draw" "_law_draw" s__law_draw t.a__law_draw t.fd__law_draw t.cd__law_draw
  g__law_draw : mg "_law_draw" = some (.ref t.a__law_draw)
  b__law_draw : Binds K t.fd__law_draw ["hand", "many"] []
  f__law_any : FunV K "_law_any" "_law_any" s__law_any t.a__law_any t.fd__law_any t.cd__law_any
  g__law_any : mg "_law_any" = some (.ref t.a__law_any)
  b__law_any : Binds K t.fd__law_any ["hand", "some"] []
  f__law_order : FunV K "_law_order" "_law_order" s__law_order t.a__law_order t.fd__law_order t.cd__law_order
  g__law_order : mg "_law_order" = some (.ref t.a__law_order)
  b__law_order : Binds K t.fd__law_order ["hand", "most"] []
  f__law_passes : FunV K "_law_passes" "_law_passes" s__law_passes t.a__law_passes t.fd__law_passes t.cd__law_passes
  g__law_passes : mg "_law_passes" = some (.ref t.a__law_passes)
  b__law_passes : Binds K t.fd__law_passes ["order", "p"] []
  f__law_no_order : FunV K "_law_no_order" "_law_no_order" s__law_no_order t.a__law_no_order t.fd__law_no_order t.cd__law_no_order
  g__law_no_order : mg "_law_no_order" = some (.ref t.a__law_no_order)
  b__law_no_order : Binds K t.fd__law_no_order ["hand"] []
  f__law_word : FunV K "_law_word" "_law_word" s__law_word t.a__law_word t.fd__law_word t.cd__law_word
  g__law_word : mg "_law_word" = some (.ref t.a__law_word)
  b__law_word : Binds K t.fd__law_word ["call"] []
  f_law : FunV K "law" "law" s_law t.a_law t.fd_law t.cd_law
  g_law : mg "law" = some (.ref t.a_law)
  b_law : Binds K t.fd_law ["script"] []
  d_law : t.cd_law = .ref t.cc_law
  m_abs : mg "abs" = none
  m_all : mg "all" = none
  m_bool : mg "bool" = none
  m_int : mg "int" = none
  m_isinstance : mg "isinstance" = none
  m_len : mg "len" = none
  m_max : mg "max" = none
  m_range : mg "range" = none
  m_sum : mg "sum" = none
  m_tuple : mg "tuple" = none
  m_zip : mg "zip" = none
  g_MOST_ORDER : RelV (.int 24) t.k_MOST_ORDER ∧ mg "MOST_ORDER" = some t.k_MOST_ORDER
  g_MOST_COLOUR : RelV (.int 5) t.k_MOST_COLOUR ∧ mg "MOST_COLOUR" = some t.k_MOST_COLOUR
  g_MOST_AT_ONCE : RelV (.int 8) t.k_MOST_AT_ONCE ∧ mg "MOST_AT_ONCE" = some t.k_MOST_AT_ONCE
  g_NoCount : mg "NoCount" = some (.ref t.c_NoCount)
  g_NoCounts : mg "NoCounts" = some (.ref t.c_NoCounts)
  g_NoLength : mg "NoLength" = some (.ref t.c_NoLength)
  g_NoOrder : mg "NoOrder" = some (.ref t.c_NoOrder)
  g_NoPeg : mg "NoPeg" = some (.ref t.c_NoPeg)
  g_NoPlaces : mg "NoPlaces" = some (.ref t.c_NoPlaces)
  g_NoWay : mg "NoWay" = some (.ref t.c_NoWay)
  g_Same : mg "Same" = some (.ref t.c_Same)
  q_NoOrder : PySem.W.excIn K t.c_NoOrder [.type "ValueError", .type "Exception", .type "BaseException", .type "object"] "ValueError.__new__" = true
  k_NoOrder : PySem.W.keepIn K (.ref t.c_NoOrder) = true
  e_NoOrder : PySem.W.subIn K (.ref t.c_NoOrder) (.type "BaseException") = some true
  y_NoOrder : PySem.W.typeIn K (.ref t.c_NoOrder) = some (.type "type")
  q_NoCount : PySem.W.excIn K t.c_NoCount [.type "ValueError", .type "Exception", .type "BaseException", .type "object"] "ValueError.__new__" = true
  k_NoCount : PySem.W.keepIn K (.ref t.c_NoCount) = true
  e_NoCount : PySem.W.subIn K (.ref t.c_NoCount) (.type "BaseException") = some true
  y_NoCount : PySem.W.typeIn K (.ref t.c_NoCount) = some (.type "type")
  x_TM : XfC K t.c_TooMany
  n_TM : PySem.W.findIn K (.ref t.c_TooMany) "most" = some none
  W : WordF K mg t.c_TooMany t.c_LoomError [("NoCount", t.c_NoCount, "count"), ("NoCounts", t.c_NoCounts, "counts"), ("NoLength", t.c_NoLength, "length"), ("NoOrder", t.c_NoOrder, "order"), ("NoPeg", t.c_NoPeg, "peg"), ("NoPlaces", t.c_NoPlaces, "places"), ("NoWay", t.c_NoWay, "way"), ("Same", t.c_Same, "same")]
  X_NoCount : ExcC K t.c_NoCount
  K_NoCount_NoCount : PySem.W.kitOne K (.ref t.c_NoCount) (.ref t.c_NoCount) = some true
  K_NoCount_NoCounts : PySem.W.kitOne K (.ref t.c_NoCount) (.ref t.c_NoCounts) = some false
  K_NoCount_NoLength : PySem.W.kitOne K (.ref t.c_NoCount) (.ref t.c_NoLength) = some false
  K_NoCount_NoOrder : PySem.W.kitOne K (.ref t.c_NoCount) (.ref t.c_NoOrder) = some false
  K_NoCount_NoPeg : PySem.W.kitOne K (.ref t.c_NoCount) (.ref t.c_NoPeg) = some false
  K_NoCount_NoPlaces : PySem.W.kitOne K (.ref t.c_NoCount) (.ref t.c_NoPlaces) = some false
  K_NoCount_NoWay : PySem.W.kitOne K (.ref t.c_NoCount) (.ref t.c_NoWay) = some false
  K_NoCount_Same : PySem.W.kitOne K (.ref t.c_NoCount) (.ref t.c_Same) = some false
  X_NoCounts : ExcC K t.c_NoCounts
  K_NoCounts_NoCount : PySem.W.kitOne K (.ref t.c_NoCounts) (.ref t.c_NoCount) = some false
  K_NoCounts_NoCounts : PySem.W.kitOne K (.ref t.c_NoCounts) (.ref t.c_NoCounts) = some true
  K_NoCounts_NoLength : PySem.W.kitOne K (.ref t.c_NoCounts) (.ref t.c_NoLength) = some false
  K_NoCounts_NoOrder : PySem.W.kitOne K (.ref t.c_NoCounts) (.ref t.c_NoOrder) = some false
  K_NoCounts_NoPeg : PySem.W.kitOne K (.ref t.c_NoCounts) (.ref t.c_NoPeg) = some false
  K_NoCounts_NoPlaces : PySem.W.kitOne K (.ref t.c_NoCounts) (.ref t.c_NoPlaces) = some false
  K_NoCounts_NoWay : PySem.W.kitOne K (.ref t.c_NoCounts) (.ref t.c_NoWay) = some false
  K_NoCounts_Same : PySem.W.kitOne K (.ref t.c_NoCounts) (.ref t.c_Same) = some false
  X_NoLength : ExcC K t.c_NoLength
  K_NoLength_NoCount : PySem.W.kitOne K (.ref t.c_NoLength) (.ref t.c_NoCount) = some false
  K_NoLength_NoCounts : PySem.W.kitOne K (.ref t.c_NoLength) (.ref t.c_NoCounts) = some false
  K_NoLength_NoLength : PySem.W.kitOne K (.ref t.c_NoLength) (.ref t.c_NoLength) = some true
  K_NoLength_NoOrder : PySem.W.kitOne K (.ref t.c_NoLength) (.ref t.c_NoOrder) = some false
  K_NoLength_NoPeg : PySem.W.kitOne K (.ref t.c_NoLength) (.ref t.c_NoPeg) = some false
  K_NoLength_NoPlaces : PySem.W.kitOne K (.ref t.c_NoLength) (.ref t.c_NoPlaces) = some false
  K_NoLength_NoWay : PySem.W.kitOne K (.ref t.c_NoLength) (.ref t.c_NoWay) = some false
  K_NoLength_Same : PySem.W.kitOne K (.ref t.c_NoLength) (.ref t.c_Same) = some false
  X_NoOrder : ExcC K t.c_NoOrder
  K_NoOrder_NoCount : PySem.W.kitOne K (.ref t.c_NoOrder) (.ref t.c_NoCount) = some false
  K_NoOrder_NoCounts : PySem.W.kitOne K (.ref t.c_NoOrder) (.ref t.c_NoCounts) = some false
  K_NoOrder_NoLength : PySem.W.kitOne K (.ref t.c_NoOrder) (.ref t.c_NoLength) = some false
  K_NoOrder_NoOrder : PySem.W.kitOne K (.ref t.c_NoOrder) (.ref t.c_NoOrder) = some true
  K_NoOrder_NoPeg : PySem.W.kitOne K (.ref t.c_NoOrder) (.ref t.c_NoPeg) = some false
  K_NoOrder_NoPlaces : PySem.W.kitOne K (.ref t.c_NoOrder) (.ref t.c_NoPlaces) = some false
  K_NoOrder_NoWay : PySem.W.kitOne K (.ref t.c_NoOrder) (.ref t.c_NoWay) = some false
  K_NoOrder_Same : PySem.W.kitOne K (.ref t.c_NoOrder) (.ref t.c_Same) = some false
  X_NoPeg : ExcC K t.c_NoPeg
  K_NoPeg_NoCount : PySem.W.kitOne K (.ref t.c_NoPeg) (.ref t.c_NoCount) = some false
  K_NoPeg_NoCounts : PySem.W.kitOne K (.ref t.c_NoPeg) (.ref t.c_NoCounts) = some false
  K_NoPeg_NoLength : PySem.W.kitOne K (.ref t.c_NoPeg) (.ref t.c_NoLength) = some false
  K_NoPeg_NoOrder : PySem.W.kitOne K (.ref t.c_NoPeg) (.ref t.c_NoOrder) = some false
  K_NoPeg_NoPeg : PySem.W.kitOne K (.ref t.c_NoPeg) (.ref t.c_NoPeg) = some true
  K_NoPeg_NoPlaces : PySem.W.kitOne K (.ref t.c_NoPeg) (.ref t.c_NoPlaces) = some false
  K_NoPeg_NoWay : PySem.W.kitOne K (.ref t.c_NoPeg) (.ref t.c_NoWay) = some false
  K_NoPeg_Same : PySem.W.kitOne K (.ref t.c_NoPeg) (.ref t.c_Same) = some false
  X_NoPlaces : ExcC K t.c_NoPlaces
  K_NoPlaces_NoCount : PySem.W.kitOne K (.ref t.c_NoPlaces) (.ref t.c_NoCount) = some false
  K_NoPlaces_NoCounts : PySem.W.kitOne K (.ref t.c_NoPlaces) (.ref t.c_NoCounts) = some false
  K_NoPlaces_NoLength : PySem.W.kitOne K (.ref t.c_NoPlaces) (.ref t.c_NoLength) = some false
  K_NoPlaces_NoOrder : PySem.W.kitOne K (.ref t.c_NoPlaces) (.ref t.c_NoOrder) = some false
  K_NoPlaces_NoPeg : PySem.W.kitOne K (.ref t.c_NoPlaces) (.ref t.c_NoPeg) = some false
  K_NoPlaces_NoPlaces : PySem.W.kitOne K (.ref t.c_NoPlaces) (.ref t.c_NoPlaces) = some true
  K_NoPlaces_NoWay : PySem.W.kitOne K (.ref t.c_NoPlaces) (.ref t.c_NoWay) = some false
  K_NoPlaces_Same : PySem.W.kitOne K (.ref t.c_NoPlaces) (.ref t.c_Same) = some false
  X_NoWay : ExcC K t.c_NoWay
  K_NoWay_NoCount : PySem.W.kitOne K (.ref t.c_NoWay) (.ref t.c_NoCount) = some false
  K_NoWay_NoCounts : PySem.W.kitOne K (.ref t.c_NoWay) (.ref t.c_NoCounts) = some false
  K_NoWay_NoLength : PySem.W.kitOne K (.ref t.c_NoWay) (.ref t.c_NoLength) = some false
  K_NoWay_NoOrder : PySem.W.kitOne K (.ref t.c_NoWay) (.ref t.c_NoOrder) = some false
  K_NoWay_NoPeg : PySem.W.kitOne K (.ref t.c_NoWay) (.ref t.c_NoPeg) = some false
  K_NoWay_NoPlaces : PySem.W.kitOne K (.ref t.c_NoWay) (.ref t.c_NoPlaces) = some false
  K_NoWay_NoWay : PySem.W.kitOne K (.ref t.c_NoWay) (.ref t.c_NoWay) = some true
  K_NoWay_Same : PySem.W.kitOne K (.ref t.c_NoWay) (.ref t.c_Same) = some false
  X_Same : ExcC K t.c_Same
  K_Same_NoCount : PySem.W.kitOne K (.ref t.c_Same) (.ref t.c_NoCount) = some false
  K_Same_NoCounts : PySem.W.kitOne K (.ref t.c_Same) (.ref t.c_NoCounts) = some false
  K_Same_NoLength : PySem.W.kitOne K (.ref t.c_Same) (.ref t.c_NoLength) = some false
  K_Same_NoOrder : PySem.W.kitOne K (.ref t.c_Same) (.ref t.c_NoOrder) = some false
  K_Same_NoPeg : PySem.W.kitOne K (.ref t.c_Same) (.ref t.c_NoPeg) = some false
  K_Same_NoPlaces : PySem.W.kitOne K (.ref t.c_Same) (.ref t.c_NoPlaces) = some false
  K_Same_NoWay : PySem.W.kitOne K (.ref t.c_Same) (.ref t.c_NoWay) = some false
  K_Same_Same : PySem.W.kitOne K (.ref t.c_Same) (.ref t.c_Same) = some true
def T0 (t : TxD) : List (Addr × Str) := [(t.P_law, ("law" : Str) ++ ".<locals>." ++ "<lambda>")]
variable {P : Program} {w : World} {K : PySem.W.Frag} {mg : Str → Option Value} {base : Heap} {t : TxD}
/-! ### the walk -/
theorem hu2 {A B : Around} {k : Nat} (hr : Room k A) (h : B.units = A.units + 3 := by rfl) : B.units + 65 < cLine := by have := hr.un; omega
theorem hu1 {A B : Around} {k : Nat} (hr : Room k A) (h : B.units = A.units + 3 := by rfl) : B.units + 64 < cLine := by have := hr.un; omega
def m_rest : FS := seqS (asgS 4 (lstM (consM (conM (.str "count")) (consM (conM (.str "counts")) (consM (conM (.str "length")) (consM (conM (.str "order")) (consM (conM (.str "peg")) (consM (conM (.str "places")) (consM (conM (.str "way")) (consM (conM (.str "same")) nilM))))))))))
  (asgS 1 (ifM (boolM (binM eqD (mtM isSq cntA (varM 3) (conM (.bool true))) (conM (.int 1)))) (binM ixD (varM 4) (mtM isSq idxA (varM 3) (conM (.bool true)))) (conM (.str "other"))))
def suiteB : List Stmt := match (defBody s__law_word)[1]? with | some (PySem.Stmt.Try _ hs _ _ _) => (match hs[1]? with | some (ExceptHandler.ExceptHandler _ _ b _) => b | _ => []) | _ => []
theorem suite {X : Cx} {s : Shared} {H : Hp} {a g C : Addr} {cdg : Value} {oe : Obj} {pn : List (Addr × Obj)} {w : Str} {k : Nat} (hK : X.K = K) (hM : X.mg = mg) (T : Txt K mg t) (hr : Room k X.A) (TX : ExcC K C) (hz : Zc (.ref C) none oe) (hf : ∃ vs, oe.data = .fields vs) {b0 b1 b2 b3 b4 b5 b6 b7 : Bool}
    (k0 : PySem.W.kitOne K (.ref C) (.ref t.c_NoCount) = some b0) (k1 : PySem.W.kitOne K (.ref C) (.ref t.c_NoCounts) = some b1) (k2 : PySem.W.kitOne K (.ref C) (.ref t.c_NoLength) = some b2) (k3 : PySem.W.kitOne K (.ref C) (.ref t.c_NoOrder) = some b3) (k4 : PySem.W.kitOne K (.ref C) (.ref t.c_NoPeg) = some b4) (k5 : PySem.W.kitOne K (.ref C) (.ref t.c_NoPlaces) = some b5) (k6 : PySem.W.kitOne K (.ref C) (.ref t.c_NoWay) = some b6) (k7 : PySem.W.kitOne K (.ref C) (.ref t.c_Same) = some b7) (hw : tellsW 5 ([b0, b1, b2, b3] ++ [b4, b5, b6, b7]) m_rest w) :
    PSs ((cxOf C8.CX0 X.prog X.w X.K X.mg X.base ["call", "word", "e", "flags", "names"] "_law_word" (defScope s__law_word) g cdg X.A X.stack s H C8.E0).nox.suite a ((a, oe) :: pn)) suiteB (tSu (T0 t) a 5 w) := by
  subst hK hM
  exact su_2 (ps_fl (i := 2) (j := 3) (bs := [b0, b1, b2, b3]) (fun te hp => ps_set (i := 3) sc__law_word.nd rfl (.inl rfl) hp) (pab_cons (pe_isE (A := t.c_NoCount) (b := b0) TX hz hf rfl (.inl rfl) rfl T.m_isinstance rfl T.g_NoCount k0) (pab_cons (pe_isE (A := t.c_NoCounts) (b := b1) TX hz hf rfl (.inl rfl) rfl T.m_isinstance rfl T.g_NoCounts k1) (pab_cons (pe_isE (A := t.c_NoLength) (b := b2) TX hz hf rfl (.inl rfl) rfl T.m_isinstance rfl T.g_NoLength k2) (pab_cons (pe_isE (A := t.c_NoOrder) (b := b3) TX hz hf rfl (.inl rfl) rfl T.m_isinstance rfl T.g_NoOrder k3) pab_nil)))))
    (ps_fl2 (i := 2) (j := 3) (bs := [b0, b1, b2, b3]) (cs := [b4, b5, b6, b7]) (fun te hp => ps_set (i := 3) sc__law_word.nd rfl (.inl rfl) hp) (pv 3) (pab_cons (pe_isE (A := t.c_NoPeg) (b := b4) TX hz hf rfl (.inl rfl) rfl T.m_isinstance rfl T.g_NoPeg k4) (pab_cons (pe_isE (A := t.c_NoPlaces) (b := b5) TX hz hf rfl (.inl rfl) rfl T.m_isinstance rfl T.g_NoPlaces k5) (pab_cons (pe_isE (A := t.c_NoWay) (b := b6) TX hz hf rfl (.inl rfl) rfl T.m_isinstance rfl T.g_NoWay k6) (pab_cons (pe_isE (A := t.c_Same) (b := b7) TX hz hf rfl (.inl rfl) rfl T.m_isinstance rfl T.g_Same k7) pab_nil))))) ((dss_cons (ω1 := []) (ds_set (ω' := []) (fun te hp => ps_set (i := 4) sc__law_word.nd rfl (.inl rfl) hp) (de_lst (an_cons de_str (an_cons de_str (an_cons de_str (an_cons de_str (an_cons de_str (an_cons de_str (an_cons de_str (an_cons de_str an_nil))))))))))
  (dss_one (ds_set (ω' := []) (fun te hp => ps_set (i := 1) sc__law_word.nd rfl (.inl rfl) hp) (de_if (dt_eq (hu1 hr) (de_cntA (hu2 hr) (de_var (pv 3)) de_bool) de_int) (de_ix (de_var (pv 4)) (de_idxA (hu2 hr) (de_var (pv 3)) de_bool)) de_str))))) hw
theorem gives {X : Cx} {k : Nat} {q : Str} (hK : X.K = K) (hM : X.mg = mg) (T : Txt K mg t) (hr : Room k X.A) : LamX.GivesTo X ["call", "word", "e", "flags", "names"] "_law_word" (defScope s__law_word) t.a__law_word t.cd__law_word (defBody s__law_word) "call" q (TTw X.K X.mg (T0 t) wf) := by
  subst hK hM
  refine word_gives (m := 4) (tab := [("NoCount", t.c_NoCount, "count"), ("NoCounts", t.c_NoCounts, "counts"), ("NoLength", t.c_NoLength, "length"), ("NoOrder", t.c_NoOrder, "order"), ("NoPeg", t.c_NoPeg, "peg"), ("NoPlaces", t.c_NoPlaces, "places"), ("NoWay", t.c_NoWay, "way"), ("Same", t.c_Same, "same")]) T.W sc__law_word.nd rfl rfl rfl rfl rfl rfl rfl rfl (fun s H a oe cls d pn hz hf => ps_most T.x_TM T.n_TM hz hf rfl (.inl rfl) (fun te hp => ps_set (i := 1) sc__law_word.nd rfl (.inl rfl) hp)) (fun s H a oe C w pn hm hz hf => ?_)
  rcases List.mem_cons.mp hm with e | hm
  · cases e
    exact suite rfl rfl T hr T.X_NoCount hz hf T.K_NoCount_NoCount T.K_NoCount_NoCounts T.K_NoCount_NoLength T.K_NoCount_NoOrder T.K_NoCount_NoPeg T.K_NoCount_NoPlaces T.K_NoCount_NoWay T.K_NoCount_Same ⟨_, rfl, rfl⟩
  rcases List.mem_cons.mp hm with e | hm
  · cases e
    exact suite rfl rfl T hr T.X_NoCounts hz hf T.K_NoCounts_NoCount T.K_NoCounts_NoCounts T.K_NoCounts_NoLength T.K_NoCounts_NoOrder T.K_NoCounts_NoPeg T.K_NoCounts_NoPlaces T.K_NoCounts_NoWay T.K_NoCounts_Same ⟨_, rfl, rfl⟩
  rcases List.mem_cons.mp hm with e | hm
  · cases e
    exact suite rfl rfl T hr T.X_NoLength hz hf T.K_NoLength_NoCount T.K_NoLength_NoCounts T.K_NoLength_NoLength T.K_NoLength_NoOrder T.K_NoLength_NoPeg T.K_NoLength_NoPlaces T.K_NoLength_NoWay T.K_NoLength_Same ⟨_, rfl, rfl⟩
  rcases List.mem_cons.mp hm with e | hm
  · cases e
    exact suite rfl rfl T hr T.X_NoOrder hz hf T.K_NoOrder_NoCount T.K_NoOrder_NoCounts T.K_NoOrder_NoLength T.K_NoOrder_NoOrder T.K_NoOrder_NoPeg T.K_NoOrder_NoPlaces T.K_NoOrder_NoWay T.K_NoOrder_Same ⟨_, rfl, rfl⟩
  rcases List.mem_cons.mp hm with e | hm
  · cases e
    exact suite rfl rfl T hr T.X_NoPeg hz hf T.K_NoPeg_NoCount T.K_NoPeg_NoCounts T.K_NoPeg_NoLength T.K_NoPeg_NoOrder T.K_NoPeg_NoPeg T.K_NoPeg_NoPlaces T.K_NoPeg_NoWay T.K_NoPeg_Same ⟨_, rfl, rfl⟩
  rcases List.mem_cons.mp hm with e | hm
  · cases e
    exact suite rfl rfl T hr T.X_NoPlaces hz hf T.K_NoPlaces_NoCount T.K_NoPlaces_NoCounts T.K_NoPlaces_NoLength T.K_NoPlaces_NoOrder T.K_NoPlaces_NoPeg T.K_NoPlaces_NoPlaces T.K_NoPlaces_NoWay T.K_NoPlaces_Same ⟨_, rfl, rfl⟩
  rcases List.mem_cons.mp hm with e | hm
  · cases e
    exact suite rfl rfl T hr T.X_NoWay hz hf T.K_NoWay_NoCount T.K_NoWay_NoCounts T.K_NoWay_NoLength T.K_NoWay_NoOrder T.K_NoWay_NoPeg T.K_NoWay_NoPlaces T.K_NoWay_NoWay T.K_NoWay_Same ⟨_, rfl, rfl⟩
  rcases List.mem_cons.mp hm with e | hm
  · cases e
    exact suite rfl rfl T hr T.X_Same hz hf T.K_Same_NoCount T.K_Same_NoCounts T.K_Same_NoLength T.K_Same_NoOrder T.K_Same_NoPeg T.K_Same_NoPlaces T.K_Same_NoWay T.K_Same_Same ⟨_, rfl, rfl⟩
  cases hm
theorem word_law {X : Cx} {k : Nat} {params : Arguments} {body : Expr} {scope : Scope} {p lpos pos : Pos} {fb : FE} {ix : Option Nat} {ω : List Nat} {E : XK} (hK : X.K = K) (hM : X.mg = mg) (hB : X.base = base) (hq : X.env.qual = ("law" : Str) ++ ".<locals>.") (hcode : X.env.code = .ref t.cc_law) (hg : Gl X "_law_word") (T : Txt K mg t) (TB : LamX.TabB base mg t.cc_law t.P_law)
    (hr : Room (k + 2) X.A) (L : LamX.LamS X.env.scope scope) (hdef : defaultsOf params X.env = ([], []))
    (hbind : ∀ (q : Str) (cl : List (Str × Addr)) (pm cv ctv : Value), bindArgs (PySem.W.kla_fn "<lambda>" q params body scope cl pm cv ctv) ⟨[], []⟩ = pure [])
    (hbody : ∀ (A' : Around) (outer' : List Env) (s' : Shared) (H' : Hp) (E' : XK) (f' c' : Addr), Room k (A'.deeper (LamX.lamEnv X scope s'.heap.objs.size f' c')) → DE (LamX.lamCx X A' outer' s' H' E' scope f' c') ⟨ix, T0 t⟩ [] E' body fb) :
    DE X ⟨ix, T0 t⟩ ω E (.Call (.Name "_law_word" p) [.Lambda params body scope lpos] [] pos) (wordM ω wf fb) := by
  subst hK hM hB
  obtain ⟨oc, od, kV, doc, pm, an, ct, osl, he, lk, hcd⟩ := T.f__law_word.ex
  rw [he] at lk
  have hb := T.b__law_word
  rw [he] at hb
  have hG := gives (q := X.env.qual ++ "<lambda>") rfl rfl T hr
  refine de_word (hs := ⟨ix, T0 t⟩) hg T.g__law_word T.f__law_word.kp lk hcd hb sc__law_word rfl (.inl rfl) hG TB hcode ?_ ?_ hr L hdef hbind hbody
  · rw [hq]
    exact .head _
  · intro p hp e
    rw [hq]
    cases hp with
    | head => rfl
    | tail _ h => cases h
theorem ok_is_integer (T : Txt K mg t)  : FnOk P w K mg base (L2.CX P w) 1 t.a_is_integer t.fd_is_integer ["thing"] (spP K mg (T0 t) 1 F_is_integer) := fnP (k := 0) (ω' := []) (T := T0 t) T.f_is_integer sc_is_integer rfl fun A outer s H E hr =>
  (dss_one (ds_ret (de_and (de_isi kit_int rfl T.m_isinstance (pe_bltn (v := .ty "int") rfl T.m_int (by decide +kernel) rfl) (dq_of (de_var (pv 0)))) (de_one (de_not (de_isi kit_bool rfl T.m_isinstance (pe_bltn (v := .ty "bool") rfl T.m_bool (by decide +kernel) rfl) (dq_of (de_var (pv 0)))))))))
theorem ok_is_within (T : Txt K mg t)  : FnOk P w K mg base (L2.CX P w) 2 t.a_is_within t.fd_is_within ["thing", "low", "high"] (spP K mg (T0 t) 3 F_is_within) := fnP (k := 1) (ω' := []) (T := T0 t) T.f_is_within sc_is_within rfl fun A outer s H E hr =>
  (dss_one (ds_ret (de_and (de_callP (ok_is_integer T) (hr.mono (by decide)) rfl T.g_is_integer T.f_is_integer.kp T.b_is_integer psE (an_cons (de_var (pv 0)) an_nil)) (de_one (de_leLe (de_var (pv 1)) (de_var (pv 0)) (de_var (pv 2)))))))
theorem ok_is_sized (T : Txt K mg t)  : FnOk P w K mg base (L2.CX P w) 1 t.a_is_sized t.fd_is_sized ["thing", "low", "high"] (spP K mg (T0 t) 3 F_is_sized) := fnP (k := 0) (ω' := []) (T := T0 t) T.f_is_sized sc_is_sized rfl fun A outer s H E hr =>
  (dss_one (ds_ret (de_and (de_isi kit_tuple rfl T.m_isinstance (pe_bltn (v := .ty "tuple") rfl T.m_tuple (by decide +kernel) rfl) (dq_of (de_var (pv 0)))) (de_one (de_leLe (de_var (pv 1)) (q_len T.m_len (dq_of (de_var (pv 0)))) (de_var (pv 2)))))))
theorem ok_is_order (T : Txt K mg t)  : FnOk P w K mg base (L2.CX P w) 3 t.a_is_order t.fd_is_order ["thing"] (spP K mg (T0 t) 1 F_is_order) := fnP (k := 2) (ω' := []) (T := T0 t) T.f_is_order sc_is_order rfl fun A outer s H E hr =>
  (dss_one (ds_ret (de_and (de_callP (ok_is_sized T) (hr.mono (by decide)) rfl T.g_is_sized T.f_is_sized.kp T.b_is_sized psE (an_cons (de_var (pv 0)) (an_cons de_int (an_cons (de_glob (v := .int 24) (d := .int 24) rfl T.g_MOST_ORDER.2 T.g_MOST_ORDER.1 fun _ => .int _) an_nil)))) (de_one (q_all rfl T.m_all (dq_of (de_of_dl (dl_comp (own := [("colour", 1)]) (vs := [1]) rfl sc_is_order.nd (di_seq (de_var (pv 0))) (blkOk_by (N := ["thing", "colour"]) (sc := (defScope s_is_order)) (by decide +kernel)) rfl (fun _ _ _ _ _ => (dg_name (pg_name (i := 1) sc_is_order.nd rfl (.inl rfl)))) (fun _ _ _ _ _ => dts_nil) fun _ _ _ _ _ => (de_callP (ok_is_within T) (hr.mono (by decide)) rfl T.g_is_within T.f_is_within.kp T.b_is_within passL (an_cons (de_var (pv 1)) (an_cons de_int (an_cons (de_glob (v := .int 5) (d := .int 5) rfl T.g_MOST_COLOUR.2 T.g_MOST_COLOUR.1 fun _ => .int _) an_nil))))))))))))
theorem ok_check_order (T : Txt K mg t)  : FnOk P w K mg base (L2.CX P w) 4 t.a_check_order t.fd_check_order ["thing"] (spP K mg (T0 t) 1 F_check_order) := fnP (k := 3) (ω' := []) (T := T0 t) T.f_check_order sc_check_order rfl fun A outer s H E hr =>
  (dss_one (ds_if (dt_not (dt_tru (dq_of (de_callP (ok_is_order T) (hr.mono (by decide)) rfl T.g_is_order T.f_is_order.kp T.b_is_order psE (an_cons (de_var (pv 0)) an_nil)))))
  (dss_one (ds_raise0 rfl tkE T.g_NoOrder (pmk_own0 PySem.F.excBase_ValueError T.q_NoOrder T.g_NoOrder T.k_NoOrder (raises_own T.e_NoOrder T.y_NoOrder) rfl)))
  dss_nil))
theorem ok_check_at_once (T : Txt K mg t)  : FnOk P w K mg base (L2.CX P w) 5 t.a_check_at_once t.fd_check_at_once ["order", "p"] (spP K mg (T0 t) 2 F_check_at_once) := fnP (k := 4) (ω' := []) (T := T0 t) T.f_check_at_once sc_check_at_once rfl fun A outer s H E hr =>
  (dss_cons (ω1 := []) (ds_expr (de_callP (ok_check_order T) (hr.mono (by decide)) rfl T.g_check_order T.f_check_order.kp T.b_check_order psE (an_cons (de_var (pv 0)) an_nil)))
  (dss_one (ds_if (dt_not (dt_tru (dq_of (de_callP (ok_is_within T) (hr.mono (by decide)) rfl T.g_is_within T.f_is_within.kp T.b_is_within psE (an_cons (de_var (pv 1)) (an_cons de_int (an_cons (de_glob (v := .int 8) (d := .int 8) rfl T.g_MOST_AT_ONCE.2 T.g_MOST_AT_ONCE.1 fun _ => .int _) an_nil)))))))
  (dss_one (ds_raise0 rfl tkE T.g_NoCount (pmk_own0 PySem.F.excBase_ValueError T.q_NoCount T.g_NoCount T.k_NoCount (raises_own T.e_NoCount T.y_NoCount) rfl)))
  dss_nil)))
theorem ok_raw_passes (T : Txt K mg t)  : FnOk P w K mg base (L2.CX P w) 1 t.a_raw_passes t.fd_raw_passes ["order", "p"] (spP K mg (T0 t) 2 F_raw_passes) := fnP (k := 0) (ω' := []) (T := T0 t) T.f_raw_passes sc_raw_passes rfl fun A outer s H E hr =>
  (dss_one (ds_ret (de_of_dl (dl_comp (own := [("at", 2)]) (vs := [2]) rfl sc_raw_passes.nd (di_range3 rfl T.m_range de_int (q_len T.m_len (dq_of (de_var (pv 0)))) (de_var (pv 1))) (blkOk_by (N := ["order", "p", "at"]) (sc := (defScope s_raw_passes)) (by decide +kernel)) rfl (fun _ _ _ _ _ => (dg_name (pg_name (i := 2) sc_raw_passes.nd rfl (.inl rfl)))) (fun _ _ _ _ _ => dts_nil) fun _ _ _ _ _ => (de_sl (de_var (pv 0)) (do_some (de_var (pv 2))) (do_some (de_add (de_var (pv 2)) (de_var (pv 1)))))))))
theorem ok_passes (T : Txt K mg t)  : FnOk P w K mg base (L2.CX P w) 6 t.a_passes t.fd_passes ["order", "p"] (spP K mg (T0 t) 2 F_passes) := fnP (k := 5) (ω' := []) (T := T0 t) T.f_passes sc_passes rfl fun A outer s H E hr =>
  (dss_cons (ω1 := []) (ds_expr (de_callP (ok_check_at_once T) (hr.mono (by decide)) rfl T.g_check_at_once T.f_check_at_once.kp T.b_check_at_once psE (an_cons (de_var (pv 0)) (an_cons (de_var (pv 1)) an_nil))))
  (dss_one (ds_ret (q_tuple T.m_tuple (dq_of (de_callP (ok_raw_passes T) (hr.mono (by decide)) rfl T.g_raw_passes T.f_raw_passes.kp T.b_raw_passes psE (an_cons (de_var (pv 0)) (an_cons (de_var (pv 1)) an_nil))))))))
theorem ok_raw_cones (T : Txt K mg t)  : FnOk P w K mg base (L2.CX P w) 2 t.a_raw_cones t.fd_raw_cones ["order", "p"] (spP K mg (T0 t) 2 F_raw_cones) := fnP (k := 1) (ω' := []) (T := T0 t) T.f_raw_cones sc_raw_cones rfl fun A outer s H E hr =>
  (dss_cons (ω1 := []) (ds_set (ω' := []) (fun te hp => ps_set (i := 2) sc_raw_cones.nd rfl (.inr rfl) hp) (de_callP (ok_raw_passes T) (hr.mono (by decide)) rfl T.g_raw_passes T.f_raw_passes.kp T.b_raw_passes psE (an_cons (de_var (pv 0)) (an_cons (de_var (pv 1)) an_nil))))
  (dss_one (ds_ret (de_of_dl (dl_comp (own := [("colour", 3)]) (vs := [3]) rfl sc_raw_cones.nd (di_range1 rfl T.m_range (de_add (de_glob (v := .int 5) (d := .int 5) rfl T.g_MOST_COLOUR.2 T.g_MOST_COLOUR.1 fun _ => .int _) de_int)) (blkOk_by (N := ["order", "p", "some", "colour", "here"]) (sc := (defScope s_raw_cones)) (by decide +kernel)) rfl (fun _ _ _ _ _ => (dg_name (pg_name (i := 3) sc_raw_cones.nd rfl (.inr rfl)))) (fun _ _ _ _ _ => dts_nil) fun _ _ _ _ _ => (q_max rfl (u65 hr) T.m_max (dq_of (de_of_dl (dl_comp (own := [("here", 4)]) (vs := [4]) rfl sc_raw_cones.nd (di_seq (de_var (pv 2))) (blkOk_by (by kernel_rfl)) rfl (fun _ _ _ _ _ => (dg_name (pg_name (i := 4) sc_raw_cones.nd rfl (.inl rfl)))) (fun _ _ _ _ _ => dts_nil) fun _ _ _ _ _ => (de_cntA (u65 hr) (de_var (pv 4)) (de_var (pv 3))))))))))))
theorem ok_cones_at (T : Txt K mg t)  : FnOk P w K mg base (L2.CX P w) 6 t.a_cones_at t.fd_cones_at ["order", "p"] (spP K mg (T0 t) 2 F_cones_at) := fnP (k := 5) (ω' := []) (T := T0 t) T.f_cones_at sc_cones_at rfl fun A outer s H E hr =>
  (dss_cons (ω1 := []) (ds_expr (de_callP (ok_check_at_once T) (hr.mono (by decide)) rfl T.g_check_at_once T.f_check_at_once.kp T.b_check_at_once psE (an_cons (de_var (pv 0)) (an_cons (de_var (pv 1)) an_nil))))
  (dss_one (ds_ret (q_tuple T.m_tuple (dq_of (de_callP (ok_raw_cones T) (hr.mono (by decide)) rfl T.g_raw_cones T.f_raw_cones.kp T.b_raw_cones psE (an_cons (de_var (pv 0)) (an_cons (de_var (pv 1)) an_nil))))))))
theorem ok_cone_count (T : Txt K mg t)  : FnOk P w K mg base (L2.CX P w) 6 t.a_cone_count t.fd_cone_count ["order", "p"] (spP K mg (T0 t) 2 F_cone_count) := fnP (k := 5) (ω' := []) (T := T0 t) T.f_cone_count sc_cone_count rfl fun A outer s H E hr =>
  (dss_cons (ω1 := []) (ds_expr (de_callP (ok_check_at_once T) (hr.mono (by decide)) rfl T.g_check_at_once T.f_check_at_once.kp T.b_check_at_once psE (an_cons (de_var (pv 0)) (an_cons (de_var (pv 1)) an_nil))))
  (dss_one (ds_ret (q_sum rfl T.m_sum (dq_of (de_callP (ok_raw_cones T) (hr.mono (by decide)) rfl T.g_raw_cones T.f_raw_cones.kp T.b_raw_cones psE (an_cons (de_var (pv 0)) (an_cons (de_var (pv 1)) an_nil))))))))
theorem ok_unlike_holes (T : Txt K mg t)  : FnOk P w K mg base (L2.CX P w) 1 t.a_unlike_holes t.fd_unlike_holes ["one", "other"] (spP K mg (T0 t) 2 F_unlike_holes) := fnP (k := 0) (ω' := []) (T := T0 t) T.f_unlike_holes sc_unlike_holes rfl fun A outer s H E hr =>
  (dss_one (ds_ret (q_len T.m_len (dq_of (de_of_dl (dl_comp (own := [("here", 2), ("there", 3)]) (vs := [2, 3]) rfl sc_unlike_holes.nd (di_zip rfl T.m_zip (de_var (pv 0)) (de_var (pv 1))) (blkOk_by (N := ["one", "other", "here", "there"]) (sc := (defScope s_unlike_holes)) (by decide +kernel)) rfl (fun _ _ _ _ _ => (dg_tup rfl (dgs_cons (dg_name (pg_name (i := 2) sc_unlike_holes.nd rfl (.inl rfl))) (dgs_cons (dg_name (pg_name (i := 3) sc_unlike_holes.nd rfl (.inl rfl))) dgs_nil)) rfl rfl (gs_len (gs_len gs_len0)))) (fun _ _ _ _ _ => (dts_one (dt_ne hr.units (de_var (pv 2)) (de_var (pv 3))))) fun _ _ _ _ _ => de_int))))))
theorem ok_raw_changes (T : Txt K mg t)  : FnOk P w K mg base (L2.CX P w) 2 t.a_raw_changes t.fd_raw_changes ["order", "p"] (spP K mg (T0 t) 2 F_raw_changes) := fnP (k := 1) (ω' := []) (T := T0 t) T.f_raw_changes sc_raw_changes rfl fun A outer s H E hr =>
  (dss_cons (ω1 := []) (ds_set (ω' := []) (fun te hp => ps_set (i := 2) sc_raw_changes.nd rfl (.inl rfl) hp) (de_callP (ok_raw_passes T) (hr.mono (by decide)) rfl T.g_raw_passes T.f_raw_passes.kp T.b_raw_passes psE (an_cons (de_var (pv 0)) (an_cons (de_var (pv 1)) an_nil))))
  (dss_one (ds_ret (q_sum rfl T.m_sum (dq_of (de_of_dl (dl_comp (own := [("one", 3), ("other", 4)]) (vs := [3, 4]) rfl sc_raw_changes.nd (di_zip rfl T.m_zip (de_var (pv 2)) (de_sl (de_var (pv 2)) (do_some de_int) do_none)) (blkOk_by (N := ["order", "p", "some", "one", "other"]) (sc := (defScope s_raw_changes)) (by decide +kernel)) rfl (fun _ _ _ _ _ => (dg_tup rfl (dgs_cons (dg_name (pg_name (i := 3) sc_raw_changes.nd rfl (.inl rfl))) (dgs_cons (dg_name (pg_name (i := 4) sc_raw_changes.nd rfl (.inl rfl))) dgs_nil)) rfl rfl (gs_len (gs_len gs_len0)))) (fun _ _ _ _ _ => dts_nil) fun _ _ _ _ _ => (de_callP (ok_unlike_holes T) (hr.mono (by decide)) rfl T.g_unlike_holes T.f_unlike_holes.kp T.b_unlike_holes passL (an_cons (de_var (pv 3)) (an_cons (de_var (pv 4)) an_nil))))))))))
theorem ok_changes (T : Txt K mg t)  : FnOk P w K mg base (L2.CX P w) 6 t.a_changes t.fd_changes ["order", "p"] (spP K mg (T0 t) 2 F_changes) := fnP (k := 5) (ω' := []) (T := T0 t) T.f_changes sc_changes rfl fun A outer s H E hr =>
  (dss_cons (ω1 := []) (ds_expr (de_callP (ok_check_at_once T) (hr.mono (by decide)) rfl T.g_check_at_once T.f_check_at_once.kp T.b_check_at_once psE (an_cons (de_var (pv 0)) (an_cons (de_var (pv 1)) an_nil))))
  (dss_one (ds_ret (de_callP (ok_raw_changes T) (hr.mono (by decide)) rfl T.g_raw_changes T.f_raw_changes.kp T.b_raw_changes psE (an_cons (de_var (pv 0)) (an_cons (de_var (pv 1)) an_nil))))))
theorem ok__law_draw (T : Txt K mg t)  : FnOk P w K mg base (L2.CX P w) 1 t.a__law_draw t.fd__law_draw ["hand", "many"] (spH K (T0 t) 2 F__law_draw) := fnH (k := 0) (ω' := []) (T := T0 t) T.f__law_draw sc__law_draw rfl fun A outer s H E hr =>
  (dss_cons (ω1 := []) (ds_if (dt_w (dw_and (dt_eq hr.units (de_hand (pv 0) rfl) de_int) (dw_and1 (dt_lt (de_hand (pv 0) rfl) (q_len T.m_len (dq_of (de_hand (pv 0) rfl)))))))
  (dss_cons (ω1 := []) (ds_set (ω' := []) (fun te hp => ps_set (i := 2) sc__law_draw.nd rfl (.inl rfl) hp) (de_ix (de_hand (pv 0) rfl) (de_hand (pv 0) rfl)))
  (dss_cons (ω1 := []) (ds_hand (pv 0) rfl (de_add (de_hand (pv 0) rfl) de_int))
  (dss_cons (ω1 := []) (ds_hand (pv 0) rfl (de_mod (q_int T.m_int (dq_of (de_add (de_add (de_mul (de_hand (pv 0) rfl) de_int) (de_mul (de_var (pv 2)) de_int)) de_int))) de_int))
  (dss_one (ds_if (dt_ge (de_var (pv 2)) (de_pow de_int de_int))
  (dss_one (ds_hand (pv 0) rfl (de_var (pv 2))))
  dss_nil)))))
  dss_nil)
  (dss_cons (ω1 := []) (ds_if (dt_gt (de_hand (pv 0) rfl) de_int)
  (dss_cons (ω1 := []) (ds_set (ω' := []) (fun te hp => ps_set (i := 3) sc__law_draw.nd rfl (.inl rfl) hp) (de_mod (q_int T.m_int (dq_of (de_hand (pv 0) rfl))) (de_var (pv 1))))
  (dss_cons (ω1 := []) (ds_hand (pv 0) rfl (de_fdiv (de_hand (pv 0) rfl) (de_var (pv 1))))
  (dss_one (ds_ret (de_var (pv 3))))))
  dss_nil)
  (dss_cons (ω1 := []) (ds_hand (pv 0) rfl (de_add (de_hand (pv 0) rfl) de_int))
  (dss_cons (ω1 := []) (ds_set (ω' := []) (fun te hp => ps_set (i := 4) sc__law_draw.nd rfl (.inl rfl) hp) (de_mod (q_int T.m_int (dq_of (de_mul (q_int T.m_int (dq_of (de_add (de_hand (pv 0) rfl) (de_mul de_int (de_hand (pv 0) rfl))))) de_int))) de_int))
  (dss_cons (ω1 := []) (ds_set (ω' := []) (fun te hp => ps_set (i := 4) sc__law_draw.nd rfl (.inl rfl) hp) (de_mod (q_int T.m_int (dq_of (de_mul (de_var (pv 4)) (de_add (de_fdiv (de_var (pv 4)) de_int) de_int)))) de_int))
  (dss_cons (ω1 := []) (ds_set (ω' := []) (fun te hp => ps_set (i := 4) sc__law_draw.nd rfl (.inl rfl) hp) (de_mod (q_int T.m_int (dq_of (de_mul (de_var (pv 4)) (de_add (de_fdiv (de_var (pv 4)) de_int) de_int)))) de_int))
  (dss_one (ds_ret (de_mod (q_int T.m_int (dq_of (de_fdiv (de_var (pv 4)) de_int))) (de_var (pv 1)))))))))))
theorem ok__law_any (T : Txt K mg t)  : FnOk P w K mg base (L2.CX P w) 2 t.a__law_any t.fd__law_any ["hand", "some"] (spH K (T0 t) 2 F__law_any) := fnH (k := 1) (ω' := []) (T := T0 t) T.f__law_any sc__law_any rfl fun A outer s H E hr =>
  (dss_one (ds_ret (de_ix (de_var (pv 1)) (de_callH (ok__law_draw T) (hr.mono (by decide)) rfl T.g__law_draw T.f__law_draw.kp T.b__law_draw psE (pv 0) rfl (an_cons (q_len T.m_len (dq_of (de_var (pv 1)))) an_nil)))))
theorem ok__law_order (T : Txt K mg t)  : FnOk P w K mg base (L2.CX P w) 2 t.a__law_order t.fd__law_order ["hand", "most"] (spH K (T0 t) 2 F__law_order) := fnH (k := 1) (ω' := []) (T := T0 t) T.f__law_order sc__law_order rfl fun A outer s H E hr =>
  (dss_cons (ω1 := []) (ds_set (ω' := []) (fun te hp => ps_set (i := 2) sc__law_order.nd rfl (.inr rfl) hp) (de_add de_int (de_callH (ok__law_draw T) (hr.mono (by decide)) rfl T.g__law_draw T.f__law_draw.kp T.b__law_draw psE (pv 0) rfl (an_cons de_int an_nil))))
  (dss_one (ds_ret (q_tuple T.m_tuple (dq_of (de_of_dl (dl_comp (own := [("thread", 3)]) (vs := [3]) rfl sc__law_order.nd (di_range1 rfl T.m_range (de_add de_int (de_callH (ok__law_draw T) (hr.mono (by decide)) rfl T.g__law_draw T.f__law_draw.kp T.b__law_draw psE (pv 0) rfl (an_cons (de_var (pv 1)) an_nil)))) (blkOk_by (N := ["hand", "most", "top", "thread"]) (sc := (defScope s__law_order)) (by decide +kernel)) rfl (fun _ _ _ _ _ => (dg_name (pg_name (i := 3) sc__law_order.nd rfl (.inl rfl)))) (fun _ _ _ _ _ => dts_nil) fun _ _ _ _ _ => (de_callH (ok__law_draw T) (hr.mono (by decide)) rfl T.g__law_draw T.f__law_draw.kp T.b__law_draw passL (pv 0) rfl (an_cons (de_var (pv 2)) an_nil)))))))))
theorem ok__law_passes (T : Txt K mg t)  : FnOk P w K mg base (L2.CX P w) 1 t.a__law_passes t.fd__law_passes ["order", "p"] (spP K mg (T0 t) 2 F__law_passes) := fnP (k := 0) (ω' := []) (T := T0 t) T.f__law_passes sc__law_passes rfl fun A outer s H E hr =>
  (dss_one (ds_ret (de_of_dl (dl_comp (own := [("at", 2)]) (vs := [2]) rfl sc__law_passes.nd (di_range3 rfl T.m_range de_int (q_len T.m_len (dq_of (de_var (pv 0)))) (de_var (pv 1))) (blkOk_by (N := ["order", "p", "at"]) (sc := (defScope s__law_passes)) (by decide +kernel)) rfl (fun _ _ _ _ _ => (dg_name (pg_name (i := 2) sc__law_passes.nd rfl (.inl rfl)))) (fun _ _ _ _ _ => dts_nil) fun _ _ _ _ _ => (de_sl (de_var (pv 0)) (do_some (de_var (pv 2))) (do_some (de_add (de_var (pv 2)) (de_var (pv 1)))))))))
theorem ok__law_no_order (T : Txt K mg t)  : FnOk P w K mg base (L2.CX P w) 3 t.a__law_no_order t.fd__law_no_order ["hand"] (spH K (T0 t) 1 F__law_no_order) := fnH (k := 2) (ω' := []) (T := T0 t) T.f__law_no_order sc__law_no_order rfl fun A outer s H E hr =>
  (dss_one (ds_ret (de_callH (ok__law_any T) (hr.mono (by decide)) rfl T.g__law_any T.f__law_any.kp T.b__law_any psE (pv 0) rfl (an_cons (de_lst (an_cons de_none (an_cons (de_tup an_nil) (an_cons (de_lst (an_cons de_int an_nil)) (an_cons (de_tup (an_cons de_int an_nil)) (an_cons (de_tup (an_cons (de_neg de_int) an_nil)) (an_cons (de_tup (an_cons de_bool an_nil)) (an_cons de_int (an_cons de_str (an_cons (de_mul (de_tup (an_cons de_int an_nil)) de_int) an_nil)))))))))) an_nil))))
theorem ok__law_hand (T : Txt K mg t) (F : List Int → List D) (hF : ∀ ns : List Int, ns.length ≤ 63 → ∃ e', g_hand ns (List.replicate 3 none) [] = .nx e' [] ∧ l_hand e' [] = .ok (F ns) []) : FnOk P w K mg base (L2.CX P w) 1 t.a__law_hand t.fd__law_hand ["script"] (spS K (T0 t) F) :=
  fnS (k := 0) (n := 3) (T := T0 t) (ω' := []) T.f__law_hand sc__law_hand rfl rfl g_hand (fun A outer s H E ns hl hr => ps_cells (i := 1) (own := [("cell", 2)]) (vs := [2]) rfl sc__law_hand.nd rfl rfl (sw_true rfl rfl rfl (by decide +kernel)) (pi_cells (pv 0) (Nat.le_trans hl (by decide)))
    (blkOk_by (N := ["script", "cells", "cell"]) (sc := (defScope s__law_hand)) (by decide +kernel)) rfl (fun _ _ _ _ _ => (dg_name (pg_name (i := 2) sc__law_hand.nd rfl (.inl rfl)))) (fun _ _ _ _ _ => dts_nil) fun _ _ _ _ _ => (q_abs T.m_abs (dq_of (q_int T.m_int (dq_of (de_var (pv 2)))))))
    (fun A outer s H E hr => dl_lst (an_cons (de_var (pv 1)) (an_cons de_int (an_cons de_int (an_cons (de_add de_int (de_mul de_int (q_len T.m_len (dq_of (de_var (pv 1)))))) (an_cons de_int an_nil)))))) ⟨_, _, rfl⟩ hF
theorem ok_law (T : Txt K mg t) (TB_law : LamX.TabB base mg t.cc_law t.P_law) (F : List Int → List D) (hF : ∀ ns : List Int, ns.length ≤ 63 → ∃ e', g_hand ns (List.replicate 3 none) [] = .nx e' [] ∧ l_hand e' [] = .ok (F ns) [])
    (hL : ∀ ns : List Int, ns.length ≤ 63 → ∃ h', m_law (List.replicate 17 none) (F ns) = .rt (.bool true) h') : FnOk P w K mg base (L2.CX P w) 9 t.a_law t.fd_law ["script"] (spLaw K (T0 t)) :=
  fnLaw (k := 8) (ω' := []) (n := 15) (T := T0 t) (F := F) T.f_law sc_law rfl rfl (fun A outer s H E hr => ps_imp (ps_set (i := 1) sc_law.nd rfl (.inl rfl) (pe_call (ok__law_hand T F hF) (hr.mono (by decide)) rfl T.g__law_hand T.f__law_hand.kp T.b__law_hand .nil psE (pa_cons (pv 0) pa_nil))) fun _ _ _ h => h)
  (fun A outer s H E hr =>
  (dss_cons (ω1 := []) (ds_for (vs := [2]) poE rfl (di_range1 rfl T.m_range de_int) (dg_name (pg_name (i := 2) sc_law.nd rfl (.inl rfl))) (dss_drop (is := [2, 3, 4, 5, 6, 7, 8, 9, 10, 11, 12, 13]) (ω1 := [10])
  (dss_cons (ω1 := []) (ds_tupA (is := [13, 3]) (ω' := []) rfl (dp_val (de_callH (ok__law_order T) (hr.mono (by decide)) rfl T.g__law_order T.f__law_order.kp T.b__law_order psE (pv 1) rfl (an_cons de_int an_nil)) (dp_val (de_add de_int (de_callH (ok__law_draw T) (hr.mono (by decide)) rfl T.g__law_draw T.f__law_draw.kp T.b__law_draw psE (pv 1) rfl (an_cons de_int an_nil))) dp_nil)) (pgs_cons (pg_name (i := 13) sc_law.nd rfl (.inr rfl)) (pgs_cons (pg_name (i := 3) sc_law.nd rfl (.inl rfl)) pgs_nil)))
  (dss_cons (ω1 := []) (ds_set (ω' := []) (fun te hp => ps_set (i := 4) sc_law.nd rfl (.inr rfl) hp) (de_callP (ok__law_passes T) (hr.mono (by decide)) rfl T.g__law_passes T.f__law_passes.kp T.b__law_passes psE (an_cons (de_var (pv 13)) (an_cons (de_var (pv 3)) an_nil))))
  (dss_cons (ω1 := []) (ds_set (ω' := []) (fun te hp => ps_set (i := 6) sc_law.nd rfl (.inl rfl) hp) (q_tuple T.m_tuple (dq_of (de_of_dl (dl_comp (own := [("colour", 14)]) (vs := [14]) rfl sc_law.nd (di_range1 rfl T.m_range de_int) (blkOk_by (N := ["script", "hand", "turn", "p", "rows", "row", "cones", "colours", "total", "other", "words", "bad", "off", "order", "colour", "one", "two"]) (sc := (defScope s_law)) (by decide +kernel)) rfl (fun _ _ _ _ _ => (dg_name (pg_name (i := 14) sc_law.nd rfl (.inr rfl)))) (fun _ _ _ _ _ => dts_nil) fun _ _ _ _ _ => (q_max rfl (u65 hr) T.m_max (dq_of (de_of_dl (dl_comp (own := [("row", 5)]) (vs := [5]) rfl sc_law.nd (di_seq (de_var (pv 4))) (blkOk_by (by kernel_rfl)) rfl (fun _ _ _ _ _ => (dg_name (pg_name (i := 5) sc_law.nd rfl (.inl rfl)))) (fun _ _ _ _ _ => dts_nil) fun _ _ _ _ _ => (de_cntA (u65 hr) (de_var (pv 5)) (de_var (pv 14))))))))))))
  (dss_cons (ω1 := []) (ds_if (dt_w (dw_or (dt_ne hr.units (de_callP (ok_passes T) (hr.mono (by decide)) rfl T.g_passes T.f_passes.kp T.b_passes psE (an_cons (de_var (pv 13)) (an_cons (de_var (pv 3)) an_nil))) (q_tuple T.m_tuple (dq_of (de_var (pv 4))))) (dw_or (dt_ne hr.units (de_callP (ok_cones_at T) (hr.mono (by decide)) rfl T.g_cones_at T.f_cones_at.kp T.b_cones_at psE (an_cons (de_var (pv 13)) (an_cons (de_var (pv 3)) an_nil))) (de_var (pv 6))) (dw_or1 (dt_ne hr.units (de_callP (ok_cone_count T) (hr.mono (by decide)) rfl T.g_cone_count T.f_cone_count.kp T.b_cone_count psE (an_cons (de_var (pv 13)) (an_cons (de_var (pv 3)) an_nil))) (q_sum rfl T.m_sum (dq_of (de_var (pv 6)))))))))
  (dss_one (ds_ret de_bool))
  dss_nil)
  (dss_cons (ω1 := []) (ds_set (ω' := []) (fun te hp => ps_set (i := 7) sc_law.nd rfl (.inl rfl) hp) (q_len T.m_len (dq_of (de_of_dl (dl_comp (own := [("colour", 14)]) (vs := [14]) rfl sc_law.nd (di_range1 rfl T.m_range de_int) (blkOk_by (N := ["script", "hand", "turn", "p", "rows", "row", "cones", "colours", "total", "other", "words", "bad", "off", "order", "colour", "one", "two"]) (sc := (defScope s_law)) (by decide +kernel)) rfl (fun _ _ _ _ _ => (dg_name (pg_name (i := 14) sc_law.nd rfl (.inl rfl)))) (fun _ _ _ _ _ => (dts_one (dt_in (u65 hr) (de_var (pv 14)) (de_var (pv 13))))) fun _ _ _ _ _ => (de_var (pv 14)))))))
  (dss_cons (ω1 := []) (ds_if (dt_not (dt_leLe (de_var (pv 7)) (de_callP (ok_cone_count T) (hr.mono (by decide)) rfl T.g_cone_count T.f_cone_count.kp T.b_cone_count psE (an_cons (de_var (pv 13)) (an_cons (de_var (pv 3)) an_nil))) (de_mul (de_var (pv 3)) (de_var (pv 7)))))
  (dss_one (ds_ret de_bool))
  dss_nil)
  (dss_cons (ω1 := []) (ds_set (ω' := []) (fun te hp => ps_set (i := 8) sc_law.nd rfl (.inl rfl) hp) de_int)
  (dss_cons (ω1 := []) (ds_for (vs := [5, 9]) poE rfl (di_zip rfl T.m_zip (de_var (pv 4)) (de_sl (de_var (pv 4)) (do_some de_int) do_none)) (dg_tup rfl (dgs_cons (dg_name (pg_name (i := 5) sc_law.nd rfl (.inl rfl))) (dgs_cons (dg_name (pg_name (i := 9) sc_law.nd rfl (.inl rfl))) dgs_nil)) rfl rfl (gs_len (gs_len gs_len0))) (dss_drop (is := [5, 9]) (ω1 := [])
  (dss_one (ds_set (ω' := []) (fun te hp => ps_set (i := 8) sc_law.nd rfl (.inl rfl) hp) (de_add (de_var (pv 8)) (q_len T.m_len (dq_of (de_of_dl (dl_comp (own := [("one", 15), ("two", 16)]) (vs := [15, 16]) rfl sc_law.nd (di_zip rfl T.m_zip (de_var (pv 5)) (de_var (pv 9))) (blkOk_by (N := ["script", "hand", "turn", "p", "rows", "row", "cones", "colours", "total", "other", "words", "bad", "off", "order", "colour", "one", "two"]) (sc := (defScope s_law)) (by decide +kernel)) rfl (fun _ _ _ _ _ => (dg_tup rfl (dgs_cons (dg_name (pg_name (i := 15) sc_law.nd rfl (.inl rfl))) (dgs_cons (dg_name (pg_name (i := 16) sc_law.nd rfl (.inl rfl))) dgs_nil)) rfl rfl (gs_len (gs_len gs_len0)))) (fun _ _ _ _ _ => (dts_one (dt_ne hr.units (de_var (pv 15)) (de_var (pv 16))))) fun _ _ _ _ _ => de_int))))))) rfl))
  (dss_cons (ω1 := []) (ds_if (dt_ne hr.units (de_callP (ok_changes T) (hr.mono (by decide)) rfl T.g_changes T.f_changes.kp T.b_changes psE (an_cons (de_var (pv 13)) (an_cons (de_var (pv 3)) an_nil))) (de_var (pv 8)))
  (dss_one (ds_ret de_bool))
  dss_nil)
  (dss_cons (ω1 := []) (ds_tupA (is := [11, 12]) (ω' := []) rfl (dp_val (de_callH (ok__law_no_order T) (hr.mono (by decide)) rfl T.g__law_no_order T.f__law_no_order.kp T.b__law_no_order psE (pv 1) rfl an_nil) (dp_val (de_callH (ok__law_any T) (hr.mono (by decide)) rfl T.g__law_any T.f__law_any.kp T.b__law_any psE (pv 1) rfl (an_cons (de_lst (an_cons de_none (an_cons de_int (an_cons de_int (an_cons de_bool (an_cons de_str an_nil)))))) an_nil)) dp_nil)) (pgs_cons (pg_name (i := 11) sc_law.nd rfl (.inr rfl)) (pgs_cons (pg_name (i := 12) sc_law.nd rfl (.inr rfl)) pgs_nil)))
  (dss_cons (ω1 := [10]) (ds_setL (ω' := [10]) (fun te hp => ps_set (i := 10) sc_law.nd rfl (.inl rfl) hp) (dl_lst (an_cons (word_law (by rfl) (by rfl) (by rfl) (by rfl) T.d_law (by rfl) T TB_law (k := 6) (hr.mono (by decide)) (LamX.lamS_by (sc := (defScope s_law)) (by decide +kernel)) rfl (fun _ _ _ _ _ => rfl) fun A outer s H E f c' hr => (de_callP (ok_passes T) (hr.mono (by decide)) rfl T.g_passes T.f_passes.kp T.b_passes psLam (an_cons (de_var (pv 11)) (an_cons (de_var (pv 12)) an_nil)))) an_nil)))
  (dss_cons (ω1 := [10]) (ds_append (i := 10) (by decide) (fun t hp => pe_bm PySem.F.plainAttrs_list PySem.F.slot_list_append PySem.F.type_list_append mt_append (pv 10) (pa_cons hp pa_nil)) (word_law (by rfl) (by rfl) (by rfl) (by rfl) T.d_law (by rfl) T TB_law (k := 6) (hr.mono (by decide)) (LamX.lamS_by (sc := (defScope s_law)) (by decide +kernel)) rfl (fun _ _ _ _ _ => rfl) fun A outer s H E f c' hr => (de_callP (ok_passes T) (hr.mono (by decide)) rfl T.g_passes T.f_passes.kp T.b_passes psLam (an_cons (de_var (pv 13)) (an_cons (de_var (pv 12)) an_nil)))))
  (dss_cons (ω1 := [10]) (ds_append (i := 10) (by decide) (fun t hp => pe_bm PySem.F.plainAttrs_list PySem.F.slot_list_append PySem.F.type_list_append mt_append (pv 10) (pa_cons hp pa_nil)) (word_law (by rfl) (by rfl) (by rfl) (by rfl) T.d_law (by rfl) T TB_law (k := 6) (hr.mono (by decide)) (LamX.lamS_by (sc := (defScope s_law)) (by decide +kernel)) rfl (fun _ _ _ _ _ => rfl) fun A outer s H E f c' hr => (de_callP (ok_cones_at T) (hr.mono (by decide)) rfl T.g_cones_at T.f_cones_at.kp T.b_cones_at psLam (an_cons (de_var (pv 13)) (an_cons (de_var (pv 12)) an_nil)))))
  (dss_cons (ω1 := [10]) (ds_append (i := 10) (by decide) (fun t hp => pe_bm PySem.F.plainAttrs_list PySem.F.slot_list_append PySem.F.type_list_append mt_append (pv 10) (pa_cons hp pa_nil)) (word_law (by rfl) (by rfl) (by rfl) (by rfl) T.d_law (by rfl) T TB_law (k := 6) (hr.mono (by decide)) (LamX.lamS_by (sc := (defScope s_law)) (by decide +kernel)) rfl (fun _ _ _ _ _ => rfl) fun A outer s H E f c' hr => (de_callP (ok_cone_count T) (hr.mono (by decide)) rfl T.g_cone_count T.f_cone_count.kp T.b_cone_count psLam (an_cons (de_var (pv 11)) (an_cons (de_var (pv 12)) an_nil)))))
  (dss_cons (ω1 := [10]) (ds_append (i := 10) (by decide) (fun t hp => pe_bm PySem.F.plainAttrs_list PySem.F.slot_list_append PySem.F.type_list_append mt_append (pv 10) (pa_cons hp pa_nil)) (word_law (by rfl) (by rfl) (by rfl) (by rfl) T.d_law (by rfl) T TB_law (k := 6) (hr.mono (by decide)) (LamX.lamS_by (sc := (defScope s_law)) (by decide +kernel)) rfl (fun _ _ _ _ _ => rfl) fun A outer s H E f c' hr => (de_callP (ok_changes T) (hr.mono (by decide)) rfl T.g_changes T.f_changes.kp T.b_changes psLam (an_cons (de_var (pv 11)) (an_cons (de_var (pv 12)) an_nil)))))
  (dss_cons (ω1 := [10]) (ds_append (i := 10) (by decide) (fun t hp => pe_bm PySem.F.plainAttrs_list PySem.F.slot_list_append PySem.F.type_list_append mt_append (pv 10) (pa_cons hp pa_nil)) (word_law (by rfl) (by rfl) (by rfl) (by rfl) T.d_law (by rfl) T TB_law (k := 6) (hr.mono (by decide)) (LamX.lamS_by (sc := (defScope s_law)) (by decide +kernel)) rfl (fun _ _ _ _ _ => rfl) fun A outer s H E f c' hr => (de_callP (ok_changes T) (hr.mono (by decide)) rfl T.g_changes T.f_changes.kp T.b_changes psLam (an_cons (de_var (pv 13)) (an_cons (de_var (pv 12)) an_nil)))))
  (dss_one (ds_if (o_ne1 hr.units (pv 10) (de_lst (an_cons de_str (an_cons de_str (an_cons de_str (an_cons de_str (an_cons de_str (an_cons de_str an_nil))))))))
  (dss_one (ds_ret de_bool))
  dss_nil)))))))))))))))))) rfl))
  (dss_one (ds_ret de_bool)))) hL
end Lw


set_option maxRecDepth 100000
set_option maxHeartbeats 4000000
namespace Lw
open Sm PySem PySem.Spec L2
def HandOk (h : List D) : Prop := ∃ (cs : List Int) (a b c d : Int), h = [.list (cs.map .int), .int a, .int b, .int c, .int d] ∧ (∀ x ∈ cs, 0 ≤ x) ∧ 0 ≤ a ∧ 0 ≤ b ∧ 0 ≤ c ∧ 0 ≤ d
/-- the second half of a draw: from the hand's number -/
theorem draw2 (m : Int) (h1 h2 : Option D) (L : D) (a b c d : Int) (hm : 0 < m) (hm2 : m < 1000000) (h0 : 0 ≤ b) (hc : 0 ≤ c) (hd : 0 ≤ d) (e3 e4 : Option D) :
    ∃ k a' b' c' d' , (match (seqS (ifS (boolM (binM gtD (handM 2) (conM (.int 0)))) (seqS (asgS 3 (binM modD (unM intD (handM 2)) (varM 1)))
  (seqS (handS 2 (binM fdivD (handM 2) (varM 1)))
  (retS (varM 3)))) skipS)
  (seqS (handS 4 (binM addD (handM 4) (conM (.int 1))))
  (seqS (asgS 4 (binM modD (unM intD (binM mulD (unM intD (binM addD (handM 3) (binM mulD (conM (.int 7919)) (handM 4)))) (conM (.int 48271)))) (conM (.int 2147483647))))
  (seqS (asgS 4 (binM modD (unM intD (binM mulD (varM 4) (binM addD (binM fdivD (varM 4) (conM (.int 1009))) (conM (.int 69621))))) (conM (.int 2147483647))))
  (seqS (asgS 4 (binM modD (unM intD (binM mulD (varM 4) (binM addD (binM fdivD (varM 4) (conM (.int 2003))) (conM (.int 40014))))) (conM (.int 2147483563))))
  (retS (binM modD (unM intD (binM fdivD (varM 4) (conM (.int 16)))) (varM 1)))))))) [h1, some (.int m), h2, e3, e4] [L, .int a, .int b, .int c, .int d] with
   | .rt d h' => Res.ok d h' | _ => Res.no) = .ok (.int k) [L, .int a', .int b', .int c', .int d'] ∧ 0 ≤ k ∧ k < m ∧ a' = a ∧ 0 ≤ b' ∧ 0 ≤ c' ∧ 0 ≤ d' := by
  have F1 : ∀ x : Int, fdivD (.int x) (.int m) = some (.int (x / m)) := fun x => fdivD_p ⟨hm, by omega⟩
  have M1 : ∀ x : Int, modD (.int x) (.int m) = some (.int (x % m)) := fun x => modD_p hm
  by_cases hb : 0 < b
  · refine ⟨b % m, a, b / m, c, d, ?_, Int.emod_nonneg _ (by omega), Int.emod_lt_of_pos _ hm, rfl, Int.ediv_nonneg h0 (by omega), hc, hd⟩
    simp -implicitDefEqProofs only [bind_ok, bindS_ok, bindN_ok, opt_some, thS_nx, thS_rt, thS_ex, seqS_e, skipS_e, retS_e, asgS_e, ifS_e, conM_e, varM_e, slot_0, slot_s, binM_e, unM_e, unL_e, boolM_e, asB_e, truM_e, truD_b, andB_e, orB_e, notB_e, ifM_e, andM_e, orM_e, notM_e, map_some_e, bind_some_e, isiM_e, chainM_e, exprS_e, parS_e, setE_c, setE_n, raiS_e, bind_ex, bindS_ex, wipeE_n, yesM_e, gN_e, items_l, items_t, tup_l, tup_t, nilM_e, consM_e, lstM_e, tupM_e, seqM_e, callP_e, callH_e, res_ok, res_ex, nex_ok, compM_e, forS_e, dropM_e, range1M_e, range2M_e, mulD_i, addD_i, subD_i, intD_i, ltD_i, leD_i, gtD_i, geD_i, eqD_i, neD_i, handM_e, handS_e, at0, at1, at2, at3, at4, ix5_1, ix5_2, ix5_3, ix5_4, outP_rt, outP_nx, outP_ex, outH_rt, List.set_cons_succ, List.set_cons_zero, Bool.false_eq_true, if_true, if_false, decide_true, decide_false, reduceIte, Bool.not_true, Bool.not_false, Bool.true_and, Bool.and_true, Bool.false_and, Bool.and_false, Bool.true_or, Bool.or_true, Bool.false_or, Bool.or_false, mL_len, Int.toNat_natCast, Int.cast_ofNat_Int, Nat.reduceAdd, Int.reduceToNat, Int.reduceEq, Int.reduceLT, Int.reduceLE, Int.reduceSub, Int.reduceAdd, Bool.bne_false, bne_self_eq_false, beq_self_eq_true,  Bool.bne_true, List.map_id', F1, M1, hb]
  · obtain ⟨n1, hn1⟩ : ∃ n1, n1 = (c + 7919 * (d + 1)) * 48271 % 2147483647 := ⟨_, rfl⟩
    have b1 : 0 ≤ n1 ∧ n1 < 2147483647 := by rw [hn1]; exact ⟨Int.emod_nonneg _ (by decide), Int.emod_lt_of_pos _ (by decide)⟩
    obtain ⟨n2, hn2⟩ : ∃ n2, n2 = n1 * (n1 / 1009 + 69621) % 2147483647 := ⟨_, rfl⟩
    have b2 : 0 ≤ n2 ∧ n2 < 2147483647 := by rw [hn2]; exact ⟨Int.emod_nonneg _ (by decide), Int.emod_lt_of_pos _ (by decide)⟩
    obtain ⟨n3, hn3⟩ : ∃ n3, n3 = n2 * (n2 / 2003 + 40014) % 2147483563 := ⟨_, rfl⟩
    have X1 : mulI (.int n1) (.int (n1 / 1009 + 69621)) = some (.int (n1 * (n1 / 1009 + 69621))) := mulI_l (by omega)
    have X2 : mulI (.int n2) (.int (n2 / 2003 + 40014)) = some (.int (n2 * (n2 / 2003 + 40014))) := mulI_l (by omega)
    have X3 : ∀ x : Int, mulI (.int 7919) (.int x) = some (.int (7919 * x)) := fun x => mulI_l (by decide)
    have X4 : ∀ x : Int, mulI (.int x) (.int 48271) = some (.int (x * 48271)) := fun x => mulI_r (by decide)
    have Y0 : ∀ x : Int, modD (.int x) (.int 2147483647) = some (.int (x % 2147483647)) := fun x => modD_p (by decide)
    have Y1 : ∀ x : Int, modD (.int x) (.int 2147483647) = some (.int (x % 2147483647)) := fun x => modD_p (by decide)
    have Y2 : ∀ x : Int, modD (.int x) (.int 2147483563) = some (.int (x % 2147483563)) := fun x => modD_p (by decide)
    have Z1 : ∀ x : Int, fdivD (.int x) (.int 1009) = some (.int (x / 1009)) := fun x => fdivD_p (by decide)
    have Z2 : ∀ x : Int, fdivD (.int x) (.int 2003) = some (.int (x / 2003)) := fun x => fdivD_p (by decide)
    have Z3 : ∀ x : Int, fdivD (.int x) (.int 16) = some (.int (x / 16)) := fun x => fdivD_p (by decide)
    refine ⟨n3 / 16 % m, a, b, c, d + 1, ?_, Int.emod_nonneg _ (by omega), Int.emod_lt_of_pos _ hm, rfl, h0, hc, by omega⟩
    simp -implicitDefEqProofs only [bind_ok, bindS_ok, bindN_ok, opt_some, thS_nx, thS_rt, thS_ex, seqS_e, skipS_e, retS_e, asgS_e, ifS_e, conM_e, varM_e, slot_0, slot_s, binM_e, unM_e, unL_e, boolM_e, asB_e, truM_e, truD_b, andB_e, orB_e, notB_e, ifM_e, andM_e, orM_e, notM_e, map_some_e, bind_some_e, isiM_e, chainM_e, exprS_e, parS_e, setE_c, setE_n, raiS_e, bind_ex, bindS_ex, wipeE_n, yesM_e, gN_e, items_l, items_t, tup_l, tup_t, nilM_e, consM_e, lstM_e, tupM_e, seqM_e, callP_e, callH_e, res_ok, res_ex, nex_ok, compM_e, forS_e, dropM_e, range1M_e, range2M_e, mulD_i, addD_i, subD_i, intD_i, ltD_i, leD_i, gtD_i, geD_i, eqD_i, neD_i, handM_e, handS_e, at0, at1, at2, at3, at4, ix5_1, ix5_2, ix5_3, ix5_4, outP_rt, outP_nx, outP_ex, outH_rt, List.set_cons_succ, List.set_cons_zero, Bool.false_eq_true, if_true, if_false, decide_true, decide_false, reduceIte, Bool.not_true, Bool.not_false, Bool.true_and, Bool.and_true, Bool.false_and, Bool.and_false, Bool.true_or, Bool.or_true, Bool.false_or, Bool.or_false, mL_len, Int.toNat_natCast, Int.cast_ofNat_Int, Nat.reduceAdd, Int.reduceToNat, Int.reduceEq, Int.reduceLT, Int.reduceLE, Int.reduceSub, Int.reduceAdd, Bool.bne_false, bne_self_eq_false, beq_self_eq_true,  Bool.bne_true, List.map_id', F1, M1, hb, X3, X4, Y0, Y1, Y2, Z1, Z2, Z3, ← hn1, X1, ← hn2, X2, ← hn3]
theorem draw_ok (m : Int) (h : List D) (hm : 0 < m) (hm2 : m < 1000000) (hh : HandOk h) : ∃ k h', F__law_draw [.int m] h = .ok (.int k) h' ∧ HandOk h' ∧ 0 ≤ k ∧ k < m := by
  obtain ⟨cs, a, b, c, d, rfl, h1, h3, h4, h5, h6⟩ := hh
  have fin : ∀ (a b c : Int) (x2 : Option D), 0 ≤ a → 0 ≤ b → 0 ≤ c → ∀ r, thS (.nx [some .none, some (.int m), x2, none, none] [.list (cs.map .int), .int a, .int b, .int c, .int d]) r = r [some .none, some (.int m), x2, none, none] [.list (cs.map .int), .int a, .int b, .int c, .int d] := fun _ _ _ _ _ _ _ _ => rfl
  have go : ∀ (a b c : Int) (x2 : Option D) (r : FS), 0 ≤ a → 0 ≤ b → 0 ≤ c → (∃ k a' b' c' d', (match r [some .none, some (.int m), x2, none, none] [.list (cs.map .int), .int a, .int b, .int c, .int d] with
     | .rt d h' => Res.ok d h' | _ => Res.no) = .ok (.int k) [.list (cs.map .int), .int a', .int b', .int c', .int d'] ∧ 0 ≤ k ∧ k < m ∧ a' = a ∧ 0 ≤ b' ∧ 0 ≤ c' ∧ 0 ≤ d') →
     ∃ k h', outH (r [some .none, some (.int m), x2, none, none] [.list (cs.map .int), .int a, .int b, .int c, .int d]) = .ok (.int k) h' ∧ HandOk h' ∧ 0 ≤ k ∧ k < m := by
    intro a b c x2 r k1 k2 k3 ⟨k, a', b', c', d', e, q1, q2, q3, q4, q5, q6⟩
    refine ⟨k, [.list (cs.map .int), .int a', .int b', .int c', .int d'], ?_, ⟨cs, a', b', c', d', rfl, h1, by rw [q3]; exact k1, q4, q5, q6⟩, q1, q2⟩
    generalize r [some .none, some (.int m), x2, none, none] [.list (cs.map .int), .int a, .int b, .int c, .int d] = z at e
    cases z with
    | rt d' h' => exact e
    | _ => cases e
  rw [F__law_draw, runH_e]
  show ∃ k h', outH (m__law_draw [some .none, some (.int m), none, none, none] _) = _ ∧ _
  rw [m__law_draw, seqS_e]
  by_cases hb : b = 0
  · by_cases ha : a < cs.length
    · obtain ⟨x, hx⟩ : ∃ x, cs[a.toNat]? = some x := by
        have : a.toNat < cs.length := by omega
        exact ⟨_, List.getElem?_eq_getElem this⟩
      have hx0 : 0 ≤ x := h1 x (List.mem_of_getElem? hx)
      have I1 : ixD (.list (cs.map .int)) (.int a) = some (.int x) := by
        show atI (cs.map PyData.int) a = _
        refine atI_get h3 ?_
        rw [List.getElem?_map, hx]; rfl
      have L1 : lenD (.list (cs.map PyData.int)) = some (.int cs.length) := by
        show some (PyData.int ((cs.map PyData.int).length : Nat)) = _
        rw [List.length_map]
      have X1 : ∀ x : Int, mulI (.int x) (.int 69621) = some (.int (x * 69621)) := fun x => mulI_r (by decide)
      have X2 : ∀ x : Int, mulI (.int x) (.int 40692) = some (.int (x * 40692)) := fun x => mulI_r (by decide)
      have Y1 : ∀ x : Int, modD (.int x) (.int 2147483629) = some (.int (x % 2147483629)) := fun x => modD_p (by decide)
      have P1 : powD (.int 10) (.int 18) = some (.int 1000000000000000000) := by
        show Option.map PyData.int (if (0:Int) ≤ 18 ∧ (18:Int) ≤ 1000000 ∧ (10:Int).natAbs < 2 ^ 64 then some ((10:Int) ^ (18:Int).toNat) else none) = _
        rw [if_pos (by decide)]; rfl
      have c0 : 0 ≤ (c * 69621 + x * 40692 + 31) % 2147483629 := Int.emod_nonneg _ (by decide)
      by_cases hx18 : 1000000000000000000 ≤ x
      · have E : (ifS (andB (boolM (binM eqD (handM 2) (conM (.int 0)))) (boolM (binM ltD (handM 1) (unM lenD (handM 0))))) (seqS (asgS 2 (binM ixD (handM 0) (handM 1)))
            (seqS (handS 1 (binM addD (handM 1) (conM (.int 1))))
            (seqS (handS 3 (binM modD (unM intD (binM addD (binM addD (binM mulD (handM 3) (conM (.int 69621))) (binM mulD (varM 2) (conM (.int 40692)))) (conM (.int 31)))) (conM (.int 2147483629))))
            (ifS (boolM (binM geD (varM 2) (binM powD (conM (.int 10)) (conM (.int 18))))) (handS 2 (varM 2)) skipS)))) skipS) [some .none, some (.int m), none, none, none] [.list (cs.map .int), .int a, .int b, .int c, .int d] =
            .nx [some .none, some (.int m), some (.int x), none, none] [.list (cs.map .int), .int (a + 1), .int x, .int ((c * 69621 + x * 40692 + 31) % 2147483629), .int d] := by
          simp -implicitDefEqProofs only [bind_ok, bindS_ok, bindN_ok, opt_some, thS_nx, thS_rt, thS_ex, seqS_e, skipS_e, retS_e, asgS_e, ifS_e, conM_e, varM_e, slot_0, slot_s, binM_e, unM_e, unL_e, boolM_e, asB_e, truM_e, truD_b, andB_e, orB_e, notB_e, ifM_e, andM_e, orM_e, notM_e, map_some_e, bind_some_e, isiM_e, chainM_e, exprS_e, parS_e, setE_c, setE_n, raiS_e, bind_ex, bindS_ex, wipeE_n, yesM_e, gN_e, items_l, items_t, tup_l, tup_t, nilM_e, consM_e, lstM_e, tupM_e, seqM_e, callP_e, callH_e, res_ok, res_ex, nex_ok, compM_e, forS_e, dropM_e, range1M_e, range2M_e, mulD_i, addD_i, subD_i, intD_i, ltD_i, leD_i, gtD_i, geD_i, eqD_i, neD_i, handM_e, handS_e, at0, at1, at2, at3, at4, ix5_1, ix5_2, ix5_3, ix5_4, outP_rt, outP_nx, outP_ex, outH_rt, List.set_cons_succ, List.set_cons_zero, Bool.false_eq_true, if_true, if_false, decide_true, decide_false, reduceIte, Bool.not_true, Bool.not_false, Bool.true_and, Bool.and_true, Bool.false_and, Bool.and_false, Bool.true_or, Bool.or_true, Bool.false_or, Bool.or_false, mL_len, Int.toNat_natCast, Int.cast_ofNat_Int, Nat.reduceAdd, Int.reduceToNat, Int.reduceEq, Int.reduceLT, Int.reduceLE, Int.reduceSub, Int.reduceAdd, Bool.bne_false, bne_self_eq_false, beq_self_eq_true,  Bool.bne_true, List.map_id', hb, ha, I1, L1, X1, X2, Y1, P1, hx18]
        rw [E]
        exact go (a + 1) x _ _ _ (by omega) (by omega) c0 (draw2 m _ _ _ _ _ _ _ hm hm2 (by omega) c0 h6 _ _)
      · have E : (ifS (andB (boolM (binM eqD (handM 2) (conM (.int 0)))) (boolM (binM ltD (handM 1) (unM lenD (handM 0))))) (seqS (asgS 2 (binM ixD (handM 0) (handM 1)))
            (seqS (handS 1 (binM addD (handM 1) (conM (.int 1))))
            (seqS (handS 3 (binM modD (unM intD (binM addD (binM addD (binM mulD (handM 3) (conM (.int 69621))) (binM mulD (varM 2) (conM (.int 40692)))) (conM (.int 31)))) (conM (.int 2147483629))))
            (ifS (boolM (binM geD (varM 2) (binM powD (conM (.int 10)) (conM (.int 18))))) (handS 2 (varM 2)) skipS)))) skipS) [some .none, some (.int m), none, none, none] [.list (cs.map .int), .int a, .int b, .int c, .int d] =
            .nx [some .none, some (.int m), some (.int x), none, none] [.list (cs.map .int), .int (a + 1), .int b, .int ((c * 69621 + x * 40692 + 31) % 2147483629), .int d] := by
          simp -implicitDefEqProofs only [bind_ok, bindS_ok, bindN_ok, opt_some, thS_nx, thS_rt, thS_ex, seqS_e, skipS_e, retS_e, asgS_e, ifS_e, conM_e, varM_e, slot_0, slot_s, binM_e, unM_e, unL_e, boolM_e, asB_e, truM_e, truD_b, andB_e, orB_e, notB_e, ifM_e, andM_e, orM_e, notM_e, map_some_e, bind_some_e, isiM_e, chainM_e, exprS_e, parS_e, setE_c, setE_n, raiS_e, bind_ex, bindS_ex, wipeE_n, yesM_e, gN_e, items_l, items_t, tup_l, tup_t, nilM_e, consM_e, lstM_e, tupM_e, seqM_e, callP_e, callH_e, res_ok, res_ex, nex_ok, compM_e, forS_e, dropM_e, range1M_e, range2M_e, mulD_i, addD_i, subD_i, intD_i, ltD_i, leD_i, gtD_i, geD_i, eqD_i, neD_i, handM_e, handS_e, at0, at1, at2, at3, at4, ix5_1, ix5_2, ix5_3, ix5_4, outP_rt, outP_nx, outP_ex, outH_rt, List.set_cons_succ, List.set_cons_zero, Bool.false_eq_true, if_true, if_false, decide_true, decide_false, reduceIte, Bool.not_true, Bool.not_false, Bool.true_and, Bool.and_true, Bool.false_and, Bool.and_false, Bool.true_or, Bool.or_true, Bool.false_or, Bool.or_false, mL_len, Int.toNat_natCast, Int.cast_ofNat_Int, Nat.reduceAdd, Int.reduceToNat, Int.reduceEq, Int.reduceLT, Int.reduceLE, Int.reduceSub, Int.reduceAdd, Bool.bne_false, bne_self_eq_false, beq_self_eq_true,  Bool.bne_true, List.map_id', hb, ha, I1, L1, X1, X2, Y1, P1, hx18]
        rw [E]
        exact go (a + 1) b _ _ _ (by omega) h4 c0 (draw2 m _ _ _ _ _ _ _ hm hm2 h4 c0 h6 _ _)
    · have L1 : lenD (.list (cs.map PyData.int)) = some (.int cs.length) := by
        show some (PyData.int ((cs.map PyData.int).length : Nat)) = _
        rw [List.length_map]
      have E : ∀ s, (ifS (andB (boolM (binM eqD (handM 2) (conM (.int 0)))) (boolM (binM ltD (handM 1) (unM lenD (handM 0))))) s skipS) [some .none, some (.int m), none, none, none] [.list (cs.map .int), .int a, .int b, .int c, .int d] =
            .nx [some .none, some (.int m), none, none, none] [.list (cs.map .int), .int a, .int b, .int c, .int d] := fun s => by
        simp -implicitDefEqProofs only [bind_ok, bindS_ok, bindN_ok, opt_some, thS_nx, thS_rt, thS_ex, seqS_e, skipS_e, retS_e, asgS_e, ifS_e, conM_e, varM_e, slot_0, slot_s, binM_e, unM_e, unL_e, boolM_e, asB_e, truM_e, truD_b, andB_e, orB_e, notB_e, ifM_e, andM_e, orM_e, notM_e, map_some_e, bind_some_e, isiM_e, chainM_e, exprS_e, parS_e, setE_c, setE_n, raiS_e, bind_ex, bindS_ex, wipeE_n, yesM_e, gN_e, items_l, items_t, tup_l, tup_t, nilM_e, consM_e, lstM_e, tupM_e, seqM_e, callP_e, callH_e, res_ok, res_ex, nex_ok, compM_e, forS_e, dropM_e, range1M_e, range2M_e, mulD_i, addD_i, subD_i, intD_i, ltD_i, leD_i, gtD_i, geD_i, eqD_i, neD_i, handM_e, handS_e, at0, at1, at2, at3, at4, ix5_1, ix5_2, ix5_3, ix5_4, outP_rt, outP_nx, outP_ex, outH_rt, List.set_cons_succ, List.set_cons_zero, Bool.false_eq_true, if_true, if_false, decide_true, decide_false, reduceIte, Bool.not_true, Bool.not_false, Bool.true_and, Bool.and_true, Bool.false_and, Bool.and_false, Bool.true_or, Bool.or_true, Bool.false_or, Bool.or_false, mL_len, Int.toNat_natCast, Int.cast_ofNat_Int, Nat.reduceAdd, Int.reduceToNat, Int.reduceEq, Int.reduceLT, Int.reduceLE, Int.reduceSub, Int.reduceAdd, Bool.bne_false, bne_self_eq_false, beq_self_eq_true,  Bool.bne_true, List.map_id', hb, ha, L1]
      rw [E]
      exact go a b c _ _ h3 h4 h5 (draw2 m _ _ _ _ _ _ _ hm hm2 h4 h5 h6 _ _)
  · have E : ∀ s, (ifS (andB (boolM (binM eqD (handM 2) (conM (.int 0)))) (boolM (binM ltD (handM 1) (unM lenD (handM 0))))) s skipS) [some .none, some (.int m), none, none, none] [.list (cs.map .int), .int a, .int b, .int c, .int d] =
            .nx [some .none, some (.int m), none, none, none] [.list (cs.map .int), .int a, .int b, .int c, .int d] := fun s => by
      simp -implicitDefEqProofs only [bind_ok, bindS_ok, bindN_ok, opt_some, thS_nx, thS_rt, thS_ex, seqS_e, skipS_e, retS_e, asgS_e, ifS_e, conM_e, varM_e, slot_0, slot_s, binM_e, unM_e, unL_e, boolM_e, asB_e, truM_e, truD_b, andB_e, orB_e, notB_e, ifM_e, andM_e, orM_e, notM_e, map_some_e, bind_some_e, isiM_e, chainM_e, exprS_e, parS_e, setE_c, setE_n, raiS_e, bind_ex, bindS_ex, wipeE_n, yesM_e, gN_e, items_l, items_t, tup_l, tup_t, nilM_e, consM_e, lstM_e, tupM_e, seqM_e, callP_e, callH_e, res_ok, res_ex, nex_ok, compM_e, forS_e, dropM_e, range1M_e, range2M_e, mulD_i, addD_i, subD_i, intD_i, ltD_i, leD_i, gtD_i, geD_i, eqD_i, neD_i, handM_e, handS_e, at0, at1, at2, at3, at4, ix5_1, ix5_2, ix5_3, ix5_4, outP_rt, outP_nx, outP_ex, outH_rt, List.set_cons_succ, List.set_cons_zero, Bool.false_eq_true, if_true, if_false, decide_true, decide_false, reduceIte, Bool.not_true, Bool.not_false, Bool.true_and, Bool.and_true, Bool.false_and, Bool.and_false, Bool.true_or, Bool.or_true, Bool.false_or, Bool.or_false, mL_len, Int.toNat_natCast, Int.cast_ofNat_Int, Nat.reduceAdd, Int.reduceToNat, Int.reduceEq, Int.reduceLT, Int.reduceLE, Int.reduceSub, Int.reduceAdd, Bool.bne_false, bne_self_eq_false, beq_self_eq_true,  Bool.bne_true, List.map_id', hb]
    rw [E]
    exact go a b c _ _ h3 h4 h5 (draw2 m _ _ _ _ _ _ _ hm hm2 h4 h5 h6 _ _)
theorem any_ok (ds : List D) (h : List D) (h0 : 0 < ds.length) (h1 : ds.length < 1000000) (hh : HandOk h) : ∃ d h', F__law_any [.list ds] h = .ok d h' ∧ d ∈ ds ∧ HandOk h' := by
  obtain ⟨k, h', e, hk, k0, k1⟩ := draw_ok (ds.length : Nat) h (by omega) (by omega) hh
  have hlt : k.toNat < ds.length := by omega
  have hg : ds[k.toNat]? = some ds[k.toNat] := List.getElem?_eq_getElem hlt
  refine ⟨ds[k.toNat], h', ?_, List.getElem_mem hlt, hk⟩
  rw [F__law_any, runH_e]
  show outH (m__law_any [some .none, some (.list ds)] h) = _
  have I1 : ixD (.list ds) (.int k) = some ds[k.toNat] := atI_get k0 hg
  have L1 : lenD (.list ds) = some (.int (ds.length : Nat)) := rfl
  simp -implicitDefEqProofs only [m__law_any, bind_ok, bindS_ok, bindN_ok, opt_some, thS_nx, thS_rt, thS_ex, seqS_e, skipS_e, retS_e, asgS_e, ifS_e, conM_e, varM_e, slot_0, slot_s, binM_e, unM_e, unL_e, boolM_e, asB_e, truM_e, truD_b, andB_e, orB_e, notB_e, ifM_e, andM_e, orM_e, notM_e, map_some_e, bind_some_e, isiM_e, chainM_e, exprS_e, parS_e, setE_c, setE_n, raiS_e, bind_ex, bindS_ex, wipeE_n, yesM_e, gN_e, items_l, items_t, tup_l, tup_t, nilM_e, consM_e, lstM_e, tupM_e, seqM_e, callP_e, callH_e, res_ok, res_ex, nex_ok, compM_e, forS_e, dropM_e, range1M_e, range2M_e, mulD_i, addD_i, subD_i, intD_i, ltD_i, leD_i, gtD_i, geD_i, eqD_i, neD_i, handM_e, handS_e, at0, at1, at2, at3, at4, ix5_1, ix5_2, ix5_3, ix5_4, outP_rt, outP_nx, outP_ex, outH_rt, List.set_cons_succ, List.set_cons_zero, Bool.false_eq_true, if_true, if_false, decide_true, decide_false, reduceIte, Bool.not_true, Bool.not_false, Bool.true_and, Bool.and_true, Bool.false_and, Bool.and_false, Bool.true_or, Bool.or_true, Bool.false_or, Bool.or_false, mL_len, Int.toNat_natCast, Int.cast_ofNat_Int, Nat.reduceAdd, Int.reduceToNat, Int.reduceEq, Int.reduceLT, Int.reduceLE, Int.reduceSub, Int.reduceAdd, Bool.bne_false, bne_self_eq_false, beq_self_eq_true,  Bool.bne_true, List.map_id', L1, e, I1]
theorem integer_e (d : D) : F_is_integer [d] = .ok (.bool (isiD "int" d && !isiD "bool" d)) := by
  rw [F_is_integer, runP_e]
  show outP (m_is_integer [some d] []) = _
  cases h1 : isiD "int" d <;> cases h2 : isiD "bool" d <;> simp -implicitDefEqProofs only [m_is_integer, bind_ok, bindS_ok, bindN_ok, opt_some, thS_nx, thS_rt, thS_ex, seqS_e, skipS_e, retS_e, asgS_e, ifS_e, conM_e, varM_e, slot_0, slot_s, binM_e, unM_e, unL_e, boolM_e, asB_e, truM_e, truD_b, andB_e, orB_e, notB_e, ifM_e, andM_e, orM_e, notM_e, map_some_e, bind_some_e, isiM_e, chainM_e, exprS_e, parS_e, setE_c, setE_n, raiS_e, bind_ex, bindS_ex, wipeE_n, yesM_e, gN_e, items_l, items_t, tup_l, tup_t, nilM_e, consM_e, lstM_e, tupM_e, seqM_e, callP_e, callH_e, res_ok, res_ex, nex_ok, compM_e, forS_e, dropM_e, range1M_e, range2M_e, mulD_i, addD_i, subD_i, intD_i, ltD_i, leD_i, gtD_i, geD_i, eqD_i, neD_i, handM_e, handS_e, at0, at1, at2, at3, at4, ix5_1, ix5_2, ix5_3, ix5_4, outP_rt, outP_nx, outP_ex, outH_rt, List.set_cons_succ, List.set_cons_zero, Bool.false_eq_true, if_true, if_false, decide_true, decide_false, reduceIte, Bool.not_true, Bool.not_false, Bool.true_and, Bool.and_true, Bool.false_and, Bool.and_false, Bool.true_or, Bool.or_true, Bool.false_or, Bool.or_false, mL_len, Int.toNat_natCast, Int.cast_ofNat_Int, Nat.reduceAdd, Int.reduceToNat, Int.reduceEq, Int.reduceLT, Int.reduceLE, Int.reduceSub, Int.reduceAdd, Bool.bne_false, bne_self_eq_false, beq_self_eq_true,  Bool.bne_true, List.map_id', h1, h2, Bool.and_true, Bool.and_false, Bool.true_and, Bool.false_and]
theorem within_i (x lo hi : Int) : F_is_within [.int x, .int lo, .int hi] = .ok (.bool (decide (lo ≤ x) && decide (x ≤ hi))) := by
  have I : F_is_integer [.int x] = .ok (.bool true) := integer_e _
  rw [F_is_within, runP_e]
  show outP (m_is_within [some (.int x), some (.int lo), some (.int hi)] []) = _
  by_cases h : lo ≤ x <;> simp -implicitDefEqProofs only [m_is_within, bind_ok, bindS_ok, bindN_ok, opt_some, thS_nx, thS_rt, thS_ex, seqS_e, skipS_e, retS_e, asgS_e, ifS_e, conM_e, varM_e, slot_0, slot_s, binM_e, unM_e, unL_e, boolM_e, asB_e, truM_e, truD_b, andB_e, orB_e, notB_e, ifM_e, andM_e, orM_e, notM_e, map_some_e, bind_some_e, isiM_e, chainM_e, exprS_e, parS_e, setE_c, setE_n, raiS_e, bind_ex, bindS_ex, wipeE_n, yesM_e, gN_e, items_l, items_t, tup_l, tup_t, nilM_e, consM_e, lstM_e, tupM_e, seqM_e, callP_e, callH_e, res_ok, res_ex, nex_ok, compM_e, forS_e, dropM_e, range1M_e, range2M_e, mulD_i, addD_i, subD_i, intD_i, ltD_i, leD_i, gtD_i, geD_i, eqD_i, neD_i, handM_e, handS_e, at0, at1, at2, at3, at4, ix5_1, ix5_2, ix5_3, ix5_4, outP_rt, outP_nx, outP_ex, outH_rt, List.set_cons_succ, List.set_cons_zero, Bool.false_eq_true, if_true, if_false, decide_true, decide_false, reduceIte, Bool.not_true, Bool.not_false, Bool.true_and, Bool.and_true, Bool.false_and, Bool.and_false, Bool.true_or, Bool.or_true, Bool.false_or, Bool.or_false, mL_len, Int.toNat_natCast, Int.cast_ofNat_Int, Nat.reduceAdd, Int.reduceToNat, Int.reduceEq, Int.reduceLT, Int.reduceLE, Int.reduceSub, Int.reduceAdd, Bool.bne_false, bne_self_eq_false, beq_self_eq_true,  Bool.bne_true, List.map_id', I, h, Bool.true_and, Bool.false_and]
theorem within_bad (d lo hi : D) (h : (isiD "int" d && !isiD "bool" d) = false) : F_is_within [d, lo, hi] = .ok (.bool false) := by
  have I : F_is_integer [d] = .ok (.bool false) := by rw [integer_e, h]
  rw [F_is_within, runP_e]
  show outP (m_is_within [some d, some lo, some hi] []) = _
  simp -implicitDefEqProofs only [m_is_within, bind_ok, bindS_ok, bindN_ok, opt_some, thS_nx, thS_rt, thS_ex, seqS_e, skipS_e, retS_e, asgS_e, ifS_e, conM_e, varM_e, slot_0, slot_s, binM_e, unM_e, unL_e, boolM_e, asB_e, truM_e, truD_b, andB_e, orB_e, notB_e, ifM_e, andM_e, orM_e, notM_e, map_some_e, bind_some_e, isiM_e, chainM_e, exprS_e, parS_e, setE_c, setE_n, raiS_e, bind_ex, bindS_ex, wipeE_n, yesM_e, gN_e, items_l, items_t, tup_l, tup_t, nilM_e, consM_e, lstM_e, tupM_e, seqM_e, callP_e, callH_e, res_ok, res_ex, nex_ok, compM_e, forS_e, dropM_e, range1M_e, range2M_e, mulD_i, addD_i, subD_i, intD_i, ltD_i, leD_i, gtD_i, geD_i, eqD_i, neD_i, handM_e, handS_e, at0, at1, at2, at3, at4, ix5_1, ix5_2, ix5_3, ix5_4, outP_rt, outP_nx, outP_ex, outH_rt, List.set_cons_succ, List.set_cons_zero, Bool.false_eq_true, if_true, if_false, decide_true, decide_false, reduceIte, Bool.not_true, Bool.not_false, Bool.true_and, Bool.and_true, Bool.false_and, Bool.and_false, Bool.true_or, Bool.or_true, Bool.false_or, Bool.or_false, mL_len, Int.toNat_natCast, Int.cast_ofNat_Int, Nat.reduceAdd, Int.reduceToNat, Int.reduceEq, Int.reduceLT, Int.reduceLE, Int.reduceSub, Int.reduceAdd, Bool.bne_false, bne_self_eq_false, beq_self_eq_true,  Bool.bne_true, List.map_id', I]
end Lw


set_option maxRecDepth 100000
set_option maxHeartbeats 4000000
namespace Lw
open Sm PySem PySem.Spec L2
theorem sized_t (ds : List D) (lo hi : Int) : F_is_sized [.tuple ds, .int lo, .int hi] = .ok (.bool (decide (lo ≤ ds.length) && decide ((ds.length : Int) ≤ hi))) := by
  rw [F_is_sized, runP_e]
  show outP (m_is_sized [some (.tuple ds), some (.int lo), some (.int hi)] []) = _
  simp -implicitDefEqProofs (disch := first | omega | (simp only [mL_len, List.length_map, rg_len, List.length_append, List.length_reverse, List.length_cons, List.length_nil, List.length_set] <;> omega) | (simp only [rg_mem] at * <;> omega)) only [bind_ok, bindS_ok, bindN_ok, opt_some, thS_nx, thS_rt, thS_ex, seqS_e, skipS_e, retS_e, asgS_e, ifS_e, conM_e, varM_e, slot_0, slot_s, binM_e, unM_e, unL_e, boolM_e, asB_e, truM_e, truD_b, andB_e, orB_e, notB_e, ifM_e, andM_e, orM_e, notM_e, map_some_e, bind_some_e, isiM_e, chainM_e, exprS_e, parS_e, setE_c, setE_n, raiS_e, bind_ex, bindS_ex, wipeE_n, yesM_e, gN_e, items_l, items_t, tup_l, tup_t, nilM_e, consM_e, lstM_e, tupM_e, seqM_e, callP_e, callH_e, res_ok, res_ex, nex_ok, compM_e, forS_e, range1M_e, range2M_e, mulD_i, addD_i, subD_i, intD_i, ltD_i, leD_i, gtD_i, geD_i, eqD_i, neD_i, handM_e, handS_e, at0, at1, at2, at3, at4, ix5_1, ix5_2, ix5_3, ix5_4, outP_rt, outP_nx, outP_ex, outH_rt, List.set_cons_succ, List.set_cons_zero, Bool.false_eq_true, if_true, if_false, decide_true, decide_false, reduceIte, Bool.not_true, Bool.not_false, Bool.true_and, Bool.and_true, Bool.false_and, Bool.and_false, Bool.true_or, Bool.or_true, Bool.false_or, Bool.or_false, mL_len, Int.toNat_natCast, Int.cast_ofNat_Int, Nat.reduceAdd, Int.reduceToNat, Int.reduceEq, Int.reduceLT, Int.reduceLE, Int.reduceSub, Int.reduceAdd, Bool.bne_false, bne_self_eq_false, beq_self_eq_true,  Bool.bne_true, List.map_id', compL_m, wipeE_c, stepR_gN, stepR_g2, mapR_all, mL_int, mL_bool, mL_row, mL_rows, mapR_if, eT_e, eTT_e, mL_app, lenD_l, lenD_t, sumD_i, sumD_t, allD_b, anyD_b, cutG_m, cutD_l, cutD_t, rev_m, revD_l, revD_t, zip_m, zipD_l, zipD_t, enum_m, enumD_l, enumD_t, rg_len, ixD_l, ixD_t, atI_mod, range_0, eqD_l, eqD_t, neD_l, neD_t, neD_lnil, eqD_lnil, inD_il, inD_it, inD_rl, inD_rt, inD_cl, eqD_b, neD_b, if_and, if_or, if_andD, if_orD, all_id, any_id, partR_i, aPart_e, noPart_e, sliceM_e, addD_m, addD_ml, addD_cut, addD_cutl, range3_e, zipM_e, enumM_e, isi2M_e, isNM_e, max2_i, min2_i, negM_e, negR_i, wordM_r, wordR_ok, wordR_ex, appS_r, appR_l, extS_r, extR_l, mL_app1, mL_row1, frzS_e, isL_0, isL_s, dropM_r, dropR_nx, dropR_rt, dropR_ex, dropR_ct, dropR_bk, dropR_ite, thS_ite, outP_ite, outH_ite, lrot_e, gT2, addD_1, loop_foldI, fndR_s, fndR_n, dropR_fnd, mL_C, mL_Cs, mL_Ct, oN_s, oN_n, mtM_e, isLst_l, idxL_m, cntL_m, at_0, at_1, at_2, at_3, at_m1, at_m2, at_m3, isi_tt, isi_ts, isi_ti, isi_tl, isi_tn, isi_ss, isi_st, isi_si, isi_sl, isi_sn, isi_ll, isi_lt, mul_l1, mul_t1, notBD_b, isBD_b, absD_i, sortL_pr, sortOk_pr, sortD_pr, unpS_r, unpR_s, gT3, mtA_e, isSq_l, isSq_t, cntA_ti, cntA_li, cntA_tr, cntA_lr, nxO_s, set2S_r, set2R_2, set2K_e, set2X_s, setO_e, setD_l, mL_seti, setS_r, m_is_sized, show isiD "tuple" (.tuple ds) = true from rfl]
theorem sized_bad (d lo hi : D) (h : isiD "tuple" d = false) : F_is_sized [d, lo, hi] = .ok (.bool false) := by
  rw [F_is_sized, runP_e]
  show outP (m_is_sized [some d, some lo, some hi] []) = _
  simp -implicitDefEqProofs (disch := first | omega | (simp only [mL_len, List.length_map, rg_len, List.length_append, List.length_reverse, List.length_cons, List.length_nil, List.length_set] <;> omega) | (simp only [rg_mem] at * <;> omega)) only [bind_ok, bindS_ok, bindN_ok, opt_some, thS_nx, thS_rt, thS_ex, seqS_e, skipS_e, retS_e, asgS_e, ifS_e, conM_e, varM_e, slot_0, slot_s, binM_e, unM_e, unL_e, boolM_e, asB_e, truM_e, truD_b, andB_e, orB_e, notB_e, ifM_e, andM_e, orM_e, notM_e, map_some_e, bind_some_e, isiM_e, chainM_e, exprS_e, parS_e, setE_c, setE_n, raiS_e, bind_ex, bindS_ex, wipeE_n, yesM_e, gN_e, items_l, items_t, tup_l, tup_t, nilM_e, consM_e, lstM_e, tupM_e, seqM_e, callP_e, callH_e, res_ok, res_ex, nex_ok, compM_e, forS_e, range1M_e, range2M_e, mulD_i, addD_i, subD_i, intD_i, ltD_i, leD_i, gtD_i, geD_i, eqD_i, neD_i, handM_e, handS_e, at0, at1, at2, at3, at4, ix5_1, ix5_2, ix5_3, ix5_4, outP_rt, outP_nx, outP_ex, outH_rt, List.set_cons_succ, List.set_cons_zero, Bool.false_eq_true, if_true, if_false, decide_true, decide_false, reduceIte, Bool.not_true, Bool.not_false, Bool.true_and, Bool.and_true, Bool.false_and, Bool.and_false, Bool.true_or, Bool.or_true, Bool.false_or, Bool.or_false, mL_len, Int.toNat_natCast, Int.cast_ofNat_Int, Nat.reduceAdd, Int.reduceToNat, Int.reduceEq, Int.reduceLT, Int.reduceLE, Int.reduceSub, Int.reduceAdd, Bool.bne_false, bne_self_eq_false, beq_self_eq_true,  Bool.bne_true, List.map_id', compL_m, wipeE_c, stepR_gN, stepR_g2, mapR_all, mL_int, mL_bool, mL_row, mL_rows, mapR_if, eT_e, eTT_e, mL_app, lenD_l, lenD_t, sumD_i, sumD_t, allD_b, anyD_b, cutG_m, cutD_l, cutD_t, rev_m, revD_l, revD_t, zip_m, zipD_l, zipD_t, enum_m, enumD_l, enumD_t, rg_len, ixD_l, ixD_t, atI_mod, range_0, eqD_l, eqD_t, neD_l, neD_t, neD_lnil, eqD_lnil, inD_il, inD_it, inD_rl, inD_rt, inD_cl, eqD_b, neD_b, if_and, if_or, if_andD, if_orD, all_id, any_id, partR_i, aPart_e, noPart_e, sliceM_e, addD_m, addD_ml, addD_cut, addD_cutl, range3_e, zipM_e, enumM_e, isi2M_e, isNM_e, max2_i, min2_i, negM_e, negR_i, wordM_r, wordR_ok, wordR_ex, appS_r, appR_l, extS_r, extR_l, mL_app1, mL_row1, frzS_e, isL_0, isL_s, dropM_r, dropR_nx, dropR_rt, dropR_ex, dropR_ct, dropR_bk, dropR_ite, thS_ite, outP_ite, outH_ite, lrot_e, gT2, addD_1, loop_foldI, fndR_s, fndR_n, dropR_fnd, mL_C, mL_Cs, mL_Ct, oN_s, oN_n, mtM_e, isLst_l, idxL_m, cntL_m, at_0, at_1, at_2, at_3, at_m1, at_m2, at_m3, isi_tt, isi_ts, isi_ti, isi_tl, isi_tn, isi_ss, isi_st, isi_si, isi_sl, isi_sn, isi_ll, isi_lt, mul_l1, mul_t1, notBD_b, isBD_b, absD_i, sortL_pr, sortOk_pr, sortD_pr, unpS_r, unpR_s, gT3, mtA_e, isSq_l, isSq_t, cntA_ti, cntA_li, cntA_tr, cntA_lr, nxO_s, set2S_r, set2R_2, set2K_e, set2X_s, setO_e, setD_l, mL_seti, setS_r, m_is_sized, h]
structure OrdOk (o : List Int) : Prop where
  l1 : 1 ≤ o.length
  l2 : o.length ≤ 24
  ran : ∀ x ∈ o, 0 ≤ x ∧ x ≤ 5
def stI (i c : Int) (n : Nat) : List Int := (List.range n).map fun (k : Nat) => i + (k : Int) * c
theorem stepsL_m (i c : Int) (n : Nat) : stepsL i c n = mL PyData.int (stI i c n) := by unfold stepsL stI mL; rw [List.map_map]; rfl
def nP (o : List Int) (p : Int) : Nat := (((o.length : Int) - 1) / p + 1).toNat
def rowsP (o : List Int) (p : Int) : List (List Int) := (stI 0 p (nP o p)).map fun a => cutG o (some a) (some (a + p))
section
variable {o : List Int} {p : Int}
theorem range_p (h : OrdOk o) (p1 : 1 ≤ p) (p8 : p ≤ 8) : range3D (.int 0) (.int (o.length : Nat)) (.int p) = some (mL PyData.int (stI 0 p (nP o p))) := by
  have l1 := h.l1
  have l2 := h.l2
  have e : stepsN 0 (o.length : Nat) p = nP o p := by
    unfold stepsN nP
    rw [if_pos (by omega), if_pos (by omega), Int.sub_zero]
  have b : nP o p ≤ 100 := by
    unfold nP
    have := Int.ediv_le_self (a := (o.length : Int) - 1) p (by omega)
    omega
  unfold range3D
  show (if _ then _ else _) = _
  rw [if_pos (by
    have hL : LINE = 16777216 := rfl
    exact ⟨by omega, by omega, by omega, by omega, by omega, by omega, by rw [e]; omega⟩), e, stepsL_m]
theorem nP_pos (h : OrdOk o) (p1 : 1 ≤ p) : 1 ≤ nP o p := by
  have l1 := h.l1
  have := Int.ediv_nonneg (a := (o.length : Int) - 1) (b := p) (by omega) (by omega)
  unfold nP
  omega
theorem nP_le (h : OrdOk o) (p1 : 1 ≤ p) : nP o p ≤ 24 := by
  have l1 := h.l1
  have l2 := h.l2
  have := Int.ediv_le_self (a := (o.length : Int) - 1) p (by omega)
  unfold nP
  omega
theorem rows_len (o : List Int) (p : Int) : (rowsP o p).length = nP o p := by unfold rowsP stI; simp
theorem st_mem {x : Int} (h : x ∈ stI 0 p (nP o p)) (p1 : 1 ≤ p) : 0 ≤ x := by
  unfold stI at h
  obtain ⟨k, _, rfl⟩ := List.mem_map.mp h
  have := Int.mul_nonneg (show 0 ≤ (k : Int) by omega) (show 0 ≤ p by omega)
  omega
theorem rows_row {r : List Int} (h : r ∈ rowsP o p) (p1 : 1 ≤ p) : (r.length : Int) ≤ p ∧ ∀ x ∈ r, x ∈ o := by
  unfold rowsP at h
  obtain ⟨a, ha, rfl⟩ := List.mem_map.mp h
  have a0 := st_mem ha p1
  rw [cut_between _ _ _ a0 (by omega)]
  refine ⟨?_, fun x hx => List.mem_of_mem_take (List.mem_of_mem_drop hx)⟩
  rw [List.length_drop, List.length_take]
  omega
theorem rows_all (h : OrdOk o) (p1 : 1 ≤ p) {x : Int} (hx : x ∈ o) : ∃ r ∈ rowsP o p, x ∈ r := by
  obtain ⟨i, hi, rfl⟩ := List.getElem_of_mem hx
  have q0 := Int.ediv_nonneg (a := (i : Int)) (b := p) (by omega) (by omega)
  have q1 : (i : Int) / p ≤ ((o.length : Int) - 1) / p := Int.ediv_le_ediv (by omega) (by omega)
  have e := Int.emod_add_mul_ediv (i : Int) p
  have m0 := Int.emod_nonneg (i : Int) (show p ≠ 0 by omega)
  have m1 := Int.emod_lt_of_pos (i : Int) (show 0 < p by omega)
  have comm : p * ((i : Int) / p) = (i : Int) / p * p := Int.mul_comm _ _
  have k0 : 0 ≤ (i : Int) / p * p := Int.mul_nonneg q0 (by omega)
  refine ⟨cutG o (some ((i : Int) / p * p)) (some ((i : Int) / p * p + p)), ?_, ?_⟩
  · unfold rowsP
    refine List.mem_map.mpr ⟨(i : Int) / p * p, ?_, rfl⟩
    unfold stI
    refine List.mem_map.mpr ⟨((i : Int) / p).toNat, List.mem_range.mpr ?_, ?_⟩
    · unfold nP
      omega
    · rw [Int.toNat_of_nonneg q0]
      omega
  · rw [cut_between _ _ _ (by omega) (by omega)]
    refine List.mem_iff_getElem.mpr ⟨i - ((i : Int) / p * p).toNat, ?_, ?_⟩
    · rw [List.length_drop, List.length_take]
      omega
    · rw [List.getElem_drop, List.getElem_take]
      congr 1
      omega
/-! greatest -/
theorem foldl_max_spec : ∀ (xs : List Int) (x : Int), xs.foldl max x ∈ x :: xs ∧ ∀ y ∈ x :: xs, y ≤ xs.foldl max x
  | [], x => ⟨List.mem_cons_self, fun y hy => by
    rcases List.mem_cons.mp hy with e | hy
    · rw [e]; exact Int.le_refl _
    · cases hy⟩
  | z :: xs, x => by
    obtain ⟨h1, h2⟩ := foldl_max_spec xs (max x z)
    rw [List.foldl_cons]
    have h3 := h2 _ List.mem_cons_self
    refine ⟨?_, fun y hy => ?_⟩
    · rcases List.mem_cons.mp h1 with e | h1
      · rw [e]
        by_cases c : x ≤ z
        · rw [Int.max_eq_right c]; exact List.mem_cons_of_mem _ List.mem_cons_self
        · rw [Int.max_eq_left (by omega)]; exact List.mem_cons_self
      · exact List.mem_cons_of_mem _ (List.mem_cons_of_mem _ h1)
    · rcases List.mem_cons.mp hy with e | hy
      · rw [e]; omega
      · rcases List.mem_cons.mp hy with e | hy
        · rw [e]; omega
        · exact h2 y (List.mem_cons_of_mem _ hy)
theorem maxI_spec {ns : List Int} (h : 0 < ns.length) : maxI ns ∈ ns ∧ ∀ y ∈ ns, y ≤ maxI ns := by
  cases ns with
  | nil => cases h
  | cons x xs => exact foldl_max_spec xs x
def cntZ (r : List Int) (c : Int) : Int := (r.countP fun z => decide (z = c) : Nat)
def coneP (o : List Int) (p c : Int) : Int := maxI ((rowsP o p).map fun r => cntZ r c)
theorem cone_in (h : OrdOk o) (p1 : 1 ≤ p) {c : Int} (hc : c ∈ o) : 1 ≤ coneP o p c ∧ coneP o p c ≤ p := by
  have hl : 0 < ((rowsP o p).map fun r => cntZ r c).length := by rw [List.length_map, rows_len]; exact nP_pos h p1
  obtain ⟨m1, m2⟩ := maxI_spec hl
  constructor
  · obtain ⟨r, hr, hx⟩ := rows_all h p1 hc
    have := m2 _ (List.mem_map.mpr ⟨r, hr, rfl⟩)
    have pos : 0 < r.countP fun z => decide (z = c) := List.countP_pos_iff.mpr ⟨c, hx, by simp⟩
    unfold coneP
    unfold cntZ at this ⊢
    omega
  · obtain ⟨r, hr, e⟩ := List.mem_map.mp m1
    have := (rows_row hr p1).1
    have le := List.countP_le_length (l := r) (p := fun z => decide (z = c))
    unfold coneP
    rw [← e]
    show cntZ r c ≤ p
    unfold cntZ
    omega
theorem cone_out (h : OrdOk o) (p1 : 1 ≤ p) {c : Int} (hc : ¬ c ∈ o) : coneP o p c = 0 := by
  have hl : 0 < ((rowsP o p).map fun r => cntZ r c).length := by rw [List.length_map, rows_len]; exact nP_pos h p1
  obtain ⟨m1, _⟩ := maxI_spec hl
  obtain ⟨r, hr, e⟩ := List.mem_map.mp m1
  unfold coneP
  rw [← e]
  show ((r.countP fun z => decide (z = c) : Nat) : Int) = 0
  have : (r.countP fun z => decide (z = c)) = 0 := List.countP_eq_zero.mpr fun z hz => by
    have := (rows_row hr p1).2 z hz
    intro q
    have := of_decide_eq_true q
    subst this
    exact hc (by assumption)
  omega
theorem sum_between {p : Int} {q : Int → Bool} {f : Int → Int} : ∀ xs : List Int, (∀ x ∈ xs, (q x = true → 1 ≤ f x ∧ f x ≤ p) ∧ (q x = false → f x = 0)) → (((xs.filter q).length : Nat) : Int) ≤ (xs.map f).sum ∧ (xs.map f).sum ≤ p * (((xs.filter q).length : Nat) : Int)
  | [], _ => ⟨by simp, by simp⟩
  | x :: xs, h => by
    obtain ⟨i1, i2⟩ := sum_between xs fun y hy => h y (List.mem_cons_of_mem _ hy)
    obtain ⟨h1, h2⟩ := h x List.mem_cons_self
    rw [List.map_cons, List.sum_cons]
    cases c : q x with
    | true =>
      obtain ⟨a, b⟩ := h1 c
      rw [List.filter_cons_of_pos c, List.length_cons, Int.natCast_add, Int.mul_add]
      omega
    | false =>
      have a := h2 c
      rw [List.filter_cons_of_neg (by rw [c]; exact Bool.false_ne_true)]
      omega
def colN (o : List Int) : Nat := ((rgI 0 6).filter fun c => decide (c ∈ o)).length
def totP (o : List Int) (p : Int) : Int := ((rgI 0 6).map (coneP o p)).sum
theorem tot_between (h : OrdOk o) (p1 : 1 ≤ p) : (colN o : Int) ≤ totP o p ∧ totP o p ≤ p * (colN o : Int) := by
  unfold colN totP
  refine sum_between _ fun x _ => ⟨fun c => cone_in h p1 (of_decide_eq_true c), fun c => cone_out h p1 (of_decide_eq_false c)⟩
/-! the program -/
theorem order_ok (h : OrdOk o) : F_is_order [.tuple (mL PyData.int o)] = .ok (.bool true) := by
  have l1 := h.l1
  have l2 := h.l2
  rw [F_is_order, runP_e]
  show outP (m_is_order [some (.tuple (mL PyData.int o)), none] []) = _
  simp -implicitDefEqProofs (disch := first | omega | (simp only [mL_len, List.length_map, rg_len, List.length_append, List.length_reverse, List.length_cons, List.length_nil, List.length_set] <;> omega) | (simp only [rg_mem] at * <;> omega)) only [bind_ok, bindS_ok, bindN_ok, opt_some, thS_nx, thS_rt, thS_ex, seqS_e, skipS_e, retS_e, asgS_e, ifS_e, conM_e, varM_e, slot_0, slot_s, binM_e, unM_e, unL_e, boolM_e, asB_e, truM_e, truD_b, andB_e, orB_e, notB_e, ifM_e, andM_e, orM_e, notM_e, map_some_e, bind_some_e, isiM_e, chainM_e, exprS_e, parS_e, setE_c, setE_n, raiS_e, bind_ex, bindS_ex, wipeE_n, yesM_e, gN_e, items_l, items_t, tup_l, tup_t, nilM_e, consM_e, lstM_e, tupM_e, seqM_e, callP_e, callH_e, res_ok, res_ex, nex_ok, compM_e, forS_e, range1M_e, range2M_e, mulD_i, addD_i, subD_i, intD_i, ltD_i, leD_i, gtD_i, geD_i, eqD_i, neD_i, handM_e, handS_e, at0, at1, at2, at3, at4, ix5_1, ix5_2, ix5_3, ix5_4, outP_rt, outP_nx, outP_ex, outH_rt, List.set_cons_succ, List.set_cons_zero, Bool.false_eq_true, if_true, if_false, decide_true, decide_false, reduceIte, Bool.not_true, Bool.not_false, Bool.true_and, Bool.and_true, Bool.false_and, Bool.and_false, Bool.true_or, Bool.or_true, Bool.false_or, Bool.or_false, mL_len, Int.toNat_natCast, Int.cast_ofNat_Int, Nat.reduceAdd, Int.reduceToNat, Int.reduceEq, Int.reduceLT, Int.reduceLE, Int.reduceSub, Int.reduceAdd, Bool.bne_false, bne_self_eq_false, beq_self_eq_true,  Bool.bne_true, List.map_id', compL_m, wipeE_c, stepR_gN, stepR_g2, mapR_all, mL_int, mL_bool, mL_row, mL_rows, mapR_if, eT_e, eTT_e, mL_app, lenD_l, lenD_t, sumD_i, sumD_t, allD_b, anyD_b, cutG_m, cutD_l, cutD_t, rev_m, revD_l, revD_t, zip_m, zipD_l, zipD_t, enum_m, enumD_l, enumD_t, rg_len, ixD_l, ixD_t, atI_mod, range_0, eqD_l, eqD_t, neD_l, neD_t, neD_lnil, eqD_lnil, inD_il, inD_it, inD_rl, inD_rt, inD_cl, eqD_b, neD_b, if_and, if_or, if_andD, if_orD, all_id, any_id, partR_i, aPart_e, noPart_e, sliceM_e, addD_m, addD_ml, addD_cut, addD_cutl, range3_e, zipM_e, enumM_e, isi2M_e, isNM_e, max2_i, min2_i, negM_e, negR_i, wordM_r, wordR_ok, wordR_ex, appS_r, appR_l, extS_r, extR_l, mL_app1, mL_row1, frzS_e, isL_0, isL_s, dropM_r, dropR_nx, dropR_rt, dropR_ex, dropR_ct, dropR_bk, dropR_ite, thS_ite, outP_ite, outH_ite, lrot_e, gT2, addD_1, loop_foldI, fndR_s, fndR_n, dropR_fnd, mL_C, mL_Cs, mL_Ct, oN_s, oN_n, mtM_e, isLst_l, idxL_m, cntL_m, at_0, at_1, at_2, at_3, at_m1, at_m2, at_m3, isi_tt, isi_ts, isi_ti, isi_tl, isi_tn, isi_ss, isi_st, isi_si, isi_sl, isi_sn, isi_ll, isi_lt, mul_l1, mul_t1, notBD_b, isBD_b, absD_i, sortL_pr, sortOk_pr, sortD_pr, unpS_r, unpR_s, gT3, mtA_e, isSq_l, isSq_t, cntA_ti, cntA_li, cntA_tr, cntA_lr, nxO_s, set2S_r, set2R_2, set2K_e, set2X_s, setO_e, setD_l, mL_seti, setS_r, dropM_r, range_m, Int.sub_zero, parS_e, asgL_e, List.length_cons, List.length_nil, Nat.reduceAdd, Nat.reduceLT, List.all_cons, List.all_nil, m_is_order, sized_t, decide_eq_true (show (1 : Int) ≤ (o.length : Nat) by omega), decide_eq_true (show ((o.length : Nat) : Int) ≤ 24 by omega)]
  rw [mapR_ok (G := fun _ => PyData.bool true)]
  · have e : mL (fun _ : Int => PyData.bool true) o = mL PyData.bool (o.map fun _ => true) := by unfold mL; rw [List.map_map]; rfl
    rw [e]
    have a : (o.map fun _ => true).all id = true := by simp
    simp -implicitDefEqProofs (disch := first | omega | (simp only [mL_len, List.length_map, rg_len, List.length_append, List.length_reverse, List.length_cons, List.length_nil, List.length_set] <;> omega) | (simp only [rg_mem] at * <;> omega)) only [bind_ok, bindS_ok, bindN_ok, opt_some, thS_nx, thS_rt, thS_ex, seqS_e, skipS_e, retS_e, asgS_e, ifS_e, conM_e, varM_e, slot_0, slot_s, binM_e, unM_e, unL_e, boolM_e, asB_e, truM_e, truD_b, andB_e, orB_e, notB_e, ifM_e, andM_e, orM_e, notM_e, map_some_e, bind_some_e, isiM_e, chainM_e, exprS_e, parS_e, setE_c, setE_n, raiS_e, bind_ex, bindS_ex, wipeE_n, yesM_e, gN_e, items_l, items_t, tup_l, tup_t, nilM_e, consM_e, lstM_e, tupM_e, seqM_e, callP_e, callH_e, res_ok, res_ex, nex_ok, compM_e, forS_e, range1M_e, range2M_e, mulD_i, addD_i, subD_i, intD_i, ltD_i, leD_i, gtD_i, geD_i, eqD_i, neD_i, handM_e, handS_e, at0, at1, at2, at3, at4, ix5_1, ix5_2, ix5_3, ix5_4, outP_rt, outP_nx, outP_ex, outH_rt, List.set_cons_succ, List.set_cons_zero, Bool.false_eq_true, if_true, if_false, decide_true, decide_false, reduceIte, Bool.not_true, Bool.not_false, Bool.true_and, Bool.and_true, Bool.false_and, Bool.and_false, Bool.true_or, Bool.or_true, Bool.false_or, Bool.or_false, mL_len, Int.toNat_natCast, Int.cast_ofNat_Int, Nat.reduceAdd, Int.reduceToNat, Int.reduceEq, Int.reduceLT, Int.reduceLE, Int.reduceSub, Int.reduceAdd, Bool.bne_false, bne_self_eq_false, beq_self_eq_true,  Bool.bne_true, List.map_id', compL_m, wipeE_c, stepR_gN, stepR_g2, mapR_all, mL_int, mL_bool, mL_row, mL_rows, mapR_if, eT_e, eTT_e, mL_app, lenD_l, lenD_t, sumD_i, sumD_t, allD_b, anyD_b, cutG_m, cutD_l, cutD_t, rev_m, revD_l, revD_t, zip_m, zipD_l, zipD_t, enum_m, enumD_l, enumD_t, rg_len, ixD_l, ixD_t, atI_mod, range_0, eqD_l, eqD_t, neD_l, neD_t, neD_lnil, eqD_lnil, inD_il, inD_it, inD_rl, inD_rt, inD_cl, eqD_b, neD_b, if_and, if_or, if_andD, if_orD, all_id, any_id, partR_i, aPart_e, noPart_e, sliceM_e, addD_m, addD_ml, addD_cut, addD_cutl, range3_e, zipM_e, enumM_e, isi2M_e, isNM_e, max2_i, min2_i, negM_e, negR_i, wordM_r, wordR_ok, wordR_ex, appS_r, appR_l, extS_r, extR_l, mL_app1, mL_row1, frzS_e, isL_0, isL_s, dropM_r, dropR_nx, dropR_rt, dropR_ex, dropR_ct, dropR_bk, dropR_ite, thS_ite, outP_ite, outH_ite, lrot_e, gT2, addD_1, loop_foldI, fndR_s, fndR_n, dropR_fnd, mL_C, mL_Cs, mL_Ct, oN_s, oN_n, mtM_e, isLst_l, idxL_m, cntL_m, at_0, at_1, at_2, at_3, at_m1, at_m2, at_m3, isi_tt, isi_ts, isi_ti, isi_tl, isi_tn, isi_ss, isi_st, isi_si, isi_sl, isi_sn, isi_ll, isi_lt, mul_l1, mul_t1, notBD_b, isBD_b, absD_i, sortL_pr, sortOk_pr, sortD_pr, unpS_r, unpR_s, gT3, mtA_e, isSq_l, isSq_t, cntA_ti, cntA_li, cntA_tr, cntA_lr, nxO_s, set2S_r, set2R_2, set2K_e, set2X_s, setO_e, setD_l, mL_seti, setS_r, dropM_r, range_m, Int.sub_zero, parS_e, asgL_e, List.length_cons, List.length_nil, Nat.reduceAdd, Nat.reduceLT, List.all_cons, List.all_nil, a]
  · intro i hi g
    obtain ⟨h1, h2⟩ := h.ran i hi
    simp -implicitDefEqProofs (disch := first | omega | (simp only [mL_len, List.length_map, rg_len, List.length_append, List.length_reverse, List.length_cons, List.length_nil, List.length_set] <;> omega) | (simp only [rg_mem] at * <;> omega)) only [bind_ok, bindS_ok, bindN_ok, opt_some, thS_nx, thS_rt, thS_ex, seqS_e, skipS_e, retS_e, asgS_e, ifS_e, conM_e, varM_e, slot_0, slot_s, binM_e, unM_e, unL_e, boolM_e, asB_e, truM_e, truD_b, andB_e, orB_e, notB_e, ifM_e, andM_e, orM_e, notM_e, map_some_e, bind_some_e, isiM_e, chainM_e, exprS_e, parS_e, setE_c, setE_n, raiS_e, bind_ex, bindS_ex, wipeE_n, yesM_e, gN_e, items_l, items_t, tup_l, tup_t, nilM_e, consM_e, lstM_e, tupM_e, seqM_e, callP_e, callH_e, res_ok, res_ex, nex_ok, compM_e, forS_e, range1M_e, range2M_e, mulD_i, addD_i, subD_i, intD_i, ltD_i, leD_i, gtD_i, geD_i, eqD_i, neD_i, handM_e, handS_e, at0, at1, at2, at3, at4, ix5_1, ix5_2, ix5_3, ix5_4, outP_rt, outP_nx, outP_ex, outH_rt, List.set_cons_succ, List.set_cons_zero, Bool.false_eq_true, if_true, if_false, decide_true, decide_false, reduceIte, Bool.not_true, Bool.not_false, Bool.true_and, Bool.and_true, Bool.false_and, Bool.and_false, Bool.true_or, Bool.or_true, Bool.false_or, Bool.or_false, mL_len, Int.toNat_natCast, Int.cast_ofNat_Int, Nat.reduceAdd, Int.reduceToNat, Int.reduceEq, Int.reduceLT, Int.reduceLE, Int.reduceSub, Int.reduceAdd, Bool.bne_false, bne_self_eq_false, beq_self_eq_true,  Bool.bne_true, List.map_id', compL_m, wipeE_c, stepR_gN, stepR_g2, mapR_all, mL_int, mL_bool, mL_row, mL_rows, mapR_if, eT_e, eTT_e, mL_app, lenD_l, lenD_t, sumD_i, sumD_t, allD_b, anyD_b, cutG_m, cutD_l, cutD_t, rev_m, revD_l, revD_t, zip_m, zipD_l, zipD_t, enum_m, enumD_l, enumD_t, rg_len, ixD_l, ixD_t, atI_mod, range_0, eqD_l, eqD_t, neD_l, neD_t, neD_lnil, eqD_lnil, inD_il, inD_it, inD_rl, inD_rt, inD_cl, eqD_b, neD_b, if_and, if_or, if_andD, if_orD, all_id, any_id, partR_i, aPart_e, noPart_e, sliceM_e, addD_m, addD_ml, addD_cut, addD_cutl, range3_e, zipM_e, enumM_e, isi2M_e, isNM_e, max2_i, min2_i, negM_e, negR_i, wordM_r, wordR_ok, wordR_ex, appS_r, appR_l, extS_r, extR_l, mL_app1, mL_row1, frzS_e, isL_0, isL_s, dropM_r, dropR_nx, dropR_rt, dropR_ex, dropR_ct, dropR_bk, dropR_ite, thS_ite, outP_ite, outH_ite, lrot_e, gT2, addD_1, loop_foldI, fndR_s, fndR_n, dropR_fnd, mL_C, mL_Cs, mL_Ct, oN_s, oN_n, mtM_e, isLst_l, idxL_m, cntL_m, at_0, at_1, at_2, at_3, at_m1, at_m2, at_m3, isi_tt, isi_ts, isi_ti, isi_tl, isi_tn, isi_ss, isi_st, isi_si, isi_sl, isi_sn, isi_ll, isi_lt, mul_l1, mul_t1, notBD_b, isBD_b, absD_i, sortL_pr, sortOk_pr, sortD_pr, unpS_r, unpR_s, gT3, mtA_e, isSq_l, isSq_t, cntA_ti, cntA_li, cntA_tr, cntA_lr, nxO_s, set2S_r, set2R_2, set2K_e, set2X_s, setO_e, setD_l, mL_seti, setS_r, dropM_r, range_m, Int.sub_zero, parS_e, asgL_e, List.length_cons, List.length_nil, Nat.reduceAdd, Nat.reduceLT, List.all_cons, List.all_nil, within_i, decide_eq_true h1, decide_eq_true h2]
theorem once_ok (h : OrdOk o) (p1 : 1 ≤ p) (p8 : p ≤ 8) : F_check_at_once [.tuple (mL PyData.int o), .int p] = .ok .none := by
  have C : F_check_order [.tuple (mL PyData.int o)] = .ok .none := by
    rw [F_check_order, runP_e]
    show outP (m_check_order [some (.tuple (mL PyData.int o))] []) = _
    simp -implicitDefEqProofs (disch := first | omega | (simp only [mL_len, List.length_map, rg_len, List.length_append, List.length_reverse, List.length_cons, List.length_nil, List.length_set] <;> omega) | (simp only [rg_mem] at * <;> omega)) only [bind_ok, bindS_ok, bindN_ok, opt_some, thS_nx, thS_rt, thS_ex, seqS_e, skipS_e, retS_e, asgS_e, ifS_e, conM_e, varM_e, slot_0, slot_s, binM_e, unM_e, unL_e, boolM_e, asB_e, truM_e, truD_b, andB_e, orB_e, notB_e, ifM_e, andM_e, orM_e, notM_e, map_some_e, bind_some_e, isiM_e, chainM_e, exprS_e, parS_e, setE_c, setE_n, raiS_e, bind_ex, bindS_ex, wipeE_n, yesM_e, gN_e, items_l, items_t, tup_l, tup_t, nilM_e, consM_e, lstM_e, tupM_e, seqM_e, callP_e, callH_e, res_ok, res_ex, nex_ok, compM_e, forS_e, range1M_e, range2M_e, mulD_i, addD_i, subD_i, intD_i, ltD_i, leD_i, gtD_i, geD_i, eqD_i, neD_i, handM_e, handS_e, at0, at1, at2, at3, at4, ix5_1, ix5_2, ix5_3, ix5_4, outP_rt, outP_nx, outP_ex, outH_rt, List.set_cons_succ, List.set_cons_zero, Bool.false_eq_true, if_true, if_false, decide_true, decide_false, reduceIte, Bool.not_true, Bool.not_false, Bool.true_and, Bool.and_true, Bool.false_and, Bool.and_false, Bool.true_or, Bool.or_true, Bool.false_or, Bool.or_false, mL_len, Int.toNat_natCast, Int.cast_ofNat_Int, Nat.reduceAdd, Int.reduceToNat, Int.reduceEq, Int.reduceLT, Int.reduceLE, Int.reduceSub, Int.reduceAdd, Bool.bne_false, bne_self_eq_false, beq_self_eq_true,  Bool.bne_true, List.map_id', compL_m, wipeE_c, stepR_gN, stepR_g2, mapR_all, mL_int, mL_bool, mL_row, mL_rows, mapR_if, eT_e, eTT_e, mL_app, lenD_l, lenD_t, sumD_i, sumD_t, allD_b, anyD_b, cutG_m, cutD_l, cutD_t, rev_m, revD_l, revD_t, zip_m, zipD_l, zipD_t, enum_m, enumD_l, enumD_t, rg_len, ixD_l, ixD_t, atI_mod, range_0, eqD_l, eqD_t, neD_l, neD_t, neD_lnil, eqD_lnil, inD_il, inD_it, inD_rl, inD_rt, inD_cl, eqD_b, neD_b, if_and, if_or, if_andD, if_orD, all_id, any_id, partR_i, aPart_e, noPart_e, sliceM_e, addD_m, addD_ml, addD_cut, addD_cutl, range3_e, zipM_e, enumM_e, isi2M_e, isNM_e, max2_i, min2_i, negM_e, negR_i, wordM_r, wordR_ok, wordR_ex, appS_r, appR_l, extS_r, extR_l, mL_app1, mL_row1, frzS_e, isL_0, isL_s, dropM_r, dropR_nx, dropR_rt, dropR_ex, dropR_ct, dropR_bk, dropR_ite, thS_ite, outP_ite, outH_ite, lrot_e, gT2, addD_1, loop_foldI, fndR_s, fndR_n, dropR_fnd, mL_C, mL_Cs, mL_Ct, oN_s, oN_n, mtM_e, isLst_l, idxL_m, cntL_m, at_0, at_1, at_2, at_3, at_m1, at_m2, at_m3, isi_tt, isi_ts, isi_ti, isi_tl, isi_tn, isi_ss, isi_st, isi_si, isi_sl, isi_sn, isi_ll, isi_lt, mul_l1, mul_t1, notBD_b, isBD_b, absD_i, sortL_pr, sortOk_pr, sortD_pr, unpS_r, unpR_s, gT3, mtA_e, isSq_l, isSq_t, cntA_ti, cntA_li, cntA_tr, cntA_lr, nxO_s, set2S_r, set2R_2, set2K_e, set2X_s, setO_e, setD_l, mL_seti, setS_r, dropM_r, range_m, Int.sub_zero, parS_e, asgL_e, List.length_cons, List.length_nil, Nat.reduceAdd, Nat.reduceLT, List.all_cons, List.all_nil, m_check_order, order_ok h]
  rw [F_check_at_once, runP_e]
  show outP (m_check_at_once [some (.tuple (mL PyData.int o)), some (.int p)] []) = _
  simp -implicitDefEqProofs (disch := first | omega | (simp only [mL_len, List.length_map, rg_len, List.length_append, List.length_reverse, List.length_cons, List.length_nil, List.length_set] <;> omega) | (simp only [rg_mem] at * <;> omega)) only [bind_ok, bindS_ok, bindN_ok, opt_some, thS_nx, thS_rt, thS_ex, seqS_e, skipS_e, retS_e, asgS_e, ifS_e, conM_e, varM_e, slot_0, slot_s, binM_e, unM_e, unL_e, boolM_e, asB_e, truM_e, truD_b, andB_e, orB_e, notB_e, ifM_e, andM_e, orM_e, notM_e, map_some_e, bind_some_e, isiM_e, chainM_e, exprS_e, parS_e, setE_c, setE_n, raiS_e, bind_ex, bindS_ex, wipeE_n, yesM_e, gN_e, items_l, items_t, tup_l, tup_t, nilM_e, consM_e, lstM_e, tupM_e, seqM_e, callP_e, callH_e, res_ok, res_ex, nex_ok, compM_e, forS_e, range1M_e, range2M_e, mulD_i, addD_i, subD_i, intD_i, ltD_i, leD_i, gtD_i, geD_i, eqD_i, neD_i, handM_e, handS_e, at0, at1, at2, at3, at4, ix5_1, ix5_2, ix5_3, ix5_4, outP_rt, outP_nx, outP_ex, outH_rt, List.set_cons_succ, List.set_cons_zero, Bool.false_eq_true, if_true, if_false, decide_true, decide_false, reduceIte, Bool.not_true, Bool.not_false, Bool.true_and, Bool.and_true, Bool.false_and, Bool.and_false, Bool.true_or, Bool.or_true, Bool.false_or, Bool.or_false, mL_len, Int.toNat_natCast, Int.cast_ofNat_Int, Nat.reduceAdd, Int.reduceToNat, Int.reduceEq, Int.reduceLT, Int.reduceLE, Int.reduceSub, Int.reduceAdd, Bool.bne_false, bne_self_eq_false, beq_self_eq_true,  Bool.bne_true, List.map_id', compL_m, wipeE_c, stepR_gN, stepR_g2, mapR_all, mL_int, mL_bool, mL_row, mL_rows, mapR_if, eT_e, eTT_e, mL_app, lenD_l, lenD_t, sumD_i, sumD_t, allD_b, anyD_b, cutG_m, cutD_l, cutD_t, rev_m, revD_l, revD_t, zip_m, zipD_l, zipD_t, enum_m, enumD_l, enumD_t, rg_len, ixD_l, ixD_t, atI_mod, range_0, eqD_l, eqD_t, neD_l, neD_t, neD_lnil, eqD_lnil, inD_il, inD_it, inD_rl, inD_rt, inD_cl, eqD_b, neD_b, if_and, if_or, if_andD, if_orD, all_id, any_id, partR_i, aPart_e, noPart_e, sliceM_e, addD_m, addD_ml, addD_cut, addD_cutl, range3_e, zipM_e, enumM_e, isi2M_e, isNM_e, max2_i, min2_i, negM_e, negR_i, wordM_r, wordR_ok, wordR_ex, appS_r, appR_l, extS_r, extR_l, mL_app1, mL_row1, frzS_e, isL_0, isL_s, dropM_r, dropR_nx, dropR_rt, dropR_ex, dropR_ct, dropR_bk, dropR_ite, thS_ite, outP_ite, outH_ite, lrot_e, gT2, addD_1, loop_foldI, fndR_s, fndR_n, dropR_fnd, mL_C, mL_Cs, mL_Ct, oN_s, oN_n, mtM_e, isLst_l, idxL_m, cntL_m, at_0, at_1, at_2, at_3, at_m1, at_m2, at_m3, isi_tt, isi_ts, isi_ti, isi_tl, isi_tn, isi_ss, isi_st, isi_si, isi_sl, isi_sn, isi_ll, isi_lt, mul_l1, mul_t1, notBD_b, isBD_b, absD_i, sortL_pr, sortOk_pr, sortD_pr, unpS_r, unpR_s, gT3, mtA_e, isSq_l, isSq_t, cntA_ti, cntA_li, cntA_tr, cntA_lr, nxO_s, set2S_r, set2R_2, set2K_e, set2X_s, setO_e, setD_l, mL_seti, setS_r, dropM_r, range_m, Int.sub_zero, parS_e, asgL_e, List.length_cons, List.length_nil, Nat.reduceAdd, Nat.reduceLT, List.all_cons, List.all_nil, m_check_at_once, C, within_i, decide_eq_true p1, decide_eq_true p8]
theorem rawp_ok (h : OrdOk o) (p1 : 1 ≤ p) (p8 : p ≤ 8) : F_raw_passes [.tuple (mL PyData.int o), .int p] = .ok (.list (mL eT (rowsP o p))) := by
  rw [F_raw_passes, runP_e]
  show outP (m_raw_passes [some (.tuple (mL PyData.int o)), some (.int p), none] []) = _
  simp -implicitDefEqProofs (disch := first | omega | (simp only [mL_len, List.length_map, rg_len, List.length_append, List.length_reverse, List.length_cons, List.length_nil, List.length_set] <;> omega) | (simp only [rg_mem] at * <;> omega)) only [bind_ok, bindS_ok, bindN_ok, opt_some, thS_nx, thS_rt, thS_ex, seqS_e, skipS_e, retS_e, asgS_e, ifS_e, conM_e, varM_e, slot_0, slot_s, binM_e, unM_e, unL_e, boolM_e, asB_e, truM_e, truD_b, andB_e, orB_e, notB_e, ifM_e, andM_e, orM_e, notM_e, map_some_e, bind_some_e, isiM_e, chainM_e, exprS_e, parS_e, setE_c, setE_n, raiS_e, bind_ex, bindS_ex, wipeE_n, yesM_e, gN_e, items_l, items_t, tup_l, tup_t, nilM_e, consM_e, lstM_e, tupM_e, seqM_e, callP_e, callH_e, res_ok, res_ex, nex_ok, compM_e, forS_e, range1M_e, range2M_e, mulD_i, addD_i, subD_i, intD_i, ltD_i, leD_i, gtD_i, geD_i, eqD_i, neD_i, handM_e, handS_e, at0, at1, at2, at3, at4, ix5_1, ix5_2, ix5_3, ix5_4, outP_rt, outP_nx, outP_ex, outH_rt, List.set_cons_succ, List.set_cons_zero, Bool.false_eq_true, if_true, if_false, decide_true, decide_false, reduceIte, Bool.not_true, Bool.not_false, Bool.true_and, Bool.and_true, Bool.false_and, Bool.and_false, Bool.true_or, Bool.or_true, Bool.false_or, Bool.or_false, mL_len, Int.toNat_natCast, Int.cast_ofNat_Int, Nat.reduceAdd, Int.reduceToNat, Int.reduceEq, Int.reduceLT, Int.reduceLE, Int.reduceSub, Int.reduceAdd, Bool.bne_false, bne_self_eq_false, beq_self_eq_true,  Bool.bne_true, List.map_id', compL_m, wipeE_c, stepR_gN, stepR_g2, mapR_all, mL_int, mL_bool, mL_row, mL_rows, mapR_if, eT_e, eTT_e, mL_app, lenD_l, lenD_t, sumD_i, sumD_t, allD_b, anyD_b, cutG_m, cutD_l, cutD_t, rev_m, revD_l, revD_t, zip_m, zipD_l, zipD_t, enum_m, enumD_l, enumD_t, rg_len, ixD_l, ixD_t, atI_mod, range_0, eqD_l, eqD_t, neD_l, neD_t, neD_lnil, eqD_lnil, inD_il, inD_it, inD_rl, inD_rt, inD_cl, eqD_b, neD_b, if_and, if_or, if_andD, if_orD, all_id, any_id, partR_i, aPart_e, noPart_e, sliceM_e, addD_m, addD_ml, addD_cut, addD_cutl, range3_e, zipM_e, enumM_e, isi2M_e, isNM_e, max2_i, min2_i, negM_e, negR_i, wordM_r, wordR_ok, wordR_ex, appS_r, appR_l, extS_r, extR_l, mL_app1, mL_row1, frzS_e, isL_0, isL_s, dropM_r, dropR_nx, dropR_rt, dropR_ex, dropR_ct, dropR_bk, dropR_ite, thS_ite, outP_ite, outH_ite, lrot_e, gT2, addD_1, loop_foldI, fndR_s, fndR_n, dropR_fnd, mL_C, mL_Cs, mL_Ct, oN_s, oN_n, mtM_e, isLst_l, idxL_m, cntL_m, at_0, at_1, at_2, at_3, at_m1, at_m2, at_m3, isi_tt, isi_ts, isi_ti, isi_tl, isi_tn, isi_ss, isi_st, isi_si, isi_sl, isi_sn, isi_ll, isi_lt, mul_l1, mul_t1, notBD_b, isBD_b, absD_i, sortL_pr, sortOk_pr, sortD_pr, unpS_r, unpR_s, gT3, mtA_e, isSq_l, isSq_t, cntA_ti, cntA_li, cntA_tr, cntA_lr, nxO_s, set2S_r, set2R_2, set2K_e, set2X_s, setO_e, setD_l, mL_seti, setS_r, dropM_r, range_m, Int.sub_zero, parS_e, asgL_e, List.length_cons, List.length_nil, Nat.reduceAdd, Nat.reduceLT, List.all_cons, List.all_nil, m_raw_passes, range3_e, range_p h p1 p8]
  rfl
theorem lawp_ok (h : OrdOk o) (p1 : 1 ≤ p) (p8 : p ≤ 8) : F__law_passes [.tuple (mL PyData.int o), .int p] = .ok (.list (mL eT (rowsP o p))) := by
  rw [F__law_passes, runP_e]
  show outP (m__law_passes [some (.tuple (mL PyData.int o)), some (.int p), none] []) = _
  simp -implicitDefEqProofs (disch := first | omega | (simp only [mL_len, List.length_map, rg_len, List.length_append, List.length_reverse, List.length_cons, List.length_nil, List.length_set] <;> omega) | (simp only [rg_mem] at * <;> omega)) only [bind_ok, bindS_ok, bindN_ok, opt_some, thS_nx, thS_rt, thS_ex, seqS_e, skipS_e, retS_e, asgS_e, ifS_e, conM_e, varM_e, slot_0, slot_s, binM_e, unM_e, unL_e, boolM_e, asB_e, truM_e, truD_b, andB_e, orB_e, notB_e, ifM_e, andM_e, orM_e, notM_e, map_some_e, bind_some_e, isiM_e, chainM_e, exprS_e, parS_e, setE_c, setE_n, raiS_e, bind_ex, bindS_ex, wipeE_n, yesM_e, gN_e, items_l, items_t, tup_l, tup_t, nilM_e, consM_e, lstM_e, tupM_e, seqM_e, callP_e, callH_e, res_ok, res_ex, nex_ok, compM_e, forS_e, range1M_e, range2M_e, mulD_i, addD_i, subD_i, intD_i, ltD_i, leD_i, gtD_i, geD_i, eqD_i, neD_i, handM_e, handS_e, at0, at1, at2, at3, at4, ix5_1, ix5_2, ix5_3, ix5_4, outP_rt, outP_nx, outP_ex, outH_rt, List.set_cons_succ, List.set_cons_zero, Bool.false_eq_true, if_true, if_false, decide_true, decide_false, reduceIte, Bool.not_true, Bool.not_false, Bool.true_and, Bool.and_true, Bool.false_and, Bool.and_false, Bool.true_or, Bool.or_true, Bool.false_or, Bool.or_false, mL_len, Int.toNat_natCast, Int.cast_ofNat_Int, Nat.reduceAdd, Int.reduceToNat, Int.reduceEq, Int.reduceLT, Int.reduceLE, Int.reduceSub, Int.reduceAdd, Bool.bne_false, bne_self_eq_false, beq_self_eq_true,  Bool.bne_true, List.map_id', compL_m, wipeE_c, stepR_gN, stepR_g2, mapR_all, mL_int, mL_bool, mL_row, mL_rows, mapR_if, eT_e, eTT_e, mL_app, lenD_l, lenD_t, sumD_i, sumD_t, allD_b, anyD_b, cutG_m, cutD_l, cutD_t, rev_m, revD_l, revD_t, zip_m, zipD_l, zipD_t, enum_m, enumD_l, enumD_t, rg_len, ixD_l, ixD_t, atI_mod, range_0, eqD_l, eqD_t, neD_l, neD_t, neD_lnil, eqD_lnil, inD_il, inD_it, inD_rl, inD_rt, inD_cl, eqD_b, neD_b, if_and, if_or, if_andD, if_orD, all_id, any_id, partR_i, aPart_e, noPart_e, sliceM_e, addD_m, addD_ml, addD_cut, addD_cutl, range3_e, zipM_e, enumM_e, isi2M_e, isNM_e, max2_i, min2_i, negM_e, negR_i, wordM_r, wordR_ok, wordR_ex, appS_r, appR_l, extS_r, extR_l, mL_app1, mL_row1, frzS_e, isL_0, isL_s, dropM_r, dropR_nx, dropR_rt, dropR_ex, dropR_ct, dropR_bk, dropR_ite, thS_ite, outP_ite, outH_ite, lrot_e, gT2, addD_1, loop_foldI, fndR_s, fndR_n, dropR_fnd, mL_C, mL_Cs, mL_Ct, oN_s, oN_n, mtM_e, isLst_l, idxL_m, cntL_m, at_0, at_1, at_2, at_3, at_m1, at_m2, at_m3, isi_tt, isi_ts, isi_ti, isi_tl, isi_tn, isi_ss, isi_st, isi_si, isi_sl, isi_sn, isi_ll, isi_lt, mul_l1, mul_t1, notBD_b, isBD_b, absD_i, sortL_pr, sortOk_pr, sortD_pr, unpS_r, unpR_s, gT3, mtA_e, isSq_l, isSq_t, cntA_ti, cntA_li, cntA_tr, cntA_lr, nxO_s, set2S_r, set2R_2, set2K_e, set2X_s, setO_e, setD_l, mL_seti, setS_r, dropM_r, range_m, Int.sub_zero, parS_e, asgL_e, List.length_cons, List.length_nil, Nat.reduceAdd, Nat.reduceLT, List.all_cons, List.all_nil, m__law_passes, range3_e, range_p h p1 p8]
  rfl
theorem passes_ok (h : OrdOk o) (p1 : 1 ≤ p) (p8 : p ≤ 8) : F_passes [.tuple (mL PyData.int o), .int p] = .ok (.tuple (mL eT (rowsP o p))) := by
  rw [F_passes, runP_e]
  show outP (m_passes [some (.tuple (mL PyData.int o)), some (.int p)] []) = _
  simp -implicitDefEqProofs (disch := first | omega | (simp only [mL_len, List.length_map, rg_len, List.length_append, List.length_reverse, List.length_cons, List.length_nil, List.length_set] <;> omega) | (simp only [rg_mem] at * <;> omega)) only [bind_ok, bindS_ok, bindN_ok, opt_some, thS_nx, thS_rt, thS_ex, seqS_e, skipS_e, retS_e, asgS_e, ifS_e, conM_e, varM_e, slot_0, slot_s, binM_e, unM_e, unL_e, boolM_e, asB_e, truM_e, truD_b, andB_e, orB_e, notB_e, ifM_e, andM_e, orM_e, notM_e, map_some_e, bind_some_e, isiM_e, chainM_e, exprS_e, parS_e, setE_c, setE_n, raiS_e, bind_ex, bindS_ex, wipeE_n, yesM_e, gN_e, items_l, items_t, tup_l, tup_t, nilM_e, consM_e, lstM_e, tupM_e, seqM_e, callP_e, callH_e, res_ok, res_ex, nex_ok, compM_e, forS_e, range1M_e, range2M_e, mulD_i, addD_i, subD_i, intD_i, ltD_i, leD_i, gtD_i, geD_i, eqD_i, neD_i, handM_e, handS_e, at0, at1, at2, at3, at4, ix5_1, ix5_2, ix5_3, ix5_4, outP_rt, outP_nx, outP_ex, outH_rt, List.set_cons_succ, List.set_cons_zero, Bool.false_eq_true, if_true, if_false, decide_true, decide_false, reduceIte, Bool.not_true, Bool.not_false, Bool.true_and, Bool.and_true, Bool.false_and, Bool.and_false, Bool.true_or, Bool.or_true, Bool.false_or, Bool.or_false, mL_len, Int.toNat_natCast, Int.cast_ofNat_Int, Nat.reduceAdd, Int.reduceToNat, Int.reduceEq, Int.reduceLT, Int.reduceLE, Int.reduceSub, Int.reduceAdd, Bool.bne_false, bne_self_eq_false, beq_self_eq_true,  Bool.bne_true, List.map_id', compL_m, wipeE_c, stepR_gN, stepR_g2, mapR_all, mL_int, mL_bool, mL_row, mL_rows, mapR_if, eT_e, eTT_e, mL_app, lenD_l, lenD_t, sumD_i, sumD_t, allD_b, anyD_b, cutG_m, cutD_l, cutD_t, rev_m, revD_l, revD_t, zip_m, zipD_l, zipD_t, enum_m, enumD_l, enumD_t, rg_len, ixD_l, ixD_t, atI_mod, range_0, eqD_l, eqD_t, neD_l, neD_t, neD_lnil, eqD_lnil, inD_il, inD_it, inD_rl, inD_rt, inD_cl, eqD_b, neD_b, if_and, if_or, if_andD, if_orD, all_id, any_id, partR_i, aPart_e, noPart_e, sliceM_e, addD_m, addD_ml, addD_cut, addD_cutl, range3_e, zipM_e, enumM_e, isi2M_e, isNM_e, max2_i, min2_i, negM_e, negR_i, wordM_r, wordR_ok, wordR_ex, appS_r, appR_l, extS_r, extR_l, mL_app1, mL_row1, frzS_e, isL_0, isL_s, dropM_r, dropR_nx, dropR_rt, dropR_ex, dropR_ct, dropR_bk, dropR_ite, thS_ite, outP_ite, outH_ite, lrot_e, gT2, addD_1, loop_foldI, fndR_s, fndR_n, dropR_fnd, mL_C, mL_Cs, mL_Ct, oN_s, oN_n, mtM_e, isLst_l, idxL_m, cntL_m, at_0, at_1, at_2, at_3, at_m1, at_m2, at_m3, isi_tt, isi_ts, isi_ti, isi_tl, isi_tn, isi_ss, isi_st, isi_si, isi_sl, isi_sn, isi_ll, isi_lt, mul_l1, mul_t1, notBD_b, isBD_b, absD_i, sortL_pr, sortOk_pr, sortD_pr, unpS_r, unpR_s, gT3, mtA_e, isSq_l, isSq_t, cntA_ti, cntA_li, cntA_tr, cntA_lr, nxO_s, set2S_r, set2R_2, set2K_e, set2X_s, setO_e, setD_l, mL_seti, setS_r, dropM_r, range_m, Int.sub_zero, parS_e, asgL_e, List.length_cons, List.length_nil, Nat.reduceAdd, Nat.reduceLT, List.all_cons, List.all_nil, m_passes, once_ok h p1 p8, rawp_ok h p1 p8]
theorem cones_in (h : OrdOk o) (p1 : 1 ≤ p) (c : Int) : maxQ (.list (mL PyData.int ((rowsP o p).map fun r => ((r.countP fun z => decide (z = c) : Nat) : Int)))) = some (.int (coneP o p c)) := by
  rw [maxQ_i (by rw [List.length_map, rows_len]; exact nP_pos h p1)]
  rfl
theorem rawc_ok (h : OrdOk o) (p1 : 1 ≤ p) (p8 : p ≤ 8) : F_raw_cones [.tuple (mL PyData.int o), .int p] = .ok (.list (mL PyData.int ((rgI 0 6).map (coneP o p)))) := by
  rw [F_raw_cones, runP_e]
  show outP (m_raw_cones [some (.tuple (mL PyData.int o)), some (.int p), none, none, none] []) = _
  simp -implicitDefEqProofs (disch := first | omega | (simp only [mL_len, List.length_map, rg_len, List.length_append, List.length_reverse, List.length_cons, List.length_nil, List.length_set] <;> omega) | (simp only [rg_mem] at * <;> omega)) only [bind_ok, bindS_ok, bindN_ok, opt_some, thS_nx, thS_rt, thS_ex, seqS_e, skipS_e, retS_e, asgS_e, ifS_e, conM_e, varM_e, slot_0, slot_s, binM_e, unM_e, unL_e, boolM_e, asB_e, truM_e, truD_b, andB_e, orB_e, notB_e, ifM_e, andM_e, orM_e, notM_e, map_some_e, bind_some_e, isiM_e, chainM_e, exprS_e, parS_e, setE_c, setE_n, raiS_e, bind_ex, bindS_ex, wipeE_n, yesM_e, gN_e, items_l, items_t, tup_l, tup_t, nilM_e, consM_e, lstM_e, tupM_e, seqM_e, callP_e, callH_e, res_ok, res_ex, nex_ok, compM_e, forS_e, range1M_e, range2M_e, mulD_i, addD_i, subD_i, intD_i, ltD_i, leD_i, gtD_i, geD_i, eqD_i, neD_i, handM_e, handS_e, at0, at1, at2, at3, at4, ix5_1, ix5_2, ix5_3, ix5_4, outP_rt, outP_nx, outP_ex, outH_rt, List.set_cons_succ, List.set_cons_zero, Bool.false_eq_true, if_true, if_false, decide_true, decide_false, reduceIte, Bool.not_true, Bool.not_false, Bool.true_and, Bool.and_true, Bool.false_and, Bool.and_false, Bool.true_or, Bool.or_true, Bool.false_or, Bool.or_false, mL_len, Int.toNat_natCast, Int.cast_ofNat_Int, Nat.reduceAdd, Int.reduceToNat, Int.reduceEq, Int.reduceLT, Int.reduceLE, Int.reduceSub, Int.reduceAdd, Bool.bne_false, bne_self_eq_false, beq_self_eq_true,  Bool.bne_true, List.map_id', compL_m, wipeE_c, stepR_gN, stepR_g2, mapR_all, mL_int, mL_bool, mL_row, mL_rows, mapR_if, eT_e, eTT_e, mL_app, lenD_l, lenD_t, sumD_i, sumD_t, allD_b, anyD_b, cutG_m, cutD_l, cutD_t, rev_m, revD_l, revD_t, zip_m, zipD_l, zipD_t, enum_m, enumD_l, enumD_t, rg_len, ixD_l, ixD_t, atI_mod, range_0, eqD_l, eqD_t, neD_l, neD_t, neD_lnil, eqD_lnil, inD_il, inD_it, inD_rl, inD_rt, inD_cl, eqD_b, neD_b, if_and, if_or, if_andD, if_orD, all_id, any_id, partR_i, aPart_e, noPart_e, sliceM_e, addD_m, addD_ml, addD_cut, addD_cutl, range3_e, zipM_e, enumM_e, isi2M_e, isNM_e, max2_i, min2_i, negM_e, negR_i, wordM_r, wordR_ok, wordR_ex, appS_r, appR_l, extS_r, extR_l, mL_app1, mL_row1, frzS_e, isL_0, isL_s, dropM_r, dropR_nx, dropR_rt, dropR_ex, dropR_ct, dropR_bk, dropR_ite, thS_ite, outP_ite, outH_ite, lrot_e, gT2, addD_1, loop_foldI, fndR_s, fndR_n, dropR_fnd, mL_C, mL_Cs, mL_Ct, oN_s, oN_n, mtM_e, isLst_l, idxL_m, cntL_m, at_0, at_1, at_2, at_3, at_m1, at_m2, at_m3, isi_tt, isi_ts, isi_ti, isi_tl, isi_tn, isi_ss, isi_st, isi_si, isi_sl, isi_sn, isi_ll, isi_lt, mul_l1, mul_t1, notBD_b, isBD_b, absD_i, sortL_pr, sortOk_pr, sortD_pr, unpS_r, unpR_s, gT3, mtA_e, isSq_l, isSq_t, cntA_ti, cntA_li, cntA_tr, cntA_lr, nxO_s, set2S_r, set2R_2, set2K_e, set2X_s, setO_e, setD_l, mL_seti, setS_r, dropM_r, range_m, Int.sub_zero, parS_e, asgL_e, List.length_cons, List.length_nil, Nat.reduceAdd, Nat.reduceLT, List.all_cons, List.all_nil, m_raw_cones, rawp_ok h p1 p8, cones_in h p1]
theorem conesat_ok (h : OrdOk o) (p1 : 1 ≤ p) (p8 : p ≤ 8) : F_cones_at [.tuple (mL PyData.int o), .int p] = .ok (.tuple (mL PyData.int ((rgI 0 6).map (coneP o p)))) := by
  rw [F_cones_at, runP_e]
  show outP (m_cones_at [some (.tuple (mL PyData.int o)), some (.int p)] []) = _
  simp -implicitDefEqProofs (disch := first | omega | (simp only [mL_len, List.length_map, rg_len, List.length_append, List.length_reverse, List.length_cons, List.length_nil, List.length_set] <;> omega) | (simp only [rg_mem] at * <;> omega)) only [bind_ok, bindS_ok, bindN_ok, opt_some, thS_nx, thS_rt, thS_ex, seqS_e, skipS_e, retS_e, asgS_e, ifS_e, conM_e, varM_e, slot_0, slot_s, binM_e, unM_e, unL_e, boolM_e, asB_e, truM_e, truD_b, andB_e, orB_e, notB_e, ifM_e, andM_e, orM_e, notM_e, map_some_e, bind_some_e, isiM_e, chainM_e, exprS_e, parS_e, setE_c, setE_n, raiS_e, bind_ex, bindS_ex, wipeE_n, yesM_e, gN_e, items_l, items_t, tup_l, tup_t, nilM_e, consM_e, lstM_e, tupM_e, seqM_e, callP_e, callH_e, res_ok, res_ex, nex_ok, compM_e, forS_e, range1M_e, range2M_e, mulD_i, addD_i, subD_i, intD_i, ltD_i, leD_i, gtD_i, geD_i, eqD_i, neD_i, handM_e, handS_e, at0, at1, at2, at3, at4, ix5_1, ix5_2, ix5_3, ix5_4, outP_rt, outP_nx, outP_ex, outH_rt, List.set_cons_succ, List.set_cons_zero, Bool.false_eq_true, if_true, if_false, decide_true, decide_false, reduceIte, Bool.not_true, Bool.not_false, Bool.true_and, Bool.and_true, Bool.false_and, Bool.and_false, Bool.true_or, Bool.or_true, Bool.false_or, Bool.or_false, mL_len, Int.toNat_natCast, Int.cast_ofNat_Int, Nat.reduceAdd, Int.reduceToNat, Int.reduceEq, Int.reduceLT, Int.reduceLE, Int.reduceSub, Int.reduceAdd, Bool.bne_false, bne_self_eq_false, beq_self_eq_true,  Bool.bne_true, List.map_id', compL_m, wipeE_c, stepR_gN, stepR_g2, mapR_all, mL_int, mL_bool, mL_row, mL_rows, mapR_if, eT_e, eTT_e, mL_app, lenD_l, lenD_t, sumD_i, sumD_t, allD_b, anyD_b, cutG_m, cutD_l, cutD_t, rev_m, revD_l, revD_t, zip_m, zipD_l, zipD_t, enum_m, enumD_l, enumD_t, rg_len, ixD_l, ixD_t, atI_mod, range_0, eqD_l, eqD_t, neD_l, neD_t, neD_lnil, eqD_lnil, inD_il, inD_it, inD_rl, inD_rt, inD_cl, eqD_b, neD_b, if_and, if_or, if_andD, if_orD, all_id, any_id, partR_i, aPart_e, noPart_e, sliceM_e, addD_m, addD_ml, addD_cut, addD_cutl, range3_e, zipM_e, enumM_e, isi2M_e, isNM_e, max2_i, min2_i, negM_e, negR_i, wordM_r, wordR_ok, wordR_ex, appS_r, appR_l, extS_r, extR_l, mL_app1, mL_row1, frzS_e, isL_0, isL_s, dropM_r, dropR_nx, dropR_rt, dropR_ex, dropR_ct, dropR_bk, dropR_ite, thS_ite, outP_ite, outH_ite, lrot_e, gT2, addD_1, loop_foldI, fndR_s, fndR_n, dropR_fnd, mL_C, mL_Cs, mL_Ct, oN_s, oN_n, mtM_e, isLst_l, idxL_m, cntL_m, at_0, at_1, at_2, at_3, at_m1, at_m2, at_m3, isi_tt, isi_ts, isi_ti, isi_tl, isi_tn, isi_ss, isi_st, isi_si, isi_sl, isi_sn, isi_ll, isi_lt, mul_l1, mul_t1, notBD_b, isBD_b, absD_i, sortL_pr, sortOk_pr, sortD_pr, unpS_r, unpR_s, gT3, mtA_e, isSq_l, isSq_t, cntA_ti, cntA_li, cntA_tr, cntA_lr, nxO_s, set2S_r, set2R_2, set2K_e, set2X_s, setO_e, setD_l, mL_seti, setS_r, dropM_r, range_m, Int.sub_zero, parS_e, asgL_e, List.length_cons, List.length_nil, Nat.reduceAdd, Nat.reduceLT, List.all_cons, List.all_nil, m_cones_at, once_ok h p1 p8, rawc_ok h p1 p8]
theorem conec_ok (h : OrdOk o) (p1 : 1 ≤ p) (p8 : p ≤ 8) : F_cone_count [.tuple (mL PyData.int o), .int p] = .ok (.int (totP o p)) := by
  rw [F_cone_count, runP_e]
  show outP (m_cone_count [some (.tuple (mL PyData.int o)), some (.int p)] []) = _
  simp -implicitDefEqProofs (disch := first | omega | (simp only [mL_len, List.length_map, rg_len, List.length_append, List.length_reverse, List.length_cons, List.length_nil, List.length_set] <;> omega) | (simp only [rg_mem] at * <;> omega)) only [bind_ok, bindS_ok, bindN_ok, opt_some, thS_nx, thS_rt, thS_ex, seqS_e, skipS_e, retS_e, asgS_e, ifS_e, conM_e, varM_e, slot_0, slot_s, binM_e, unM_e, unL_e, boolM_e, asB_e, truM_e, truD_b, andB_e, orB_e, notB_e, ifM_e, andM_e, orM_e, notM_e, map_some_e, bind_some_e, isiM_e, chainM_e, exprS_e, parS_e, setE_c, setE_n, raiS_e, bind_ex, bindS_ex, wipeE_n, yesM_e, gN_e, items_l, items_t, tup_l, tup_t, nilM_e, consM_e, lstM_e, tupM_e, seqM_e, callP_e, callH_e, res_ok, res_ex, nex_ok, compM_e, forS_e, range1M_e, range2M_e, mulD_i, addD_i, subD_i, intD_i, ltD_i, leD_i, gtD_i, geD_i, eqD_i, neD_i, handM_e, handS_e, at0, at1, at2, at3, at4, ix5_1, ix5_2, ix5_3, ix5_4, outP_rt, outP_nx, outP_ex, outH_rt, List.set_cons_succ, List.set_cons_zero, Bool.false_eq_true, if_true, if_false, decide_true, decide_false, reduceIte, Bool.not_true, Bool.not_false, Bool.true_and, Bool.and_true, Bool.false_and, Bool.and_false, Bool.true_or, Bool.or_true, Bool.false_or, Bool.or_false, mL_len, Int.toNat_natCast, Int.cast_ofNat_Int, Nat.reduceAdd, Int.reduceToNat, Int.reduceEq, Int.reduceLT, Int.reduceLE, Int.reduceSub, Int.reduceAdd, Bool.bne_false, bne_self_eq_false, beq_self_eq_true,  Bool.bne_true, List.map_id', compL_m, wipeE_c, stepR_gN, stepR_g2, mapR_all, mL_int, mL_bool, mL_row, mL_rows, mapR_if, eT_e, eTT_e, mL_app, lenD_l, lenD_t, sumD_i, sumD_t, allD_b, anyD_b, cutG_m, cutD_l, cutD_t, rev_m, revD_l, revD_t, zip_m, zipD_l, zipD_t, enum_m, enumD_l, enumD_t, rg_len, ixD_l, ixD_t, atI_mod, range_0, eqD_l, eqD_t, neD_l, neD_t, neD_lnil, eqD_lnil, inD_il, inD_it, inD_rl, inD_rt, inD_cl, eqD_b, neD_b, if_and, if_or, if_andD, if_orD, all_id, any_id, partR_i, aPart_e, noPart_e, sliceM_e, addD_m, addD_ml, addD_cut, addD_cutl, range3_e, zipM_e, enumM_e, isi2M_e, isNM_e, max2_i, min2_i, negM_e, negR_i, wordM_r, wordR_ok, wordR_ex, appS_r, appR_l, extS_r, extR_l, mL_app1, mL_row1, frzS_e, isL_0, isL_s, dropM_r, dropR_nx, dropR_rt, dropR_ex, dropR_ct, dropR_bk, dropR_ite, thS_ite, outP_ite, outH_ite, lrot_e, gT2, addD_1, loop_foldI, fndR_s, fndR_n, dropR_fnd, mL_C, mL_Cs, mL_Ct, oN_s, oN_n, mtM_e, isLst_l, idxL_m, cntL_m, at_0, at_1, at_2, at_3, at_m1, at_m2, at_m3, isi_tt, isi_ts, isi_ti, isi_tl, isi_tn, isi_ss, isi_st, isi_si, isi_sl, isi_sn, isi_ll, isi_lt, mul_l1, mul_t1, notBD_b, isBD_b, absD_i, sortL_pr, sortOk_pr, sortD_pr, unpS_r, unpR_s, gT3, mtA_e, isSq_l, isSq_t, cntA_ti, cntA_li, cntA_tr, cntA_lr, nxO_s, set2S_r, set2R_2, set2K_e, set2X_s, setO_e, setD_l, mL_seti, setS_r, dropM_r, range_m, Int.sub_zero, parS_e, asgL_e, List.length_cons, List.length_nil, Nat.reduceAdd, Nat.reduceLT, List.all_cons, List.all_nil, m_cone_count, once_ok h p1 p8, rawc_ok h p1 p8]
  rfl
def unl (q : List Int × List Int) : Int := (((q.1.zip q.2).filter fun z => !decide (z.1 = z.2)).length : Nat)
theorem holes_ok (a b : List Int) : F_unlike_holes [.tuple (mL PyData.int a), .tuple (mL PyData.int b)] = .ok (.int (unl (a, b))) := by
  rw [F_unlike_holes, runP_e]
  show outP (m_unlike_holes [some (.tuple (mL PyData.int a)), some (.tuple (mL PyData.int b)), none, none] []) = _
  simp -implicitDefEqProofs (disch := first | omega | (simp only [mL_len, List.length_map, rg_len, List.length_append, List.length_reverse, List.length_cons, List.length_nil, List.length_set] <;> omega) | (simp only [rg_mem] at * <;> omega)) only [bind_ok, bindS_ok, bindN_ok, opt_some, thS_nx, thS_rt, thS_ex, seqS_e, skipS_e, retS_e, asgS_e, ifS_e, conM_e, varM_e, slot_0, slot_s, binM_e, unM_e, unL_e, boolM_e, asB_e, truM_e, truD_b, andB_e, orB_e, notB_e, ifM_e, andM_e, orM_e, notM_e, map_some_e, bind_some_e, isiM_e, chainM_e, exprS_e, parS_e, setE_c, setE_n, raiS_e, bind_ex, bindS_ex, wipeE_n, yesM_e, gN_e, items_l, items_t, tup_l, tup_t, nilM_e, consM_e, lstM_e, tupM_e, seqM_e, callP_e, callH_e, res_ok, res_ex, nex_ok, compM_e, forS_e, range1M_e, range2M_e, mulD_i, addD_i, subD_i, intD_i, ltD_i, leD_i, gtD_i, geD_i, eqD_i, neD_i, handM_e, handS_e, at0, at1, at2, at3, at4, ix5_1, ix5_2, ix5_3, ix5_4, outP_rt, outP_nx, outP_ex, outH_rt, List.set_cons_succ, List.set_cons_zero, Bool.false_eq_true, if_true, if_false, decide_true, decide_false, reduceIte, Bool.not_true, Bool.not_false, Bool.true_and, Bool.and_true, Bool.false_and, Bool.and_false, Bool.true_or, Bool.or_true, Bool.false_or, Bool.or_false, mL_len, Int.toNat_natCast, Int.cast_ofNat_Int, Nat.reduceAdd, Int.reduceToNat, Int.reduceEq, Int.reduceLT, Int.reduceLE, Int.reduceSub, Int.reduceAdd, Bool.bne_false, bne_self_eq_false, beq_self_eq_true,  Bool.bne_true, List.map_id', compL_m, wipeE_c, stepR_gN, stepR_g2, mapR_all, mL_int, mL_bool, mL_row, mL_rows, mapR_if, eT_e, eTT_e, mL_app, lenD_l, lenD_t, sumD_i, sumD_t, allD_b, anyD_b, cutG_m, cutD_l, cutD_t, rev_m, revD_l, revD_t, zip_m, zipD_l, zipD_t, enum_m, enumD_l, enumD_t, rg_len, ixD_l, ixD_t, atI_mod, range_0, eqD_l, eqD_t, neD_l, neD_t, neD_lnil, eqD_lnil, inD_il, inD_it, inD_rl, inD_rt, inD_cl, eqD_b, neD_b, if_and, if_or, if_andD, if_orD, all_id, any_id, partR_i, aPart_e, noPart_e, sliceM_e, addD_m, addD_ml, addD_cut, addD_cutl, range3_e, zipM_e, enumM_e, isi2M_e, isNM_e, max2_i, min2_i, negM_e, negR_i, wordM_r, wordR_ok, wordR_ex, appS_r, appR_l, extS_r, extR_l, mL_app1, mL_row1, frzS_e, isL_0, isL_s, dropM_r, dropR_nx, dropR_rt, dropR_ex, dropR_ct, dropR_bk, dropR_ite, thS_ite, outP_ite, outH_ite, lrot_e, gT2, addD_1, loop_foldI, fndR_s, fndR_n, dropR_fnd, mL_C, mL_Cs, mL_Ct, oN_s, oN_n, mtM_e, isLst_l, idxL_m, cntL_m, at_0, at_1, at_2, at_3, at_m1, at_m2, at_m3, isi_tt, isi_ts, isi_ti, isi_tl, isi_tn, isi_ss, isi_st, isi_si, isi_sl, isi_sn, isi_ll, isi_lt, mul_l1, mul_t1, notBD_b, isBD_b, absD_i, sortL_pr, sortOk_pr, sortD_pr, unpS_r, unpR_s, gT3, mtA_e, isSq_l, isSq_t, cntA_ti, cntA_li, cntA_tr, cntA_lr, nxO_s, set2S_r, set2R_2, set2K_e, set2X_s, setO_e, setD_l, mL_seti, setS_r, dropM_r, range_m, Int.sub_zero, parS_e, asgL_e, List.length_cons, List.length_nil, Nat.reduceAdd, Nat.reduceLT, List.all_cons, List.all_nil, m_unlike_holes]
  rw [mapR_okIf (c := fun z : Int × Int => !decide (z.1 = z.2)) (G := fun _ => PyData.int 1)]
  · simp -implicitDefEqProofs (disch := first | omega | (simp only [mL_len, List.length_map, rg_len, List.length_append, List.length_reverse, List.length_cons, List.length_nil, List.length_set] <;> omega) | (simp only [rg_mem] at * <;> omega)) only [bind_ok, bindS_ok, bindN_ok, opt_some, thS_nx, thS_rt, thS_ex, seqS_e, skipS_e, retS_e, asgS_e, ifS_e, conM_e, varM_e, slot_0, slot_s, binM_e, unM_e, unL_e, boolM_e, asB_e, truM_e, truD_b, andB_e, orB_e, notB_e, ifM_e, andM_e, orM_e, notM_e, map_some_e, bind_some_e, isiM_e, chainM_e, exprS_e, parS_e, setE_c, setE_n, raiS_e, bind_ex, bindS_ex, wipeE_n, yesM_e, gN_e, items_l, items_t, tup_l, tup_t, nilM_e, consM_e, lstM_e, tupM_e, seqM_e, callP_e, callH_e, res_ok, res_ex, nex_ok, compM_e, forS_e, range1M_e, range2M_e, mulD_i, addD_i, subD_i, intD_i, ltD_i, leD_i, gtD_i, geD_i, eqD_i, neD_i, handM_e, handS_e, at0, at1, at2, at3, at4, ix5_1, ix5_2, ix5_3, ix5_4, outP_rt, outP_nx, outP_ex, outH_rt, List.set_cons_succ, List.set_cons_zero, Bool.false_eq_true, if_true, if_false, decide_true, decide_false, reduceIte, Bool.not_true, Bool.not_false, Bool.true_and, Bool.and_true, Bool.false_and, Bool.and_false, Bool.true_or, Bool.or_true, Bool.false_or, Bool.or_false, mL_len, Int.toNat_natCast, Int.cast_ofNat_Int, Nat.reduceAdd, Int.reduceToNat, Int.reduceEq, Int.reduceLT, Int.reduceLE, Int.reduceSub, Int.reduceAdd, Bool.bne_false, bne_self_eq_false, beq_self_eq_true,  Bool.bne_true, List.map_id', compL_m, wipeE_c, stepR_gN, stepR_g2, mapR_all, mL_int, mL_bool, mL_row, mL_rows, mapR_if, eT_e, eTT_e, mL_app, lenD_l, lenD_t, sumD_i, sumD_t, allD_b, anyD_b, cutG_m, cutD_l, cutD_t, rev_m, revD_l, revD_t, zip_m, zipD_l, zipD_t, enum_m, enumD_l, enumD_t, rg_len, ixD_l, ixD_t, atI_mod, range_0, eqD_l, eqD_t, neD_l, neD_t, neD_lnil, eqD_lnil, inD_il, inD_it, inD_rl, inD_rt, inD_cl, eqD_b, neD_b, if_and, if_or, if_andD, if_orD, all_id, any_id, partR_i, aPart_e, noPart_e, sliceM_e, addD_m, addD_ml, addD_cut, addD_cutl, range3_e, zipM_e, enumM_e, isi2M_e, isNM_e, max2_i, min2_i, negM_e, negR_i, wordM_r, wordR_ok, wordR_ex, appS_r, appR_l, extS_r, extR_l, mL_app1, mL_row1, frzS_e, isL_0, isL_s, dropM_r, dropR_nx, dropR_rt, dropR_ex, dropR_ct, dropR_bk, dropR_ite, thS_ite, outP_ite, outH_ite, lrot_e, gT2, addD_1, loop_foldI, fndR_s, fndR_n, dropR_fnd, mL_C, mL_Cs, mL_Ct, oN_s, oN_n, mtM_e, isLst_l, idxL_m, cntL_m, at_0, at_1, at_2, at_3, at_m1, at_m2, at_m3, isi_tt, isi_ts, isi_ti, isi_tl, isi_tn, isi_ss, isi_st, isi_si, isi_sl, isi_sn, isi_ll, isi_lt, mul_l1, mul_t1, notBD_b, isBD_b, absD_i, sortL_pr, sortOk_pr, sortD_pr, unpS_r, unpR_s, gT3, mtA_e, isSq_l, isSq_t, cntA_ti, cntA_li, cntA_tr, cntA_lr, nxO_s, set2S_r, set2R_2, set2K_e, set2X_s, setO_e, setD_l, mL_seti, setS_r, dropM_r, range_m, Int.sub_zero, parS_e, asgL_e, List.length_cons, List.length_nil, Nat.reduceAdd, Nat.reduceLT, List.all_cons, List.all_nil]
    rw [List.length_map]
    rfl
  · intro z hz g
    simp -implicitDefEqProofs (disch := first | omega | (simp only [mL_len, List.length_map, rg_len, List.length_append, List.length_reverse, List.length_cons, List.length_nil, List.length_set] <;> omega) | (simp only [rg_mem] at * <;> omega)) only [bind_ok, bindS_ok, bindN_ok, opt_some, thS_nx, thS_rt, thS_ex, seqS_e, skipS_e, retS_e, asgS_e, ifS_e, conM_e, varM_e, slot_0, slot_s, binM_e, unM_e, unL_e, boolM_e, asB_e, truM_e, truD_b, andB_e, orB_e, notB_e, ifM_e, andM_e, orM_e, notM_e, map_some_e, bind_some_e, isiM_e, chainM_e, exprS_e, parS_e, setE_c, setE_n, raiS_e, bind_ex, bindS_ex, wipeE_n, yesM_e, gN_e, items_l, items_t, tup_l, tup_t, nilM_e, consM_e, lstM_e, tupM_e, seqM_e, callP_e, callH_e, res_ok, res_ex, nex_ok, compM_e, forS_e, range1M_e, range2M_e, mulD_i, addD_i, subD_i, intD_i, ltD_i, leD_i, gtD_i, geD_i, eqD_i, neD_i, handM_e, handS_e, at0, at1, at2, at3, at4, ix5_1, ix5_2, ix5_3, ix5_4, outP_rt, outP_nx, outP_ex, outH_rt, List.set_cons_succ, List.set_cons_zero, Bool.false_eq_true, if_true, if_false, decide_true, decide_false, reduceIte, Bool.not_true, Bool.not_false, Bool.true_and, Bool.and_true, Bool.false_and, Bool.and_false, Bool.true_or, Bool.or_true, Bool.false_or, Bool.or_false, mL_len, Int.toNat_natCast, Int.cast_ofNat_Int, Nat.reduceAdd, Int.reduceToNat, Int.reduceEq, Int.reduceLT, Int.reduceLE, Int.reduceSub, Int.reduceAdd, Bool.bne_false, bne_self_eq_false, beq_self_eq_true,  Bool.bne_true, List.map_id', compL_m, wipeE_c, stepR_gN, stepR_g2, mapR_all, mL_int, mL_bool, mL_row, mL_rows, mapR_if, eT_e, eTT_e, mL_app, lenD_l, lenD_t, sumD_i, sumD_t, allD_b, anyD_b, cutG_m, cutD_l, cutD_t, rev_m, revD_l, revD_t, zip_m, zipD_l, zipD_t, enum_m, enumD_l, enumD_t, rg_len, ixD_l, ixD_t, atI_mod, range_0, eqD_l, eqD_t, neD_l, neD_t, neD_lnil, eqD_lnil, inD_il, inD_it, inD_rl, inD_rt, inD_cl, eqD_b, neD_b, if_and, if_or, if_andD, if_orD, all_id, any_id, partR_i, aPart_e, noPart_e, sliceM_e, addD_m, addD_ml, addD_cut, addD_cutl, range3_e, zipM_e, enumM_e, isi2M_e, isNM_e, max2_i, min2_i, negM_e, negR_i, wordM_r, wordR_ok, wordR_ex, appS_r, appR_l, extS_r, extR_l, mL_app1, mL_row1, frzS_e, isL_0, isL_s, dropM_r, dropR_nx, dropR_rt, dropR_ex, dropR_ct, dropR_bk, dropR_ite, thS_ite, outP_ite, outH_ite, lrot_e, gT2, addD_1, loop_foldI, fndR_s, fndR_n, dropR_fnd, mL_C, mL_Cs, mL_Ct, oN_s, oN_n, mtM_e, isLst_l, idxL_m, cntL_m, at_0, at_1, at_2, at_3, at_m1, at_m2, at_m3, isi_tt, isi_ts, isi_ti, isi_tl, isi_tn, isi_ss, isi_st, isi_si, isi_sl, isi_sn, isi_ll, isi_lt, mul_l1, mul_t1, notBD_b, isBD_b, absD_i, sortL_pr, sortOk_pr, sortD_pr, unpS_r, unpR_s, gT3, mtA_e, isSq_l, isSq_t, cntA_ti, cntA_li, cntA_tr, cntA_lr, nxO_s, set2S_r, set2R_2, set2K_e, set2X_s, setO_e, setD_l, mL_seti, setS_r, dropM_r, range_m, Int.sub_zero, parS_e, asgL_e, List.length_cons, List.length_nil, Nat.reduceAdd, Nat.reduceLT, List.all_cons, List.all_nil, eC_e]
def prsP (o : List Int) (p : Int) : List (List Int × List Int) := (rowsP o p).zip (cutG (rowsP o p) (some 1) none)
theorem changes_ok (h : OrdOk o) (p1 : 1 ≤ p) (p8 : p ≤ 8) : F_changes [.tuple (mL PyData.int o), .int p] = .ok (.int ((prsP o p).map unl).sum) := by
  have R : F_raw_changes [.tuple (mL PyData.int o), .int p] = .ok (.int ((prsP o p).map unl).sum) := by
    rw [F_raw_changes, runP_e]
    show outP (m_raw_changes [some (.tuple (mL PyData.int o)), some (.int p), none, none, none] []) = _
    simp -implicitDefEqProofs (disch := first | omega | (simp only [mL_len, List.length_map, rg_len, List.length_append, List.length_reverse, List.length_cons, List.length_nil, List.length_set] <;> omega) | (simp only [rg_mem] at * <;> omega)) only [bind_ok, bindS_ok, bindN_ok, opt_some, thS_nx, thS_rt, thS_ex, seqS_e, skipS_e, retS_e, asgS_e, ifS_e, conM_e, varM_e, slot_0, slot_s, binM_e, unM_e, unL_e, boolM_e, asB_e, truM_e, truD_b, andB_e, orB_e, notB_e, ifM_e, andM_e, orM_e, notM_e, map_some_e, bind_some_e, isiM_e, chainM_e, exprS_e, parS_e, setE_c, setE_n, raiS_e, bind_ex, bindS_ex, wipeE_n, yesM_e, gN_e, items_l, items_t, tup_l, tup_t, nilM_e, consM_e, lstM_e, tupM_e, seqM_e, callP_e, callH_e, res_ok, res_ex, nex_ok, compM_e, forS_e, range1M_e, range2M_e, mulD_i, addD_i, subD_i, intD_i, ltD_i, leD_i, gtD_i, geD_i, eqD_i, neD_i, handM_e, handS_e, at0, at1, at2, at3, at4, ix5_1, ix5_2, ix5_3, ix5_4, outP_rt, outP_nx, outP_ex, outH_rt, List.set_cons_succ, List.set_cons_zero, Bool.false_eq_true, if_true, if_false, decide_true, decide_false, reduceIte, Bool.not_true, Bool.not_false, Bool.true_and, Bool.and_true, Bool.false_and, Bool.and_false, Bool.true_or, Bool.or_true, Bool.false_or, Bool.or_false, mL_len, Int.toNat_natCast, Int.cast_ofNat_Int, Nat.reduceAdd, Int.reduceToNat, Int.reduceEq, Int.reduceLT, Int.reduceLE, Int.reduceSub, Int.reduceAdd, Bool.bne_false, bne_self_eq_false, beq_self_eq_true,  Bool.bne_true, List.map_id', compL_m, wipeE_c, stepR_gN, stepR_g2, mapR_all, mL_int, mL_bool, mL_row, mL_rows, mapR_if, eT_e, eTT_e, mL_app, lenD_l, lenD_t, sumD_i, sumD_t, allD_b, anyD_b, cutG_m, cutD_l, cutD_t, rev_m, revD_l, revD_t, zip_m, zipD_l, zipD_t, enum_m, enumD_l, enumD_t, rg_len, ixD_l, ixD_t, atI_mod, range_0, eqD_l, eqD_t, neD_l, neD_t, neD_lnil, eqD_lnil, inD_il, inD_it, inD_rl, inD_rt, inD_cl, eqD_b, neD_b, if_and, if_or, if_andD, if_orD, all_id, any_id, partR_i, aPart_e, noPart_e, sliceM_e, addD_m, addD_ml, addD_cut, addD_cutl, range3_e, zipM_e, enumM_e, isi2M_e, isNM_e, max2_i, min2_i, negM_e, negR_i, wordM_r, wordR_ok, wordR_ex, appS_r, appR_l, extS_r, extR_l, mL_app1, mL_row1, frzS_e, isL_0, isL_s, dropM_r, dropR_nx, dropR_rt, dropR_ex, dropR_ct, dropR_bk, dropR_ite, thS_ite, outP_ite, outH_ite, lrot_e, gT2, addD_1, loop_foldI, fndR_s, fndR_n, dropR_fnd, mL_C, mL_Cs, mL_Ct, oN_s, oN_n, mtM_e, isLst_l, idxL_m, cntL_m, at_0, at_1, at_2, at_3, at_m1, at_m2, at_m3, isi_tt, isi_ts, isi_ti, isi_tl, isi_tn, isi_ss, isi_st, isi_si, isi_sl, isi_sn, isi_ll, isi_lt, mul_l1, mul_t1, notBD_b, isBD_b, absD_i, sortL_pr, sortOk_pr, sortD_pr, unpS_r, unpR_s, gT3, mtA_e, isSq_l, isSq_t, cntA_ti, cntA_li, cntA_tr, cntA_lr, nxO_s, set2S_r, set2R_2, set2K_e, set2X_s, setO_e, setD_l, mL_seti, setS_r, dropM_r, range_m, Int.sub_zero, parS_e, asgL_e, List.length_cons, List.length_nil, Nat.reduceAdd, Nat.reduceLT, List.all_cons, List.all_nil, m_raw_changes, rawp_ok h p1 p8, eT_e, holes_ok]
    rfl
  rw [F_changes, runP_e]
  show outP (m_changes [some (.tuple (mL PyData.int o)), some (.int p)] []) = _
  simp -implicitDefEqProofs (disch := first | omega | (simp only [mL_len, List.length_map, rg_len, List.length_append, List.length_reverse, List.length_cons, List.length_nil, List.length_set] <;> omega) | (simp only [rg_mem] at * <;> omega)) only [bind_ok, bindS_ok, bindN_ok, opt_some, thS_nx, thS_rt, thS_ex, seqS_e, skipS_e, retS_e, asgS_e, ifS_e, conM_e, varM_e, slot_0, slot_s, binM_e, unM_e, unL_e, boolM_e, asB_e, truM_e, truD_b, andB_e, orB_e, notB_e, ifM_e, andM_e, orM_e, notM_e, map_some_e, bind_some_e, isiM_e, chainM_e, exprS_e, parS_e, setE_c, setE_n, raiS_e, bind_ex, bindS_ex, wipeE_n, yesM_e, gN_e, items_l, items_t, tup_l, tup_t, nilM_e, consM_e, lstM_e, tupM_e, seqM_e, callP_e, callH_e, res_ok, res_ex, nex_ok, compM_e, forS_e, range1M_e, range2M_e, mulD_i, addD_i, subD_i, intD_i, ltD_i, leD_i, gtD_i, geD_i, eqD_i, neD_i, handM_e, handS_e, at0, at1, at2, at3, at4, ix5_1, ix5_2, ix5_3, ix5_4, outP_rt, outP_nx, outP_ex, outH_rt, List.set_cons_succ, List.set_cons_zero, Bool.false_eq_true, if_true, if_false, decide_true, decide_false, reduceIte, Bool.not_true, Bool.not_false, Bool.true_and, Bool.and_true, Bool.false_and, Bool.and_false, Bool.true_or, Bool.or_true, Bool.false_or, Bool.or_false, mL_len, Int.toNat_natCast, Int.cast_ofNat_Int, Nat.reduceAdd, Int.reduceToNat, Int.reduceEq, Int.reduceLT, Int.reduceLE, Int.reduceSub, Int.reduceAdd, Bool.bne_false, bne_self_eq_false, beq_self_eq_true,  Bool.bne_true, List.map_id', compL_m, wipeE_c, stepR_gN, stepR_g2, mapR_all, mL_int, mL_bool, mL_row, mL_rows, mapR_if, eT_e, eTT_e, mL_app, lenD_l, lenD_t, sumD_i, sumD_t, allD_b, anyD_b, cutG_m, cutD_l, cutD_t, rev_m, revD_l, revD_t, zip_m, zipD_l, zipD_t, enum_m, enumD_l, enumD_t, rg_len, ixD_l, ixD_t, atI_mod, range_0, eqD_l, eqD_t, neD_l, neD_t, neD_lnil, eqD_lnil, inD_il, inD_it, inD_rl, inD_rt, inD_cl, eqD_b, neD_b, if_and, if_or, if_andD, if_orD, all_id, any_id, partR_i, aPart_e, noPart_e, sliceM_e, addD_m, addD_ml, addD_cut, addD_cutl, range3_e, zipM_e, enumM_e, isi2M_e, isNM_e, max2_i, min2_i, negM_e, negR_i, wordM_r, wordR_ok, wordR_ex, appS_r, appR_l, extS_r, extR_l, mL_app1, mL_row1, frzS_e, isL_0, isL_s, dropM_r, dropR_nx, dropR_rt, dropR_ex, dropR_ct, dropR_bk, dropR_ite, thS_ite, outP_ite, outH_ite, lrot_e, gT2, addD_1, loop_foldI, fndR_s, fndR_n, dropR_fnd, mL_C, mL_Cs, mL_Ct, oN_s, oN_n, mtM_e, isLst_l, idxL_m, cntL_m, at_0, at_1, at_2, at_3, at_m1, at_m2, at_m3, isi_tt, isi_ts, isi_ti, isi_tl, isi_tn, isi_ss, isi_st, isi_si, isi_sl, isi_sn, isi_ll, isi_lt, mul_l1, mul_t1, notBD_b, isBD_b, absD_i, sortL_pr, sortOk_pr, sortD_pr, unpS_r, unpR_s, gT3, mtA_e, isSq_l, isSq_t, cntA_ti, cntA_li, cntA_tr, cntA_lr, nxO_s, set2S_r, set2R_2, set2K_e, set2X_s, setO_e, setD_l, mL_seti, setS_r, dropM_r, range_m, Int.sub_zero, parS_e, asgL_e, List.length_cons, List.length_nil, Nat.reduceAdd, Nat.reduceLT, List.all_cons, List.all_nil, m_changes, once_ok h p1 p8, R]
end
end Lw


set_option maxRecDepth 100000
set_option maxHeartbeats 4000000
namespace Lw
open Sm PySem PySem.Spec L2
theorem nat_of {k : Int} (h : 0 ≤ k) : ∃ n : Nat, k = (n : Int) := ⟨k.toNat, by omega⟩
theorem order_draw (h : List D) (hh : HandOk h) : ∃ o h', F__law_order [.int 24] h = .ok (.tuple (mL PyData.int o)) h' ∧ HandOk h' ∧ OrdOk o := by
  obtain ⟨k1, h1, e1, o1, p1, q1⟩ := draw_ok 6 h (by decide) (by decide) hh
  obtain ⟨top, ht⟩ : ∃ m : Int, 1 + k1 = m := ⟨_, rfl⟩
  obtain ⟨k2, h2, e2, o2, p2, q2⟩ := draw_ok 24 h1 (by decide) (by decide) o1
  obtain ⟨n, hn⟩ : ∃ n : Nat, 1 + k2 = (n : Int) := nat_of (by omega)
  obtain ⟨c, h3, e3, o3, l3, q3⟩ := mapR_draw (f := PyData.int) (P := HandOk) (Q := fun x => 0 ≤ x ∧ x ≤ 5) (k := fun x g => (F__law_draw [.int top] g).nex.bindN fun y h2 => Res.ok (some y) h2) (rgI 0 n) h2 (fun x _ g hg => by
    obtain ⟨y, g', e, hk, a, b⟩ := draw_ok top g (by omega) (by omega) hg
    exact ⟨y, g', by rw [e]; rfl, hk, a, by omega⟩) o2
  rw [rg_len] at l3
  refine ⟨c, h3, ?_, o3, ⟨by omega, by omega, q3⟩⟩
  rw [F__law_order, runH_e]
  show outH (m__law_order [some .none, some (.int 24), none, none] h) = _
  simp -implicitDefEqProofs (disch := first | omega | (simp only [mL_len, List.length_map, rg_len, List.length_append, List.length_reverse, List.length_cons, List.length_nil, List.length_set] <;> omega) | (simp only [rg_mem] at * <;> omega)) only [bind_ok, bindS_ok, bindN_ok, opt_some, thS_nx, thS_rt, thS_ex, seqS_e, skipS_e, retS_e, asgS_e, ifS_e, conM_e, varM_e, slot_0, slot_s, binM_e, unM_e, unL_e, boolM_e, asB_e, truM_e, truD_b, andB_e, orB_e, notB_e, ifM_e, andM_e, orM_e, notM_e, map_some_e, bind_some_e, isiM_e, chainM_e, exprS_e, parS_e, setE_c, setE_n, raiS_e, bind_ex, bindS_ex, wipeE_n, yesM_e, gN_e, items_l, items_t, tup_l, tup_t, nilM_e, consM_e, lstM_e, tupM_e, seqM_e, callP_e, callH_e, res_ok, res_ex, nex_ok, compM_e, forS_e, range1M_e, range2M_e, mulD_i, addD_i, subD_i, intD_i, ltD_i, leD_i, gtD_i, geD_i, eqD_i, neD_i, handM_e, handS_e, at0, at1, at2, at3, at4, ix5_1, ix5_2, ix5_3, ix5_4, outP_rt, outP_nx, outP_ex, outH_rt, List.set_cons_succ, List.set_cons_zero, Bool.false_eq_true, if_true, if_false, decide_true, decide_false, reduceIte, Bool.not_true, Bool.not_false, Bool.true_and, Bool.and_true, Bool.false_and, Bool.and_false, Bool.true_or, Bool.or_true, Bool.false_or, Bool.or_false, mL_len, Int.toNat_natCast, Int.cast_ofNat_Int, Nat.reduceAdd, Int.reduceToNat, Int.reduceEq, Int.reduceLT, Int.reduceLE, Int.reduceSub, Int.reduceAdd, Bool.bne_false, bne_self_eq_false, beq_self_eq_true,  Bool.bne_true, List.map_id', compL_m, wipeE_c, stepR_gN, stepR_g2, mapR_all, mL_int, mL_bool, mL_row, mL_rows, mapR_if, eT_e, eTT_e, mL_app, lenD_l, lenD_t, sumD_i, sumD_t, allD_b, anyD_b, cutG_m, cutD_l, cutD_t, rev_m, revD_l, revD_t, zip_m, zipD_l, zipD_t, enum_m, enumD_l, enumD_t, rg_len, ixD_l, ixD_t, atI_mod, range_0, eqD_l, eqD_t, neD_l, neD_t, neD_lnil, eqD_lnil, inD_il, inD_it, inD_rl, inD_rt, inD_cl, eqD_b, neD_b, if_and, if_or, if_andD, if_orD, all_id, any_id, partR_i, aPart_e, noPart_e, sliceM_e, addD_m, addD_ml, addD_cut, addD_cutl, range3_e, zipM_e, enumM_e, isi2M_e, isNM_e, max2_i, min2_i, negM_e, negR_i, wordM_r, wordR_ok, wordR_ex, appS_r, appR_l, extS_r, extR_l, mL_app1, mL_row1, frzS_e, isL_0, isL_s, dropM_r, dropR_nx, dropR_rt, dropR_ex, dropR_ct, dropR_bk, dropR_ite, thS_ite, outP_ite, outH_ite, lrot_e, gT2, addD_1, loop_foldI, fndR_s, fndR_n, dropR_fnd, mL_C, mL_Cs, mL_Ct, oN_s, oN_n, mtM_e, isLst_l, idxL_m, cntL_m, at_0, at_1, at_2, at_3, at_m1, at_m2, at_m3, isi_tt, isi_ts, isi_ti, isi_tl, isi_tn, isi_ss, isi_st, isi_si, isi_sl, isi_sn, isi_ll, isi_lt, mul_l1, mul_t1, notBD_b, isBD_b, absD_i, sortL_pr, sortOk_pr, sortD_pr, unpS_r, unpR_s, gT3, mtA_e, isSq_l, isSq_t, cntA_ti, cntA_li, cntA_tr, cntA_lr, nxO_s, set2S_r, set2R_2, set2K_e, set2X_s, setO_e, setD_l, mL_seti, setS_r, dropM_r, range_m, Int.sub_zero, parS_e, asgL_e, List.length_cons, List.length_nil, Nat.reduceAdd, Nat.reduceLT, List.all_cons, List.all_nil, m__law_order, e1, ht, e2, hn]
  rw [e3]
  simp -implicitDefEqProofs (disch := first | omega | (simp only [mL_len, List.length_map, rg_len, List.length_append, List.length_reverse, List.length_cons, List.length_nil, List.length_set] <;> omega) | (simp only [rg_mem] at * <;> omega)) only [bind_ok, bindS_ok, bindN_ok, opt_some, thS_nx, thS_rt, thS_ex, seqS_e, skipS_e, retS_e, asgS_e, ifS_e, conM_e, varM_e, slot_0, slot_s, binM_e, unM_e, unL_e, boolM_e, asB_e, truM_e, truD_b, andB_e, orB_e, notB_e, ifM_e, andM_e, orM_e, notM_e, map_some_e, bind_some_e, isiM_e, chainM_e, exprS_e, parS_e, setE_c, setE_n, raiS_e, bind_ex, bindS_ex, wipeE_n, yesM_e, gN_e, items_l, items_t, tup_l, tup_t, nilM_e, consM_e, lstM_e, tupM_e, seqM_e, callP_e, callH_e, res_ok, res_ex, nex_ok, compM_e, forS_e, range1M_e, range2M_e, mulD_i, addD_i, subD_i, intD_i, ltD_i, leD_i, gtD_i, geD_i, eqD_i, neD_i, handM_e, handS_e, at0, at1, at2, at3, at4, ix5_1, ix5_2, ix5_3, ix5_4, outP_rt, outP_nx, outP_ex, outH_rt, List.set_cons_succ, List.set_cons_zero, Bool.false_eq_true, if_true, if_false, decide_true, decide_false, reduceIte, Bool.not_true, Bool.not_false, Bool.true_and, Bool.and_true, Bool.false_and, Bool.and_false, Bool.true_or, Bool.or_true, Bool.false_or, Bool.or_false, mL_len, Int.toNat_natCast, Int.cast_ofNat_Int, Nat.reduceAdd, Int.reduceToNat, Int.reduceEq, Int.reduceLT, Int.reduceLE, Int.reduceSub, Int.reduceAdd, Bool.bne_false, bne_self_eq_false, beq_self_eq_true,  Bool.bne_true, List.map_id', compL_m, wipeE_c, stepR_gN, stepR_g2, mapR_all, mL_int, mL_bool, mL_row, mL_rows, mapR_if, eT_e, eTT_e, mL_app, lenD_l, lenD_t, sumD_i, sumD_t, allD_b, anyD_b, cutG_m, cutD_l, cutD_t, rev_m, revD_l, revD_t, zip_m, zipD_l, zipD_t, enum_m, enumD_l, enumD_t, rg_len, ixD_l, ixD_t, atI_mod, range_0, eqD_l, eqD_t, neD_l, neD_t, neD_lnil, eqD_lnil, inD_il, inD_it, inD_rl, inD_rt, inD_cl, eqD_b, neD_b, if_and, if_or, if_andD, if_orD, all_id, any_id, partR_i, aPart_e, noPart_e, sliceM_e, addD_m, addD_ml, addD_cut, addD_cutl, range3_e, zipM_e, enumM_e, isi2M_e, isNM_e, max2_i, min2_i, negM_e, negR_i, wordM_r, wordR_ok, wordR_ex, appS_r, appR_l, extS_r, extR_l, mL_app1, mL_row1, frzS_e, isL_0, isL_s, dropM_r, dropR_nx, dropR_rt, dropR_ex, dropR_ct, dropR_bk, dropR_ite, thS_ite, outP_ite, outH_ite, lrot_e, gT2, addD_1, loop_foldI, fndR_s, fndR_n, dropR_fnd, mL_C, mL_Cs, mL_Ct, oN_s, oN_n, mtM_e, isLst_l, idxL_m, cntL_m, at_0, at_1, at_2, at_3, at_m1, at_m2, at_m3, isi_tt, isi_ts, isi_ti, isi_tl, isi_tn, isi_ss, isi_st, isi_si, isi_sl, isi_sn, isi_ll, isi_lt, mul_l1, mul_t1, notBD_b, isBD_b, absD_i, sortL_pr, sortOk_pr, sortD_pr, unpS_r, unpR_s, gT3, mtA_e, isSq_l, isSq_t, cntA_ti, cntA_li, cntA_tr, cntA_lr, nxO_s, set2S_r, set2R_2, set2K_e, set2X_s, setO_e, setD_l, mL_seti, setS_r, dropM_r, range_m, Int.sub_zero, parS_e, asgL_e, List.length_cons, List.length_nil, Nat.reduceAdd, Nat.reduceLT, List.all_cons, List.all_nil]
def bL : List D := [.none, .tuple [], .list [.int 0], .tuple [.int 6], .tuple [.int (-1)], .tuple [.bool true], .int 0, .str "0", .tuple (List.replicate 25 (.int 0))]
def fL : List D := [.none, .int 0, .int 9, .bool true, .str "1"]
theorem noorder (h : List D) (hh : HandOk h) : ∃ d h', F__law_no_order [] h = .ok d h' ∧ d ∈ bL ∧ HandOk h' := by
  obtain ⟨d, h', e, q, o⟩ := any_ok bL h (by decide) (by decide) hh
  refine ⟨d, h', ?_, q, o⟩
  unfold bL at e
  have M : mulD (.tuple [.int 0]) (.int 25) = some (.tuple (List.replicate 25 (.int 0))) := mul_t1 (by decide)
  rw [F__law_no_order, runH_e]
  show outH (m__law_no_order [some .none] h) = _
  simp -implicitDefEqProofs (disch := first | omega | (simp only [mL_len, List.length_map, rg_len, List.length_append, List.length_reverse, List.length_cons, List.length_nil, List.length_set] <;> omega) | (simp only [rg_mem] at * <;> omega)) only [bind_ok, bindS_ok, bindN_ok, opt_some, thS_nx, thS_rt, thS_ex, seqS_e, skipS_e, retS_e, asgS_e, ifS_e, conM_e, varM_e, slot_0, slot_s, binM_e, unM_e, unL_e, boolM_e, asB_e, truM_e, truD_b, andB_e, orB_e, notB_e, ifM_e, andM_e, orM_e, notM_e, map_some_e, bind_some_e, isiM_e, chainM_e, exprS_e, parS_e, setE_c, setE_n, raiS_e, bind_ex, bindS_ex, wipeE_n, yesM_e, gN_e, items_l, items_t, tup_l, tup_t, nilM_e, consM_e, lstM_e, tupM_e, seqM_e, callP_e, callH_e, res_ok, res_ex, nex_ok, compM_e, forS_e, range1M_e, range2M_e, mulD_i, addD_i, subD_i, intD_i, ltD_i, leD_i, gtD_i, geD_i, eqD_i, neD_i, handM_e, handS_e, at0, at1, at2, at3, at4, ix5_1, ix5_2, ix5_3, ix5_4, outP_rt, outP_nx, outP_ex, outH_rt, List.set_cons_succ, List.set_cons_zero, Bool.false_eq_true, if_true, if_false, decide_true, decide_false, reduceIte, Bool.not_true, Bool.not_false, Bool.true_and, Bool.and_true, Bool.false_and, Bool.and_false, Bool.true_or, Bool.or_true, Bool.false_or, Bool.or_false, mL_len, Int.toNat_natCast, Int.cast_ofNat_Int, Nat.reduceAdd, Int.reduceToNat, Int.reduceEq, Int.reduceLT, Int.reduceLE, Int.reduceSub, Int.reduceAdd, Bool.bne_false, bne_self_eq_false, beq_self_eq_true,  Bool.bne_true, List.map_id', compL_m, wipeE_c, stepR_gN, stepR_g2, mapR_all, mL_int, mL_bool, mL_row, mL_rows, mapR_if, eT_e, eTT_e, mL_app, lenD_l, lenD_t, sumD_i, sumD_t, allD_b, anyD_b, cutG_m, cutD_l, cutD_t, rev_m, revD_l, revD_t, zip_m, zipD_l, zipD_t, enum_m, enumD_l, enumD_t, rg_len, ixD_l, ixD_t, atI_mod, range_0, eqD_l, eqD_t, neD_l, neD_t, neD_lnil, eqD_lnil, inD_il, inD_it, inD_rl, inD_rt, inD_cl, eqD_b, neD_b, if_and, if_or, if_andD, if_orD, all_id, any_id, partR_i, aPart_e, noPart_e, sliceM_e, addD_m, addD_ml, addD_cut, addD_cutl, range3_e, zipM_e, enumM_e, isi2M_e, isNM_e, max2_i, min2_i, negM_e, negR_i, wordM_r, wordR_ok, wordR_ex, appS_r, appR_l, extS_r, extR_l, mL_app1, mL_row1, frzS_e, isL_0, isL_s, dropM_r, dropR_nx, dropR_rt, dropR_ex, dropR_ct, dropR_bk, dropR_ite, thS_ite, outP_ite, outH_ite, lrot_e, gT2, addD_1, loop_foldI, fndR_s, fndR_n, dropR_fnd, mL_C, mL_Cs, mL_Ct, oN_s, oN_n, mtM_e, isLst_l, idxL_m, cntL_m, at_0, at_1, at_2, at_3, at_m1, at_m2, at_m3, isi_tt, isi_ts, isi_ti, isi_tl, isi_tn, isi_ss, isi_st, isi_si, isi_sl, isi_sn, isi_ll, isi_lt, mul_l1, mul_t1, notBD_b, isBD_b, absD_i, sortL_pr, sortOk_pr, sortD_pr, unpS_r, unpR_s, gT3, mtA_e, isSq_l, isSq_t, cntA_ti, cntA_li, cntA_tr, cntA_lr, nxO_s, set2S_r, set2R_2, set2K_e, set2X_s, setO_e, setD_l, mL_seti, setS_r, dropM_r, range_m, Int.sub_zero, parS_e, asgL_e, List.length_cons, List.length_nil, Nat.reduceAdd, Nat.reduceLT, List.all_cons, List.all_nil, m__law_no_order, M, e]
theorem co_bad {d : D} (hd : d ∈ bL) : F_check_order [d] = .ex ⟨"NoOrder", none⟩ := by
  simp only [bL, List.mem_cons, List.not_mem_nil, or_false] at hd
  rcases hd with rfl | rfl | rfl | rfl | rfl | rfl | rfl | rfl | rfl <;> kernel_rfl
theorem wi_bad {d : D} (hd : d ∈ fL) : F_is_within [d, .int 1, .int 8] = .ok (.bool false) := by
  simp only [fL, List.mem_cons, List.not_mem_nil, or_false] at hd
  rcases hd with rfl | rfl | rfl | rfl | rfl <;> kernel_rfl
section
variable {o : List Int} {p : Int} {d d2 x : D}
theorem on_bad1 (hd : d ∈ bL) : F_check_at_once [d, x] = .ex ⟨"NoOrder", none⟩ := by
  rw [F_check_at_once, runP_e]
  show outP (m_check_at_once [some d, some x] []) = _
  simp -implicitDefEqProofs (disch := first | omega | (simp only [mL_len, List.length_map, rg_len, List.length_append, List.length_reverse, List.length_cons, List.length_nil, List.length_set] <;> omega) | (simp only [rg_mem] at * <;> omega)) only [bind_ok, bindS_ok, bindN_ok, opt_some, thS_nx, thS_rt, thS_ex, seqS_e, skipS_e, retS_e, asgS_e, ifS_e, conM_e, varM_e, slot_0, slot_s, binM_e, unM_e, unL_e, boolM_e, asB_e, truM_e, truD_b, andB_e, orB_e, notB_e, ifM_e, andM_e, orM_e, notM_e, map_some_e, bind_some_e, isiM_e, chainM_e, exprS_e, parS_e, setE_c, setE_n, raiS_e, bind_ex, bindS_ex, wipeE_n, yesM_e, gN_e, items_l, items_t, tup_l, tup_t, nilM_e, consM_e, lstM_e, tupM_e, seqM_e, callP_e, callH_e, res_ok, res_ex, nex_ok, compM_e, forS_e, range1M_e, range2M_e, mulD_i, addD_i, subD_i, intD_i, ltD_i, leD_i, gtD_i, geD_i, eqD_i, neD_i, handM_e, handS_e, at0, at1, at2, at3, at4, ix5_1, ix5_2, ix5_3, ix5_4, outP_rt, outP_nx, outP_ex, outH_rt, List.set_cons_succ, List.set_cons_zero, Bool.false_eq_true, if_true, if_false, decide_true, decide_false, reduceIte, Bool.not_true, Bool.not_false, Bool.true_and, Bool.and_true, Bool.false_and, Bool.and_false, Bool.true_or, Bool.or_true, Bool.false_or, Bool.or_false, mL_len, Int.toNat_natCast, Int.cast_ofNat_Int, Nat.reduceAdd, Int.reduceToNat, Int.reduceEq, Int.reduceLT, Int.reduceLE, Int.reduceSub, Int.reduceAdd, Bool.bne_false, bne_self_eq_false, beq_self_eq_true,  Bool.bne_true, List.map_id', compL_m, wipeE_c, stepR_gN, stepR_g2, mapR_all, mL_int, mL_bool, mL_row, mL_rows, mapR_if, eT_e, eTT_e, mL_app, lenD_l, lenD_t, sumD_i, sumD_t, allD_b, anyD_b, cutG_m, cutD_l, cutD_t, rev_m, revD_l, revD_t, zip_m, zipD_l, zipD_t, enum_m, enumD_l, enumD_t, rg_len, ixD_l, ixD_t, atI_mod, range_0, eqD_l, eqD_t, neD_l, neD_t, neD_lnil, eqD_lnil, inD_il, inD_it, inD_rl, inD_rt, inD_cl, eqD_b, neD_b, if_and, if_or, if_andD, if_orD, all_id, any_id, partR_i, aPart_e, noPart_e, sliceM_e, addD_m, addD_ml, addD_cut, addD_cutl, range3_e, zipM_e, enumM_e, isi2M_e, isNM_e, max2_i, min2_i, negM_e, negR_i, wordM_r, wordR_ok, wordR_ex, appS_r, appR_l, extS_r, extR_l, mL_app1, mL_row1, frzS_e, isL_0, isL_s, dropM_r, dropR_nx, dropR_rt, dropR_ex, dropR_ct, dropR_bk, dropR_ite, thS_ite, outP_ite, outH_ite, lrot_e, gT2, addD_1, loop_foldI, fndR_s, fndR_n, dropR_fnd, mL_C, mL_Cs, mL_Ct, oN_s, oN_n, mtM_e, isLst_l, idxL_m, cntL_m, at_0, at_1, at_2, at_3, at_m1, at_m2, at_m3, isi_tt, isi_ts, isi_ti, isi_tl, isi_tn, isi_ss, isi_st, isi_si, isi_sl, isi_sn, isi_ll, isi_lt, mul_l1, mul_t1, notBD_b, isBD_b, absD_i, sortL_pr, sortOk_pr, sortD_pr, unpS_r, unpR_s, gT3, mtA_e, isSq_l, isSq_t, cntA_ti, cntA_li, cntA_tr, cntA_lr, nxO_s, set2S_r, set2R_2, set2K_e, set2X_s, setO_e, setD_l, mL_seti, setS_r, dropM_r, range_m, Int.sub_zero, parS_e, asgL_e, List.length_cons, List.length_nil, Nat.reduceAdd, Nat.reduceLT, List.all_cons, List.all_nil, m_check_at_once, co_bad hd]
theorem on_bad2 (h : OrdOk o) (hd : d ∈ fL) : F_check_at_once [.tuple (mL PyData.int o), d] = .ex ⟨"NoCount", none⟩ := by
  have C : F_check_order [.tuple (mL PyData.int o)] = .ok .none := by
    rw [F_check_order, runP_e]
    show outP (m_check_order [some (.tuple (mL PyData.int o))] []) = _
    simp -implicitDefEqProofs (disch := first | omega | (simp only [mL_len, List.length_map, rg_len, List.length_append, List.length_reverse, List.length_cons, List.length_nil, List.length_set] <;> omega) | (simp only [rg_mem] at * <;> omega)) only [bind_ok, bindS_ok, bindN_ok, opt_some, thS_nx, thS_rt, thS_ex, seqS_e, skipS_e, retS_e, asgS_e, ifS_e, conM_e, varM_e, slot_0, slot_s, binM_e, unM_e, unL_e, boolM_e, asB_e, truM_e, truD_b, andB_e, orB_e, notB_e, ifM_e, andM_e, orM_e, notM_e, map_some_e, bind_some_e, isiM_e, chainM_e, exprS_e, parS_e, setE_c, setE_n, raiS_e, bind_ex, bindS_ex, wipeE_n, yesM_e, gN_e, items_l, items_t, tup_l, tup_t, nilM_e, consM_e, lstM_e, tupM_e, seqM_e, callP_e, callH_e, res_ok, res_ex, nex_ok, compM_e, forS_e, range1M_e, range2M_e, mulD_i, addD_i, subD_i, intD_i, ltD_i, leD_i, gtD_i, geD_i, eqD_i, neD_i, handM_e, handS_e, at0, at1, at2, at3, at4, ix5_1, ix5_2, ix5_3, ix5_4, outP_rt, outP_nx, outP_ex, outH_rt, List.set_cons_succ, List.set_cons_zero, Bool.false_eq_true, if_true, if_false, decide_true, decide_false, reduceIte, Bool.not_true, Bool.not_false, Bool.true_and, Bool.and_true, Bool.false_and, Bool.and_false, Bool.true_or, Bool.or_true, Bool.false_or, Bool.or_false, mL_len, Int.toNat_natCast, Int.cast_ofNat_Int, Nat.reduceAdd, Int.reduceToNat, Int.reduceEq, Int.reduceLT, Int.reduceLE, Int.reduceSub, Int.reduceAdd, Bool.bne_false, bne_self_eq_false, beq_self_eq_true,  Bool.bne_true, List.map_id', compL_m, wipeE_c, stepR_gN, stepR_g2, mapR_all, mL_int, mL_bool, mL_row, mL_rows, mapR_if, eT_e, eTT_e, mL_app, lenD_l, lenD_t, sumD_i, sumD_t, allD_b, anyD_b, cutG_m, cutD_l, cutD_t, rev_m, revD_l, revD_t, zip_m, zipD_l, zipD_t, enum_m, enumD_l, enumD_t, rg_len, ixD_l, ixD_t, atI_mod, range_0, eqD_l, eqD_t, neD_l, neD_t, neD_lnil, eqD_lnil, inD_il, inD_it, inD_rl, inD_rt, inD_cl, eqD_b, neD_b, if_and, if_or, if_andD, if_orD, all_id, any_id, partR_i, aPart_e, noPart_e, sliceM_e, addD_m, addD_ml, addD_cut, addD_cutl, range3_e, zipM_e, enumM_e, isi2M_e, isNM_e, max2_i, min2_i, negM_e, negR_i, wordM_r, wordR_ok, wordR_ex, appS_r, appR_l, extS_r, extR_l, mL_app1, mL_row1, frzS_e, isL_0, isL_s, dropM_r, dropR_nx, dropR_rt, dropR_ex, dropR_ct, dropR_bk, dropR_ite, thS_ite, outP_ite, outH_ite, lrot_e, gT2, addD_1, loop_foldI, fndR_s, fndR_n, dropR_fnd, mL_C, mL_Cs, mL_Ct, oN_s, oN_n, mtM_e, isLst_l, idxL_m, cntL_m, at_0, at_1, at_2, at_3, at_m1, at_m2, at_m3, isi_tt, isi_ts, isi_ti, isi_tl, isi_tn, isi_ss, isi_st, isi_si, isi_sl, isi_sn, isi_ll, isi_lt, mul_l1, mul_t1, notBD_b, isBD_b, absD_i, sortL_pr, sortOk_pr, sortD_pr, unpS_r, unpR_s, gT3, mtA_e, isSq_l, isSq_t, cntA_ti, cntA_li, cntA_tr, cntA_lr, nxO_s, set2S_r, set2R_2, set2K_e, set2X_s, setO_e, setD_l, mL_seti, setS_r, dropM_r, range_m, Int.sub_zero, parS_e, asgL_e, List.length_cons, List.length_nil, Nat.reduceAdd, Nat.reduceLT, List.all_cons, List.all_nil, m_check_order, order_ok h]
  rw [F_check_at_once, runP_e]
  show outP (m_check_at_once [some (.tuple (mL PyData.int o)), some d] []) = _
  simp -implicitDefEqProofs (disch := first | omega | (simp only [mL_len, List.length_map, rg_len, List.length_append, List.length_reverse, List.length_cons, List.length_nil, List.length_set] <;> omega) | (simp only [rg_mem] at * <;> omega)) only [bind_ok, bindS_ok, bindN_ok, opt_some, thS_nx, thS_rt, thS_ex, seqS_e, skipS_e, retS_e, asgS_e, ifS_e, conM_e, varM_e, slot_0, slot_s, binM_e, unM_e, unL_e, boolM_e, asB_e, truM_e, truD_b, andB_e, orB_e, notB_e, ifM_e, andM_e, orM_e, notM_e, map_some_e, bind_some_e, isiM_e, chainM_e, exprS_e, parS_e, setE_c, setE_n, raiS_e, bind_ex, bindS_ex, wipeE_n, yesM_e, gN_e, items_l, items_t, tup_l, tup_t, nilM_e, consM_e, lstM_e, tupM_e, seqM_e, callP_e, callH_e, res_ok, res_ex, nex_ok, compM_e, forS_e, range1M_e, range2M_e, mulD_i, addD_i, subD_i, intD_i, ltD_i, leD_i, gtD_i, geD_i, eqD_i, neD_i, handM_e, handS_e, at0, at1, at2, at3, at4, ix5_1, ix5_2, ix5_3, ix5_4, outP_rt, outP_nx, outP_ex, outH_rt, List.set_cons_succ, List.set_cons_zero, Bool.false_eq_true, if_true, if_false, decide_true, decide_false, reduceIte, Bool.not_true, Bool.not_false, Bool.true_and, Bool.and_true, Bool.false_and, Bool.and_false, Bool.true_or, Bool.or_true, Bool.false_or, Bool.or_false, mL_len, Int.toNat_natCast, Int.cast_ofNat_Int, Nat.reduceAdd, Int.reduceToNat, Int.reduceEq, Int.reduceLT, Int.reduceLE, Int.reduceSub, Int.reduceAdd, Bool.bne_false, bne_self_eq_false, beq_self_eq_true,  Bool.bne_true, List.map_id', compL_m, wipeE_c, stepR_gN, stepR_g2, mapR_all, mL_int, mL_bool, mL_row, mL_rows, mapR_if, eT_e, eTT_e, mL_app, lenD_l, lenD_t, sumD_i, sumD_t, allD_b, anyD_b, cutG_m, cutD_l, cutD_t, rev_m, revD_l, revD_t, zip_m, zipD_l, zipD_t, enum_m, enumD_l, enumD_t, rg_len, ixD_l, ixD_t, atI_mod, range_0, eqD_l, eqD_t, neD_l, neD_t, neD_lnil, eqD_lnil, inD_il, inD_it, inD_rl, inD_rt, inD_cl, eqD_b, neD_b, if_and, if_or, if_andD, if_orD, all_id, any_id, partR_i, aPart_e, noPart_e, sliceM_e, addD_m, addD_ml, addD_cut, addD_cutl, range3_e, zipM_e, enumM_e, isi2M_e, isNM_e, max2_i, min2_i, negM_e, negR_i, wordM_r, wordR_ok, wordR_ex, appS_r, appR_l, extS_r, extR_l, mL_app1, mL_row1, frzS_e, isL_0, isL_s, dropM_r, dropR_nx, dropR_rt, dropR_ex, dropR_ct, dropR_bk, dropR_ite, thS_ite, outP_ite, outH_ite, lrot_e, gT2, addD_1, loop_foldI, fndR_s, fndR_n, dropR_fnd, mL_C, mL_Cs, mL_Ct, oN_s, oN_n, mtM_e, isLst_l, idxL_m, cntL_m, at_0, at_1, at_2, at_3, at_m1, at_m2, at_m3, isi_tt, isi_ts, isi_ti, isi_tl, isi_tn, isi_ss, isi_st, isi_si, isi_sl, isi_sn, isi_ll, isi_lt, mul_l1, mul_t1, notBD_b, isBD_b, absD_i, sortL_pr, sortOk_pr, sortD_pr, unpS_r, unpR_s, gT3, mtA_e, isSq_l, isSq_t, cntA_ti, cntA_li, cntA_tr, cntA_lr, nxO_s, set2S_r, set2R_2, set2K_e, set2X_s, setO_e, setD_l, mL_seti, setS_r, dropM_r, range_m, Int.sub_zero, parS_e, asgL_e, List.length_cons, List.length_nil, Nat.reduceAdd, Nat.reduceLT, List.all_cons, List.all_nil, m_check_at_once, C, wi_bad hd]
theorem pass_bad {w : Str} {a b : D} (h : F_check_at_once [a, b] = .ex ⟨w, none⟩) : F_passes [a, b] = .ex ⟨w, none⟩ := by
  rw [F_passes, runP_e]
  show outP (m_passes [some a, some b] []) = _
  simp -implicitDefEqProofs (disch := first | omega | (simp only [mL_len, List.length_map, rg_len, List.length_append, List.length_reverse, List.length_cons, List.length_nil, List.length_set] <;> omega) | (simp only [rg_mem] at * <;> omega)) only [bind_ok, bindS_ok, bindN_ok, opt_some, thS_nx, thS_rt, thS_ex, seqS_e, skipS_e, retS_e, asgS_e, ifS_e, conM_e, varM_e, slot_0, slot_s, binM_e, unM_e, unL_e, boolM_e, asB_e, truM_e, truD_b, andB_e, orB_e, notB_e, ifM_e, andM_e, orM_e, notM_e, map_some_e, bind_some_e, isiM_e, chainM_e, exprS_e, parS_e, setE_c, setE_n, raiS_e, bind_ex, bindS_ex, wipeE_n, yesM_e, gN_e, items_l, items_t, tup_l, tup_t, nilM_e, consM_e, lstM_e, tupM_e, seqM_e, callP_e, callH_e, res_ok, res_ex, nex_ok, compM_e, forS_e, range1M_e, range2M_e, mulD_i, addD_i, subD_i, intD_i, ltD_i, leD_i, gtD_i, geD_i, eqD_i, neD_i, handM_e, handS_e, at0, at1, at2, at3, at4, ix5_1, ix5_2, ix5_3, ix5_4, outP_rt, outP_nx, outP_ex, outH_rt, List.set_cons_succ, List.set_cons_zero, Bool.false_eq_true, if_true, if_false, decide_true, decide_false, reduceIte, Bool.not_true, Bool.not_false, Bool.true_and, Bool.and_true, Bool.false_and, Bool.and_false, Bool.true_or, Bool.or_true, Bool.false_or, Bool.or_false, mL_len, Int.toNat_natCast, Int.cast_ofNat_Int, Nat.reduceAdd, Int.reduceToNat, Int.reduceEq, Int.reduceLT, Int.reduceLE, Int.reduceSub, Int.reduceAdd, Bool.bne_false, bne_self_eq_false, beq_self_eq_true,  Bool.bne_true, List.map_id', compL_m, wipeE_c, stepR_gN, stepR_g2, mapR_all, mL_int, mL_bool, mL_row, mL_rows, mapR_if, eT_e, eTT_e, mL_app, lenD_l, lenD_t, sumD_i, sumD_t, allD_b, anyD_b, cutG_m, cutD_l, cutD_t, rev_m, revD_l, revD_t, zip_m, zipD_l, zipD_t, enum_m, enumD_l, enumD_t, rg_len, ixD_l, ixD_t, atI_mod, range_0, eqD_l, eqD_t, neD_l, neD_t, neD_lnil, eqD_lnil, inD_il, inD_it, inD_rl, inD_rt, inD_cl, eqD_b, neD_b, if_and, if_or, if_andD, if_orD, all_id, any_id, partR_i, aPart_e, noPart_e, sliceM_e, addD_m, addD_ml, addD_cut, addD_cutl, range3_e, zipM_e, enumM_e, isi2M_e, isNM_e, max2_i, min2_i, negM_e, negR_i, wordM_r, wordR_ok, wordR_ex, appS_r, appR_l, extS_r, extR_l, mL_app1, mL_row1, frzS_e, isL_0, isL_s, dropM_r, dropR_nx, dropR_rt, dropR_ex, dropR_ct, dropR_bk, dropR_ite, thS_ite, outP_ite, outH_ite, lrot_e, gT2, addD_1, loop_foldI, fndR_s, fndR_n, dropR_fnd, mL_C, mL_Cs, mL_Ct, oN_s, oN_n, mtM_e, isLst_l, idxL_m, cntL_m, at_0, at_1, at_2, at_3, at_m1, at_m2, at_m3, isi_tt, isi_ts, isi_ti, isi_tl, isi_tn, isi_ss, isi_st, isi_si, isi_sl, isi_sn, isi_ll, isi_lt, mul_l1, mul_t1, notBD_b, isBD_b, absD_i, sortL_pr, sortOk_pr, sortD_pr, unpS_r, unpR_s, gT3, mtA_e, isSq_l, isSq_t, cntA_ti, cntA_li, cntA_tr, cntA_lr, nxO_s, set2S_r, set2R_2, set2K_e, set2X_s, setO_e, setD_l, mL_seti, setS_r, dropM_r, range_m, Int.sub_zero, parS_e, asgL_e, List.length_cons, List.length_nil, Nat.reduceAdd, Nat.reduceLT, List.all_cons, List.all_nil, m_passes, h]
theorem cones_bad {w : Str} {a b : D} (h : F_check_at_once [a, b] = .ex ⟨w, none⟩) : F_cones_at [a, b] = .ex ⟨w, none⟩ := by
  rw [F_cones_at, runP_e]
  show outP (m_cones_at [some a, some b] []) = _
  simp -implicitDefEqProofs (disch := first | omega | (simp only [mL_len, List.length_map, rg_len, List.length_append, List.length_reverse, List.length_cons, List.length_nil, List.length_set] <;> omega) | (simp only [rg_mem] at * <;> omega)) only [bind_ok, bindS_ok, bindN_ok, opt_some, thS_nx, thS_rt, thS_ex, seqS_e, skipS_e, retS_e, asgS_e, ifS_e, conM_e, varM_e, slot_0, slot_s, binM_e, unM_e, unL_e, boolM_e, asB_e, truM_e, truD_b, andB_e, orB_e, notB_e, ifM_e, andM_e, orM_e, notM_e, map_some_e, bind_some_e, isiM_e, chainM_e, exprS_e, parS_e, setE_c, setE_n, raiS_e, bind_ex, bindS_ex, wipeE_n, yesM_e, gN_e, items_l, items_t, tup_l, tup_t, nilM_e, consM_e, lstM_e, tupM_e, seqM_e, callP_e, callH_e, res_ok, res_ex, nex_ok, compM_e, forS_e, range1M_e, range2M_e, mulD_i, addD_i, subD_i, intD_i, ltD_i, leD_i, gtD_i, geD_i, eqD_i, neD_i, handM_e, handS_e, at0, at1, at2, at3, at4, ix5_1, ix5_2, ix5_3, ix5_4, outP_rt, outP_nx, outP_ex, outH_rt, List.set_cons_succ, List.set_cons_zero, Bool.false_eq_true, if_true, if_false, decide_true, decide_false, reduceIte, Bool.not_true, Bool.not_false, Bool.true_and, Bool.and_true, Bool.false_and, Bool.and_false, Bool.true_or, Bool.or_true, Bool.false_or, Bool.or_false, mL_len, Int.toNat_natCast, Int.cast_ofNat_Int, Nat.reduceAdd, Int.reduceToNat, Int.reduceEq, Int.reduceLT, Int.reduceLE, Int.reduceSub, Int.reduceAdd, Bool.bne_false, bne_self_eq_false, beq_self_eq_true,  Bool.bne_true, List.map_id', compL_m, wipeE_c, stepR_gN, stepR_g2, mapR_all, mL_int, mL_bool, mL_row, mL_rows, mapR_if, eT_e, eTT_e, mL_app, lenD_l, lenD_t, sumD_i, sumD_t, allD_b, anyD_b, cutG_m, cutD_l, cutD_t, rev_m, revD_l, revD_t, zip_m, zipD_l, zipD_t, enum_m, enumD_l, enumD_t, rg_len, ixD_l, ixD_t, atI_mod, range_0, eqD_l, eqD_t, neD_l, neD_t, neD_lnil, eqD_lnil, inD_il, inD_it, inD_rl, inD_rt, inD_cl, eqD_b, neD_b, if_and, if_or, if_andD, if_orD, all_id, any_id, partR_i, aPart_e, noPart_e, sliceM_e, addD_m, addD_ml, addD_cut, addD_cutl, range3_e, zipM_e, enumM_e, isi2M_e, isNM_e, max2_i, min2_i, negM_e, negR_i, wordM_r, wordR_ok, wordR_ex, appS_r, appR_l, extS_r, extR_l, mL_app1, mL_row1, frzS_e, isL_0, isL_s, dropM_r, dropR_nx, dropR_rt, dropR_ex, dropR_ct, dropR_bk, dropR_ite, thS_ite, outP_ite, outH_ite, lrot_e, gT2, addD_1, loop_foldI, fndR_s, fndR_n, dropR_fnd, mL_C, mL_Cs, mL_Ct, oN_s, oN_n, mtM_e, isLst_l, idxL_m, cntL_m, at_0, at_1, at_2, at_3, at_m1, at_m2, at_m3, isi_tt, isi_ts, isi_ti, isi_tl, isi_tn, isi_ss, isi_st, isi_si, isi_sl, isi_sn, isi_ll, isi_lt, mul_l1, mul_t1, notBD_b, isBD_b, absD_i, sortL_pr, sortOk_pr, sortD_pr, unpS_r, unpR_s, gT3, mtA_e, isSq_l, isSq_t, cntA_ti, cntA_li, cntA_tr, cntA_lr, nxO_s, set2S_r, set2R_2, set2K_e, set2X_s, setO_e, setD_l, mL_seti, setS_r, dropM_r, range_m, Int.sub_zero, parS_e, asgL_e, List.length_cons, List.length_nil, Nat.reduceAdd, Nat.reduceLT, List.all_cons, List.all_nil, m_cones_at, h]
theorem conec_bad {w : Str} {a b : D} (h : F_check_at_once [a, b] = .ex ⟨w, none⟩) : F_cone_count [a, b] = .ex ⟨w, none⟩ := by
  rw [F_cone_count, runP_e]
  show outP (m_cone_count [some a, some b] []) = _
  simp -implicitDefEqProofs (disch := first | omega | (simp only [mL_len, List.length_map, rg_len, List.length_append, List.length_reverse, List.length_cons, List.length_nil, List.length_set] <;> omega) | (simp only [rg_mem] at * <;> omega)) only [bind_ok, bindS_ok, bindN_ok, opt_some, thS_nx, thS_rt, thS_ex, seqS_e, skipS_e, retS_e, asgS_e, ifS_e, conM_e, varM_e, slot_0, slot_s, binM_e, unM_e, unL_e, boolM_e, asB_e, truM_e, truD_b, andB_e, orB_e, notB_e, ifM_e, andM_e, orM_e, notM_e, map_some_e, bind_some_e, isiM_e, chainM_e, exprS_e, parS_e, setE_c, setE_n, raiS_e, bind_ex, bindS_ex, wipeE_n, yesM_e, gN_e, items_l, items_t, tup_l, tup_t, nilM_e, consM_e, lstM_e, tupM_e, seqM_e, callP_e, callH_e, res_ok, res_ex, nex_ok, compM_e, forS_e, range1M_e, range2M_e, mulD_i, addD_i, subD_i, intD_i, ltD_i, leD_i, gtD_i, geD_i, eqD_i, neD_i, handM_e, handS_e, at0, at1, at2, at3, at4, ix5_1, ix5_2, ix5_3, ix5_4, outP_rt, outP_nx, outP_ex, outH_rt, List.set_cons_succ, List.set_cons_zero, Bool.false_eq_true, if_true, if_false, decide_true, decide_false, reduceIte, Bool.not_true, Bool.not_false, Bool.true_and, Bool.and_true, Bool.false_and, Bool.and_false, Bool.true_or, Bool.or_true, Bool.false_or, Bool.or_false, mL_len, Int.toNat_natCast, Int.cast_ofNat_Int, Nat.reduceAdd, Int.reduceToNat, Int.reduceEq, Int.reduceLT, Int.reduceLE, Int.reduceSub, Int.reduceAdd, Bool.bne_false, bne_self_eq_false, beq_self_eq_true,  Bool.bne_true, List.map_id', compL_m, wipeE_c, stepR_gN, stepR_g2, mapR_all, mL_int, mL_bool, mL_row, mL_rows, mapR_if, eT_e, eTT_e, mL_app, lenD_l, lenD_t, sumD_i, sumD_t, allD_b, anyD_b, cutG_m, cutD_l, cutD_t, rev_m, revD_l, revD_t, zip_m, zipD_l, zipD_t, enum_m, enumD_l, enumD_t, rg_len, ixD_l, ixD_t, atI_mod, range_0, eqD_l, eqD_t, neD_l, neD_t, neD_lnil, eqD_lnil, inD_il, inD_it, inD_rl, inD_rt, inD_cl, eqD_b, neD_b, if_and, if_or, if_andD, if_orD, all_id, any_id, partR_i, aPart_e, noPart_e, sliceM_e, addD_m, addD_ml, addD_cut, addD_cutl, range3_e, zipM_e, enumM_e, isi2M_e, isNM_e, max2_i, min2_i, negM_e, negR_i, wordM_r, wordR_ok, wordR_ex, appS_r, appR_l, extS_r, extR_l, mL_app1, mL_row1, frzS_e, isL_0, isL_s, dropM_r, dropR_nx, dropR_rt, dropR_ex, dropR_ct, dropR_bk, dropR_ite, thS_ite, outP_ite, outH_ite, lrot_e, gT2, addD_1, loop_foldI, fndR_s, fndR_n, dropR_fnd, mL_C, mL_Cs, mL_Ct, oN_s, oN_n, mtM_e, isLst_l, idxL_m, cntL_m, at_0, at_1, at_2, at_3, at_m1, at_m2, at_m3, isi_tt, isi_ts, isi_ti, isi_tl, isi_tn, isi_ss, isi_st, isi_si, isi_sl, isi_sn, isi_ll, isi_lt, mul_l1, mul_t1, notBD_b, isBD_b, absD_i, sortL_pr, sortOk_pr, sortD_pr, unpS_r, unpR_s, gT3, mtA_e, isSq_l, isSq_t, cntA_ti, cntA_li, cntA_tr, cntA_lr, nxO_s, set2S_r, set2R_2, set2K_e, set2X_s, setO_e, setD_l, mL_seti, setS_r, dropM_r, range_m, Int.sub_zero, parS_e, asgL_e, List.length_cons, List.length_nil, Nat.reduceAdd, Nat.reduceLT, List.all_cons, List.all_nil, m_cone_count, h]
theorem ch_bad {w : Str} {a b : D} (h : F_check_at_once [a, b] = .ex ⟨w, none⟩) : F_changes [a, b] = .ex ⟨w, none⟩ := by
  rw [F_changes, runP_e]
  show outP (m_changes [some a, some b] []) = _
  simp -implicitDefEqProofs (disch := first | omega | (simp only [mL_len, List.length_map, rg_len, List.length_append, List.length_reverse, List.length_cons, List.length_nil, List.length_set] <;> omega) | (simp only [rg_mem] at * <;> omega)) only [bind_ok, bindS_ok, bindN_ok, opt_some, thS_nx, thS_rt, thS_ex, seqS_e, skipS_e, retS_e, asgS_e, ifS_e, conM_e, varM_e, slot_0, slot_s, binM_e, unM_e, unL_e, boolM_e, asB_e, truM_e, truD_b, andB_e, orB_e, notB_e, ifM_e, andM_e, orM_e, notM_e, map_some_e, bind_some_e, isiM_e, chainM_e, exprS_e, parS_e, setE_c, setE_n, raiS_e, bind_ex, bindS_ex, wipeE_n, yesM_e, gN_e, items_l, items_t, tup_l, tup_t, nilM_e, consM_e, lstM_e, tupM_e, seqM_e, callP_e, callH_e, res_ok, res_ex, nex_ok, compM_e, forS_e, range1M_e, range2M_e, mulD_i, addD_i, subD_i, intD_i, ltD_i, leD_i, gtD_i, geD_i, eqD_i, neD_i, handM_e, handS_e, at0, at1, at2, at3, at4, ix5_1, ix5_2, ix5_3, ix5_4, outP_rt, outP_nx, outP_ex, outH_rt, List.set_cons_succ, List.set_cons_zero, Bool.false_eq_true, if_true, if_false, decide_true, decide_false, reduceIte, Bool.not_true, Bool.not_false, Bool.true_and, Bool.and_true, Bool.false_and, Bool.and_false, Bool.true_or, Bool.or_true, Bool.false_or, Bool.or_false, mL_len, Int.toNat_natCast, Int.cast_ofNat_Int, Nat.reduceAdd, Int.reduceToNat, Int.reduceEq, Int.reduceLT, Int.reduceLE, Int.reduceSub, Int.reduceAdd, Bool.bne_false, bne_self_eq_false, beq_self_eq_true,  Bool.bne_true, List.map_id', compL_m, wipeE_c, stepR_gN, stepR_g2, mapR_all, mL_int, mL_bool, mL_row, mL_rows, mapR_if, eT_e, eTT_e, mL_app, lenD_l, lenD_t, sumD_i, sumD_t, allD_b, anyD_b, cutG_m, cutD_l, cutD_t, rev_m, revD_l, revD_t, zip_m, zipD_l, zipD_t, enum_m, enumD_l, enumD_t, rg_len, ixD_l, ixD_t, atI_mod, range_0, eqD_l, eqD_t, neD_l, neD_t, neD_lnil, eqD_lnil, inD_il, inD_it, inD_rl, inD_rt, inD_cl, eqD_b, neD_b, if_and, if_or, if_andD, if_orD, all_id, any_id, partR_i, aPart_e, noPart_e, sliceM_e, addD_m, addD_ml, addD_cut, addD_cutl, range3_e, zipM_e, enumM_e, isi2M_e, isNM_e, max2_i, min2_i, negM_e, negR_i, wordM_r, wordR_ok, wordR_ex, appS_r, appR_l, extS_r, extR_l, mL_app1, mL_row1, frzS_e, isL_0, isL_s, dropM_r, dropR_nx, dropR_rt, dropR_ex, dropR_ct, dropR_bk, dropR_ite, thS_ite, outP_ite, outH_ite, lrot_e, gT2, addD_1, loop_foldI, fndR_s, fndR_n, dropR_fnd, mL_C, mL_Cs, mL_Ct, oN_s, oN_n, mtM_e, isLst_l, idxL_m, cntL_m, at_0, at_1, at_2, at_3, at_m1, at_m2, at_m3, isi_tt, isi_ts, isi_ti, isi_tl, isi_tn, isi_ss, isi_st, isi_si, isi_sl, isi_sn, isi_ll, isi_lt, mul_l1, mul_t1, notBD_b, isBD_b, absD_i, sortL_pr, sortOk_pr, sortD_pr, unpS_r, unpR_s, gT3, mtA_e, isSq_l, isSq_t, cntA_ti, cntA_li, cntA_tr, cntA_lr, nxO_s, set2S_r, set2R_2, set2K_e, set2X_s, setO_e, setD_l, mL_seti, setS_r, dropM_r, range_m, Int.sub_zero, parS_e, asgL_e, List.length_cons, List.length_nil, Nat.reduceAdd, Nat.reduceLT, List.all_cons, List.all_nil, m_changes, h]
end
theorem wOr : wf ⟨"NoOrder", none⟩ = some (.str "order") := rfl
theorem wCo : wf ⟨"NoCount", none⟩ = some (.str "count") := rfl
theorem kW : neD (.list [.str "order", .str "count", .str "count", .str "order", .str "order", .str "count"]) (.list [.str "order", .str "count", .str "count", .str "order", .str "order", .str "count"]) = some (.bool false) := by kernel_rfl
theorem sum_fold (f : List Int × List Int → Int) : ∀ (xs : List (List Int × List Int)) (t : Int), xs.foldl (fun t q => t + f q) t = t + (xs.map f).sum
  | [], t => by simp
  | x :: xs, t => by rw [List.foldl_cons, sum_fold f xs, List.map_cons, List.sum_cons]; omega
def stTot : FS := forS (zipM (varM 4) (sliceM (varM 4) (aPart (conM (.int 1))) noPart)) (gT (gsC (gN 5) (gsC (gN 9) gsN))) (dropM [5, 9] (asgS 8 (binM addD (varM 8) (unM lenD (lstM (compM [15, 16] (zipM (varM 5) (varM 9)) (gT (gsC (gN 15) (gsC (gN 16) gsN))) (boolM (binM neD (varM 15) (varM 16))) (conM (.int 1))))))))
def rest8 : FS := seqS (ifS (boolM (binM neD (callP F_changes (consM (varM 13) (consM (varM 3) nilM))) (varM 8))) (retS (conM (.bool false))) skipS) (seqS (parS [11, 12] (consM (callH F__law_no_order nilM) (consM (callH F__law_any (consM (lstM (consM (conM .none) (consM (conM (.int 0)) (consM (conM (.int 9)) (consM (conM (.bool true)) (consM (conM (.str "1")) nilM)))))) nilM)) nilM))) (seqS (asgL 10 (consM (wordM [] wf (callP F_passes (consM (varM 11) (consM (varM 12) nilM)))) nilM)) (seqS (appS 10 (wordM [10] wf (callP F_passes (consM (varM 13) (consM (varM 12) nilM))))) (seqS (appS 10 (wordM [10] wf (callP F_cones_at (consM (varM 13) (consM (varM 12) nilM))))) (seqS (appS 10 (wordM [10] wf (callP F_cone_count (consM (varM 11) (consM (varM 12) nilM))))) (seqS (appS 10 (wordM [10] wf (callP F_changes (consM (varM 11) (consM (varM 12) nilM))))) (seqS (appS 10 (wordM [10] wf (callP F_changes (consM (varM 13) (consM (varM 12) nilM))))) (ifS (boolM (binM neD (varM 10) (lstM (consM (conM (.str "order")) (consM (conM (.str "count")) (consM (conM (.str "count")) (consM (conM (.str "order")) (consM (conM (.str "order")) (consM (conM (.str "count")) nilM))))))))) (retS (conM (.bool false))) skipS))))))))
def restT2 : FS := seqS stTot rest8
def restT : FS := seqS (asgS 7 (unM lenD (lstM (compM [14] (range1M (conM (.int 6))) (gN 14) (boolM (binM (inD false) (varM 14) (varM 13))) (varM 14))))) (seqS (ifS (notB (boolM (chainM leD leD (varM 7) (callP F_cone_count (consM (varM 13) (consM (varM 3) nilM))) (binM mulD (varM 3) (varM 7))))) (retS (conM (.bool false))) skipS) (seqS (asgS 8 (conM (.int 0))) (restT2)))
theorem turn_ok (i : Int) (h : List D) (hh : HandOk h) : ∃ h', HandOk h' ∧ (dropM [2, 3, 4, 5, 6, 7, 8, 9, 10, 11, 12, 13] (seqS (parS [13, 3] (consM (callH F__law_order (consM (conM (.int 24)) nilM)) (consM (binM addD (conM (.int 1)) (callH F__law_draw (consM (conM (.int 8)) nilM))) nilM)))
  (seqS (asgS 4 (callP F__law_passes (consM (varM 13) (consM (varM 3) nilM))))
  (seqS (asgS 6 (unM tupOf (lstM (compM [14] (range1M (conM (.int 6))) (gN 14) yesM (unM maxQ (lstM (compM [5] (seqM (varM 4)) (gN 5) yesM (mtM isSq cntA (varM 5) (varM 14)))))))))
  (seqS (ifS (orB (boolM (binM neD (callP F_passes (consM (varM 13) (consM (varM 3) nilM))) (unM tupOf (varM 4)))) (orB (boolM (binM neD (callP F_cones_at (consM (varM 13) (consM (varM 3) nilM))) (varM 6))) (boolM (binM neD (callP F_cone_count (consM (varM 13) (consM (varM 3) nilM))) (unM sumD (varM 6)))))) (retS (conM (.bool false))) skipS)
  (seqS (asgS 7 (unM lenD (lstM (compM [14] (range1M (conM (.int 6))) (gN 14) (boolM (binM (inD false) (varM 14) (varM 13))) (varM 14)))))
  (seqS (ifS (notB (boolM (chainM leD leD (varM 7) (callP F_cone_count (consM (varM 13) (consM (varM 3) nilM))) (binM mulD (varM 3) (varM 7))))) (retS (conM (.bool false))) skipS)
  (seqS (asgS 8 (conM (.int 0)))
  (seqS (forS (zipM (varM 4) (sliceM (varM 4) (aPart (conM (.int 1))) noPart)) (gT (gsC (gN 5) (gsC (gN 9) gsN))) (dropM [5, 9] (asgS 8 (binM addD (varM 8) (unM lenD (lstM (compM [15, 16] (zipM (varM 5) (varM 9)) (gT (gsC (gN 15) (gsC (gN 16) gsN))) (boolM (binM neD (varM 15) (varM 16))) (conM (.int 1)))))))))
  (seqS (ifS (boolM (binM neD (callP F_changes (consM (varM 13) (consM (varM 3) nilM))) (varM 8))) (retS (conM (.bool false))) skipS)
  (seqS (parS [11, 12] (consM (callH F__law_no_order nilM) (consM (callH F__law_any (consM (lstM (consM (conM .none) (consM (conM (.int 0)) (consM (conM (.int 9)) (consM (conM (.bool true)) (consM (conM (.str "1")) nilM)))))) nilM)) nilM)))
  (seqS (asgL 10 (consM (wordM [] wf (callP F_passes (consM (varM 11) (consM (varM 12) nilM)))) nilM))
  (seqS (appS 10 (wordM [10] wf (callP F_passes (consM (varM 13) (consM (varM 12) nilM)))))
  (seqS (appS 10 (wordM [10] wf (callP F_cones_at (consM (varM 13) (consM (varM 12) nilM)))))
  (seqS (appS 10 (wordM [10] wf (callP F_cone_count (consM (varM 11) (consM (varM 12) nilM)))))
  (seqS (appS 10 (wordM [10] wf (callP F_changes (consM (varM 11) (consM (varM 12) nilM)))))
  (seqS (appS 10 (wordM [10] wf (callP F_changes (consM (varM 13) (consM (varM 12) nilM)))))
  (ifS (boolM (binM neD (varM 10) (lstM (consM (conM (.str "order")) (consM (conM (.str "count")) (consM (conM (.str "count")) (consM (conM (.str "order")) (consM (conM (.str "order")) (consM (conM (.str "count")) nilM))))))))) (retS (conM (.bool false))) skipS)))))))))))))))))) [none, none, some (.int i), none, none, none, none, none, none, none, none, none, none, none, none, none, none] h = .nx (List.replicate 17 none) h' := by
  obtain ⟨o, h1, e1, o1, ho⟩ := order_draw h hh
  obtain ⟨k2, h2, e2, o2, a2, b2⟩ := draw_ok 8 h1 (by decide) (by decide) o1
  obtain ⟨p, hp⟩ : ∃ m : Int, 1 + k2 = m := ⟨_, rfl⟩
  have p1 : 1 ≤ p := by omega
  have p8 : p ≤ 8 := by omega
  obtain ⟨d1, h3, e3, q3, o3⟩ := noorder h2 o2
  obtain ⟨d2, h4, e4, q4, o4⟩ := any_ok fL h3 (by decide) (by decide) o3
  unfold fL at e4
  obtain ⟨t1, t2⟩ := tot_between ho p1
  have cl : colN o ≤ 6 := by
    unfold colN
    have := List.length_filter_le (fun c => decide (c ∈ o)) (rgI 0 6)
    rw [rg_len] at this
    exact this
  have MU : mulI (.int p) (.int (colN o : Int)) = some (.int (p * (colN o : Int))) := mulI_l (by omega)
  have SM : ((rgI 0 6).map (coneP o p)).sum = totP o p := rfl
  refine ⟨h4, o4, ?_⟩
  have L : stTot [none, none, some (.int i), some (.int p), some (.list (mL eT (rowsP o p))), none, some (.tuple (mL PyData.int ((rgI 0 6).map (coneP o p)))), some (.int (colN o : Int)), some (.int 0), none, none, none, none, some (.tuple (mL PyData.int o)), none, none, none] h2 =
      .nx [none, none, some (.int i), some (.int p), some (.list (mL eT (rowsP o p))), none, some (.tuple (mL PyData.int ((rgI 0 6).map (coneP o p)))), some (.int (colN o : Int)), some (.int ((prsP o p).map unl).sum), none, none, none, none, some (.tuple (mL PyData.int o)), none, none, none] h2 := by
    have L := (loop_foldG (f := fun q : List Int × List Int => PyData.tuple [.tuple (mL PyData.int q.1), .tuple (mL PyData.int q.2)]) (g := gT (gsC (gN 5) (gsC (gN 9) gsN))) (body := dropM [5, 9] (asgS 8 (binM addD (varM 8) (unM lenD (lstM (compM [15, 16] (zipM (varM 5) (varM 9)) (gT (gsC (gN 15) (gsC (gN 16) gsN))) (boolM (binM neD (varM 15) (varM 16))) (conM (.int 1)))))))) (h := h2) (S := fun t : Int => [none, none, some (.int i), some (.int p), some (.list (mL eT (rowsP o p))), none, some (.tuple (mL PyData.int ((rgI 0 6).map (coneP o p)))), some (.int (colN o : Int)), some (.int t), none, none, none, none, some (.tuple (mL PyData.int o)), none, none, none]) (step := fun t q => t + unl q) (P := fun _ _ => True) (prsP o p) 0 0 trivial fun k t q _ _ => ⟨trivial, _, rfl, by
      simp -implicitDefEqProofs (disch := first | omega | (simp only [mL_len, List.length_map, rg_len, List.length_append, List.length_reverse, List.length_cons, List.length_nil, List.length_set] <;> omega) | (simp only [rg_mem] at * <;> omega)) only [bind_ok, bindS_ok, bindN_ok, opt_some, thS_nx, thS_rt, thS_ex, seqS_e, skipS_e, retS_e, asgS_e, ifS_e, conM_e, varM_e, slot_0, slot_s, binM_e, unM_e, unL_e, boolM_e, asB_e, truM_e, truD_b, andB_e, orB_e, notB_e, ifM_e, andM_e, orM_e, notM_e, map_some_e, bind_some_e, isiM_e, chainM_e, exprS_e, parS_e, setE_c, setE_n, raiS_e, bind_ex, bindS_ex, wipeE_n, yesM_e, gN_e, items_l, items_t, tup_l, tup_t, nilM_e, consM_e, lstM_e, tupM_e, seqM_e, callP_e, callH_e, res_ok, res_ex, nex_ok, compM_e, forS_e, range1M_e, range2M_e, mulD_i, addD_i, subD_i, intD_i, ltD_i, leD_i, gtD_i, geD_i, eqD_i, neD_i, handM_e, handS_e, at0, at1, at2, at3, at4, ix5_1, ix5_2, ix5_3, ix5_4, outP_rt, outP_nx, outP_ex, outH_rt, List.set_cons_succ, List.set_cons_zero, Bool.false_eq_true, if_true, if_false, decide_true, decide_false, reduceIte, Bool.not_true, Bool.not_false, Bool.true_and, Bool.and_true, Bool.false_and, Bool.and_false, Bool.true_or, Bool.or_true, Bool.false_or, Bool.or_false, mL_len, Int.toNat_natCast, Int.cast_ofNat_Int, Nat.reduceAdd, Int.reduceToNat, Int.reduceEq, Int.reduceLT, Int.reduceLE, Int.reduceSub, Int.reduceAdd, Bool.bne_false, bne_self_eq_false, beq_self_eq_true,  Bool.bne_true, List.map_id', compL_m, wipeE_c, stepR_gN, stepR_g2, mapR_all, mL_int, mL_bool, mL_row, mL_rows, mapR_if, eT_e, eTT_e, mL_app, lenD_l, lenD_t, sumD_i, sumD_t, allD_b, anyD_b, cutG_m, cutD_l, cutD_t, rev_m, revD_l, revD_t, zip_m, zipD_l, zipD_t, enum_m, enumD_l, enumD_t, rg_len, ixD_l, ixD_t, atI_mod, range_0, eqD_l, eqD_t, neD_l, neD_t, neD_lnil, eqD_lnil, inD_il, inD_it, inD_rl, inD_rt, inD_cl, eqD_b, neD_b, if_and, if_or, if_andD, if_orD, all_id, any_id, partR_i, aPart_e, noPart_e, sliceM_e, addD_m, addD_ml, addD_cut, addD_cutl, range3_e, zipM_e, enumM_e, isi2M_e, isNM_e, max2_i, min2_i, negM_e, negR_i, wordM_r, wordR_ok, wordR_ex, appS_r, appR_l, extS_r, extR_l, mL_app1, mL_row1, frzS_e, isL_0, isL_s, dropM_r, dropR_nx, dropR_rt, dropR_ex, dropR_ct, dropR_bk, dropR_ite, thS_ite, outP_ite, outH_ite, lrot_e, gT2, addD_1, loop_foldI, fndR_s, fndR_n, dropR_fnd, mL_C, mL_Cs, mL_Ct, oN_s, oN_n, mtM_e, isLst_l, idxL_m, cntL_m, at_0, at_1, at_2, at_3, at_m1, at_m2, at_m3, isi_tt, isi_ts, isi_ti, isi_tl, isi_tn, isi_ss, isi_st, isi_si, isi_sl, isi_sn, isi_ll, isi_lt, mul_l1, mul_t1, notBD_b, isBD_b, absD_i, sortL_pr, sortOk_pr, sortD_pr, unpS_r, unpR_s, gT3, mtA_e, isSq_l, isSq_t, cntA_ti, cntA_li, cntA_tr, cntA_lr, nxO_s, set2S_r, set2R_2, set2K_e, set2X_s, setO_e, setD_l, mL_seti, setS_r, dropM_r, range_m, Int.sub_zero, parS_e, asgL_e, List.length_cons, List.length_nil, Nat.reduceAdd, Nat.reduceLT, List.all_cons, List.all_nil]
      rw [mapR_okIf (c := fun z : Int × Int => !decide (z.1 = z.2)) (G := fun _ => PyData.int 1)]
      · simp -implicitDefEqProofs (disch := first | omega | (simp only [mL_len, List.length_map, rg_len, List.length_append, List.length_reverse, List.length_cons, List.length_nil, List.length_set] <;> omega) | (simp only [rg_mem] at * <;> omega)) only [bind_ok, bindS_ok, bindN_ok, opt_some, thS_nx, thS_rt, thS_ex, seqS_e, skipS_e, retS_e, asgS_e, ifS_e, conM_e, varM_e, slot_0, slot_s, binM_e, unM_e, unL_e, boolM_e, asB_e, truM_e, truD_b, andB_e, orB_e, notB_e, ifM_e, andM_e, orM_e, notM_e, map_some_e, bind_some_e, isiM_e, chainM_e, exprS_e, parS_e, setE_c, setE_n, raiS_e, bind_ex, bindS_ex, wipeE_n, yesM_e, gN_e, items_l, items_t, tup_l, tup_t, nilM_e, consM_e, lstM_e, tupM_e, seqM_e, callP_e, callH_e, res_ok, res_ex, nex_ok, compM_e, forS_e, range1M_e, range2M_e, mulD_i, addD_i, subD_i, intD_i, ltD_i, leD_i, gtD_i, geD_i, eqD_i, neD_i, handM_e, handS_e, at0, at1, at2, at3, at4, ix5_1, ix5_2, ix5_3, ix5_4, outP_rt, outP_nx, outP_ex, outH_rt, List.set_cons_succ, List.set_cons_zero, Bool.false_eq_true, if_true, if_false, decide_true, decide_false, reduceIte, Bool.not_true, Bool.not_false, Bool.true_and, Bool.and_true, Bool.false_and, Bool.and_false, Bool.true_or, Bool.or_true, Bool.false_or, Bool.or_false, mL_len, Int.toNat_natCast, Int.cast_ofNat_Int, Nat.reduceAdd, Int.reduceToNat, Int.reduceEq, Int.reduceLT, Int.reduceLE, Int.reduceSub, Int.reduceAdd, Bool.bne_false, bne_self_eq_false, beq_self_eq_true,  Bool.bne_true, List.map_id', compL_m, wipeE_c, stepR_gN, stepR_g2, mapR_all, mL_int, mL_bool, mL_row, mL_rows, mapR_if, eT_e, eTT_e, mL_app, lenD_l, lenD_t, sumD_i, sumD_t, allD_b, anyD_b, cutG_m, cutD_l, cutD_t, rev_m, revD_l, revD_t, zip_m, zipD_l, zipD_t, enum_m, enumD_l, enumD_t, rg_len, ixD_l, ixD_t, atI_mod, range_0, eqD_l, eqD_t, neD_l, neD_t, neD_lnil, eqD_lnil, inD_il, inD_it, inD_rl, inD_rt, inD_cl, eqD_b, neD_b, if_and, if_or, if_andD, if_orD, all_id, any_id, partR_i, aPart_e, noPart_e, sliceM_e, addD_m, addD_ml, addD_cut, addD_cutl, range3_e, zipM_e, enumM_e, isi2M_e, isNM_e, max2_i, min2_i, negM_e, negR_i, wordM_r, wordR_ok, wordR_ex, appS_r, appR_l, extS_r, extR_l, mL_app1, mL_row1, frzS_e, isL_0, isL_s, dropM_r, dropR_nx, dropR_rt, dropR_ex, dropR_ct, dropR_bk, dropR_ite, thS_ite, outP_ite, outH_ite, lrot_e, gT2, addD_1, loop_foldI, fndR_s, fndR_n, dropR_fnd, mL_C, mL_Cs, mL_Ct, oN_s, oN_n, mtM_e, isLst_l, idxL_m, cntL_m, at_0, at_1, at_2, at_3, at_m1, at_m2, at_m3, isi_tt, isi_ts, isi_ti, isi_tl, isi_tn, isi_ss, isi_st, isi_si, isi_sl, isi_sn, isi_ll, isi_lt, mul_l1, mul_t1, notBD_b, isBD_b, absD_i, sortL_pr, sortOk_pr, sortD_pr, unpS_r, unpR_s, gT3, mtA_e, isSq_l, isSq_t, cntA_ti, cntA_li, cntA_tr, cntA_lr, nxO_s, set2S_r, set2R_2, set2K_e, set2X_s, setO_e, setD_l, mL_seti, setS_r, dropM_r, range_m, Int.sub_zero, parS_e, asgL_e, List.length_cons, List.length_nil, Nat.reduceAdd, Nat.reduceLT, List.all_cons, List.all_nil]
        rw [List.length_map]
        rfl
      · intro z hz g
        simp -implicitDefEqProofs (disch := first | omega | (simp only [mL_len, List.length_map, rg_len, List.length_append, List.length_reverse, List.length_cons, List.length_nil, List.length_set] <;> omega) | (simp only [rg_mem] at * <;> omega)) only [bind_ok, bindS_ok, bindN_ok, opt_some, thS_nx, thS_rt, thS_ex, seqS_e, skipS_e, retS_e, asgS_e, ifS_e, conM_e, varM_e, slot_0, slot_s, binM_e, unM_e, unL_e, boolM_e, asB_e, truM_e, truD_b, andB_e, orB_e, notB_e, ifM_e, andM_e, orM_e, notM_e, map_some_e, bind_some_e, isiM_e, chainM_e, exprS_e, parS_e, setE_c, setE_n, raiS_e, bind_ex, bindS_ex, wipeE_n, yesM_e, gN_e, items_l, items_t, tup_l, tup_t, nilM_e, consM_e, lstM_e, tupM_e, seqM_e, callP_e, callH_e, res_ok, res_ex, nex_ok, compM_e, forS_e, range1M_e, range2M_e, mulD_i, addD_i, subD_i, intD_i, ltD_i, leD_i, gtD_i, geD_i, eqD_i, neD_i, handM_e, handS_e, at0, at1, at2, at3, at4, ix5_1, ix5_2, ix5_3, ix5_4, outP_rt, outP_nx, outP_ex, outH_rt, List.set_cons_succ, List.set_cons_zero, Bool.false_eq_true, if_true, if_false, decide_true, decide_false, reduceIte, Bool.not_true, Bool.not_false, Bool.true_and, Bool.and_true, Bool.false_and, Bool.and_false, Bool.true_or, Bool.or_true, Bool.false_or, Bool.or_false, mL_len, Int.toNat_natCast, Int.cast_ofNat_Int, Nat.reduceAdd, Int.reduceToNat, Int.reduceEq, Int.reduceLT, Int.reduceLE, Int.reduceSub, Int.reduceAdd, Bool.bne_false, bne_self_eq_false, beq_self_eq_true,  Bool.bne_true, List.map_id', compL_m, wipeE_c, stepR_gN, stepR_g2, mapR_all, mL_int, mL_bool, mL_row, mL_rows, mapR_if, eT_e, eTT_e, mL_app, lenD_l, lenD_t, sumD_i, sumD_t, allD_b, anyD_b, cutG_m, cutD_l, cutD_t, rev_m, revD_l, revD_t, zip_m, zipD_l, zipD_t, enum_m, enumD_l, enumD_t, rg_len, ixD_l, ixD_t, atI_mod, range_0, eqD_l, eqD_t, neD_l, neD_t, neD_lnil, eqD_lnil, inD_il, inD_it, inD_rl, inD_rt, inD_cl, eqD_b, neD_b, if_and, if_or, if_andD, if_orD, all_id, any_id, partR_i, aPart_e, noPart_e, sliceM_e, addD_m, addD_ml, addD_cut, addD_cutl, range3_e, zipM_e, enumM_e, isi2M_e, isNM_e, max2_i, min2_i, negM_e, negR_i, wordM_r, wordR_ok, wordR_ex, appS_r, appR_l, extS_r, extR_l, mL_app1, mL_row1, frzS_e, isL_0, isL_s, dropM_r, dropR_nx, dropR_rt, dropR_ex, dropR_ct, dropR_bk, dropR_ite, thS_ite, outP_ite, outH_ite, lrot_e, gT2, addD_1, loop_foldI, fndR_s, fndR_n, dropR_fnd, mL_C, mL_Cs, mL_Ct, oN_s, oN_n, mtM_e, isLst_l, idxL_m, cntL_m, at_0, at_1, at_2, at_3, at_m1, at_m2, at_m3, isi_tt, isi_ts, isi_ti, isi_tl, isi_tn, isi_ss, isi_st, isi_si, isi_sl, isi_sn, isi_ll, isi_lt, mul_l1, mul_t1, notBD_b, isBD_b, absD_i, sortL_pr, sortOk_pr, sortD_pr, unpS_r, unpR_s, gT3, mtA_e, isSq_l, isSq_t, cntA_ti, cntA_li, cntA_tr, cntA_lr, nxO_s, set2S_r, set2R_2, set2K_e, set2X_s, setO_e, setD_l, mL_seti, setS_r, dropM_r, range_m, Int.sub_zero, parS_e, asgL_e, List.length_cons, List.length_nil, Nat.reduceAdd, Nat.reduceLT, List.all_cons, List.all_nil, eC_e]⟩).1
    rw [sum_fold, Int.zero_add] at L
    unfold prsP at L ⊢
    simp -implicitDefEqProofs (disch := first | omega | (simp only [mL_len, List.length_map, rg_len, List.length_append, List.length_reverse, List.length_cons, List.length_nil, List.length_set] <;> omega) | (simp only [rg_mem] at * <;> omega)) only [bind_ok, bindS_ok, bindN_ok, opt_some, thS_nx, thS_rt, thS_ex, seqS_e, skipS_e, retS_e, asgS_e, ifS_e, conM_e, varM_e, slot_0, slot_s, binM_e, unM_e, unL_e, boolM_e, asB_e, truM_e, truD_b, andB_e, orB_e, notB_e, ifM_e, andM_e, orM_e, notM_e, map_some_e, bind_some_e, isiM_e, chainM_e, exprS_e, parS_e, setE_c, setE_n, raiS_e, bind_ex, bindS_ex, wipeE_n, yesM_e, gN_e, items_l, items_t, tup_l, tup_t, nilM_e, consM_e, lstM_e, tupM_e, seqM_e, callP_e, callH_e, res_ok, res_ex, nex_ok, compM_e, forS_e, range1M_e, range2M_e, mulD_i, addD_i, subD_i, intD_i, ltD_i, leD_i, gtD_i, geD_i, eqD_i, neD_i, handM_e, handS_e, at0, at1, at2, at3, at4, ix5_1, ix5_2, ix5_3, ix5_4, outP_rt, outP_nx, outP_ex, outH_rt, List.set_cons_succ, List.set_cons_zero, Bool.false_eq_true, if_true, if_false, decide_true, decide_false, reduceIte, Bool.not_true, Bool.not_false, Bool.true_and, Bool.and_true, Bool.false_and, Bool.and_false, Bool.true_or, Bool.or_true, Bool.false_or, Bool.or_false, mL_len, Int.toNat_natCast, Int.cast_ofNat_Int, Nat.reduceAdd, Int.reduceToNat, Int.reduceEq, Int.reduceLT, Int.reduceLE, Int.reduceSub, Int.reduceAdd, Bool.bne_false, bne_self_eq_false, beq_self_eq_true,  Bool.bne_true, List.map_id', compL_m, wipeE_c, stepR_gN, stepR_g2, mapR_all, mL_int, mL_bool, mL_row, mL_rows, mapR_if, eT_e, eTT_e, mL_app, lenD_l, lenD_t, sumD_i, sumD_t, allD_b, anyD_b, cutG_m, cutD_l, cutD_t, rev_m, revD_l, revD_t, zip_m, zipD_l, zipD_t, enum_m, enumD_l, enumD_t, rg_len, ixD_l, ixD_t, atI_mod, range_0, eqD_l, eqD_t, neD_l, neD_t, neD_lnil, eqD_lnil, inD_il, inD_it, inD_rl, inD_rt, inD_cl, eqD_b, neD_b, if_and, if_or, if_andD, if_orD, all_id, any_id, partR_i, aPart_e, noPart_e, sliceM_e, addD_m, addD_ml, addD_cut, addD_cutl, range3_e, zipM_e, enumM_e, isi2M_e, isNM_e, max2_i, min2_i, negM_e, negR_i, wordM_r, wordR_ok, wordR_ex, appS_r, appR_l, extS_r, extR_l, mL_app1, mL_row1, frzS_e, isL_0, isL_s, dropM_r, dropR_nx, dropR_rt, dropR_ex, dropR_ct, dropR_bk, dropR_ite, thS_ite, outP_ite, outH_ite, lrot_e, gT2, addD_1, loop_foldI, fndR_s, fndR_n, dropR_fnd, mL_C, mL_Cs, mL_Ct, oN_s, oN_n, mtM_e, isLst_l, idxL_m, cntL_m, at_0, at_1, at_2, at_3, at_m1, at_m2, at_m3, isi_tt, isi_ts, isi_ti, isi_tl, isi_tn, isi_ss, isi_st, isi_si, isi_sl, isi_sn, isi_ll, isi_lt, mul_l1, mul_t1, notBD_b, isBD_b, absD_i, sortL_pr, sortOk_pr, sortD_pr, unpS_r, unpR_s, gT3, mtA_e, isSq_l, isSq_t, cntA_ti, cntA_li, cntA_tr, cntA_lr, nxO_s, set2S_r, set2R_2, set2K_e, set2X_s, setO_e, setD_l, mL_seti, setS_r, dropM_r, range_m, Int.sub_zero, parS_e, asgL_e, List.length_cons, List.length_nil, Nat.reduceAdd, Nat.reduceLT, List.all_cons, List.all_nil, stTot, L]
  show (dropM [2, 3, 4, 5, 6, 7, 8, 9, 10, 11, 12, 13] (seqS (parS [13, 3] (consM (callH F__law_order (consM (conM (.int 24)) nilM)) (consM (binM addD (conM (.int 1)) (callH F__law_draw (consM (conM (.int 8)) nilM))) nilM))) (seqS (asgS 4 (callP F__law_passes (consM (varM 13) (consM (varM 3) nilM)))) (seqS (asgS 6 (unM tupOf (lstM (compM [14] (range1M (conM (.int 6))) (gN 14) yesM (unM maxQ (lstM (compM [5] (seqM (varM 4)) (gN 5) yesM (mtM isSq cntA (varM 5) (varM 14))))))))) (seqS (ifS (orB (boolM (binM neD (callP F_passes (consM (varM 13) (consM (varM 3) nilM))) (unM tupOf (varM 4)))) (orB (boolM (binM neD (callP F_cones_at (consM (varM 13) (consM (varM 3) nilM))) (varM 6))) (boolM (binM neD (callP F_cone_count (consM (varM 13) (consM (varM 3) nilM))) (unM sumD (varM 6)))))) (retS (conM (.bool false))) skipS) (restT)))))) _ _ = _
  have P1 := passes_ok ho p1 p8
  have P2 := conesat_ok ho p1 p8
  have P3 := conec_ok ho p1 p8
  have P4 := changes_ok ho p1 p8
  have GF : rest8 [none, none, some (.int i), some (.int p), some (.list (mL eT (rowsP o p))), none, some (.tuple (mL PyData.int ((rgI 0 6).map (coneP o p)))), some (.int (colN o : Int)), some (.int ((prsP o p).map unl).sum), none, none, none, none, some (.tuple (mL PyData.int o)), none, none, none] h2 = .nx [none, none, some (.int i), some (.int p), some (.list (mL eT (rowsP o p))), none, some (.tuple (mL PyData.int ((rgI 0 6).map (coneP o p)))), some (.int (colN o : Int)), some (.int ((prsP o p).map unl).sum), none, some (.list [.str "order", .str "count", .str "count", .str "order", .str "order", .str "count"]), some d1, some d2, some (.tuple (mL PyData.int o)), none, none, none] h4 := by
    simp -implicitDefEqProofs (disch := first | omega | (simp only [mL_len, List.length_map, rg_len, List.length_append, List.length_reverse, List.length_cons, List.length_nil, List.length_set] <;> omega) | (simp only [rg_mem] at * <;> omega)) only [bind_ok, bindS_ok, bindN_ok, opt_some, thS_nx, thS_rt, thS_ex, seqS_e, skipS_e, retS_e, asgS_e, ifS_e, conM_e, varM_e, slot_0, slot_s, binM_e, unM_e, unL_e, boolM_e, asB_e, truM_e, truD_b, andB_e, orB_e, notB_e, ifM_e, andM_e, orM_e, notM_e, map_some_e, bind_some_e, isiM_e, chainM_e, exprS_e, parS_e, setE_c, setE_n, raiS_e, bind_ex, bindS_ex, wipeE_n, yesM_e, gN_e, items_l, items_t, tup_l, tup_t, nilM_e, consM_e, lstM_e, tupM_e, seqM_e, callP_e, callH_e, res_ok, res_ex, nex_ok, compM_e, forS_e, range1M_e, range2M_e, mulD_i, addD_i, subD_i, intD_i, ltD_i, leD_i, gtD_i, geD_i, eqD_i, neD_i, handM_e, handS_e, at0, at1, at2, at3, at4, ix5_1, ix5_2, ix5_3, ix5_4, outP_rt, outP_nx, outP_ex, outH_rt, List.set_cons_succ, List.set_cons_zero, Bool.false_eq_true, if_true, if_false, decide_true, decide_false, reduceIte, Bool.not_true, Bool.not_false, Bool.true_and, Bool.and_true, Bool.false_and, Bool.and_false, Bool.true_or, Bool.or_true, Bool.false_or, Bool.or_false, mL_len, Int.toNat_natCast, Int.cast_ofNat_Int, Nat.reduceAdd, Int.reduceToNat, Int.reduceEq, Int.reduceLT, Int.reduceLE, Int.reduceSub, Int.reduceAdd, Bool.bne_false, bne_self_eq_false, beq_self_eq_true,  Bool.bne_true, List.map_id', compL_m, wipeE_c, stepR_gN, stepR_g2, mapR_all, mL_int, mL_bool, mL_row, mL_rows, mapR_if, eT_e, eTT_e, mL_app, lenD_l, lenD_t, sumD_i, sumD_t, allD_b, anyD_b, cutG_m, cutD_l, cutD_t, rev_m, revD_l, revD_t, zip_m, zipD_l, zipD_t, enum_m, enumD_l, enumD_t, rg_len, ixD_l, ixD_t, atI_mod, range_0, eqD_l, eqD_t, neD_l, neD_t, neD_lnil, eqD_lnil, inD_il, inD_it, inD_rl, inD_rt, inD_cl, eqD_b, neD_b, if_and, if_or, if_andD, if_orD, all_id, any_id, partR_i, aPart_e, noPart_e, sliceM_e, addD_m, addD_ml, addD_cut, addD_cutl, range3_e, zipM_e, enumM_e, isi2M_e, isNM_e, max2_i, min2_i, negM_e, negR_i, wordM_r, wordR_ok, wordR_ex, appS_r, appR_l, extS_r, extR_l, mL_app1, mL_row1, frzS_e, isL_0, isL_s, dropM_r, dropR_nx, dropR_rt, dropR_ex, dropR_ct, dropR_bk, dropR_ite, thS_ite, outP_ite, outH_ite, lrot_e, gT2, addD_1, loop_foldI, fndR_s, fndR_n, dropR_fnd, mL_C, mL_Cs, mL_Ct, oN_s, oN_n, mtM_e, isLst_l, idxL_m, cntL_m, at_0, at_1, at_2, at_3, at_m1, at_m2, at_m3, isi_tt, isi_ts, isi_ti, isi_tl, isi_tn, isi_ss, isi_st, isi_si, isi_sl, isi_sn, isi_ll, isi_lt, mul_l1, mul_t1, notBD_b, isBD_b, absD_i, sortL_pr, sortOk_pr, sortD_pr, unpS_r, unpR_s, gT3, mtA_e, isSq_l, isSq_t, cntA_ti, cntA_li, cntA_tr, cntA_lr, nxO_s, set2S_r, set2R_2, set2K_e, set2X_s, setO_e, setD_l, mL_seti, setS_r, dropM_r, range_m, Int.sub_zero, parS_e, asgL_e, List.length_cons, List.length_nil, Nat.reduceAdd, Nat.reduceLT, List.all_cons, List.all_nil, rest8, P4, e3, e4, pass_bad (on_bad1 (x := d2) q3), pass_bad (on_bad2 ho q4), cones_bad (on_bad2 ho q4), conec_bad (on_bad1 (x := d2) q3), ch_bad (on_bad1 (x := d2) q3), ch_bad (on_bad2 ho q4), wOr, wCo, List.cons_append, List.nil_append, kW]
  have CN : ((rgI 0 6).filter fun c => decide (c ∈ o)).length = colN o := rfl
  have GT : restT [none, none, some (.int i), some (.int p), some (.list (mL eT (rowsP o p))), none, some (.tuple (mL PyData.int ((rgI 0 6).map (coneP o p)))), none, none, none, none, none, none, some (.tuple (mL PyData.int o)), none, none, none] h2 = .nx [none, none, some (.int i), some (.int p), some (.list (mL eT (rowsP o p))), none, some (.tuple (mL PyData.int ((rgI 0 6).map (coneP o p)))), some (.int (colN o : Int)), some (.int ((prsP o p).map unl).sum), none, some (.list [.str "order", .str "count", .str "count", .str "order", .str "order", .str "count"]), some d1, some d2, some (.tuple (mL PyData.int o)), none, none, none] h4 := by
    have G2 : restT2 [none, none, some (.int i), some (.int p), some (.list (mL eT (rowsP o p))), none, some (.tuple (mL PyData.int ((rgI 0 6).map (coneP o p)))), some (.int (colN o : Int)), some (.int 0), none, none, none, none, some (.tuple (mL PyData.int o)), none, none, none] h2 = .nx [none, none, some (.int i), some (.int p), some (.list (mL eT (rowsP o p))), none, some (.tuple (mL PyData.int ((rgI 0 6).map (coneP o p)))), some (.int (colN o : Int)), some (.int ((prsP o p).map unl).sum), none, some (.list [.str "order", .str "count", .str "count", .str "order", .str "order", .str "count"]), some d1, some d2, some (.tuple (mL PyData.int o)), none, none, none] h4 := by
      unfold restT2
      rw [seqS_e, L, thS_nx]
      exact GF
    simp -implicitDefEqProofs (disch := first | omega | (simp only [mL_len, List.length_map, rg_len, List.length_append, List.length_reverse, List.length_cons, List.length_nil, List.length_set] <;> omega) | (simp only [rg_mem] at * <;> omega)) only [bind_ok, bindS_ok, bindN_ok, opt_some, thS_nx, thS_rt, thS_ex, seqS_e, skipS_e, retS_e, asgS_e, ifS_e, conM_e, varM_e, slot_0, slot_s, binM_e, unM_e, unL_e, boolM_e, asB_e, truM_e, truD_b, andB_e, orB_e, notB_e, ifM_e, andM_e, orM_e, notM_e, map_some_e, bind_some_e, isiM_e, chainM_e, exprS_e, parS_e, setE_c, setE_n, raiS_e, bind_ex, bindS_ex, wipeE_n, yesM_e, gN_e, items_l, items_t, tup_l, tup_t, nilM_e, consM_e, lstM_e, tupM_e, seqM_e, callP_e, callH_e, res_ok, res_ex, nex_ok, compM_e, forS_e, range1M_e, range2M_e, mulD_i, addD_i, subD_i, intD_i, ltD_i, leD_i, gtD_i, geD_i, eqD_i, neD_i, handM_e, handS_e, at0, at1, at2, at3, at4, ix5_1, ix5_2, ix5_3, ix5_4, outP_rt, outP_nx, outP_ex, outH_rt, List.set_cons_succ, List.set_cons_zero, Bool.false_eq_true, if_true, if_false, decide_true, decide_false, reduceIte, Bool.not_true, Bool.not_false, Bool.true_and, Bool.and_true, Bool.false_and, Bool.and_false, Bool.true_or, Bool.or_true, Bool.false_or, Bool.or_false, mL_len, Int.toNat_natCast, Int.cast_ofNat_Int, Nat.reduceAdd, Int.reduceToNat, Int.reduceEq, Int.reduceLT, Int.reduceLE, Int.reduceSub, Int.reduceAdd, Bool.bne_false, bne_self_eq_false, beq_self_eq_true,  Bool.bne_true, List.map_id', compL_m, wipeE_c, stepR_gN, stepR_g2, mapR_all, mL_int, mL_bool, mL_row, mL_rows, mapR_if, eT_e, eTT_e, mL_app, lenD_l, lenD_t, sumD_i, sumD_t, allD_b, anyD_b, cutG_m, cutD_l, cutD_t, rev_m, revD_l, revD_t, zip_m, zipD_l, zipD_t, enum_m, enumD_l, enumD_t, rg_len, ixD_l, ixD_t, atI_mod, range_0, eqD_l, eqD_t, neD_l, neD_t, neD_lnil, eqD_lnil, inD_il, inD_it, inD_rl, inD_rt, inD_cl, eqD_b, neD_b, if_and, if_or, if_andD, if_orD, all_id, any_id, partR_i, aPart_e, noPart_e, sliceM_e, addD_m, addD_ml, addD_cut, addD_cutl, range3_e, zipM_e, enumM_e, isi2M_e, isNM_e, max2_i, min2_i, negM_e, negR_i, wordM_r, wordR_ok, wordR_ex, appS_r, appR_l, extS_r, extR_l, mL_app1, mL_row1, frzS_e, isL_0, isL_s, dropM_r, dropR_nx, dropR_rt, dropR_ex, dropR_ct, dropR_bk, dropR_ite, thS_ite, outP_ite, outH_ite, lrot_e, gT2, addD_1, loop_foldI, fndR_s, fndR_n, dropR_fnd, mL_C, mL_Cs, mL_Ct, oN_s, oN_n, mtM_e, isLst_l, idxL_m, cntL_m, at_0, at_1, at_2, at_3, at_m1, at_m2, at_m3, isi_tt, isi_ts, isi_ti, isi_tl, isi_tn, isi_ss, isi_st, isi_si, isi_sl, isi_sn, isi_ll, isi_lt, mul_l1, mul_t1, notBD_b, isBD_b, absD_i, sortL_pr, sortOk_pr, sortD_pr, unpS_r, unpR_s, gT3, mtA_e, isSq_l, isSq_t, cntA_ti, cntA_li, cntA_tr, cntA_lr, nxO_s, set2S_r, set2R_2, set2K_e, set2X_s, setO_e, setD_l, mL_seti, setS_r, dropM_r, range_m, Int.sub_zero, parS_e, asgL_e, List.length_cons, List.length_nil, Nat.reduceAdd, Nat.reduceLT, List.all_cons, List.all_nil, restT, CN, P3, MU, decide_eq_true t1, decide_eq_true t2, G2]
  simp -implicitDefEqProofs (disch := first | omega | (simp only [mL_len, List.length_map, rg_len, List.length_append, List.length_reverse, List.length_cons, List.length_nil, List.length_set] <;> omega) | (simp only [rg_mem] at * <;> omega)) only [bind_ok, bindS_ok, bindN_ok, opt_some, thS_nx, thS_rt, thS_ex, seqS_e, skipS_e, retS_e, asgS_e, ifS_e, conM_e, varM_e, slot_0, slot_s, binM_e, unM_e, unL_e, boolM_e, asB_e, truM_e, truD_b, andB_e, orB_e, notB_e, ifM_e, andM_e, orM_e, notM_e, map_some_e, bind_some_e, isiM_e, chainM_e, exprS_e, parS_e, setE_c, setE_n, raiS_e, bind_ex, bindS_ex, wipeE_n, yesM_e, gN_e, items_l, items_t, tup_l, tup_t, nilM_e, consM_e, lstM_e, tupM_e, seqM_e, callP_e, callH_e, res_ok, res_ex, nex_ok, compM_e, forS_e, range1M_e, range2M_e, mulD_i, addD_i, subD_i, intD_i, ltD_i, leD_i, gtD_i, geD_i, eqD_i, neD_i, handM_e, handS_e, at0, at1, at2, at3, at4, ix5_1, ix5_2, ix5_3, ix5_4, outP_rt, outP_nx, outP_ex, outH_rt, List.set_cons_succ, List.set_cons_zero, Bool.false_eq_true, if_true, if_false, decide_true, decide_false, reduceIte, Bool.not_true, Bool.not_false, Bool.true_and, Bool.and_true, Bool.false_and, Bool.and_false, Bool.true_or, Bool.or_true, Bool.false_or, Bool.or_false, mL_len, Int.toNat_natCast, Int.cast_ofNat_Int, Nat.reduceAdd, Int.reduceToNat, Int.reduceEq, Int.reduceLT, Int.reduceLE, Int.reduceSub, Int.reduceAdd, Bool.bne_false, bne_self_eq_false, beq_self_eq_true,  Bool.bne_true, List.map_id', compL_m, wipeE_c, stepR_gN, stepR_g2, mapR_all, mL_int, mL_bool, mL_row, mL_rows, mapR_if, eT_e, eTT_e, mL_app, lenD_l, lenD_t, sumD_i, sumD_t, allD_b, anyD_b, cutG_m, cutD_l, cutD_t, rev_m, revD_l, revD_t, zip_m, zipD_l, zipD_t, enum_m, enumD_l, enumD_t, rg_len, ixD_l, ixD_t, atI_mod, range_0, eqD_l, eqD_t, neD_l, neD_t, neD_lnil, eqD_lnil, inD_il, inD_it, inD_rl, inD_rt, inD_cl, eqD_b, neD_b, if_and, if_or, if_andD, if_orD, all_id, any_id, partR_i, aPart_e, noPart_e, sliceM_e, addD_m, addD_ml, addD_cut, addD_cutl, range3_e, zipM_e, enumM_e, isi2M_e, isNM_e, max2_i, min2_i, negM_e, negR_i, wordM_r, wordR_ok, wordR_ex, appS_r, appR_l, extS_r, extR_l, mL_app1, mL_row1, frzS_e, isL_0, isL_s, dropM_r, dropR_nx, dropR_rt, dropR_ex, dropR_ct, dropR_bk, dropR_ite, thS_ite, outP_ite, outH_ite, lrot_e, gT2, addD_1, loop_foldI, fndR_s, fndR_n, dropR_fnd, mL_C, mL_Cs, mL_Ct, oN_s, oN_n, mtM_e, isLst_l, idxL_m, cntL_m, at_0, at_1, at_2, at_3, at_m1, at_m2, at_m3, isi_tt, isi_ts, isi_ti, isi_tl, isi_tn, isi_ss, isi_st, isi_si, isi_sl, isi_sn, isi_ll, isi_lt, mul_l1, mul_t1, notBD_b, isBD_b, absD_i, sortL_pr, sortOk_pr, sortD_pr, unpS_r, unpR_s, gT3, mtA_e, isSq_l, isSq_t, cntA_ti, cntA_li, cntA_tr, cntA_lr, nxO_s, set2S_r, set2R_2, set2K_e, set2X_s, setO_e, setD_l, mL_seti, setS_r, dropM_r, range_m, Int.sub_zero, parS_e, asgL_e, List.length_cons, List.length_nil, Nat.reduceAdd, Nat.reduceLT, List.all_cons, List.all_nil, e1, e2, hp, lawp_ok ho p1 p8, cones_in ho p1, P1, P2, P3, SM, GT]
  rfl
end Lw


set_option maxRecDepth 100000
set_option maxHeartbeats 4000000
namespace Lw
open Sm PySem PySem.Spec L2
def handF (ns : List Int) : List D := [.list ((ns.take 63).map fun n => .int (n.natAbs : Nat)), .int 0, .int 0, .int (61 + 7 * ((ns.take 63).length : Nat)), .int 0]
theorem hand_ok : ∀ ns : List Int, ns.length ≤ 63 → ∃ e', g_hand ns (List.replicate 3 none) [] = .nx e' [] ∧ l_hand e' [] = .ok (handF ns) [] := by
  intro ns hn
  refine ⟨[none, some (.list ((ns.take 63).map fun n => .int (n.natAbs : Nat))), none], ?_, ?_⟩
  · have K : compL (gN 2) yesM (unM absD (unM intD (varM 2))) ((ns.take 63).map PyData.int) [none, none, none] [] = .ok ((ns.take 63).map fun n => PyData.int (n.natAbs : Nat)) [] := by
      refine (compL_of (p := fun _ => true) (q := fun n : Int => PyData.int (n.natAbs : Nat)) (ns.take 63) fun x hx => ⟨_, rfl, ?_, ?_⟩).trans (by rw [filter_all])
      · simp -implicitDefEqProofs only [bind_ok, bindS_ok, bindN_ok, opt_some, thS_nx, thS_rt, thS_ex, seqS_e, skipS_e, retS_e, asgS_e, ifS_e, conM_e, varM_e, slot_0, slot_s, binM_e, unM_e, unL_e, boolM_e, asB_e, truM_e, truD_b, andB_e, orB_e, notB_e, ifM_e, andM_e, orM_e, notM_e, map_some_e, bind_some_e, isiM_e, chainM_e, exprS_e, parS_e, setE_c, setE_n, raiS_e, bind_ex, bindS_ex, wipeE_n, yesM_e, gN_e, items_l, items_t, tup_l, tup_t, nilM_e, consM_e, lstM_e, tupM_e, seqM_e, callP_e, callH_e, res_ok, res_ex, nex_ok, compM_e, forS_e, dropM_e, range1M_e, range2M_e, mulD_i, addD_i, subD_i, intD_i, ltD_i, leD_i, gtD_i, geD_i, eqD_i, neD_i, handM_e, handS_e, at0, at1, at2, at3, at4, ix5_1, ix5_2, ix5_3, ix5_4, outP_rt, outP_nx, outP_ex, outH_rt, List.set_cons_succ, List.set_cons_zero, Bool.false_eq_true, if_true, if_false, decide_true, decide_false, reduceIte, Bool.not_true, Bool.not_false, Bool.true_and, Bool.and_true, Bool.false_and, Bool.and_false, Bool.true_or, Bool.or_true, Bool.false_or, Bool.or_false, mL_len, Int.toNat_natCast, Int.cast_ofNat_Int, Nat.reduceAdd, Int.reduceToNat, Int.reduceEq, Int.reduceLT, Int.reduceLE, Int.reduceSub, Int.reduceAdd, Bool.bne_false, bne_self_eq_false, beq_self_eq_true,  Bool.bne_true, List.map_id']
      · intro _
        have A : absD (.int x) = some (.int (x.natAbs : Nat)) := by
          show some (PyData.int (if x < 0 then -x else x)) = _
          congr 2
          split <;> omega
        simp -implicitDefEqProofs only [bind_ok, bindS_ok, bindN_ok, opt_some, thS_nx, thS_rt, thS_ex, seqS_e, skipS_e, retS_e, asgS_e, ifS_e, conM_e, varM_e, slot_0, slot_s, binM_e, unM_e, unL_e, boolM_e, asB_e, truM_e, truD_b, andB_e, orB_e, notB_e, ifM_e, andM_e, orM_e, notM_e, map_some_e, bind_some_e, isiM_e, chainM_e, exprS_e, parS_e, setE_c, setE_n, raiS_e, bind_ex, bindS_ex, wipeE_n, yesM_e, gN_e, items_l, items_t, tup_l, tup_t, nilM_e, consM_e, lstM_e, tupM_e, seqM_e, callP_e, callH_e, res_ok, res_ex, nex_ok, compM_e, forS_e, dropM_e, range1M_e, range2M_e, mulD_i, addD_i, subD_i, intD_i, ltD_i, leD_i, gtD_i, geD_i, eqD_i, neD_i, handM_e, handS_e, at0, at1, at2, at3, at4, ix5_1, ix5_2, ix5_3, ix5_4, outP_rt, outP_nx, outP_ex, outH_rt, List.set_cons_succ, List.set_cons_zero, Bool.false_eq_true, if_true, if_false, decide_true, decide_false, reduceIte, Bool.not_true, Bool.not_false, Bool.true_and, Bool.and_true, Bool.false_and, Bool.and_false, Bool.true_or, Bool.or_true, Bool.false_or, Bool.or_false, mL_len, Int.toNat_natCast, Int.cast_ofNat_Int, Nat.reduceAdd, Int.reduceToNat, Int.reduceEq, Int.reduceLT, Int.reduceLE, Int.reduceSub, Int.reduceAdd, Bool.bne_false, bne_self_eq_false, beq_self_eq_true,  Bool.bne_true, List.map_id', A]
    show asgS 1 (lstM (compM [2] (cutM ns 63) (gN 2) yesM (unM absD (unM intD (varM 2))))) [none, none, none] [] = _
    have C : cutM ns 63 [none, none, none] [] = .ok ((ns.take 63).map PyData.int) [] := rfl
    simp -implicitDefEqProofs only [bind_ok, bindS_ok, bindN_ok, opt_some, thS_nx, thS_rt, thS_ex, seqS_e, skipS_e, retS_e, asgS_e, ifS_e, conM_e, varM_e, slot_0, slot_s, binM_e, unM_e, unL_e, boolM_e, asB_e, truM_e, truD_b, andB_e, orB_e, notB_e, ifM_e, andM_e, orM_e, notM_e, map_some_e, bind_some_e, isiM_e, chainM_e, exprS_e, parS_e, setE_c, setE_n, raiS_e, bind_ex, bindS_ex, wipeE_n, yesM_e, gN_e, items_l, items_t, tup_l, tup_t, nilM_e, consM_e, lstM_e, tupM_e, seqM_e, callP_e, callH_e, res_ok, res_ex, nex_ok, compM_e, forS_e, dropM_e, range1M_e, range2M_e, mulD_i, addD_i, subD_i, intD_i, ltD_i, leD_i, gtD_i, geD_i, eqD_i, neD_i, handM_e, handS_e, at0, at1, at2, at3, at4, ix5_1, ix5_2, ix5_3, ix5_4, outP_rt, outP_nx, outP_ex, outH_rt, List.set_cons_succ, List.set_cons_zero, Bool.false_eq_true, if_true, if_false, decide_true, decide_false, reduceIte, Bool.not_true, Bool.not_false, Bool.true_and, Bool.and_true, Bool.false_and, Bool.and_false, Bool.true_or, Bool.or_true, Bool.false_or, Bool.or_false, mL_len, Int.toNat_natCast, Int.cast_ofNat_Int, Nat.reduceAdd, Int.reduceToNat, Int.reduceEq, Int.reduceLT, Int.reduceLE, Int.reduceSub, Int.reduceAdd, Bool.bne_false, bne_self_eq_false, beq_self_eq_true,  Bool.bne_true, List.map_id', C, show wipeE ([none, none, none] : En) [2] = [none, none, none] from rfl, K]
  · have L1 : lenD (.list ((ns.take 63).map fun n => PyData.int (n.natAbs : Nat))) = some (.int ((ns.take 63).length : Nat)) := by
      show some (PyData.int (((ns.take 63).map _).length : Nat)) = _
      rw [List.length_map]
    have M : mulI (.int 7) (.int ((ns.take 63).length : Nat)) = some (.int (7 * ((ns.take 63).length : Nat))) := mulI_l (by decide)
    simp only [l_hand, bind_ok, bindS_ok, bindN_ok, opt_some, thS_nx, thS_rt, thS_ex, seqS_e, skipS_e, retS_e, asgS_e, ifS_e, conM_e, varM_e, slot_0, slot_s, binM_e, unM_e, unL_e, boolM_e, asB_e, truM_e, truD_b, andB_e, orB_e, notB_e, ifM_e, andM_e, orM_e, notM_e, map_some_e, bind_some_e, isiM_e, chainM_e, exprS_e, parS_e, setE_c, setE_n, raiS_e, bind_ex, bindS_ex, wipeE_n, yesM_e, gN_e, items_l, items_t, tup_l, tup_t, nilM_e, consM_e, lstM_e, tupM_e, seqM_e, callP_e, callH_e, res_ok, res_ex, nex_ok, compM_e, forS_e, dropM_e, range1M_e, range2M_e, mulD_i, addD_i, subD_i, intD_i, ltD_i, leD_i, gtD_i, geD_i, eqD_i, neD_i, handM_e, handS_e, at0, at1, at2, at3, at4, ix5_1, ix5_2, ix5_3, ix5_4, outP_rt, outP_nx, outP_ex, outH_rt, List.set_cons_succ, List.set_cons_zero, Bool.false_eq_true, if_true, if_false, decide_true, decide_false, reduceIte, Bool.not_true, Bool.not_false, Bool.true_and, Bool.and_true, Bool.false_and, Bool.and_false, Bool.true_or, Bool.or_true, Bool.false_or, Bool.or_false, mL_len, Int.toNat_natCast, Int.cast_ofNat_Int, Nat.reduceAdd, Int.reduceToNat, Int.reduceEq, Int.reduceLT, Int.reduceLE, Int.reduceSub, Int.reduceAdd, Bool.bne_false, bne_self_eq_false, beq_self_eq_true,  Bool.bne_true, List.map_id', L1, M, handF]
theorem hand_start (ns : List Int) : HandOk (handF ns) := by
  refine ⟨(ns.take 63).map fun n => ((n.natAbs : Nat) : Int), 0, 0, 61 + 7 * ((ns.take 63).length : Nat), 0, ?_, ?_, Int.le_refl _, Int.le_refl _, ?_, Int.le_refl _⟩
  · unfold handF
    rw [List.map_map]; rfl
  · intro x hx
    obtain ⟨y, _, rfl⟩ := List.mem_map.mp hx
    omega
  · omega
theorem turns (b : FS) (hb : ∀ (i : Int) (h : List D), HandOk h → ∃ h', HandOk h' ∧ b [none, none, some (.int i), none, none, none, none, none, none, none, none, none, none, none, none, none, none] h = .nx (List.replicate 17 none) h') :
    ∀ (is : List Int) (h : List D), HandOk h → ∃ h', HandOk h' ∧ loopS (gN 2) b (is.map PyData.int) (List.replicate 17 none) h = .nx (List.replicate 17 none) h' := by
  intro is
  induction is with
  | nil => intro h hh; exact ⟨h, hh, rfl⟩
  | cons i is ih =>
    intro h hh
    obtain ⟨h1, k1, e1⟩ := hb i h hh
    obtain ⟨h2, k2, e2⟩ := ih h1 k1
    refine ⟨h2, k2, ?_⟩
    show (match b [none, none, some (.int i), none, none, none, none, none, none, none, none, none, none, none, none, none, none] h with
        | .nx e2 h2 => loopS (gN 2) b (is.map PyData.int) e2 h2
        | .ct e2 h2 => loopS (gN 2) b (is.map PyData.int) e2 h2
        | .bk e2 h2 => .nx e2 h2
        | r => r) = _
    rw [e1]
    exact e2
theorem law_true : ∀ ns : List Int, ns.length ≤ 63 → ∃ h', m_law (List.replicate 17 none) (handF ns) = .rt (.bool true) h' := by
  intro ns _
  obtain ⟨h', k, e⟩ := turns _ turn_ok [0, 1, 2, 3, 4] (handF ns) (hand_start ns)
  refine ⟨h', ?_⟩
  rw [m_law, seqS_e, forS_e]
  have R : range1M (conM (.int 5)) (List.replicate 17 none) (handF ns) = .ok ([0, 1, 2, 3, 4].map PyData.int) (handF ns) := rfl
  rw [R, bindS_ok, e]
  rfl
end Lw


set_option maxRecDepth 100000
set_option maxHeartbeats 8000000
namespace Lw
open PySem PySem.Spec PyProof.Rows L2 Sm
theorem all_mk {l : PySem.W.OpenLaw} {w : World} {K : PySem.W.Frag} {h : Heap} {mg : Str → Option Value} {fa : Addr} (F : List Int → List D) (hF : ∀ ns : List Int, ns.length ≤ 63 → ∃ e', g_hand ns (List.replicate 3 none) [] = .nx e' [] ∧ l_hand e' [] = .ok (F ns) [])
    (hL : ∀ ns : List Int, ns.length ≤ 63 → ∃ h', m_law (List.replicate 17 none) (F ns) = .rt (.bool true) h') (X : K.In h) (G : h.Ns mainGlobals mg) (hfa : mg "law" = some (.ref fa))
    (htab : ∀ (y : Str) (c P : Addr), ((recsOf PySem.Challenge.pw_loomhouse_k57_whole_warps_wound_by_passe).find? fun e => e.name == y).isSome = true → PySem.W.tabIn K y = some (c, P) → PySem.W.CodeHd h c P ∧ h.get? P = some (PySem.W.tabObj #[]))
    {af_is_integer : Addr} {oc_is_integer kV_is_integer dc_is_integer pm_is_integer cd_is_integer ct_is_integer : Value} {od_is_integer an_is_integer : Option Addr} {sl_is_integer : Array (Option Value)}
    {af_is_within : Addr} {oc_is_within kV_is_within dc_is_within pm_is_within cd_is_within ct_is_within : Value} {od_is_within an_is_within : Option Addr} {sl_is_within : Array (Option Value)}
    {af_is_sized : Addr} {oc_is_sized kV_is_sized dc_is_sized pm_is_sized cd_is_sized ct_is_sized : Value} {od_is_sized an_is_sized : Option Addr} {sl_is_sized : Array (Option Value)}
    {af_is_order : Addr} {oc_is_order kV_is_order dc_is_order pm_is_order cd_is_order ct_is_order : Value} {od_is_order an_is_order : Option Addr} {sl_is_order : Array (Option Value)}
    {af_check_order : Addr} {oc_check_order kV_check_order dc_check_order pm_check_order cd_check_order ct_check_order : Value} {od_check_order an_check_order : Option Addr} {sl_check_order : Array (Option Value)}
    {af_check_at_once : Addr} {oc_check_at_once kV_check_at_once dc_check_at_once pm_check_at_once cd_check_at_once ct_check_at_once : Value} {od_check_at_once an_check_at_once : Option Addr} {sl_check_at_once : Array (Option Value)}
    {af_raw_passes : Addr} {oc_raw_passes kV_raw_passes dc_raw_passes pm_raw_passes cd_raw_passes ct_raw_passes : Value} {od_raw_passes an_raw_passes : Option Addr} {sl_raw_passes : Array (Option Value)}
    {af_passes : Addr} {oc_passes kV_passes dc_passes pm_passes cd_passes ct_passes : Value} {od_passes an_passes : Option Addr} {sl_passes : Array (Option Value)}
    {af_raw_cones : Addr} {oc_raw_cones kV_raw_cones dc_raw_cones pm_raw_cones cd_raw_cones ct_raw_cones : Value} {od_raw_cones an_raw_cones : Option Addr} {sl_raw_cones : Array (Option Value)}
    {af_cones_at : Addr} {oc_cones_at kV_cones_at dc_cones_at pm_cones_at cd_cones_at ct_cones_at : Value} {od_cones_at an_cones_at : Option Addr} {sl_cones_at : Array (Option Value)}
    {af_cone_count : Addr} {oc_cone_count kV_cone_count dc_cone_count pm_cone_count cd_cone_count ct_cone_count : Value} {od_cone_count an_cone_count : Option Addr} {sl_cone_count : Array (Option Value)}
    {af_unlike_holes : Addr} {oc_unlike_holes kV_unlike_holes dc_unlike_holes pm_unlike_holes cd_unlike_holes ct_unlike_holes : Value} {od_unlike_holes an_unlike_holes : Option Addr} {sl_unlike_holes : Array (Option Value)}
    {af_raw_changes : Addr} {oc_raw_changes kV_raw_changes dc_raw_changes pm_raw_changes cd_raw_changes ct_raw_changes : Value} {od_raw_changes an_raw_changes : Option Addr} {sl_raw_changes : Array (Option Value)}
    {af_changes : Addr} {oc_changes kV_changes dc_changes pm_changes cd_changes ct_changes : Value} {od_changes an_changes : Option Addr} {sl_changes : Array (Option Value)}
    {af__law_hand : Addr} {oc__law_hand kV__law_hand dc__law_hand pm__law_hand cd__law_hand ct__law_hand : Value} {od__law_hand an__law_hand : Option Addr} {sl__law_hand : Array (Option Value)}
    {af__law_draw : Addr} {oc__law_draw kV__law_draw dc__law_draw pm__law_draw cd__law_draw ct__law_draw : Value} {od__law_draw an__law_draw : Option Addr} {sl__law_draw : Array (Option Value)}
    {af__law_any : Addr} {oc__law_any kV__law_any dc__law_any pm__law_any cd__law_any ct__law_any : Value} {od__law_any an__law_any : Option Addr} {sl__law_any : Array (Option Value)}
    {af__law_order : Addr} {oc__law_order kV__law_order dc__law_order pm__law_order cd__law_order ct__law_order : Value} {od__law_order an__law_order : Option Addr} {sl__law_order : Array (Option Value)}
    {af__law_passes : Addr} {oc__law_passes kV__law_passes dc__law_passes pm__law_passes cd__law_passes ct__law_passes : Value} {od__law_passes an__law_passes : Option Addr} {sl__law_passes : Array (Option Value)}
    {af__law_no_order : Addr} {oc__law_no_order kV__law_no_order dc__law_no_order pm__law_no_order cd__law_no_order ct__law_no_order : Value} {od__law_no_order an__law_no_order : Option Addr} {sl__law_no_order : Array (Option Value)}
    {af__law_word : Addr} {oc__law_word kV__law_word dc__law_word pm__law_word cd__law_word ct__law_word : Value} {od__law_word an__law_word : Option Addr} {sl__law_word : Array (Option Value)}
    {af_law : Addr} {oc_law kV_law dc_law pm_law ct_law : Value} {od_law an_law : Option Addr} {sl_law : Array (Option Value)}
    {cc_law P_law : Addr}
    {tk_MOST_ORDER : Tok}
    {tk_MOST_COLOUR : Tok}
    {tk_MOST_AT_ONCE : Tok}
    {cl_NoCount : Addr}
    {cl_NoCounts : Addr}
    {cl_NoLength : Addr}
    {cl_NoOrder : Addr}
    {cl_NoPeg : Addr}
    {cl_NoPlaces : Addr}
    {cl_NoWay : Addr}
    {cl_Same : Addr}
    {cl_TooMany : Addr}
    {cl_LoomError : Addr}
    (a_is_integer : PySem.W.nsIn K mainGlobals "is_integer" = some (some (.ref af_is_integer)))
    (l_is_integer : K.lookup af_is_integer = some ⟨oc_is_integer, od_is_integer, .func (PySem.W.fnOf "is_integer" "is_integer" (defArgs s_is_integer) (defBody s_is_integer) (defScope s_is_integer) .none kV_is_integer dc_is_integer pm_is_integer an_is_integer cd_is_integer ct_is_integer), sl_is_integer⟩)
    (c_is_integer : PySem.W.codeIn K cd_is_integer "is_integer" = true)
    (k_is_integer : PySem.W.keepIn K (.ref af_is_integer) = true)
    (a_is_within : PySem.W.nsIn K mainGlobals "is_within" = some (some (.ref af_is_within)))
    (l_is_within : K.lookup af_is_within = some ⟨oc_is_within, od_is_within, .func (PySem.W.fnOf "is_within" "is_within" (defArgs s_is_within) (defBody s_is_within) (defScope s_is_within) .none kV_is_within dc_is_within pm_is_within an_is_within cd_is_within ct_is_within), sl_is_within⟩)
    (c_is_within : PySem.W.codeIn K cd_is_within "is_within" = true)
    (k_is_within : PySem.W.keepIn K (.ref af_is_within) = true)
    (a_is_sized : PySem.W.nsIn K mainGlobals "is_sized" = some (some (.ref af_is_sized)))
    (l_is_sized : K.lookup af_is_sized = some ⟨oc_is_sized, od_is_sized, .func (PySem.W.fnOf "is_sized" "is_sized" (defArgs s_is_sized) (defBody s_is_sized) (defScope s_is_sized) .none kV_is_sized dc_is_sized pm_is_sized an_is_sized cd_is_sized ct_is_sized), sl_is_sized⟩)
    (c_is_sized : PySem.W.codeIn K cd_is_sized "is_sized" = true)
    (k_is_sized : PySem.W.keepIn K (.ref af_is_sized) = true)
    (a_is_order : PySem.W.nsIn K mainGlobals "is_order" = some (some (.ref af_is_order)))
    (l_is_order : K.lookup af_is_order = some ⟨oc_is_order, od_is_order, .func (PySem.W.fnOf "is_order" "is_order" (defArgs s_is_order) (defBody s_is_order) (defScope s_is_order) .none kV_is_order dc_is_order pm_is_order an_is_order cd_is_order ct_is_order), sl_is_order⟩)
    (c_is_order : PySem.W.codeIn K cd_is_order "is_order" = true)
    (k_is_order : PySem.W.keepIn K (.ref af_is_order) = true)
    (a_check_order : PySem.W.nsIn K mainGlobals "check_order" = some (some (.ref af_check_order)))
    (l_check_order : K.lookup af_check_order = some ⟨oc_check_order, od_check_order, .func (PySem.W.fnOf "check_order" "check_order" (defArgs s_check_order) (defBody s_check_order) (defScope s_check_order) .none kV_check_order dc_check_order pm_check_order an_check_order cd_check_order ct_check_order), sl_check_order⟩)
    (c_check_order : PySem.W.codeIn K cd_check_order "check_order" = true)
    (k_check_order : PySem.W.keepIn K (.ref af_check_order) = true)
    (a_check_at_once : PySem.W.nsIn K mainGlobals "check_at_once" = some (some (.ref af_check_at_once)))
    (l_check_at_once : K.lookup af_check_at_once = some ⟨oc_check_at_once, od_check_at_once, .func (PySem.W.fnOf "check_at_once" "check_at_once" (defArgs s_check_at_once) (defBody s_check_at_once) (defScope s_check_at_once) .none kV_check_at_once dc_check_at_once pm_check_at_once an_check_at_once cd_check_at_once ct_check_at_once), sl_check_at_once⟩)
    (c_check_at_once : PySem.W.codeIn K cd_check_at_once "check_at_once" = true)
    (k_check_at_once : PySem.W.keepIn K (.ref af_check_at_once) = true)
    (a_raw_passes : PySem.W.nsIn K mainGlobals "raw_passes" = some (some (.ref af_raw_passes)))
    (l_raw_passes : K.lookup af_raw_passes = some ⟨oc_raw_passes, od_raw_passes, .func (PySem.W.fnOf "raw_passes" "raw_passes" (defArgs s_raw_passes) (defBody s_raw_passes) (defScope s_raw_passes) .none kV_raw_passes dc_raw_passes pm_raw_passes an_raw_passes cd_raw_passes ct_raw_passes), sl_raw_passes⟩)
    (c_raw_passes : PySem.W.codeIn K cd_raw_passes "raw_passes" = true)
    (k_raw_passes : PySem.W.keepIn K (.ref af_raw_passes) = true)
    (a_passes : PySem.W.nsIn K mainGlobals "passes" = some (some (.ref af_passes)))
    (l_passes : K.lookup af_passes = some ⟨oc_passes, od_passes, .func (PySem.W.fnOf "passes" "passes" (defArgs s_passes) (defBody s_passes) (defScope s_passes) .none kV_passes dc_passes pm_passes an_passes cd_passes ct_passes), sl_passes⟩)
    (c_passes : PySem.W.codeIn K cd_passes "passes" = true)
    (k_passes : PySem.W.keepIn K (.ref af_passes) = true)
    (a_raw_cones : PySem.W.nsIn K mainGlobals "raw_cones" = some (some (.ref af_raw_cones)))
    (l_raw_cones : K.lookup af_raw_cones = some ⟨oc_raw_cones, od_raw_cones, .func (PySem.W.fnOf "raw_cones" "raw_cones" (defArgs s_raw_cones) (defBody s_raw_cones) (defScope s_raw_cones) .none kV_raw_cones dc_raw_cones pm_raw_cones an_raw_cones cd_raw_cones ct_raw_cones), sl_raw_cones⟩)
    (c_raw_cones : PySem.W.codeIn K cd_raw_cones "raw_cones" = true)
    (k_raw_cones : PySem.W.keepIn K (.ref af_raw_cones) = true)
    (a_cones_at : PySem.W.nsIn K mainGlobals "cones_at" = some (some (.ref af_cones_at)))
    (l_cones_at : K.lookup af_cones_at = some ⟨oc_cones_at, od_cones_at, .func (PySem.W.fnOf "cones_at" "cones_at" (defArgs s_cones_at) (defBody s_cones_at) (defScope s_cones_at) .none kV_cones_at dc_cones_at pm_cones_at an_cones_at cd_cones_at ct_cones_at), sl_cones_at⟩)
    (c_cones_at : PySem.W.codeIn K cd_cones_at "cones_at" = true)
    (k_cones_at : PySem.W.keepIn K (.ref af_cones_at) = true)
    (a_cone_count : PySem.W.nsIn K mainGlobals "cone_count" = some (some (.ref af_cone_count)))
    (l_cone_count : K.lookup af_cone_count = some ⟨oc_cone_count, od_cone_count, .func (PySem.W.fnOf "cone_count" "cone_count" (defArgs s_cone_count) (defBody s_cone_count) (defScope s_cone_count) .none kV_cone_count dc_cone_count pm_cone_count an_cone_count cd_cone_count ct_cone_count), sl_cone_count⟩)
    (c_cone_count : PySem.W.codeIn K cd_cone_count "cone_count" = true)
    (k_cone_count : PySem.W.keepIn K (.ref af_cone_count) = true)
    (a_unlike_holes : PySem.W.nsIn K mainGlobals "unlike_holes" = some (some (.ref af_unlike_holes)))
    (l_unlike_holes : K.lookup af_unlike_holes = some ⟨oc_unlike_holes, od_unlike_holes, .func (PySem.W.fnOf "unlike_holes" "unlike_holes" (defArgs s_unlike_holes) (defBody s_unlike_holes) (defScope s_unlike_holes) .none kV_unlike_holes dc_unlike_holes pm_unlike_holes an_unlike_holes cd_unlike_holes ct_unlike_holes), sl_unlike_holes⟩)
    (c_unlike_holes : PySem.W.codeIn K cd_unlike_holes "unlike_holes" = true)
    (k_unlike_holes : PySem.W.keepIn K (.ref af_unlike_holes) = true)
    (a_raw_changes : PySem.W.nsIn K mainGlobals "raw_changes" = some (some (.ref af_raw_changes)))
    (l_raw_changes : K.lookup af_raw_changes = some ⟨oc_raw_changes, od_raw_changes, .func (PySem.W.fnOf "raw_changes" "raw_changes" (defArgs s_raw_changes) (defBody s_raw_changes) (defScope s_raw_changes) .none kV_raw_changes dc_raw_changes pm_raw_changes an_raw_changes cd_raw_changes ct_raw_changes), sl_raw_changes⟩)
    (c_raw_changes : PySem.W.codeIn K cd_raw_changes "raw_changes" = true)
    (k_raw_changes : PySem.W.keepIn K (.ref af_raw_changes) = true)
    (a_changes : PySem.W.nsIn K mainGlobals "changes" = some (some (.ref af_changes)))
    (l_changes : K.lookup af_changes = some ⟨oc_changes, od_changes, .func (PySem.W.fnOf "changes" "changes" (defArgs s_changes) (defBody s_changes) (defScope s_changes) .none kV_changes dc_changes pm_changes an_changes cd_changes ct_changes), sl_changes⟩)
    (c_changes : PySem.W.codeIn K cd_changes "changes" = true)
    (k_changes : PySem.W.keepIn K (.ref af_changes) = true)
    (a__law_hand : PySem.W.nsIn K mainGlobals "_law_hand" = some (some (.ref af__law_hand)))
    (l__law_hand : K.lookup af__law_hand = some ⟨oc__law_hand, od__law_hand, .func (PySem.W.fnOf "_law_hand" "_law_hand" (defArgs s__law_hand) (defBody s__law_hand) (defScope s__law_hand) .none kV__law_hand dc__law_hand pm__law_hand an__law_hand cd__law_hand ct__law_hand), sl__law_hand⟩)
    (c__law_hand : PySem.W.codeIn K cd__law_hand "_law_hand" = true)
    (k__law_hand : PySem.W.keepIn K (.ref af__law_hand) = true)
    (a__law_draw : PySem.W.nsIn K mainGlobals "_law_draw" = some (some (.ref af__law_draw)))
    (l__law_draw : K.lookup af__law_draw = some ⟨oc__law_draw, od__law_draw, .func (PySem.W.fnOf "_law_draw" "_law_draw" (defArgs s__law_draw) (defBody s__law_draw) (defScope s__law_draw) .none kV__law_draw dc__law_draw pm__law_draw an__law_draw cd__law_draw ct__law_draw), sl__law_draw⟩)
    (c__law_draw : PySem.W.codeIn K cd__law_draw "_law_draw" = true)
    (k__law_draw : PySem.W.keepIn K (.ref af__law_draw) = true)
    (a__law_any : PySem.W.nsIn K mainGlobals "_law_any" = some (some (.ref af__law_any)))
    (l__law_any : K.lookup af__law_any = some ⟨oc__law_any, od__law_any, .func (PySem.W.fnOf "_law_any" "_law_any" (defArgs s__law_any) (defBody s__law_any) (defScope s__law_any) .none kV__law_any dc__law_any pm__law_any an__law_any cd__law_any ct__law_any), sl__law_any⟩)
    (c__law_any : PySem.W.codeIn K cd__law_any "_law_any" = true)
    (k__law_any : PySem.W.keepIn K (.ref af__law_any) = true)
    (a__law_order : PySem.W.nsIn K mainGlobals "_law_order" = some (some (.ref af__law_order)))
    (l__law_order : K.lookup af__law_order = some ⟨oc__law_order, od__law_order, .func (PySem.W.fnOf "_law_order" "_law_order" (defArgs s__law_order) (defBody s__law_order) (defScope s__law_order) .none kV__law_order dc__law_order pm__law_order an__law_order cd__law_order ct__law_order), sl__law_order⟩)
    (c__law_order : PySem.W.codeIn K cd__law_order "_law_order" = true)
    (k__law_order : PySem.W.keepIn K (.ref af__law_order) = true)
    (a__law_passes : PySem.W.nsIn K mainGlobals "_law_passes" = some (some (.ref af__law_passes)))
    (l__law_passes : K.lookup af__law_passes = some ⟨oc__law_passes, od__law_passes, .func (PySem.W.fnOf "_law_passes" "_law_passes" (defArgs s__law_passes) (defBody s__law_passes) (defScope s__law_passes) .none kV__law_passes dc__law_passes pm__law_passes an__law_passes cd__law_passes ct__law_passes), sl__law_passes⟩)
    (c__law_passes : PySem.W.codeIn K cd__law_passes "_law_passes" = true)
    (k__law_passes : PySem.W.keepIn K (.ref af__law_passes) = true)
    (a__law_no_order : PySem.W.nsIn K mainGlobals "_law_no_order" = some (some (.ref af__law_no_order)))
    (l__law_no_order : K.lookup af__law_no_order = some ⟨oc__law_no_order, od__law_no_order, .func (PySem.W.fnOf "_law_no_order" "_law_no_order" (defArgs s__law_no_order) (defBody s__law_no_order) (defScope s__law_no_order) .none kV__law_no_order dc__law_no_order pm__law_no_order an__law_no_order cd__law_no_order ct__law_no_order), sl__law_no_order⟩)
    (c__law_no_order : PySem.W.codeIn K cd__law_no_order "_law_no_order" = true)
    (k__law_no_order : PySem.W.keepIn K (.ref af__law_no_order) = true)
    (a__law_word : PySem.W.nsIn K mainGlobals "_law_word" = some (some (.ref af__law_word)))
    (l__law_word : K.lookup af__law_word = some ⟨oc__law_word, od__law_word, .func (PySem.W.fnOf "_law_word" "_law_word" (defArgs s__law_word) (defBody s__law_word) (defScope s__law_word) .none kV__law_word dc__law_word pm__law_word an__law_word cd__law_word ct__law_word), sl__law_word⟩)
    (c__law_word : PySem.W.codeIn K cd__law_word "_law_word" = true)
    (k__law_word : PySem.W.keepIn K (.ref af__law_word) = true)
    (a_law : PySem.W.nsIn K mainGlobals "law" = some (some (.ref af_law)))
    (l_law : K.lookup af_law = some ⟨oc_law, od_law, .func (PySem.W.fnOf "law" "law" (defArgs s_law) (defBody s_law) (defScope s_law) .none kV_law dc_law pm_law an_law (.ref cc_law) ct_law), sl_law⟩)
    (c_law : PySem.W.codeIn K (.ref cc_law) "law" = true)
    (k_law : PySem.W.keepIn K (.ref af_law) = true)
    (t_law : PySem.W.tabIn K "law" = some (cc_law, P_law))
    (n_law : K.lookup P_law = none)
    (z_abs : PySem.W.nsIn K mainGlobals "abs" = some none)
    (z_all : PySem.W.nsIn K mainGlobals "all" = some none)
    (z_bool : PySem.W.nsIn K mainGlobals "bool" = some none)
    (z_int : PySem.W.nsIn K mainGlobals "int" = some none)
    (z_isinstance : PySem.W.nsIn K mainGlobals "isinstance" = some none)
    (z_len : PySem.W.nsIn K mainGlobals "len" = some none)
    (z_max : PySem.W.nsIn K mainGlobals "max" = some none)
    (z_range : PySem.W.nsIn K mainGlobals "range" = some none)
    (z_sum : PySem.W.nsIn K mainGlobals "sum" = some none)
    (z_tuple : PySem.W.nsIn K mainGlobals "tuple" = some none)
    (z_zip : PySem.W.nsIn K mainGlobals "zip" = some none)
    (a_MOST_ORDER : PySem.W.nsIn K mainGlobals "MOST_ORDER" = some (some (.int 24 tk_MOST_ORDER)))
    (a_MOST_COLOUR : PySem.W.nsIn K mainGlobals "MOST_COLOUR" = some (some (.int 5 tk_MOST_COLOUR)))
    (a_MOST_AT_ONCE : PySem.W.nsIn K mainGlobals "MOST_AT_ONCE" = some (some (.int 8 tk_MOST_AT_ONCE)))
    (a_NoCount : PySem.W.nsIn K mainGlobals "NoCount" = some (some (.ref cl_NoCount)))
    (a_NoCounts : PySem.W.nsIn K mainGlobals "NoCounts" = some (some (.ref cl_NoCounts)))
    (a_NoLength : PySem.W.nsIn K mainGlobals "NoLength" = some (some (.ref cl_NoLength)))
    (a_NoOrder : PySem.W.nsIn K mainGlobals "NoOrder" = some (some (.ref cl_NoOrder)))
    (a_NoPeg : PySem.W.nsIn K mainGlobals "NoPeg" = some (some (.ref cl_NoPeg)))
    (a_NoPlaces : PySem.W.nsIn K mainGlobals "NoPlaces" = some (some (.ref cl_NoPlaces)))
    (a_NoWay : PySem.W.nsIn K mainGlobals "NoWay" = some (some (.ref cl_NoWay)))
    (a_Same : PySem.W.nsIn K mainGlobals "Same" = some (some (.ref cl_Same)))
    (a_TooMany : PySem.W.nsIn K mainGlobals "TooMany" = some (some (.ref cl_TooMany)))
    (a_LoomError : PySem.W.nsIn K mainGlobals "LoomError" = some (some (.ref cl_LoomError)))
    (q_NoOrder : PySem.W.excIn K cl_NoOrder [.type "ValueError", .type "Exception", .type "BaseException", .type "object"] "ValueError.__new__" = true)
    (k_NoOrder : PySem.W.keepIn K (.ref cl_NoOrder) = true)
    (q_NoCount : PySem.W.excIn K cl_NoCount [.type "ValueError", .type "Exception", .type "BaseException", .type "object"] "ValueError.__new__" = true)
    (k_NoCount : PySem.W.keepIn K (.ref cl_NoCount) = true)
    (e_LoomError : PySem.W.subIn K (.ref cl_LoomError) (.type "BaseException") = some true)
    (y_LoomError : PySem.W.typeIn K (.ref cl_LoomError) = some (.type "type"))
    (e_NoCount : PySem.W.subIn K (.ref cl_NoCount) (.type "BaseException") = some true)
    (y_NoCount : PySem.W.typeIn K (.ref cl_NoCount) = some (.type "type"))
    (e_NoCounts : PySem.W.subIn K (.ref cl_NoCounts) (.type "BaseException") = some true)
    (e_NoLength : PySem.W.subIn K (.ref cl_NoLength) (.type "BaseException") = some true)
    (e_NoOrder : PySem.W.subIn K (.ref cl_NoOrder) (.type "BaseException") = some true)
    (y_NoOrder : PySem.W.typeIn K (.ref cl_NoOrder) = some (.type "type"))
    (e_NoPeg : PySem.W.subIn K (.ref cl_NoPeg) (.type "BaseException") = some true)
    (e_NoPlaces : PySem.W.subIn K (.ref cl_NoPlaces) (.type "BaseException") = some true)
    (e_NoWay : PySem.W.subIn K (.ref cl_NoWay) (.type "BaseException") = some true)
    (e_Same : PySem.W.subIn K (.ref cl_Same) (.type "BaseException") = some true)
    (e_TooMany : PySem.W.subIn K (.ref cl_TooMany) (.type "BaseException") = some true)
    (y_TooMany : PySem.W.typeIn K (.ref cl_TooMany) = some (.type "type"))
    (xf : xfB K cl_TooMany = true)
    (nTM : PySem.W.findIn K (.ref cl_TooMany) "most" = some none)
    (hd_TooMany : PySem.W.hasDictIn K cl_TooMany = true)
    (hd_LoomError : PySem.W.hasDictIn K cl_LoomError = true)
    (sTT : PySem.W.subIn K (.ref cl_TooMany) (.ref cl_TooMany) = some true)
    (hn : PySem.W.specialIn K (.builtin "object.__class__") "__get__" = some (some (.builtin "getset_descriptor.__get__")))
    (ht : PySem.W.takesIn K (.builtin "object.__class__") = some true)
    (s1_NoCount : PySem.W.subIn K (.ref cl_NoCount) (.ref cl_TooMany) = some false)
    (s2_NoCount : PySem.W.subIn K (.ref cl_NoCount) (.ref cl_LoomError) = some true)
    (x1_NoCount : PySem.W.findIn K (.ref cl_NoCount) "__getattribute__" = some (some (.builtin "BaseException.__getattribute__")))
    (x2_NoCount : PySem.W.findIn K (.ref cl_NoCount) "__getattr__" = some none)
    (x3_NoCount : PySem.W.hasDictIn K cl_NoCount = true)
    (x4_NoCount : PySem.W.findIn K (.ref cl_NoCount) "__class__" = some (some (.builtin "object.__class__")))
    (x5_NoCount : PySem.W.mroIn K cl_NoCount (.type "object") = some true)
    (K_NoCount_NoCount : PySem.W.kitOne K (.ref cl_NoCount) (.ref cl_NoCount) = some true)
    (K_NoCount_NoCounts : PySem.W.kitOne K (.ref cl_NoCount) (.ref cl_NoCounts) = some false)
    (K_NoCount_NoLength : PySem.W.kitOne K (.ref cl_NoCount) (.ref cl_NoLength) = some false)
    (K_NoCount_NoOrder : PySem.W.kitOne K (.ref cl_NoCount) (.ref cl_NoOrder) = some false)
    (K_NoCount_NoPeg : PySem.W.kitOne K (.ref cl_NoCount) (.ref cl_NoPeg) = some false)
    (K_NoCount_NoPlaces : PySem.W.kitOne K (.ref cl_NoCount) (.ref cl_NoPlaces) = some false)
    (K_NoCount_NoWay : PySem.W.kitOne K (.ref cl_NoCount) (.ref cl_NoWay) = some false)
    (K_NoCount_Same : PySem.W.kitOne K (.ref cl_NoCount) (.ref cl_Same) = some false)
    (s1_NoCounts : PySem.W.subIn K (.ref cl_NoCounts) (.ref cl_TooMany) = some false)
    (s2_NoCounts : PySem.W.subIn K (.ref cl_NoCounts) (.ref cl_LoomError) = some true)
    (x1_NoCounts : PySem.W.findIn K (.ref cl_NoCounts) "__getattribute__" = some (some (.builtin "BaseException.__getattribute__")))
    (x2_NoCounts : PySem.W.findIn K (.ref cl_NoCounts) "__getattr__" = some none)
    (x3_NoCounts : PySem.W.hasDictIn K cl_NoCounts = true)
    (x4_NoCounts : PySem.W.findIn K (.ref cl_NoCounts) "__class__" = some (some (.builtin "object.__class__")))
    (x5_NoCounts : PySem.W.mroIn K cl_NoCounts (.type "object") = some true)
    (K_NoCounts_NoCount : PySem.W.kitOne K (.ref cl_NoCounts) (.ref cl_NoCount) = some false)
    (K_NoCounts_NoCounts : PySem.W.kitOne K (.ref cl_NoCounts) (.ref cl_NoCounts) = some true)
    (K_NoCounts_NoLength : PySem.W.kitOne K (.ref cl_NoCounts) (.ref cl_NoLength) = some false)
    (K_NoCounts_NoOrder : PySem.W.kitOne K (.ref cl_NoCounts) (.ref cl_NoOrder) = some false)
    (K_NoCounts_NoPeg : PySem.W.kitOne K (.ref cl_NoCounts) (.ref cl_NoPeg) = some false)
    (K_NoCounts_NoPlaces : PySem.W.kitOne K (.ref cl_NoCounts) (.ref cl_NoPlaces) = some false)
    (K_NoCounts_NoWay : PySem.W.kitOne K (.ref cl_NoCounts) (.ref cl_NoWay) = some false)
    (K_NoCounts_Same : PySem.W.kitOne K (.ref cl_NoCounts) (.ref cl_Same) = some false)
    (s1_NoLength : PySem.W.subIn K (.ref cl_NoLength) (.ref cl_TooMany) = some false)
    (s2_NoLength : PySem.W.subIn K (.ref cl_NoLength) (.ref cl_LoomError) = some true)
    (x1_NoLength : PySem.W.findIn K (.ref cl_NoLength) "__getattribute__" = some (some (.builtin "BaseException.__getattribute__")))
    (x2_NoLength : PySem.W.findIn K (.ref cl_NoLength) "__getattr__" = some none)
    (x3_NoLength : PySem.W.hasDictIn K cl_NoLength = true)
    (x4_NoLength : PySem.W.findIn K (.ref cl_NoLength) "__class__" = some (some (.builtin "object.__class__")))
    (x5_NoLength : PySem.W.mroIn K cl_NoLength (.type "object") = some true)
    (K_NoLength_NoCount : PySem.W.kitOne K (.ref cl_NoLength) (.ref cl_NoCount) = some false)
    (K_NoLength_NoCounts : PySem.W.kitOne K (.ref cl_NoLength) (.ref cl_NoCounts) = some false)
    (K_NoLength_NoLength : PySem.W.kitOne K (.ref cl_NoLength) (.ref cl_NoLength) = some true)
    (K_NoLength_NoOrder : PySem.W.kitOne K (.ref cl_NoLength) (.ref cl_NoOrder) = some false)
    (K_NoLength_NoPeg : PySem.W.kitOne K (.ref cl_NoLength) (.ref cl_NoPeg) = some false)
    (K_NoLength_NoPlaces : PySem.W.kitOne K (.ref cl_NoLength) (.ref cl_NoPlaces) = some false)
    (K_NoLength_NoWay : PySem.W.kitOne K (.ref cl_NoLength) (.ref cl_NoWay) = some false)
    (K_NoLength_Same : PySem.W.kitOne K (.ref cl_NoLength) (.ref cl_Same) = some false)
    (s1_NoOrder : PySem.W.subIn K (.ref cl_NoOrder) (.ref cl_TooMany) = some false)
    (s2_NoOrder : PySem.W.subIn K (.ref cl_NoOrder) (.ref cl_LoomError) = some true)
    (x1_NoOrder : PySem.W.findIn K (.ref cl_NoOrder) "__getattribute__" = some (some (.builtin "BaseException.__getattribute__")))
    (x2_NoOrder : PySem.W.findIn K (.ref cl_NoOrder) "__getattr__" = some none)
    (x3_NoOrder : PySem.W.hasDictIn K cl_NoOrder = true)
    (x4_NoOrder : PySem.W.findIn K (.ref cl_NoOrder) "__class__" = some (some (.builtin "object.__class__")))
    (x5_NoOrder : PySem.W.mroIn K cl_NoOrder (.type "object") = some true)
    (K_NoOrder_NoCount : PySem.W.kitOne K (.ref cl_NoOrder) (.ref cl_NoCount) = some false)
    (K_NoOrder_NoCounts : PySem.W.kitOne K (.ref cl_NoOrder) (.ref cl_NoCounts) = some false)
    (K_NoOrder_NoLength : PySem.W.kitOne K (.ref cl_NoOrder) (.ref cl_NoLength) = some false)
    (K_NoOrder_NoOrder : PySem.W.kitOne K (.ref cl_NoOrder) (.ref cl_NoOrder) = some true)
    (K_NoOrder_NoPeg : PySem.W.kitOne K (.ref cl_NoOrder) (.ref cl_NoPeg) = some false)
    (K_NoOrder_NoPlaces : PySem.W.kitOne K (.ref cl_NoOrder) (.ref cl_NoPlaces) = some false)
    (K_NoOrder_NoWay : PySem.W.kitOne K (.ref cl_NoOrder) (.ref cl_NoWay) = some false)
    (K_NoOrder_Same : PySem.W.kitOne K (.ref cl_NoOrder) (.ref cl_Same) = some false)
    (s1_NoPeg : PySem.W.subIn K (.ref cl_NoPeg) (.ref cl_TooMany) = some false)
    (s2_NoPeg : PySem.W.subIn K (.ref cl_NoPeg) (.ref cl_LoomError) = some true)
    (x1_NoPeg : PySem.W.findIn K (.ref cl_NoPeg) "__getattribute__" = some (some (.builtin "BaseException.__getattribute__")))
    (x2_NoPeg : PySem.W.findIn K (.ref cl_NoPeg) "__getattr__" = some none)
    (x3_NoPeg : PySem.W.hasDictIn K cl_NoPeg = true)
    (x4_NoPeg : PySem.W.findIn K (.ref cl_NoPeg) "__class__" = some (some (.builtin "object.__class__")))
    (x5_NoPeg : PySem.W.mroIn K cl_NoPeg (.type "object") = some true)
    (K_NoPeg_NoCount : PySem.W.kitOne K (.ref cl_NoPeg) (.ref cl_NoCount) = some false)
    (K_NoPeg_NoCounts : PySem.W.kitOne K (.ref cl_NoPeg) (.ref cl_NoCounts) = some false)
    (K_NoPeg_NoLength : PySem.W.kitOne K (.ref cl_NoPeg) (.ref cl_NoLength) = some false)
    (K_NoPeg_NoOrder : PySem.W.kitOne K (.ref cl_NoPeg) (.ref cl_NoOrder) = some false)
    (K_NoPeg_NoPeg : PySem.W.kitOne K (.ref cl_NoPeg) (.ref cl_NoPeg) = some true)
    (K_NoPeg_NoPlaces : PySem.W.kitOne K (.ref cl_NoPeg) (.ref cl_NoPlaces) = some false)
    (K_NoPeg_NoWay : PySem.W.kitOne K (.ref cl_NoPeg) (.ref cl_NoWay) = some false)
    (K_NoPeg_Same : PySem.W.kitOne K (.ref cl_NoPeg) (.ref cl_Same) = some false)
    (s1_NoPlaces : PySem.W.subIn K (.ref cl_NoPlaces) (.ref cl_TooMany) = some false)
    (s2_NoPlaces : PySem.W.subIn K (.ref cl_NoPlaces) (.ref cl_LoomError) = some true)
    (x1_NoPlaces : PySem.W.findIn K (.ref cl_NoPlaces) "__getattribute__" = some (some (.builtin "BaseException.__getattribute__")))
    (x2_NoPlaces : PySem.W.findIn K (.ref cl_NoPlaces) "__getattr__" = some none)
    (x3_NoPlaces : PySem.W.hasDictIn K cl_NoPlaces = true)
    (x4_NoPlaces : PySem.W.findIn K (.ref cl_NoPlaces) "__class__" = some (some (.builtin "object.__class__")))
    (x5_NoPlaces : PySem.W.mroIn K cl_NoPlaces (.type "object") = some true)
    (K_NoPlaces_NoCount : PySem.W.kitOne K (.ref cl_NoPlaces) (.ref cl_NoCount) = some false)
    (K_NoPlaces_NoCounts : PySem.W.kitOne K (.ref cl_NoPlaces) (.ref cl_NoCounts) = some false)
    (K_NoPlaces_NoLength : PySem.W.kitOne K (.ref cl_NoPlaces) (.ref cl_NoLength) = some false)
    (K_NoPlaces_NoOrder : PySem.W.kitOne K (.ref cl_NoPlaces) (.ref cl_NoOrder) = some false)
    (K_NoPlaces_NoPeg : PySem.W.kitOne K (.ref cl_NoPlaces) (.ref cl_NoPeg) = some false)
    (K_NoPlaces_NoPlaces : PySem.W.kitOne K (.ref cl_NoPlaces) (.ref cl_NoPlaces) = some true)
    (K_NoPlaces_NoWay : PySem.W.kitOne K (.ref cl_NoPlaces) (.ref cl_NoWay) = some false)
    (K_NoPlaces_Same : PySem.W.kitOne K (.ref cl_NoPlaces) (.ref cl_Same) = some false)
    (s1_NoWay : PySem.W.subIn K (.ref cl_NoWay) (.ref cl_TooMany) = some false)
    (s2_NoWay : PySem.W.subIn K (.ref cl_NoWay) (.ref cl_LoomError) = some true)
    (x1_NoWay : PySem.W.findIn K (.ref cl_NoWay) "__getattribute__" = some (some (.builtin "BaseException.__getattribute__")))
    (x2_NoWay : PySem.W.findIn K (.ref cl_NoWay) "__getattr__" = some none)
    (x3_NoWay : PySem.W.hasDictIn K cl_NoWay = true)
    (x4_NoWay : PySem.W.findIn K (.ref cl_NoWay) "__class__" = some (some (.builtin "object.__class__")))
    (x5_NoWay : PySem.W.mroIn K cl_NoWay (.type "object") = some true)
    (K_NoWay_NoCount : PySem.W.kitOne K (.ref cl_NoWay) (.ref cl_NoCount) = some false)
    (K_NoWay_NoCounts : PySem.W.kitOne K (.ref cl_NoWay) (.ref cl_NoCounts) = some false)
    (K_NoWay_NoLength : PySem.W.kitOne K (.ref cl_NoWay) (.ref cl_NoLength) = some false)
    (K_NoWay_NoOrder : PySem.W.kitOne K (.ref cl_NoWay) (.ref cl_NoOrder) = some false)
    (K_NoWay_NoPeg : PySem.W.kitOne K (.ref cl_NoWay) (.ref cl_NoPeg) = some false)
    (K_NoWay_NoPlaces : PySem.W.kitOne K (.ref cl_NoWay) (.ref cl_NoPlaces) = some false)
    (K_NoWay_NoWay : PySem.W.kitOne K (.ref cl_NoWay) (.ref cl_NoWay) = some true)
    (K_NoWay_Same : PySem.W.kitOne K (.ref cl_NoWay) (.ref cl_Same) = some false)
    (s1_Same : PySem.W.subIn K (.ref cl_Same) (.ref cl_TooMany) = some false)
    (s2_Same : PySem.W.subIn K (.ref cl_Same) (.ref cl_LoomError) = some true)
    (x1_Same : PySem.W.findIn K (.ref cl_Same) "__getattribute__" = some (some (.builtin "BaseException.__getattribute__")))
    (x2_Same : PySem.W.findIn K (.ref cl_Same) "__getattr__" = some none)
    (x3_Same : PySem.W.hasDictIn K cl_Same = true)
    (x4_Same : PySem.W.findIn K (.ref cl_Same) "__class__" = some (some (.builtin "object.__class__")))
    (x5_Same : PySem.W.mroIn K cl_Same (.type "object") = some true)
    (K_Same_NoCount : PySem.W.kitOne K (.ref cl_Same) (.ref cl_NoCount) = some false)
    (K_Same_NoCounts : PySem.W.kitOne K (.ref cl_Same) (.ref cl_NoCounts) = some false)
    (K_Same_NoLength : PySem.W.kitOne K (.ref cl_Same) (.ref cl_NoLength) = some false)
    (K_Same_NoOrder : PySem.W.kitOne K (.ref cl_Same) (.ref cl_NoOrder) = some false)
    (K_Same_NoPeg : PySem.W.kitOne K (.ref cl_Same) (.ref cl_NoPeg) = some false)
    (K_Same_NoPlaces : PySem.W.kitOne K (.ref cl_Same) (.ref cl_NoPlaces) = some false)
    (K_Same_NoWay : PySem.W.kitOne K (.ref cl_Same) (.ref cl_NoWay) = some false)
    (K_Same_Same : PySem.W.kitOne K (.ref cl_Same) (.ref cl_Same) = some true) :
    LamX.LawAtS l w K (L2.CX l.prog w) 9 63 "script" mg fa h := by
  have e := hfa.symm.trans (PySem.W.mg_of X G a_law)
  cases e
  have F_is_integer := funV_mk (st := s_is_integer) l_is_integer c_is_integer k_is_integer
  have B_is_integer := F_is_integer.binds (ps := ["thing"]) fun _ _ _ _ _ _ us hl => match us, hl with | [_], _ => rfl
  have F_is_within := funV_mk (st := s_is_within) l_is_within c_is_within k_is_within
  have B_is_within := F_is_within.binds (ps := ["thing", "low", "high"]) fun _ _ _ _ _ _ us hl => match us, hl with | [_, _, _], _ => rfl
  have F_is_sized := funV_mk (st := s_is_sized) l_is_sized c_is_sized k_is_sized
  have B_is_sized := F_is_sized.binds (ps := ["thing", "low", "high"]) fun _ _ _ _ _ _ us hl => match us, hl with | [_, _, _], _ => rfl
  have F_is_order := funV_mk (st := s_is_order) l_is_order c_is_order k_is_order
  have B_is_order := F_is_order.binds (ps := ["thing"]) fun _ _ _ _ _ _ us hl => match us, hl with | [_], _ => rfl
  have F_check_order := funV_mk (st := s_check_order) l_check_order c_check_order k_check_order
  have B_check_order := F_check_order.binds (ps := ["thing"]) fun _ _ _ _ _ _ us hl => match us, hl with | [_], _ => rfl
  have F_check_at_once := funV_mk (st := s_check_at_once) l_check_at_once c_check_at_once k_check_at_once
  have B_check_at_once := F_check_at_once.binds (ps := ["order", "p"]) fun _ _ _ _ _ _ us hl => match us, hl with | [_, _], _ => rfl
  have F_raw_passes := funV_mk (st := s_raw_passes) l_raw_passes c_raw_passes k_raw_passes
  have B_raw_passes := F_raw_passes.binds (ps := ["order", "p"]) fun _ _ _ _ _ _ us hl => match us, hl with | [_, _], _ => rfl
  have F_passes := funV_mk (st := s_passes) l_passes c_passes k_passes
  have B_passes := F_passes.binds (ps := ["order", "p"]) fun _ _ _ _ _ _ us hl => match us, hl with | [_, _], _ => rfl
  have F_raw_cones := funV_mk (st := s_raw_cones) l_raw_cones c_raw_cones k_raw_cones
  have B_raw_cones := F_raw_cones.binds (ps := ["order", "p"]) fun _ _ _ _ _ _ us hl => match us, hl with | [_, _], _ => rfl
  have F_cones_at := funV_mk (st := s_cones_at) l_cones_at c_cones_at k_cones_at
  have B_cones_at := F_cones_at.binds (ps := ["order", "p"]) fun _ _ _ _ _ _ us hl => match us, hl with | [_, _], _ => rfl
  have F_cone_count := funV_mk (st := s_cone_count) l_cone_count c_cone_count k_cone_count
  have B_cone_count := F_cone_count.binds (ps := ["order", "p"]) fun _ _ _ _ _ _ us hl => match us, hl with | [_, _], _ => rfl
  have F_unlike_holes := funV_mk (st := s_unlike_holes) l_unlike_holes c_unlike_holes k_unlike_holes
  have B_unlike_holes := F_unlike_holes.binds (ps := ["one", "other"]) fun _ _ _ _ _ _ us hl => match us, hl with | [_, _], _ => rfl
  have F_raw_changes := funV_mk (st := s_raw_changes) l_raw_changes c_raw_changes k_raw_changes
  have B_raw_changes := F_raw_changes.binds (ps := ["order", "p"]) fun _ _ _ _ _ _ us hl => match us, hl with | [_, _], _ => rfl
  have F_changes := funV_mk (st := s_changes) l_changes c_changes k_changes
  have B_changes := F_changes.binds (ps := ["order", "p"]) fun _ _ _ _ _ _ us hl => match us, hl with | [_, _], _ => rfl
  have F__law_hand := funV_mk (st := s__law_hand) l__law_hand c__law_hand k__law_hand
  have B__law_hand := F__law_hand.binds (ps := ["script"]) fun _ _ _ _ _ _ us hl => match us, hl with | [_], _ => rfl
  have F__law_draw := funV_mk (st := s__law_draw) l__law_draw c__law_draw k__law_draw
  have B__law_draw := F__law_draw.binds (ps := ["hand", "many"]) fun _ _ _ _ _ _ us hl => match us, hl with | [_, _], _ => rfl
  have F__law_any := funV_mk (st := s__law_any) l__law_any c__law_any k__law_any
  have B__law_any := F__law_any.binds (ps := ["hand", "some"]) fun _ _ _ _ _ _ us hl => match us, hl with | [_, _], _ => rfl
  have F__law_order := funV_mk (st := s__law_order) l__law_order c__law_order k__law_order
  have B__law_order := F__law_order.binds (ps := ["hand", "most"]) fun _ _ _ _ _ _ us hl => match us, hl with | [_, _], _ => rfl
  have F__law_passes := funV_mk (st := s__law_passes) l__law_passes c__law_passes k__law_passes
  have B__law_passes := F__law_passes.binds (ps := ["order", "p"]) fun _ _ _ _ _ _ us hl => match us, hl with | [_, _], _ => rfl
  have F__law_no_order := funV_mk (st := s__law_no_order) l__law_no_order c__law_no_order k__law_no_order
  have B__law_no_order := F__law_no_order.binds (ps := ["hand"]) fun _ _ _ _ _ _ us hl => match us, hl with | [_], _ => rfl
  have F__law_word := funV_mk (st := s__law_word) l__law_word c__law_word k__law_word
  have B__law_word := F__law_word.binds (ps := ["call"]) fun _ _ _ _ _ _ us hl => match us, hl with | [_], _ => rfl
  have F_law := funV_mk (st := s_law) l_law c_law k_law
  have B_law := F_law.binds (ps := ["script"]) fun _ _ _ _ _ _ us hl => match us, hl with | [_], _ => rfl
  let t : TxD := {
    a_is_integer := af_is_integer, fd_is_integer := PySem.W.fnOf "is_integer" "is_integer" (defArgs s_is_integer) (defBody s_is_integer) (defScope s_is_integer) .none kV_is_integer dc_is_integer pm_is_integer an_is_integer (cd_is_integer) ct_is_integer, cd_is_integer := cd_is_integer,
    a_is_within := af_is_within, fd_is_within := PySem.W.fnOf "is_within" "is_within" (defArgs s_is_within) (defBody s_is_within) (defScope s_is_within) .none kV_is_within dc_is_within pm_is_within an_is_within (cd_is_within) ct_is_within, cd_is_within := cd_is_within,
    a_is_sized := af_is_sized, fd_is_sized := PySem.W.fnOf "is_sized" "is_sized" (defArgs s_is_sized) (defBody s_is_sized) (defScope s_is_sized) .none kV_is_sized dc_is_sized pm_is_sized an_is_sized (cd_is_sized) ct_is_sized, cd_is_sized := cd_is_sized,
    a_is_order := af_is_order, fd_is_order := PySem.W.fnOf "is_order" "is_order" (defArgs s_is_order) (defBody s_is_order) (defScope s_is_order) .none kV_is_order dc_is_order pm_is_order an_is_order (cd_is_order) ct_is_order, cd_is_order := cd_is_order,
    a_check_order := af_check_order, fd_check_order := PySem.W.fnOf "check_order" "check_order" (defArgs s_check_order) (defBody s_check_order) (defScope s_check_order) .none kV_check_order dc_check_order pm_check_order an_check_order (cd_check_order) ct_check_order, cd_check_order := cd_check_order,
    a_check_at_once := af_check_at_once, fd_check_at_once := PySem.W.fnOf "check_at_once" "check_at_once" (defArgs s_check_at_once) (defBody s_check_at_once) (defScope s_check_at_once) .none kV_check_at_once dc_check_at_once pm_check_at_once an_check_at_once (cd_check_at_once) ct_check_at_once, cd_check_at_once := cd_check_at_once,
    a_raw_passes := af_raw_passes, fd_raw_passes := PySem.W.fnOf "raw_passes" "raw_passes" (defArgs s_raw_passes) (defBody s_raw_passes) (defScope s_raw_passes) .none kV_raw_passes dc_raw_passes pm_raw_passes an_raw_passes (cd_raw_passes) ct_raw_passes, cd_raw_passes := cd_raw_passes,
    a_passes := af_passes, fd_passes := PySem.W.fnOf "passes" "passes" (defArgs s_passes) (defBody s_passes) (defScope s_passes) .none kV_passes dc_passes pm_passes an_passes (cd_passes) ct_passes, cd_passes := cd_passes,
    a_raw_cones := af_raw_cones, fd_raw_cones := PySem.W.fnOf "raw_cones" "raw_cones" (defArgs s_raw_cones) (defBody s_raw_cones) (defScope s_raw_cones) .none kV_raw_cones dc_raw_cones pm_raw_cones an_raw_cones (cd_raw_cones) ct_raw_cones, cd_raw_cones := cd_raw_cones,
    a_cones_at := af_cones_at, fd_cones_at := PySem.W.fnOf "cones_at" "cones_at" (defArgs s_cones_at) (defBody s_cones_at) (defScope s_cones_at) .none kV_cones_at dc_cones_at pm_cones_at an_cones_at (cd_cones_at) ct_cones_at, cd_cones_at := cd_cones_at,
    a_cone_count := af_cone_count, fd_cone_count := PySem.W.fnOf "cone_count" "cone_count" (defArgs s_cone_count) (defBody s_cone_count) (defScope s_cone_count) .none kV_cone_count dc_cone_count pm_cone_count an_cone_count (cd_cone_count) ct_cone_count, cd_cone_count := cd_cone_count,
    a_unlike_holes := af_unlike_holes, fd_unlike_holes := PySem.W.fnOf "unlike_holes" "unlike_holes" (defArgs s_unlike_holes) (defBody s_unlike_holes) (defScope s_unlike_holes) .none kV_unlike_holes dc_unlike_holes pm_unlike_holes an_unlike_holes (cd_unlike_holes) ct_unlike_holes, cd_unlike_holes := cd_unlike_holes,
    a_raw_changes := af_raw_changes, fd_raw_changes := PySem.W.fnOf "raw_changes" "raw_changes" (defArgs s_raw_changes) (defBody s_raw_changes) (defScope s_raw_changes) .none kV_raw_changes dc_raw_changes pm_raw_changes an_raw_changes (cd_raw_changes) ct_raw_changes, cd_raw_changes := cd_raw_changes,
    a_changes := af_changes, fd_changes := PySem.W.fnOf "changes" "changes" (defArgs s_changes) (defBody s_changes) (defScope s_changes) .none kV_changes dc_changes pm_changes an_changes (cd_changes) ct_changes, cd_changes := cd_changes,
    a__law_hand := af__law_hand, fd__law_hand := PySem.W.fnOf "_law_hand" "_law_hand" (defArgs s__law_hand) (defBody s__law_hand) (defScope s__law_hand) .none kV__law_hand dc__law_hand pm__law_hand an__law_hand (cd__law_hand) ct__law_hand, cd__law_hand := cd__law_hand,
    a__law_draw := af__law_draw, fd__law_draw := PySem.W.fnOf "_law_draw" "_law_draw" (defArgs s__law_draw) (defBody s__law_draw) (defScope s__law_draw) .none kV__law_draw dc__law_draw pm__law_draw an__law_draw (cd__law_draw) ct__law_draw, cd__law_draw := cd__law_draw,
    a__law_any := af__law_any, fd__law_any := PySem.W.fnOf "_law_any" "_law_any" (defArgs s__law_any) (defBody s__law_any) (defScope s__law_any) .none kV__law_any dc__law_any pm__law_any an__law_any (cd__law_any) ct__law_any, cd__law_any := cd__law_any,
    a__law_order := af__law_order, fd__law_order := PySem.W.fnOf "_law_order" "_law_order" (defArgs s__law_order) (defBody s__law_order) (defScope s__law_order) .none kV__law_order dc__law_order pm__law_order an__law_order (cd__law_order) ct__law_order, cd__law_order := cd__law_order,
    a__law_passes := af__law_passes, fd__law_passes := PySem.W.fnOf "_law_passes" "_law_passes" (defArgs s__law_passes) (defBody s__law_passes) (defScope s__law_passes) .none kV__law_passes dc__law_passes pm__law_passes an__law_passes (cd__law_passes) ct__law_passes, cd__law_passes := cd__law_passes,
    a__law_no_order := af__law_no_order, fd__law_no_order := PySem.W.fnOf "_law_no_order" "_law_no_order" (defArgs s__law_no_order) (defBody s__law_no_order) (defScope s__law_no_order) .none kV__law_no_order dc__law_no_order pm__law_no_order an__law_no_order (cd__law_no_order) ct__law_no_order, cd__law_no_order := cd__law_no_order,
    a__law_word := af__law_word, fd__law_word := PySem.W.fnOf "_law_word" "_law_word" (defArgs s__law_word) (defBody s__law_word) (defScope s__law_word) .none kV__law_word dc__law_word pm__law_word an__law_word (cd__law_word) ct__law_word, cd__law_word := cd__law_word,
    a_law := fa, fd_law := PySem.W.fnOf "law" "law" (defArgs s_law) (defBody s_law) (defScope s_law) .none kV_law dc_law pm_law an_law (.ref cc_law) ct_law, cd_law := .ref cc_law,
    cc_law := cc_law, P_law := P_law,
    c_NoCount := cl_NoCount,
    c_NoCounts := cl_NoCounts,
    c_NoLength := cl_NoLength,
    c_NoOrder := cl_NoOrder,
    c_NoPeg := cl_NoPeg,
    c_NoPlaces := cl_NoPlaces,
    c_NoWay := cl_NoWay,
    c_Same := cl_Same,
    c_TooMany := cl_TooMany,
    c_LoomError := cl_LoomError,
    k_MOST_ORDER := .int 24 tk_MOST_ORDER,
    k_MOST_COLOUR := .int 5 tk_MOST_COLOUR,
    k_MOST_AT_ONCE := .int 8 tk_MOST_AT_ONCE }
  have T : Txt K mg t := {
    f_is_integer := F_is_integer, g_is_integer := PySem.W.mg_of X G a_is_integer, b_is_integer := B_is_integer,
    f_is_within := F_is_within, g_is_within := PySem.W.mg_of X G a_is_within, b_is_within := B_is_within,
    f_is_sized := F_is_sized, g_is_sized := PySem.W.mg_of X G a_is_sized, b_is_sized := B_is_sized,
    f_is_order := F_is_order, g_is_order := PySem.W.mg_of X G a_is_order, b_is_order := B_is_order,
    f_check_order := F_check_order, g_check_order := PySem.W.mg_of X G a_check_order, b_check_order := B_check_order,
    f_check_at_once := F_check_at_once, g_check_at_once := PySem.W.mg_of X G a_check_at_once, b_check_at_once := B_check_at_once,
    f_raw_passes := F_raw_passes, g_raw_passes := PySem.W.mg_of X G a_raw_passes, b_raw_passes := B_raw_passes,
    f_passes := F_passes, g_passes := PySem.W.mg_of X G a_passes, b_passes := B_passes,
    f_raw_cones := F_raw_cones, g_raw_cones := PySem.W.mg_of X G a_raw_cones, b_raw_cones := B_raw_cones,
    f_cones_at := F_cones_at, g_cones_at := PySem.W.mg_of X G a_cones_at, b_cones_at := B_cones_at,
    f_cone_count := F_cone_count, g_cone_count := PySem.W.mg_of X G a_cone_count, b_cone_count := B_cone_count,
    f_unlike_holes := F_unlike_holes, g_unlike_holes := PySem.W.mg_of X G a_unlike_holes, b_unlike_holes := B_unlike_holes,
    f_raw_changes := F_raw_changes, g_raw_changes := PySem.W.mg_of X G a_raw_changes, b_raw_changes := B_raw_changes,
    f_changes := F_changes, g_changes := PySem.W.mg_of X G a_changes, b_changes := B_changes,
    f__law_hand := F__law_hand, g__law_hand := PySem.W.mg_of X G a__law_hand, b__law_hand := B__law_hand,
    f__law_draw := F__law_draw, g__law_draw := PySem.W.mg_of X G a__law_draw, b__law_draw := B__law_draw,
    f__law_any := F__law_any, g__law_any := PySem.W.mg_of X G a__law_any, b__law_any := B__law_any,
    f__law_order := F__law_order, g__law_order := PySem.W.mg_of X G a__law_order, b__law_order := B__law_order,
    f__law_passes := F__law_passes, g__law_passes := PySem.W.mg_of X G a__law_passes, b__law_passes := B__law_passes,
    f__law_no_order := F__law_no_order, g__law_no_order := PySem.W.mg_of X G a__law_no_order, b__law_no_order := B__law_no_order,
    f__law_word := F__law_word, g__law_word := PySem.W.mg_of X G a__law_word, b__law_word := B__law_word,
    f_law := F_law, g_law := PySem.W.mg_of X G a_law, b_law := B_law,
    d_law := rfl,
    m_abs := PySem.W.mg_none_of X G z_abs,
    m_all := PySem.W.mg_none_of X G z_all,
    m_bool := PySem.W.mg_none_of X G z_bool,
    m_int := PySem.W.mg_none_of X G z_int,
    m_isinstance := PySem.W.mg_none_of X G z_isinstance,
    m_len := PySem.W.mg_none_of X G z_len,
    m_max := PySem.W.mg_none_of X G z_max,
    m_range := PySem.W.mg_none_of X G z_range,
    m_sum := PySem.W.mg_none_of X G z_sum,
    m_tuple := PySem.W.mg_none_of X G z_tuple,
    m_zip := PySem.W.mg_none_of X G z_zip,
    g_MOST_ORDER := ⟨⟨_, rfl⟩, PySem.W.mg_of X G a_MOST_ORDER⟩,
    g_MOST_COLOUR := ⟨⟨_, rfl⟩, PySem.W.mg_of X G a_MOST_COLOUR⟩,
    g_MOST_AT_ONCE := ⟨⟨_, rfl⟩, PySem.W.mg_of X G a_MOST_AT_ONCE⟩,
    g_NoCount := PySem.W.mg_of X G a_NoCount,
    g_NoCounts := PySem.W.mg_of X G a_NoCounts,
    g_NoLength := PySem.W.mg_of X G a_NoLength,
    g_NoOrder := PySem.W.mg_of X G a_NoOrder,
    g_NoPeg := PySem.W.mg_of X G a_NoPeg,
    g_NoPlaces := PySem.W.mg_of X G a_NoPlaces,
    g_NoWay := PySem.W.mg_of X G a_NoWay,
    g_Same := PySem.W.mg_of X G a_Same,
    q_NoOrder := q_NoOrder, k_NoOrder := k_NoOrder, e_NoOrder := e_NoOrder, y_NoOrder := y_NoOrder,
    q_NoCount := q_NoCount, k_NoCount := k_NoCount, e_NoCount := e_NoCount, y_NoCount := y_NoCount,
    x_TM := xfB_ok xf, n_TM := nTM,
    W := ⟨PySem.W.mg_of X G a_TooMany, PySem.W.mg_of X G a_LoomError, PySem.W.exm_ref e_TooMany hd_TooMany y_TooMany sTT, fun p hp => by
      rcases List.mem_cons.mp hp with e | hp
      · cases e
        exact ⟨PySem.W.mg_of X G a_NoCount, PySem.W.exm_ref e_TooMany hd_TooMany y_TooMany s1_NoCount, PySem.W.exm_ref e_LoomError hd_LoomError y_LoomError s2_NoCount⟩
      rcases List.mem_cons.mp hp with e | hp
      · cases e
        exact ⟨PySem.W.mg_of X G a_NoCounts, PySem.W.exm_ref e_TooMany hd_TooMany y_TooMany s1_NoCounts, PySem.W.exm_ref e_LoomError hd_LoomError y_LoomError s2_NoCounts⟩
      rcases List.mem_cons.mp hp with e | hp
      · cases e
        exact ⟨PySem.W.mg_of X G a_NoLength, PySem.W.exm_ref e_TooMany hd_TooMany y_TooMany s1_NoLength, PySem.W.exm_ref e_LoomError hd_LoomError y_LoomError s2_NoLength⟩
      rcases List.mem_cons.mp hp with e | hp
      · cases e
        exact ⟨PySem.W.mg_of X G a_NoOrder, PySem.W.exm_ref e_TooMany hd_TooMany y_TooMany s1_NoOrder, PySem.W.exm_ref e_LoomError hd_LoomError y_LoomError s2_NoOrder⟩
      rcases List.mem_cons.mp hp with e | hp
      · cases e
        exact ⟨PySem.W.mg_of X G a_NoPeg, PySem.W.exm_ref e_TooMany hd_TooMany y_TooMany s1_NoPeg, PySem.W.exm_ref e_LoomError hd_LoomError y_LoomError s2_NoPeg⟩
      rcases List.mem_cons.mp hp with e | hp
      · cases e
        exact ⟨PySem.W.mg_of X G a_NoPlaces, PySem.W.exm_ref e_TooMany hd_TooMany y_TooMany s1_NoPlaces, PySem.W.exm_ref e_LoomError hd_LoomError y_LoomError s2_NoPlaces⟩
      rcases List.mem_cons.mp hp with e | hp
      · cases e
        exact ⟨PySem.W.mg_of X G a_NoWay, PySem.W.exm_ref e_TooMany hd_TooMany y_TooMany s1_NoWay, PySem.W.exm_ref e_LoomError hd_LoomError y_LoomError s2_NoWay⟩
      rcases List.mem_cons.mp hp with e | hp
      · cases e
        exact ⟨PySem.W.mg_of X G a_Same, PySem.W.exm_ref e_TooMany hd_TooMany y_TooMany s1_Same, PySem.W.exm_ref e_LoomError hd_LoomError y_LoomError s2_Same⟩
      cases hp⟩,
    X_NoCount := ⟨x1_NoCount, x2_NoCount, e_NoCount, x3_NoCount, x4_NoCount, hn, ht, x5_NoCount⟩,
    K_NoCount_NoCount := K_NoCount_NoCount,
    K_NoCount_NoCounts := K_NoCount_NoCounts,
    K_NoCount_NoLength := K_NoCount_NoLength,
    K_NoCount_NoOrder := K_NoCount_NoOrder,
    K_NoCount_NoPeg := K_NoCount_NoPeg,
    K_NoCount_NoPlaces := K_NoCount_NoPlaces,
    K_NoCount_NoWay := K_NoCount_NoWay,
    K_NoCount_Same := K_NoCount_Same,
    X_NoCounts := ⟨x1_NoCounts, x2_NoCounts, e_NoCounts, x3_NoCounts, x4_NoCounts, hn, ht, x5_NoCounts⟩,
    K_NoCounts_NoCount := K_NoCounts_NoCount,
    K_NoCounts_NoCounts := K_NoCounts_NoCounts,
    K_NoCounts_NoLength := K_NoCounts_NoLength,
    K_NoCounts_NoOrder := K_NoCounts_NoOrder,
    K_NoCounts_NoPeg := K_NoCounts_NoPeg,
    K_NoCounts_NoPlaces := K_NoCounts_NoPlaces,
    K_NoCounts_NoWay := K_NoCounts_NoWay,
    K_NoCounts_Same := K_NoCounts_Same,
    X_NoLength := ⟨x1_NoLength, x2_NoLength, e_NoLength, x3_NoLength, x4_NoLength, hn, ht, x5_NoLength⟩,
    K_NoLength_NoCount := K_NoLength_NoCount,
    K_NoLength_NoCounts := K_NoLength_NoCounts,
    K_NoLength_NoLength := K_NoLength_NoLength,
    K_NoLength_NoOrder := K_NoLength_NoOrder,
    K_NoLength_NoPeg := K_NoLength_NoPeg,
    K_NoLength_NoPlaces := K_NoLength_NoPlaces,
    K_NoLength_NoWay := K_NoLength_NoWay,
    K_NoLength_Same := K_NoLength_Same,
    X_NoOrder := ⟨x1_NoOrder, x2_NoOrder, e_NoOrder, x3_NoOrder, x4_NoOrder, hn, ht, x5_NoOrder⟩,
    K_NoOrder_NoCount := K_NoOrder_NoCount,
    K_NoOrder_NoCounts := K_NoOrder_NoCounts,
    K_NoOrder_NoLength := K_NoOrder_NoLength,
    K_NoOrder_NoOrder := K_NoOrder_NoOrder,
    K_NoOrder_NoPeg := K_NoOrder_NoPeg,
    K_NoOrder_NoPlaces := K_NoOrder_NoPlaces,
    K_NoOrder_NoWay := K_NoOrder_NoWay,
    K_NoOrder_Same := K_NoOrder_Same,
    X_NoPeg := ⟨x1_NoPeg, x2_NoPeg, e_NoPeg, x3_NoPeg, x4_NoPeg, hn, ht, x5_NoPeg⟩,
    K_NoPeg_NoCount := K_NoPeg_NoCount,
    K_NoPeg_NoCounts := K_NoPeg_NoCounts,
    K_NoPeg_NoLength := K_NoPeg_NoLength,
    K_NoPeg_NoOrder := K_NoPeg_NoOrder,
    K_NoPeg_NoPeg := K_NoPeg_NoPeg,
    K_NoPeg_NoPlaces := K_NoPeg_NoPlaces,
    K_NoPeg_NoWay := K_NoPeg_NoWay,
    K_NoPeg_Same := K_NoPeg_Same,
    X_NoPlaces := ⟨x1_NoPlaces, x2_NoPlaces, e_NoPlaces, x3_NoPlaces, x4_NoPlaces, hn, ht, x5_NoPlaces⟩,
    K_NoPlaces_NoCount := K_NoPlaces_NoCount,
    K_NoPlaces_NoCounts := K_NoPlaces_NoCounts,
    K_NoPlaces_NoLength := K_NoPlaces_NoLength,
    K_NoPlaces_NoOrder := K_NoPlaces_NoOrder,
    K_NoPlaces_NoPeg := K_NoPlaces_NoPeg,
    K_NoPlaces_NoPlaces := K_NoPlaces_NoPlaces,
    K_NoPlaces_NoWay := K_NoPlaces_NoWay,
    K_NoPlaces_Same := K_NoPlaces_Same,
    X_NoWay := ⟨x1_NoWay, x2_NoWay, e_NoWay, x3_NoWay, x4_NoWay, hn, ht, x5_NoWay⟩,
    K_NoWay_NoCount := K_NoWay_NoCount,
    K_NoWay_NoCounts := K_NoWay_NoCounts,
    K_NoWay_NoLength := K_NoWay_NoLength,
    K_NoWay_NoOrder := K_NoWay_NoOrder,
    K_NoWay_NoPeg := K_NoWay_NoPeg,
    K_NoWay_NoPlaces := K_NoWay_NoPlaces,
    K_NoWay_NoWay := K_NoWay_NoWay,
    K_NoWay_Same := K_NoWay_Same,
    X_Same := ⟨x1_Same, x2_Same, e_Same, x3_Same, x4_Same, hn, ht, x5_Same⟩,
    K_Same_NoCount := K_Same_NoCount,
    K_Same_NoCounts := K_Same_NoCounts,
    K_Same_NoLength := K_Same_NoLength,
    K_Same_NoOrder := K_Same_NoOrder,
    K_Same_NoPeg := K_Same_NoPeg,
    K_Same_NoPlaces := K_Same_NoPlaces,
    K_Same_NoWay := K_Same_NoWay,
    K_Same_Same := K_Same_Same }
  have C_law := htab "law" cc_law P_law (by decide +kernel) t_law
  refine ⟨t.fd_law, [(cc_law, P_law)], spLaw K (T0 t), ?_, ?_, ?_, fun s u => .of_eq rfl, ?_, fun base hb hg hT => ?_⟩
  · intro p hp
    rcases List.mem_cons.mp hp with e | hp
    · cases e
      exact C_law.2
    cases hp
  · intro p hp
    rcases List.mem_cons.mp hp with e | hp
    · cases e
      exact n_law
    cases hp
  · intro p hp
    rcases List.mem_cons.mp hp with e | hp
    · cases e
      exact C_law.1
    cases hp
  · intro H a ns hl _ hT hS
    refine ⟨a, ns, rfl, hS, hl, ?_, fun _ => rfl⟩
    intro p hp
    rcases List.mem_cons.mp hp with e | hp
    · cases e
      exact LamX.TabS.nil (hT (cc_law, P_law) (by simp))
    cases hp
  · exact ok_law T (hT (cc_law, P_law) (by simp)) F hF hL
end Lw
open PySem PySem.W PyProof.Rows
set_option maxHeartbeats 0 in
theorem PySem.Challenge.cw_loomhouse_k57_whole_warps_wound_by_passe_holds : PySem.Challenge.rw_loomhouse_k57_whole_warps_wound_by_passe.Holds := by
  w_on; o_law; k_head; (case hw => w_witness2)
  k_fill
  refine Sm.walk_tabs (l := PySem.Challenge.rw_loomhouse_k57_whole_warps_wound_by_passe) (n := 63) (k := 9) (x := "script") (CX := fun w => L2.CX (PySem.Challenge.rw_loomhouse_k57_whole_warps_wound_by_passe).prog w) rfl (by decide) rfl ⟨rfl, by decide, by decide⟩ (fun w h Y => by first | exact PySem.W.km_in_of Y | exact PySem.W.kIn_of Y) ?F (fun w H s e s' z => by
    obtain ⟨_, _, _, _, _, _, _, _, _, _, _, _, z⟩ := z
    exact z)
  case F =>
    intro w mg fa h Y KX G hmg htab
    refine' Lw.all_mk Lw.handF Lw.hand_ok Lw.law_true KX G hmg htab ?a_is_integer ?l_is_integer ?c_is_integer ?k_is_integer ?a_is_within ?l_is_within ?c_is_within ?k_is_within ?a_is_sized ?l_is_sized ?c_is_sized ?k_is_sized ?a_is_order ?l_is_order ?c_is_order ?k_is_order ?a_check_order ?l_check_order ?c_check_order ?k_check_order ?a_check_at_once ?l_check_at_once ?c_check_at_once ?k_check_at_once ?a_raw_passes ?l_raw_passes ?c_raw_passes ?k_raw_passes ?a_passes ?l_passes ?c_passes ?k_passes ?a_raw_cones ?l_raw_cones ?c_raw_cones ?k_raw_cones ?a_cones_at ?l_cones_at ?c_cones_at ?k_cones_at ?a_cone_count ?l_cone_count ?c_cone_count ?k_cone_count ?a_unlike_holes ?l_unlike_holes ?c_unlike_holes ?k_unlike_holes ?a_raw_changes ?l_raw_changes ?c_raw_changes ?k_raw_changes ?a_changes ?l_changes ?c_changes ?k_changes ?a__law_hand ?l__law_hand ?c__law_hand ?k__law_hand ?a__law_draw ?l__law_draw ?c__law_draw ?k__law_draw ?a__law_any ?l__law_any ?c__law_any ?k__law_any ?a__law_order ?l__law_order ?c__law_order ?k__law_order ?a__law_passes ?l__law_passes ?c__law_passes ?k__law_passes ?a__law_no_order ?l__law_no_order ?c__law_no_order ?k__law_no_order ?a__law_word ?l__law_word ?c__law_word ?k__law_word ?a_law ?l_law ?c_law ?k_law ?t_law ?n_law ?z_abs ?z_all ?z_bool ?z_int ?z_isinstance ?z_len ?z_max ?z_range ?z_sum ?z_tuple ?z_zip ?a_MOST_ORDER ?a_MOST_COLOUR ?a_MOST_AT_ONCE ?a_NoCount ?a_NoCounts ?a_NoLength ?a_NoOrder ?a_NoPeg ?a_NoPlaces ?a_NoWay ?a_Same ?a_TooMany ?a_LoomError ?q_NoOrder ?k_NoOrder ?q_NoCount ?k_NoCount ?e_LoomError ?y_LoomError ?e_NoCount ?y_NoCount ?e_NoCounts ?e_NoLength ?e_NoOrder ?y_NoOrder ?e_NoPeg ?e_NoPlaces ?e_NoWay ?e_Same ?e_TooMany ?y_TooMany ?xf ?nTM ?hd_TooMany ?hd_LoomError ?sTT ?hn ?ht ?s1_NoCount ?s2_NoCount ?x1_NoCount ?x2_NoCount ?x3_NoCount ?x4_NoCount ?x5_NoCount ?K_NoCount_NoCount ?K_NoCount_NoCounts ?K_NoCount_NoLength ?K_NoCount_NoOrder ?K_NoCount_NoPeg ?K_NoCount_NoPlaces ?K_NoCount_NoWay ?K_NoCount_Same ?s1_NoCounts ?s2_NoCounts ?x1_NoCounts ?x2_NoCounts ?x3_NoCounts ?x4_NoCounts ?x5_NoCounts ?K_NoCounts_NoCount ?K_NoCounts_NoCounts ?K_NoCounts_NoLength ?K_NoCounts_NoOrder ?K_NoCounts_NoPeg ?K_NoCounts_NoPlaces ?K_NoCounts_NoWay ?K_NoCounts_Same ?s1_NoLength ?s2_NoLength ?x1_NoLength ?x2_NoLength ?x3_NoLength ?x4_NoLength ?x5_NoLength ?K_NoLength_NoCount ?K_NoLength_NoCounts ?K_NoLength_NoLength ?K_NoLength_NoOrder ?K_NoLength_NoPeg ?K_NoLength_NoPlaces ?K_NoLength_NoWay ?K_NoLength_Same ?s1_NoOrder ?s2_NoOrder ?x1_NoOrder ?x2_NoOrder ?x3_NoOrder ?x4_NoOrder ?x5_NoOrder ?K_NoOrder_NoCount ?K_NoOrder_NoCounts ?K_NoOrder_NoLength ?K_NoOrder_NoOrder ?K_NoOrder_NoPeg ?K_NoOrder_NoPlaces ?K_NoOrder_NoWay ?K_NoOrder_Same ?s1_NoPeg ?s2_NoPeg ?x1_NoPeg ?x2_NoPeg ?x3_NoPeg ?x4_NoPeg ?x5_NoPeg ?K_NoPeg_NoCount ?K_NoPeg_NoCounts ?K_NoPeg_NoLength ?K_NoPeg_NoOrder ?K_NoPeg_NoPeg ?K_NoPeg_NoPlaces ?K_NoPeg_NoWay ?K_NoPeg_Same ?s1_NoPlaces ?s2_NoPlaces ?x1_NoPlaces ?x2_NoPlaces ?x3_NoPlaces ?x4_NoPlaces ?x5_NoPlaces ?K_NoPlaces_NoCount ?K_NoPlaces_NoCounts ?K_NoPlaces_NoLength ?K_NoPlaces_NoOrder ?K_NoPlaces_NoPeg ?K_NoPlaces_NoPlaces ?K_NoPlaces_NoWay ?K_NoPlaces_Same ?s1_NoWay ?s2_NoWay ?x1_NoWay ?x2_NoWay ?x3_NoWay ?x4_NoWay ?x5_NoWay ?K_NoWay_NoCount ?K_NoWay_NoCounts ?K_NoWay_NoLength ?K_NoWay_NoOrder ?K_NoWay_NoPeg ?K_NoWay_NoPlaces ?K_NoWay_NoWay ?K_NoWay_Same ?s1_Same ?s2_Same ?x1_Same ?x2_Same ?x3_Same ?x4_Same ?x5_Same ?K_Same_NoCount ?K_Same_NoCounts ?K_Same_NoLength ?K_Same_NoOrder ?K_Same_NoPeg ?K_Same_NoPlaces ?K_Same_NoWay ?K_Same_Same
    (case a_is_integer => k_is)
    (case l_is_integer => k_is)
    (case c_is_integer => k_is)
    (case k_is_integer => k_is)
    (case a_is_within => k_is)
    (case l_is_within => k_is)
    (case c_is_within => k_is)
    (case k_is_within => k_is)
    (case a_is_sized => k_is)
    (case l_is_sized => k_is)
    (case c_is_sized => k_is)
    (case k_is_sized => k_is)
    (case a_is_order => k_is)
    (case l_is_order => k_is)
    (case c_is_order => k_is)
    (case k_is_order => k_is)
    (case a_check_order => k_is)
    (case l_check_order => k_is)
    (case c_check_order => k_is)
    (case k_check_order => k_is)
    (case a_check_at_once => k_is)
    (case l_check_at_once => k_is)
    (case c_check_at_once => k_is)
    (case k_check_at_once => k_is)
    (case a_raw_passes => k_is)
    (case l_raw_passes => k_is)
    (case c_raw_passes => k_is)
    (case k_raw_passes => k_is)
    (case a_passes => k_is)
    (case l_passes => k_is)
    (case c_passes => k_is)
    (case k_passes => k_is)
    (case a_raw_cones => k_is)
    (case l_raw_cones => k_is)
    (case c_raw_cones => k_is)
    (case k_raw_cones => k_is)
    (case a_cones_at => k_is)
    (case l_cones_at => k_is)
    (case c_cones_at => k_is)
    (case k_cones_at => k_is)
    (case a_cone_count => k_is)
    (case l_cone_count => k_is)
    (case c_cone_count => k_is)
    (case k_cone_count => k_is)
    (case a_unlike_holes => k_is)
    (case l_unlike_holes => k_is)
    (case c_unlike_holes => k_is)
    (case k_unlike_holes => k_is)
    (case a_raw_changes => k_is)
    (case l_raw_changes => k_is)
    (case c_raw_changes => k_is)
    (case k_raw_changes => k_is)
    (case a_changes => k_is)
    (case l_changes => k_is)
    (case c_changes => k_is)
    (case k_changes => k_is)
    (case a__law_hand => k_is)
    (case l__law_hand => k_is)
    (case c__law_hand => k_is)
    (case k__law_hand => k_is)
    (case a__law_draw => k_is)
    (case l__law_draw => k_is)
    (case c__law_draw => k_is)
    (case k__law_draw => k_is)
    (case a__law_any => k_is)
    (case l__law_any => k_is)
    (case c__law_any => k_is)
    (case k__law_any => k_is)
    (case a__law_order => k_is)
    (case l__law_order => k_is)
    (case c__law_order => k_is)
    (case k__law_order => k_is)
    (case a__law_passes => k_is)
    (case l__law_passes => k_is)
    (case c__law_passes => k_is)
    (case k__law_passes => k_is)
    (case a__law_no_order => k_is)
    (case l__law_no_order => k_is)
    (case c__law_no_order => k_is)
    (case k__law_no_order => k_is)
    (case a__law_word => k_is)
    (case l__law_word => k_is)
    (case c__law_word => k_is)
    (case k__law_word => k_is)
    (case a_law => k_is)
    (case l_law => k_is)
    (case c_law => k_is)
    (case k_law => k_is)
    (case t_law => rfl)
    (case n_law => rfl)
    (case z_abs => k_is)
    (case z_all => k_is)
    (case z_bool => k_is)
    (case z_int => k_is)
    (case z_isinstance => k_is)
    (case z_len => k_is)
    (case z_max => k_is)
    (case z_range => k_is)
    (case z_sum => k_is)
    (case z_tuple => k_is)
    (case z_zip => k_is)
    (case a_MOST_ORDER => k_is)
    (case a_MOST_COLOUR => k_is)
    (case a_MOST_AT_ONCE => k_is)
    (case a_NoCount => k_is)
    (case a_NoCounts => k_is)
    (case a_NoLength => k_is)
    (case a_NoOrder => k_is)
    (case a_NoPeg => k_is)
    (case a_NoPlaces => k_is)
    (case a_NoWay => k_is)
    (case a_Same => k_is)
    (case a_TooMany => k_is)
    (case a_LoomError => k_is)
    (case q_NoOrder => k_exc)
    (case k_NoOrder => k_is)
    (case q_NoCount => k_exc)
    (case k_NoCount => k_is)
    (case e_LoomError => k_is)
    (case y_LoomError => k_is)
    (case e_NoCount => k_is)
    (case y_NoCount => k_is)
    (case e_NoCounts => k_is)
    (case e_NoLength => k_is)
    (case e_NoOrder => k_is)
    (case y_NoOrder => k_is)
    (case e_NoPeg => k_is)
    (case e_NoPlaces => k_is)
    (case e_NoWay => k_is)
    (case e_Same => k_is)
    (case e_TooMany => k_is)
    (case y_TooMany => k_is)
    (case xf => first | rfl | kernel_rfl)
    (case nTM => k_is)
    (case hd_TooMany => k_is)
    (case hd_LoomError => k_is)
    (case sTT => first | rfl | k_is)
    (case hn => k_is)
    (case ht => k_is)
    (case s1_NoCount => k_is)
    (case s2_NoCount => k_is)
    (case x1_NoCount => k_is)
    (case x2_NoCount => k_is)
    (case x3_NoCount => k_is)
    (case x4_NoCount => k_is)
    (case x5_NoCount => k_is)
    (case K_NoCount_NoCount => kernel_rfl)
    (case K_NoCount_NoCounts => kernel_rfl)
    (case K_NoCount_NoLength => kernel_rfl)
    (case K_NoCount_NoOrder => kernel_rfl)
    (case K_NoCount_NoPeg => kernel_rfl)
    (case K_NoCount_NoPlaces => kernel_rfl)
    (case K_NoCount_NoWay => kernel_rfl)
    (case K_NoCount_Same => kernel_rfl)
    (case s1_NoCounts => k_is)
    (case s2_NoCounts => k_is)
    (case x1_NoCounts => k_is)
    (case x2_NoCounts => k_is)
    (case x3_NoCounts => k_is)
    (case x4_NoCounts => k_is)
    (case x5_NoCounts => k_is)
    (case K_NoCounts_NoCount => kernel_rfl)
    (case K_NoCounts_NoCounts => kernel_rfl)
    (case K_NoCounts_NoLength => kernel_rfl)
    (case K_NoCounts_NoOrder => kernel_rfl)
    (case K_NoCounts_NoPeg => kernel_rfl)
    (case K_NoCounts_NoPlaces => kernel_rfl)
    (case K_NoCounts_NoWay => kernel_rfl)
    (case K_NoCounts_Same => kernel_rfl)
    (case s1_NoLength => k_is)
    (case s2_NoLength => k_is)
    (case x1_NoLength => k_is)
    (case x2_NoLength => k_is)
    (case x3_NoLength => k_is)
    (case x4_NoLength => k_is)
    (case x5_NoLength => k_is)
    (case K_NoLength_NoCount => kernel_rfl)
    (case K_NoLength_NoCounts => kernel_rfl)
    (case K_NoLength_NoLength => kernel_rfl)
    (case K_NoLength_NoOrder => kernel_rfl)
    (case K_NoLength_NoPeg => kernel_rfl)
    (case K_NoLength_NoPlaces => kernel_rfl)
    (case K_NoLength_NoWay => kernel_rfl)
    (case K_NoLength_Same => kernel_rfl)
    (case s1_NoOrder => k_is)
    (case s2_NoOrder => k_is)
    (case x1_NoOrder => k_is)
    (case x2_NoOrder => k_is)
    (case x3_NoOrder => k_is)
    (case x4_NoOrder => k_is)
    (case x5_NoOrder => k_is)
    (case K_NoOrder_NoCount => kernel_rfl)
    (case K_NoOrder_NoCounts => kernel_rfl)
    (case K_NoOrder_NoLength => kernel_rfl)
    (case K_NoOrder_NoOrder => kernel_rfl)
    (case K_NoOrder_NoPeg => kernel_rfl)
    (case K_NoOrder_NoPlaces => kernel_rfl)
    (case K_NoOrder_NoWay => kernel_rfl)
    (case K_NoOrder_Same => kernel_rfl)
    (case s1_NoPeg => k_is)
    (case s2_NoPeg => k_is)
    (case x1_NoPeg => k_is)
    (case x2_NoPeg => k_is)
    (case x3_NoPeg => k_is)
    (case x4_NoPeg => k_is)
    (case x5_NoPeg => k_is)
    (case K_NoPeg_NoCount => kernel_rfl)
    (case K_NoPeg_NoCounts => kernel_rfl)
    (case K_NoPeg_NoLength => kernel_rfl)
    (case K_NoPeg_NoOrder => kernel_rfl)
    (case K_NoPeg_NoPeg => kernel_rfl)
    (case K_NoPeg_NoPlaces => kernel_rfl)
    (case K_NoPeg_NoWay => kernel_rfl)
    (case K_NoPeg_Same => kernel_rfl)
    (case s1_NoPlaces => k_is)
    (case s2_NoPlaces => k_is)
    (case x1_NoPlaces => k_is)
    (case x2_NoPlaces => k_is)
    (case x3_NoPlaces => k_is)
    (case x4_NoPlaces => k_is)
    (case x5_NoPlaces => k_is)
    (case K_NoPlaces_NoCount => kernel_rfl)
    (case K_NoPlaces_NoCounts => kernel_rfl)
    (case K_NoPlaces_NoLength => kernel_rfl)
    (case K_NoPlaces_NoOrder => kernel_rfl)
    (case K_NoPlaces_NoPeg => kernel_rfl)
    (case K_NoPlaces_NoPlaces => kernel_rfl)
    (case K_NoPlaces_NoWay => kernel_rfl)
    (case K_NoPlaces_Same => kernel_rfl)
    (case s1_NoWay => k_is)
    (case s2_NoWay => k_is)
    (case x1_NoWay => k_is)
    (case x2_NoWay => k_is)
    (case x3_NoWay => k_is)
    (case x4_NoWay => k_is)
    (case x5_NoWay => k_is)
    (case K_NoWay_NoCount => kernel_rfl)
    (case K_NoWay_NoCounts => kernel_rfl)
    (case K_NoWay_NoLength => kernel_rfl)
    (case K_NoWay_NoOrder => kernel_rfl)
    (case K_NoWay_NoPeg => kernel_rfl)
    (case K_NoWay_NoPlaces => kernel_rfl)
    (case K_NoWay_NoWay => kernel_rfl)
    (case K_NoWay_Same => kernel_rfl)
    (case s1_Same => k_is)
    (case s2_Same => k_is)
    (case x1_Same => k_is)
    (case x2_Same => k_is)
    (case x3_Same => k_is)
    (case x4_Same => k_is)
    (case x5_Same => k_is)
    (case K_Same_NoCount => kernel_rfl)
    (case K_Same_NoCounts => kernel_rfl)
    (case K_Same_NoLength => kernel_rfl)
    (case K_Same_NoOrder => kernel_rfl)
    (case K_Same_NoPeg => kernel_rfl)
    (case K_Same_NoPlaces => kernel_rfl)
    (case K_Same_NoWay => kernel_rfl)
    (case K_Same_Same => kernel_rfl)


