import PyProof.Rows.All
import Wide.All
import OpenK.AllK
import Wide.FinOn
import KE.KStateDown
import Lean
import HandS.ForMost
import HandS.Deep
import HandS.IsInst
import HandS.TupAny
import HandS.Zip
import HandS.Conv
import HandS.Style
import KE.GoesEnum
import KE.GoesMore
import PyProof.P3In
import KE.KDictKeyed
import HandS.TupLen
import HandS.RaiseMore
import HandS.Gcd
import KE.SortData
import KE.DataCmp
import HandS.Defaults
import HandS.Strs
import PyProof.SeqIndex
import HandS.DictComp
import PyProof.Rows.TupDisplay
import HandS.Head0
import HandS.Head1
import HandS.Head2
import HandS.HeadEnd
import HandS.HeadHook1
import HandS.HeadHook2
import HandS.TryOnly
import PySem.Challenge.RW_orderbook_k68_whole_lines_of_orders
set_option Elab.async false
set_option linter.all false
set_option maxRecDepth 100000
set_option autoImplicit false
/-! TLT: tuples that are known to be plain (no dict of their own); zip, enumerate of lists, tuples and texts -/
namespace TL
open PySem PySem.Spec PyProof.Rows L2

/-- a new tuple, its object known -/
def NewT (H : Hp) (xs : List V) (Q : VK) : Prop := ∀ p o, H p = none → o.dict = none → Q (.ref p) (upd H p (.frz o (.tup xs)))
section
variable {X : Cx} {pins : List (Addr × Obj)} {σ : L2.St} {H : Hp} {s : Shared}
theorem laidT {xs : List V} {its : List Value} {h' : Heap} {a : Addr} {t' : Nat} {Q : VK} (I : Inv X pins σ H s) (k : ∀ b u, s.heap.get? b = some u → h'.get? b = some u) (hp : s.heap.objs.size ≤ a) (hz : xs.length ≤ sizeLine) (r : Vals xs its)
    {o : Obj} (e : h'.get? a = some o) (hc : o.cls = .type "tuple") (hd : o.dict = none) (hs : ∃ n, o.data = .seq its.toArray n) (q : NewT H xs Q) : EP X pins σ Q (.ref a) { s with heap := h', toks := t' } :=
  ⟨.ref a, upd H a (.frz o (.tup xs)), I.laid (t' := t') k hp ⟨e, hz, its, r, o, e, hc, hs⟩, rfl, q a o (I.hok.fresh hp) hd⟩
end
section
variable {X : Cx}
def tTupN (t : TA) : TE := fun σ H Q => t σ H fun xs H1 => xs.length ≤ sizeLine ∧ NewT H1 xs Q
theorem pe_tupN {es : List Expr} {t : TA} {x1 pos} (h : PA X es t) : PE X (.Tuple es x1 pos) (tTupN t) := by
  refine ⟨fun pins s σ H Q I hq => ?_⟩
  refine wpAny_Tuple_spliced (thn (h.run pos pins s σ H _ I hq) fun us s1 ⟨xs, H1, I1, r, z, q⟩ => ⟨by rw [← r.length]; exact z, ?_⟩)
  exact laidT (t' := s1.toks) I1 (fun b u e => Heap.get?_push_of_some _ e) (Nat.le_refl _) z r (Heap.get?_push_size _ rfl) rfl rfl ⟨_, rfl⟩ q
/-- t + u -/
def rCatN (K : PySem.W.Frag) : R2 := fun x y H Q => ∃ a b xs ys, x = .ref a ∧ y = .ref b ∧ SqT K H a xs ∧ SqT K H b ys ∧ xs.length + ys.length ≤ sizeLine ∧
  (xs = [] → Q (.ref b) H) ∧ (xs ≠ [] → ys = [] → Q (.ref a) H) ∧ NewT H (xs ++ ys) Q
theorem op_catN : OpR X (binaryOp .Add) (rCatN X.K) := by
  intro pins s σ H x y v u Q I rx ry h
  obtain ⟨a, b, xs, ys, rfl, rfl, ha, hb, hz, q0, q1, q2⟩ := h
  cases rx
  cases ry
  obtain ⟨its, r1, p1, _⟩ := I.tuple ha
  obtain ⟨its2, r2, p2, _⟩ := I.tuple hb
  by_cases hx : xs = []
  · subst hx
    cases r1
    exact cat_tup0 p1 p2 ⟨.ref b, H, I, rfl, q0 rfl⟩
  · refine HT.cat_tup p1 p2 (fun z => hx (r1.nil_iff.mp z)) (fun z => ⟨.ref a, H, I, rfl, q1 hx (r2.nil_iff.mp z)⟩) (fun z => ?_) (by rw [← r1.length, ← r2.length]; exact hz)
    exact laidT (t' := s.toks) I (fun b ob q => Heap.get?_push_of_some _ q) (Nat.le_refl _) (by rw [List.length_append]; exact hz) (r1.append r2) (Heap.get?_push_size _ rfl) rfl rfl ⟨_, rfl⟩ q2
/-- t[lo:hi] -/
def rSlN (K : PySem.W.Frag) : V → Option Int → Option Int → Hp → VK → Prop := fun x lo hi H Q => ∃ a xs, x = .ref a ∧ SqT K H a xs ∧
  (HT.sIx xs.length 0 lo = 0 ∧ HT.sIx xs.length xs.length hi = xs.length → Q (.ref a) H) ∧ (¬ (HT.sIx xs.length 0 lo = 0 ∧ HT.sIx xs.length xs.length hi = xs.length) → NewT H (cutV xs lo hi) Q)
theorem sl_tupN : SlR X (rSlN X.K) := by
  intro pins s σ H x v vl vu lo hi sl Q I rx hs pl pu h
  obtain ⟨a, xs, rfl, hx, q1, q2⟩ := h
  cases rx
  obtain ⟨its, r, ht, hz⟩ := I.tuple hx
  have hlen : its.toArray.size = xs.length := by rw [List.size_toArray]; exact r.length.symm
  refine ⟨"tuple", _, PyProof.Rows.slot_tuple_getitem.lookup, ht.typeIs, ?_⟩
  by_cases hw : HT.sIx xs.length 0 lo = 0 ∧ HT.sIx xs.length xs.length hi = xs.length
  · exact getItem_tuple_whole ht hs pl pu (by rw [hlen]; exact hw) ⟨.ref a, H, I, rfl, q1 hw⟩
  · refine HT.getItem_tuple_cut ht hs pl pu (by rw [hlen]; exact hw) ?_ (by rw [hlen]; exact hz)
    rw [hlen]
    exact laidT (t' := s.toks) I (fun b ob q => Heap.get?_push_of_some _ q) (Nat.le_refl _) (Nat.le_trans (cutV_length xs lo hi) hz) ((r.drop (HT.sIx xs.length 0 lo)).take (HT.sIx xs.length xs.length hi - HT.sIx xs.length 0 lo)) (Heap.get?_push_size _ rfl) rfl rfl ⟨_, rfl⟩ (q2 hw)
theorem call_tupleN : CallR X (.type "tuple") (fun xs H Q => ∃ p ys, xs = [.ref p] ∧ ((SqL X.K H p ys ∧ NewT H ys Q) ∨ (SqT X.K H p ys ∧ Q (.ref p) H))) := by
  intro pins s σ H xs us Q I r h
  obtain ⟨p, ys, rfl, h⟩ := h
  obtain ⟨u, rfl, rx⟩ := vals1 r
  cases rx
  rcases h with ⟨hq, q⟩ | ⟨hq, q⟩
  · obtain ⟨its, r', pl, hz⟩ := I.list hq
    have hlen := r'.length
    refine call_tuple_list pl.isList (fun h' kp => ?_) (by simp only [List.size_toArray] <;> omega)
    have I1 : Inv X pins σ H { s with heap := h' } := I.kept (t' := s.toks) kp
    exact laidT (s := { s with heap := h' }) (t' := s.toks) I1 (fun b o e => Heap.get?_push_of_some _ e) (Nat.le_refl _) hz r' (Heap.get?_push_size _ rfl) rfl rfl ⟨_, rfl⟩ q
  · obtain ⟨its, r', pl, hz⟩ := I.tuple hq
    exact call_tuple_same pl ⟨.ref p, H, I, rfl, q⟩
def tTupRgN (te : L2.St → Hp → (Int → Int → Hp → Prop) → Prop) : TE := fun σ H Q => te σ H fun a b H1 => RgOk a b ∧ NewT H1 (rgV a b) Q
theorem pe_tupRgN {e : Expr} {te : L2.St → Hp → (Int → Int → Hp → Prop) → Prop} {p pos : Pos} (hc : X.calm = true) (hg : Gl X "tuple") (hm : X.mg "tuple" = none) (he : PRg X e te) (na : starEach [e] X.env = (false, eval e X.env) :: starEach [] X.env := by rfl) : PE X (.Call (.Name "tuple" p) [e] [] pos) (tTupRgN te) := by
  refine ⟨fun pins s σ H Q I h => ?_⟩
  refine Call_ (ld_blt I hg hm boot_tuple (PyProof.Rows.callWith_type1 (args_cons (thn (he pins s σ H _ I h) fun x s1 ⟨r, a, b, t, u, v, H1, ex, hr, I1, ok, q⟩ => args_nil ?_) na) na))
  subst ex
  obtain ⟨b1, b2, b3, b4, b5⟩ := ok
  refine call_tuple_range (n := (b - a).toNat) (I1.ok.hd hc) hr (small_one b1 b2 b3 b4) (rangeSize_nat a b) b5 fun h' tk acc hk hi => ?_
  have I2 : Inv X pins σ H1 { s1 with heap := h', toks := tk } := I1.kept hk
  refine laidT (s := { s1 with heap := h', toks := tk }) (t' := tk) I2 (fun c o e => Heap.get?_push_of_some _ e) (Nat.le_refl _) ?_ (vals_rg hi) (Heap.get?_push_size _ rfl) rfl rfl ⟨_, by rw [Array.toArray_toList]⟩ q
  rw [rgV_length, sizeLine_eq]
  omega
end

/-! ### what an iterator goes through: a list, a tuple, a text -/
inductive Src where
  | ls (a : Addr) | tp (a : Addr) | tx (x : Str)
def Src.val : Src → V
  | .ls a => .ref a
  | .tp a => .ref a
  | .tx x => .str x
def Src.fp : Src → List Addr
  | .ls a => [a]
  | .tp a => [a]
  | .tx _ => []
def Src.at (K : PySem.W.Frag) (H : Hp) : Src → List V → Prop
  | .ls a, xs => SqL K H a xs
  | .tp a, xs => SqT K H a xs
  | .tx x, xs => xs = x.cps.toList.map fun c => V.str ⟨#[c]⟩
def Src.itr (S : Src) (t : Tok) (h : Heap) (it : Addr) (i : Nat) : Prop := match S with
  | .ls a => h.IsListIter it a i
  | .tp a => h.IsTupleIter it a i
  | .tx x => h.IsStrIter it (strIterType x) x t i
theorem vals_get' : ∀ {xs : List V} {us : List Value} {i : Nat} {u : Value}, Vals xs us → us[i]? = some u → ∃ x, xs[i]? = some x ∧ RelV x u
  | _, _, _, _, .nil, e => by simp at e
  | _, _, 0, _, .cons r _, e => by simp at e; subst e; exact ⟨_, rfl, r⟩
  | _, _, i + 1, u, .cons _ t, e => by
    obtain ⟨x, h1, h2⟩ := vals_get' (i := i) (u := u) t (by simpa using e)
    exact ⟨x, by simpa using h1, h2⟩
structure SrcD (S : Src) (t : Tok) (h : Heap) (it : Addr) (P : Program) (w : World) (A : Around) (xs : List V) (n : Nat) (Y : Nat → Value → Prop) (St : Nat → Heap → Prop) : Prop where
  dr : Draws P w A it (it :: S.fp) n Y St
  len : n = xs.length
  fwd : ∀ i, S.itr t h it i → St i h
  bwd : ∀ i h', St i h' → S.itr t h' it i
  val : ∀ i v, Y i v → ∃ x, xs[i]? = some x ∧ RelV x v
section
variable {X : Cx} {pins : List (Addr × Obj)} {σ : L2.St} {H : Hp} {s : Shared} {S : Src} {t : Tok} {xs : List V}
theorem Src.data (I : Inv X pins σ H s) (hh : X.A.handled = none) {it : Addr} (hne : ∀ b ∈ S.fp, b ≠ it) (h : S.at X.K H xs) : ∃ n Y St, SrcD S t s.heap it X.prog X.w X.A.in1 xs n Y St := by
  cases S with
  | ls a =>
    obtain ⟨its, rv, p, hz⟩ := I.list h
    exact ⟨_, _, _, Draws.list (A := X.A.in1) hh it a (hne a (by simp [Src.fp])) its.toArray, by rw [List.size_toArray]; exact rv.length.symm, fun i q => ⟨q, p.isList⟩, fun i h' q => q.1, fun i v q => vals_get' rv (by simpa using q)⟩
  | tp a =>
    obtain ⟨its, rv, p, hz⟩ := I.tuple h
    exact ⟨_, _, _, Draws.tuple (A := X.A.in1) hh it a (hne a (by simp [Src.fp])) its.toArray, by rw [List.size_toArray]; exact rv.length.symm, fun i q => ⟨q, p⟩, fun i h' q => q.1, fun i v q => vals_get' rv (by simpa using q)⟩
  | tx x =>
    have e : xs = x.cps.toList.map fun c => V.str ⟨#[c]⟩ := h
    subst e
    refine ⟨_, _, _, Draws.text (A := X.A.in1) hh it x t, by simp, fun i q => q, fun i h' q => q, fun i v ⟨c, u, ec, ev⟩ => ⟨.str ⟨#[c]⟩, ?_, ?_⟩⟩
    · rw [List.getElem?_map, Array.getElem?_toList, ec]
      rfl
    · subst ev
      exact ⟨u, rfl⟩
theorem Src.inj (I : Inv X pins σ H s) {ys : List V} (h : S.at X.K H xs) (h' : S.at X.K H ys) : xs = ys := by
  cases S with
  | ls a => exact I.list_inj h h'
  | tp a => exact I.tuple_inj h h'
  | tx x => exact Eq.trans (show xs = _ from h) (show ys = _ from h').symm
theorem Src.below (I : Inv X pins σ H s) (h : S.at X.K H xs) : ∀ b ∈ S.fp, b < s.heap.objs.size := by
  cases S with
  | ls a =>
    obtain ⟨its, rv, p, hz⟩ := I.list h
    intro b hb
    have e : b = a := by simpa [Src.fp] using hb
    rw [e]
    exact p.lt
  | tp a =>
    obtain ⟨its, rv, p, hz⟩ := I.tuple h
    intro b hb
    have e : b = a := by simpa [Src.fp] using hb
    rw [e]
    obtain ⟨o, ho, _⟩ := p
    exact Heap.lt_size ho
  | tx x =>
    intro b hb
    cases hb
theorem Src.begins (I : Inv X pins σ H s) (h : S.at X.K H xs) {u : Value} (r : RelV S.val u) : ∃ t o Hh, Begins u o Hh ∧ Hh s.heap ∧ ∀ h' it, h'.get? it = some o → S.itr t h' it 0 := by
  cases S with
  | ls a =>
    obtain ⟨its, rv, p, hz⟩ := I.list h
    obtain rfl : u = Value.ref a := r
    exact ⟨0, _, _, begins_list a its.toArray, p.isList, fun h' it e => ⟨_, e, rfl, rfl⟩⟩
  | tp a =>
    obtain ⟨its, rv, p, hz⟩ := I.tuple h
    obtain rfl : u = Value.ref a := r
    exact ⟨0, _, _, begins_tuple a its.toArray, p, fun h' it e => ⟨_, e, rfl, rfl⟩⟩
  | tx x =>
    obtain ⟨t, rfl⟩ := r
    exact ⟨t, _, _, begins_text x t, trivial, fun h' it e => ⟨_, e, rfl, rfl⟩⟩
theorem Src.keep {h h' : Heap} {it : Addr} {i : Nat} (q : S.itr t h it i) (k : ∀ o, h.get? it = some o → h'.get? it = some o) : S.itr t h' it i := by
  cases S with
  | ls a => exact Heap.IsListIter.at q k
  | tp a => exact Heap.IsTupleIter.at q k
  | tx x =>
    obtain ⟨o, ho, r⟩ := q
    exact ⟨o, k o ho, r⟩
theorem Src.obj {h : Heap} {it : Addr} {i : Nat} (q : S.itr t h it i) : ∃ o, h.get? it = some o ∧ ∀ v, o.data ≠ .cell v := by
  cases S with
  | ls a =>
    obtain ⟨o, ho, _, d⟩ := q
    exact ⟨o, ho, fun v z => by rw [d] at z; cases z⟩
  | tp a =>
    obtain ⟨o, ho, _, d⟩ := q
    exact ⟨o, ho, fun v z => by rw [d] at z; cases z⟩
  | tx x =>
    obtain ⟨o, ho, _, d⟩ := q
    exact ⟨o, ho, fun v z => by rw [d] at z; cases z⟩
end
/-- zip(a, b) -/
def ItZ (K : PySem.W.Frag) (S1 S2 : Src) : It :=
  ⟨fun i H => ∃ (xs ys : List V) (x y : V), S1.at K H xs ∧ S2.at K H ys ∧ xs[i]? = some x ∧ ys[i]? = some y,
    fun i H v H' => ∃ T x y o, v = .ref T ∧ H T = none ∧ o.dict = none ∧ H' = upd H T (.frz o (.tup [x, y])) ∧ (∀ xs, S1.at K H xs → xs[i]? = some x) ∧ ∀ ys, S2.at K H ys → ys[i]? = some y,
    fun i H => ∃ xs ys : List V, S1.at K H xs ∧ S2.at K H ys ∧ i ≤ xs.length ∧ i ≤ ys.length ∧ (i = xs.length ∨ i = ys.length)⟩
/-- enumerate(a, k0) -/
def ItE (K : PySem.W.Frag) (k0 : Int) (S : Src) : It :=
  ⟨fun i H => ∃ (xs : List V) (x : V), S.at K H xs ∧ xs[i]? = some x,
    fun i H v H' => ∃ T x o, v = .ref T ∧ H T = none ∧ o.dict = none ∧ H' = upd H T (.frz o (.tup [.int (k0 + (i : Int)), x])) ∧ ∀ xs, S.at K H xs → xs[i]? = some x,
    fun i H => ∃ xs : List V, S.at K H xs ∧ i = xs.length⟩
section
variable {P : Program} {w : World} {K : PySem.W.Frag} {elts : List Expr} {kk : Nat} {tpos : Pos}
theorem turn_zipS (N : Addr) (S1 S2 : Src) (t1 t2 : Tok) (b1 : ∀ b ∈ S1.fp, b < N) (b2 : ∀ b ∈ S2.fp, b < N) :
    Turn P w K (.Tuple elts kk tpos) (ItZ K S1 S2) [N + 4, N + 2, N + 3, N, N + 1] (N + 4) (fun i h => IsZip h (N + 4) (N + 2) (N + 3) .none ∧ IsTupOf2 h (N + 2) (.ref N) (.ref (N + 1)) ∧ (∃ x y, IsTupOf2 h (N + 3) x y) ∧ S1.itr t1 h N i ∧ S2.itr t2 h (N + 1) i) := by
  have D := zip_sep2 b1 b2
  refine ⟨by simp, fun i h st c hc => ?_, fun i h h' st k => ?_, ?_, ?_, fun A i s Q E st h => wpAny_pyIter_zip st.1 h⟩
  · obtain ⟨hz, hTI, ⟨x, y, hTO⟩, h1, h2⟩ := st
    have e' : c = N + 4 ∨ c = N + 2 ∨ c = N + 3 ∨ c = N ∨ c = N + 1 := by simpa using hc
    rcases e' with q | q | q | q | q
    · rw [q]; exact ⟨_, hz, fun v q => nomatch q⟩
    · rw [q]; exact ⟨_, hTI, fun v q => nomatch q⟩
    · rw [q]; exact ⟨_, hTO, fun v q => nomatch q⟩
    · rw [q]; exact Src.obj h1
    · rw [q]; exact Src.obj h2
  · obtain ⟨hz, hTI, ⟨x, y, hTO⟩, h1, h2⟩ := st
    exact ⟨k _ (by simp) _ hz, k _ (by simp) _ hTI, ⟨x, y, k _ (by simp) _ hTO⟩, Src.keep h1 fun o q => k _ (by simp) o q, Src.keep h2 fun o q => k _ (by simp) o q⟩
  · intro X hP hw hK hc i pins s σ H E I hf st hg
    subst hP hw hK
    obtain ⟨hz, hTI, ⟨x0, y0, hTO⟩, h1, h2⟩ := st
    obtain ⟨xs, ys, x, y, hqx, hqy, hx, hy⟩ := hg
    obtain ⟨n1, Y1, St1, d1⟩ := Src.data (t := t1) (it := N) I (I.ok.hd hc) (fun b hb => Nat.ne_of_lt (b1 b hb)) hqx
    obtain ⟨n2, Y2, St2, d2⟩ := Src.data (t := t2) (it := N + 1) I (I.ok.hd hc) (fun b hb => Nat.ne_of_lt (Nat.lt_succ_of_lt (b2 b hb))) hqy
    have i1 : i < n1 := by rw [d1.len]; exact (List.getElem?_eq_some_iff.mp hx).1
    have i2 : i < n2 := by rw [d2.len]; exact (List.getElem?_eq_some_iff.mp hy).1
    have lt : ∀ c ∈ [N + 4, N + 2, N + 3, N, N + 1], c < s.heap.objs.size := fun c hcm => by
      have e' : c = N + 4 ∨ c = N + 2 ∨ c = N + 3 ∨ c = N ∨ c = N + 1 := by simpa using hcm
      rcases e' with q | q | q | q | q
      · rw [q]; exact Heap.lt_size hz
      · rw [q]; exact Heap.lt_size hTI
      · rw [q]; exact Heap.lt_size hTO
      · rw [q]; obtain ⟨_, e1, _⟩ := Src.obj h1; exact Heap.lt_size e1
      · rw [q]; obtain ⟨_, e2, _⟩ := Src.obj h2; exact Heap.lt_size e2
    refine wpAny_pyNext_zipD2_item D d1.dr d2.dr hz hTI hTO (d1.fwd i h1) (d2.fwd i h2) i1 i2 fun x1 x2 h' tk y1 y2 z' TO' s1 s2 hT hsz hk => ?_
    obtain ⟨x', ex, rx⟩ := d1.val i x1 y1
    obtain ⟨y', ey, ry⟩ := d2.val i x2 y2
    rw [hx] at ex
    cases ex
    rw [hy] at ey
    cases ey
    refine ⟨_, rfl, wpAny_letOwnedTupleGo_zip (s := { s with heap := h', toks := tk }) z' fun h'' z'' sb => ?_⟩
    have hT2 : h''.get? s.heap.objs.size = some { cls := .type "tuple", data := .seq #[x1, x2] } := (sb.2 _ (Nat.ne_of_gt (Heap.lt_size hz))).trans hT
    have I1 : Inv X pins σ (upd H s.heap.objs.size (.frz { cls := .type "tuple", data := .seq #[x1, x2] } (.tup [x, y]))) { s with heap := h'', toks := tk } :=
      I.turnedNew (t' := tk) (ch := [N + 4, N + 2, N + 3, N, N + 1]) (fun c o hb q => (sb.2 c (fun q' => hb (by simp [q']))).trans (hk c o (fun q' => hb (by simp [q'])) (fun q' => hb (by simp [q'])) (fun q' => hb (by simp [q'])) (fun q' => hb (by simp [q'])) q)) hf (Nat.le_refl _)
        ⟨hT2, by show 2 ≤ sizeLine; decide, [x1, x2], .cons rx (.cons ry .nil), ⟨_, hT2, rfl, _, rfl⟩⟩
    refine ⟨.ref s.heap.objs.size, _, I1, rfl, ⟨_, x, y, _, rfl, I.hok.fresh (Nat.le_refl _), rfl, rfl, fun l hl => by rw [Src.inj I hl hqx]; exact hx, fun l hl => by rw [Src.inj I hl hqy]; exact hy⟩, ⟨z'', ?_, ⟨x1, x2, ?_⟩, ?_, ?_⟩, fun c hcm => ?_⟩
    · exact (sb.2 _ D.TIz).trans (hk _ _ D.TIz D.TITO D.TIi1 D.TIi2 hTI)
    · exact (sb.2 _ D.TOz).trans TO'
    · exact Src.keep (d1.bwd _ _ s1) fun o q => (sb.2 _ D.zi1.symm).trans q
    · exact Src.keep (d2.bwd _ _ s2) fun o q => (sb.2 _ D.zi2.symm).trans q
    · rw [upd_ne (Nat.ne_of_lt (lt c hcm))]
      exact (hf c hcm).1
  · intro X hP hw hK hc i pins s σ H E I hf st hg
    subst hP hw hK
    obtain ⟨hz, hTI, ⟨x0, y0, hTO⟩, h1, h2⟩ := st
    obtain ⟨xs, ys, hqx, hqy, l1, l2, hend⟩ := hg
    obtain ⟨n1, Y1, St1, d1⟩ := Src.data (t := t1) (it := N) I (I.ok.hd hc) (fun b hb => Nat.ne_of_lt (b1 b hb)) hqx
    obtain ⟨n2, Y2, St2, d2⟩ := Src.data (t := t2) (it := N + 1) I (I.ok.hd hc) (fun b hb => Nat.ne_of_lt (Nat.lt_succ_of_lt (b2 b hb))) hqy
    exact wpAny_pyNext_zipD2_end D d1.dr d2.dr hz hTI hTO (d1.fwd i h1) (d2.fwd i h2) (by rw [d1.len]; exact l1) (by rw [d2.len]; exact l2) (by rw [d1.len, d2.len]; exact hend) fun h' tk hk =>
      ⟨rfl, I.turnedL (t' := tk) (ch := [N + 4, N + 2, N + 3, N, N + 1]) (fun c o hb q => hk c o (fun q' => hb (by simp [q'])) (fun q' => hb (by simp [q'])) (fun q' => hb (by simp [q'])) (fun q' => hb (by simp [q'])) q) hf⟩
theorem turn_enumS (N : Addr) (k0 : Int) (S : Src) (t : Tok) (b1 : ∀ b ∈ S.fp, b < N) :
    Turn P w K (.Tuple elts kk tpos) (ItE K k0 S) [N + 1, N] (N + 1) (fun i h => (∃ old, IsEnum h (N + 1) N (k0 + (i : Int)) old) ∧ S.itr t h N i) := by
  have hne : N + 1 ≠ N := Nat.succ_ne_self N
  have hef : N + 1 ∉ N :: S.fp := fun hm => by
    rcases List.mem_cons.mp hm with e | e
    · exact hne e
    · exact absurd (b1 _ e) (Nat.not_lt.mpr (Nat.le_succ N))
  refine ⟨by simp, fun i h st c hc => ?_, fun i h h' st k => ?_, ?_, ?_, fun A i s Q E st h => let ⟨⟨_, he⟩, _⟩ := st; wpAny_pyIter_enum he h⟩
  · obtain ⟨⟨old, he⟩, h1⟩ := st
    have e' : c = N + 1 ∨ c = N := by simpa using hc
    rcases e' with q | q
    · rw [q]; exact ⟨_, he, fun v q => nomatch q⟩
    · rw [q]; exact Src.obj h1
  · obtain ⟨⟨old, he⟩, h1⟩ := st
    exact ⟨⟨old, k _ (by simp) _ he⟩, Src.keep h1 fun o q => k _ (by simp) o q⟩
  · intro X hP hw hK hc i pins s σ H E I hf st hg
    subst hP hw hK
    obtain ⟨⟨old, he⟩, h1⟩ := st
    obtain ⟨xs, x, hqx, hx⟩ := hg
    obtain ⟨n1, Y1, St1, d1⟩ := Src.data (t := t) (it := N) I (I.ok.hd hc) (fun b hb => Nat.ne_of_lt (b1 b hb)) hqx
    have i1 : i < n1 := by rw [d1.len]; exact (List.getElem?_eq_some_iff.mp hx).1
    refine wpAny_pyNext_enum_itemC d1.dr he (d1.fwd i h1) i1 hne hef fun x1 h' tk y1 ho s1 hT hsz hk => ?_
    obtain ⟨x', ex, rx⟩ := d1.val i x1 y1
    rw [hx] at ex
    cases ex
    have hel : N + 1 < s.heap.objs.size := Heap.lt_size he
    refine ⟨_, rfl, wpAny_letOwnedTupleGo_enum (s := { s with heap := h', toks := tk + 1 }) ho fun h'' he' sb => ?_⟩
    have hT2 : h''.get? s.heap.objs.size = some { cls := .type "tuple", data := .seq #[.int (k0 + (i : Int)) tk, x1] } := (sb.2 _ (Nat.ne_of_gt hel)).trans hT
    have I1 : Inv X pins σ (upd H s.heap.objs.size (.frz { cls := .type "tuple", data := .seq #[.int (k0 + (i : Int)) tk, x1] } (.tup [.int (k0 + (i : Int)), x]))) { s with heap := h'', toks := tk + 1 } :=
      I.turnedNew (t' := tk + 1) (ch := [N + 1, N]) (fun b ob hb q => (sb.2 b (fun z => hb (by simp [z]))).trans (hk b ob (fun z => hb (by simp [z])) (fun z => hb (by simp [z])) q)) hf (Nat.le_refl _)
        ⟨hT2, by show 2 ≤ sizeLine; decide, [.int (k0 + (i : Int)) tk, x1], .cons ⟨_, rfl⟩ (.cons rx .nil), ⟨_, hT2, rfl, _, rfl⟩⟩
    refine ⟨.ref s.heap.objs.size, _, I1, rfl, ⟨_, x, _, rfl, I.hok.fresh (Nat.le_refl _), rfl, rfl, fun l hl => by rw [Src.inj I hl hqx]; exact hx⟩, ⟨⟨x1, ?_⟩, ?_⟩, fun c hcm => ?_⟩
    · have e1 : k0 + ((i + 1 : Nat) : Int) = k0 + (i : Int) + 1 := by omega
      rw [e1]
      exact he'
    · exact Src.keep (d1.bwd _ _ s1) fun o q => (sb.2 _ hne.symm).trans q
    · have hlt : c < s.heap.objs.size := by
        have e' : c = N + 1 ∨ c = N := by simpa using hcm
        rcases e' with q | q
        · rw [q]; exact hel
        · rw [q]; exact Nat.lt_of_succ_lt hel
      rw [upd_ne (Nat.ne_of_lt hlt)]
      exact (hf c hcm).1
  · intro X hP hw hK hc i pins s σ H E I hf st hg
    subst hP hw hK
    obtain ⟨⟨old, he⟩, h1⟩ := st
    obtain ⟨xs, hqx, e⟩ := hg
    obtain ⟨n1, Y1, St1, d1⟩ := Src.data (t := t) (it := N) I (I.ok.hd hc) (fun b hb => Nat.ne_of_lt (b1 b hb)) hqx
    obtain ⟨f0, f1, f2, f3, f4, f5⟩ := hf N (by simp)
    have e2 : i = n1 := by rw [d1.len]; exact e
    exact wpAny_pyNext_enum_endD d1.dr he (by rw [← e2]; exact d1.fwd i h1) fun h' eb => ⟨rfl, I.turned (t' := s.toks) (fun b o hb q => eb b o hb q) f0 f1 f3 f4 f5⟩
end
section
variable {X : Cx} {elts : List Expr} {kk : Nat} {tpos p pos : Pos} {e e2 : Expr} {ta : TA}
def iZipS (K : PySem.W.Frag) (ta : TA) : TI := fun σ H R => ta σ H fun vs H1 => ∃ (S1 S2 : Src) (xs ys : List V), vs = [S1.val, S2.val] ∧ S1.at K H1 xs ∧ S2.at K H1 ys ∧ R (ItZ K S1 S2) H1
theorem pi_zipS (hg : Gl X "zip") (hm : X.mg "zip" = none) (ha : PA X [e, e2] ta)
    (hs : starEach [e, e2] X.env = (false, eval e X.env) :: starEach [e2] X.env := by rfl) (hpl : (backTo pos (starEach [e2] X.env)).any (·.1) = false := by rfl) :
    PI X (.Tuple elts kk tpos) (.Call (.Name "zip" p) [e, e2] [] pos) (iZipS X.K ta) := by
  refine ⟨fun pins s σ H R I h => ?_⟩
  refine Call_ (ld_blt I hg hm PyProof.Rows.boot_zip (PyProof.Rows.callWith_type1 (thn (ha.run pos pins s σ H _ I h) fun us s1 ⟨vs, H1, I1, r1, q1⟩ => ?_) hs hpl))
  obtain ⟨S1, S2, xs, ys, ex, hqx, hqy, q⟩ := q1
  subst ex
  cases r1 with
  | cons r rr =>
    cases rr with
    | cons r' rr =>
      cases rr
      obtain ⟨t1, o1, K1, B1, k1, g1⟩ := Src.begins I1 hqx r
      obtain ⟨t2, o2, K2, B2, k2, g2⟩ := Src.begins I1 hqy r'
      refine zip_begins2 B1 B2 k1 k2 fun h' hz hTI hTO e1 e2 hsz hk => wpAny_pyIter_zip hz ?_
      have I2 : Inv X pins σ H1 { s1 with heap := h' } := I1.kept (t' := s1.toks) hk
      refine ⟨s1.heap.objs.size + 4, [s1.heap.objs.size + 4, s1.heap.objs.size + 2, s1.heap.objs.size + 3, s1.heap.objs.size, s1.heap.objs.size + 1], _, _, H1, rfl, I2, turn_zipS s1.heap.objs.size S1 S2 t1 t2 (Src.below I1 hqx) (Src.below I1 hqy), ⟨hz, hTI, ⟨_, _, hTO⟩, g1 _ _ e1, g2 _ _ e2⟩, fun c hcm => ?_, q⟩
      have e' : c = s1.heap.objs.size + 4 ∨ c = s1.heap.objs.size + 2 ∨ c = s1.heap.objs.size + 3 ∨ c = s1.heap.objs.size ∨ c = s1.heap.objs.size + 1 := by simpa using hcm
      have hle : s1.heap.objs.size ≤ c := by
        rcases e' with z | z | z | z | z
        · rw [z]; exact Nat.le_add_right _ _
        · rw [z]; exact Nat.le_add_right _ _
        · rw [z]; exact Nat.le_add_right _ _
        · rw [z]; exact Nat.le_refl _
        · rw [z]; exact Nat.le_add_right _ _
      exact I1.fpOk hle (I1.hok.fresh hle)
theorem meets_enum1 {v : Value} {o : Obj} {Hh : Heap → Prop} (B : Begins v o Hh) :
    Meets (Builtin.«enumerate.__new__» ⟨[.type "enumerate", v], []⟩) (fun _ R s => Hh s.heap ∧
      R (.ok (.ret (.ref (s.heap.push o).objs.size))) { s with heap := (s.heap.push o).push { cls := .type "enumerate", data := .fields #[.none, .bool false, .ref s.heap.objs.size, rawInt 0, .none, .none] } }) :=
  .of_wp fun prog w A R s h => by
    obtain ⟨hp, g, d, tk, os⟩ := s; obtain ⟨h1, h⟩ := h
    have hsub := sub_enumerate
    have q1 : ∀ {A' : Around} {E : Value → Shared → Prop} {Q : Value → Shared → Prop}, Q (.ref hp.objs.size) ⟨hp.push o, g, d, tk, os⟩ → wpAny (model prog w) A' (pyIter v) Q E ⟨hp, g, d, tk, os⟩ :=
      fun q => B.iter prog w _ _ ⟨hp, g, d, tk, os⟩ _ h1 q
    wp_walk using q1
    refine wpAny_stack_any fun st => wpAny_pure ?_
    split
    · rename_i c _ _ _ _ _
      cases (c == Value.type "enumerate")
      · wp_walk using q1
        exact ⟨_, rfl, h⟩
      · wp_walk using q1
        exact ⟨_, rfl, h⟩
    · wp_walk using q1
      exact ⟨_, rfl, h⟩
theorem enum_begins1 {prog : Program} {w : World} {A : Around} {E : Value → Shared → Prop} {s : Shared} {v : Value} {o : Obj} {Hh : Heap → Prop} {Q : Value → Shared → Prop} (B : Begins v o Hh) (h1 : Hh s.heap)
    (h : ∀ h', IsEnum h' (s.heap.objs.size + 1) s.heap.objs.size 0 .none → h'.get? s.heap.objs.size = some o → (∀ b o, s.heap.get? b = some o → h'.get? b = some o) → Q (.ref (s.heap.objs.size + 1)) { s with heap := h' }) :
    wpAny (model prog w) A (call (.type "enumerate") [v]) Q E s := by
  refine callType_new F.called_enumerate (by decide) (F.typeCall_enumerate_1 _) (F.newCall_enumerate_1 _) (fun obj => F.args_object_init_2 obj _) F.entry_enumerate_new
    (meets_enum1 B) ⟨h1, ?_⟩
  have hz : (s.heap.push o).objs.size = s.heap.objs.size + 1 := Heap.size_push ..
  show _ ∧ _
  rw [hz]
  have he : IsEnum ((s.heap.push o).push { cls := .type "enumerate", data := .fields #[.none, .bool false, .ref s.heap.objs.size, rawInt 0, .none, .none] }) (s.heap.objs.size + 1) s.heap.objs.size 0 .none := by
    have := Heap.get?_push_size (s.heap.push o) (o := { cls := .type "enumerate", data := .fields #[.none, .bool false, .ref s.heap.objs.size, rawInt 0, .none, .none] }) rfl
    rw [hz] at this; exact this
  exact ⟨⟨_, he, rfl⟩, h _ he (Heap.get?_push_of_some _ (Heap.get?_push_size _ B.free)) fun b o x => Heap.get?_push_of_some _ (Heap.get?_push_of_some _ x)⟩
def iEnumS (K : PySem.W.Frag) (ta : TA) : TI := fun σ H R => ta σ H fun vs H1 => ∃ (S : Src) (xs : List V), vs = [S.val] ∧ S.at K H1 xs ∧ R (ItE K 0 S) H1
theorem pi_enumS (hg : Gl X "enumerate") (hm : X.mg "enumerate" = none) (ha : PA X [e] ta) (hs : starEach [e] X.env = [(false, eval e X.env)] := by rfl) :
    PI X (.Tuple elts kk tpos) (.Call (.Name "enumerate" p) [e] [] pos) (iEnumS X.K ta) := by
  refine ⟨fun pins s σ H R I h => ?_⟩
  refine Call_ (ld_blt I hg hm boot_enumerate (PyProof.Rows.callWith_type1 (thn (ha.run pos pins s σ H _ I h) fun us s1 ⟨vs, H1, I1, r1, q1⟩ => ?_) hs rfl))
  obtain ⟨S, xs, ex, hq, q⟩ := q1
  subst ex
  cases r1 with
  | cons r rr =>
    cases rr
    obtain ⟨t, o, K1, B, k1, g⟩ := Src.begins I1 hq r
    refine enum_begins1 B k1 fun h' he e1 hk => wpAny_pyIter_enum he ?_
    have I2 : Inv X pins σ H1 { s1 with heap := h' } := I1.kept (t' := s1.toks) hk
    refine ⟨s1.heap.objs.size + 1, [s1.heap.objs.size + 1, s1.heap.objs.size], _, _, H1, rfl, I2, turn_enumS s1.heap.objs.size 0 S t (Src.below I1 hq), ⟨⟨.none, by simpa using he⟩, g _ _ e1⟩, fun b hb => ?_, q⟩
    have e' : b = s1.heap.objs.size + 1 ∨ b = s1.heap.objs.size := by simpa using hb
    have hle : s1.heap.objs.size ≤ b := by
      rcases e' with z | z
      · rw [z]; exact Nat.le_add_right _ _
      · rw [z]; exact Nat.le_refl _
    exact I1.fpOk hle (I1.hok.fresh hle)
end
end TL
set_option Elab.async false
set_option linter.all false
set_option maxRecDepth 100000
set_option autoImplicit false
/-! TL0: trees as values, what represents them, the relation of slots, heap and frozen heap -/
namespace TL
open PySem PySem.Spec PyProof.Rows L2

/-- the kinds of keys of a dict: ints and texts; tuples, nested ones too -/
inductive DK where
  | flat | tup
  deriving DecidableEq
inductive T where
  | non | bl (b : Bool) | int (i : Int) | str (x : Str) | tup (xs : List T) | lst (xs : List T) | dic (k : DK) (kvs : List (T × T)) | raw (v : V)

/-- where one stands: the program, the world, the written part -/
structure Bx where
  P : Program
  w : World
  K : PySem.W.Frag
abbrev bx (X : Cx) : Bx := ⟨X.prog, X.w, X.K⟩
/-- a dict whose keys are tuples: the keys, where they stand, the values -/
def DxO (P : Program) (w : World) (a : Addr) (xs : List (NestedKey × Addr × V)) : HO := .ext fun h => (a == sysModules) = false ∧ xs.length ≤ sizeLine ∧
  ∃ (ys : List (NestedKey × Addr × Value)) (o : Obj) (es : Array DictEntry) (ep : Nat), Paired (fun (p : NestedKey × Addr × V) (q : NestedKey × Addr × Value) => p.1 = q.1 ∧ p.2.1 = q.2.1 ∧ RelV p.2.2 q.2.2) xs ys ∧
    h.get? a = some o ∧ o.ExactDict ∧ o.data = .dict es ep ∧ es.toList = ys.map (entryOfKey (nestedKind P w)) ∧ (ys.map (·.1)).Nodup
mutual
/-- a key of such a dict, of a tree -/
def nk : T → NestedKey
  | .non => .none | .bl b => .num (if b = true then 1 else 0) | .int i => .num i | .str x => .text x | .tup xs => .tup (nks xs) | _ => .none
def nks : List T → List NestedKey
  | [] => []
  | x :: xs => nk x :: nks xs
end
mutual
def nkOk : Nat → T → Bool
  | _, .non => true | _, .bl _ => true | _, .int _ => true | _, .str _ => true
  | 0, .tup _ => false
  | n + 1, .tup xs => nksOk n xs
  | _, .lst _ => false | _, .dic _ _ => false | _, .raw _ => false
def nksOk : Nat → List T → Bool
  | _, [] => true
  | n, x :: xs => nkOk n x && nksOk n xs
end
def isTupT : T → Bool
  | .tup _ => true
  | _ => false
/-- a key of a flat dict as a tree -/
def kT : Key → T
  | .inl i => .int i
  | .inr x => .str x

/-- an object without a dict of its own -/
def NoD (K : PySem.W.Frag) (F : Hp) (a : Addr) : Prop := (∃ o u, F a = some (.frz o u) ∧ o.dict = none) ∨ ∃ o, K.lookup a = some o ∧ o.dict = none
mutual
inductive Rp (K : Bx) (F : Hp) : V → T → Prop
  | non : Rp K F .non .non
  | bl (b : Bool) : Rp K F (.bl b) (.bl b)
  | int (i : Int) : Rp K F (.int i) (.int i)
  | str (x : Str) : Rp K F (.str x) (.str x)
  | tup {a : Addr} {vs : List V} {xs : List T} : SqT K.K F a vs → NoD K.K F a → RpAll K F vs xs → Rp K F (.ref a) (.tup xs)
  | lst {a : Addr} {vs : List V} {xs : List T} : F a = some (.lst vs) → RpAll K F vs xs → Rp K F (.ref a) (.lst xs)
  | dk {a : Addr} {l : List (Key × V)} {kvs : List (T × T)} : Rd F a (.dK l) → RpKv K F (l.map fun p => (kT p.1, p.2)) kvs → Rp K F (.ref a) (.dic .flat kvs)
  | dt {a : Addr} {l : List (NestedKey × Addr × V)} {kvs : List (T × T)} : Rd F a (DxO K.P K.w a l) → RpNk K F l kvs → Rp K F (.ref a) (.dic .tup kvs)
  | raw (v : V) : Rp K F v (.raw v)
inductive RpAll (K : Bx) (F : Hp) : List V → List T → Prop
  | nil : RpAll K F [] []
  | cons {v : V} {vs : List V} {x : T} {xs : List T} : Rp K F v x → RpAll K F vs xs → RpAll K F (v :: vs) (x :: xs)
inductive RpKv (K : Bx) (F : Hp) : List (T × V) → List (T × T) → Prop
  | nil : RpKv K F [] []
  | cons {k : T} {v : V} {x : T} {r : List (T × V)} {s : List (T × T)} : Rp K F v x → RpKv K F r s → RpKv K F ((k, v) :: r) ((k, x) :: s)
inductive RpNk (K : Bx) (F : Hp) : List (NestedKey × Addr × V) → List (T × T) → Prop
  | nil : RpNk K F [] []
  | cons {b : Addr} {v : V} {y x : T} {r : List (NestedKey × Addr × V)} {s : List (T × T)} : isTupT y = true → nkOk 8 y = true → Rp K F (.ref b) y → Rp K F v x → RpNk K F r s → RpNk K F ((nk y, b, v) :: r) ((y, x) :: s)
end

/-- dicts may be locked -/
def dkO : HO → Bool
  | .dK _ => true
  | .ext _ => true
  | _ => false
/-- what stands in F stands in H; a dict may have been locked since -/
def Sub (F H : Hp) : Prop := ∀ a o, F a = some o → H a = some o ∨ (dkO o = true ∧ ∃ od, H a = some (.frz od o))
theorem Sub.at {F H : Hp} (h : Sub F H) {a : Addr} {o : HO} (e : F a = some o) (n : dkO o = false := by rfl) : H a = some o := by
  rcases h a o e with q | ⟨q, _⟩
  · exact q
  · rw [n] at q; cases q
theorem Sub.refl {F : Hp} : Sub F F := fun _ _ h => .inl h
theorem Sub.of {F H : Hp} (h : ∀ a o, F a = some o → H a = some o) : Sub F H := fun a o e => .inl (h a o e)
theorem Sub.trans {F G H : Hp} (h : Sub F G) (k : Sub G H) : Sub F H := fun a o e => by
  rcases h a o e with q | ⟨q, od, e2⟩
  · exact k a o q
  · exact .inr ⟨q, od, k.at e2⟩
theorem Sub.some {F H : Hp} (h : Sub F H) {a : Addr} {o : HO} (e : F a = some o) : ∃ u, H a = some u := by
  rcases h a o e with q | ⟨_, od, q⟩
  · exact ⟨_, q⟩
  · exact ⟨_, q⟩
theorem Sub.rd {F H : Hp} (h : Sub F H) {a : Addr} {u : HO} (r : Rd F a u) : Rd H a u := by
  rcases r with r | ⟨o, r⟩
  · rcases h _ _ r with q | ⟨_, od, q⟩
    · exact .inl q
    · exact .inr ⟨od, q⟩
  · exact .inr ⟨o, h.at r⟩
theorem Sub.sqT {K : PySem.W.Frag} {F H : Hp} (h : Sub F H) {a : Addr} {xs : List V} (r : SqT K F a xs) : SqT K H a xs := by
  rcases r with r | r
  · exact .inl (h.rd r)
  · exact .inr r
theorem Sub.sqL {K : PySem.W.Frag} {F H : Hp} (h : Sub F H) {a : Addr} {xs : List V} (r : SqL K F a xs) : SqL K H a xs := by
  rcases r with r | r
  · exact .inl (h.rd r)
  · exact .inr r
theorem Sub.noD {K : PySem.W.Frag} {F H : Hp} (h : Sub F H) {a : Addr} (n : NoD K F a) : NoD K H a := by
  rcases n with ⟨o, u, e, d⟩ | n
  · exact .inl ⟨o, u, h.at e, d⟩
  · exact .inr n
mutual
theorem Rp.mono {K : Bx} {F H : Hp} (h : Sub F H) : ∀ {v : V} {t : T}, Rp K F v t → Rp K H v t
  | _, _, .non => .non
  | _, _, .bl b => .bl b
  | _, _, .int i => .int i
  | _, _, .str x => .str x
  | _, _, .tup s n r => .tup (h.sqT s) (h.noD n) (RpAll.mono h r)
  | _, _, .lst s r => .lst (h.at s) (RpAll.mono h r)
  | _, _, .dk s r => .dk (h.rd s) (RpKv.mono h r)
  | _, _, .dt s r => .dt (h.rd s) (RpNk.mono h r)
  | _, _, .raw v => .raw v
theorem RpAll.mono {K : Bx} {F H : Hp} (h : Sub F H) : ∀ {vs : List V} {ts : List T}, RpAll K F vs ts → RpAll K H vs ts
  | _, _, .nil => .nil
  | _, _, .cons a r => .cons (Rp.mono h a) (RpAll.mono h r)
theorem RpKv.mono {K : Bx} {F H : Hp} (h : Sub F H) : ∀ {vs : List (T × V)} {ts : List (T × T)}, RpKv K F vs ts → RpKv K H vs ts
  | _, _, .nil => .nil
  | _, _, .cons a r => .cons (Rp.mono h a) (RpKv.mono h r)
theorem RpNk.mono {K : Bx} {F H : Hp} (h : Sub F H) : ∀ {vs : List (NestedKey × Addr × V)} {ts : List (T × T)}, RpNk K F vs ts → RpNk K H vs ts
  | _, _, .nil => .nil
  | _, _, .cons a b c d r => .cons a b (Rp.mono h c) (Rp.mono h d) (RpNk.mono h r)
end
theorem RpAll.length {K : Bx} {F : Hp} : ∀ {vs : List V} {ts : List T}, RpAll K F vs ts → vs.length = ts.length
  | _, _, .nil => rfl
  | _, _, .cons _ r => by rw [List.length_cons, List.length_cons, RpAll.length r]
theorem RpAll.append {K : Bx} {F : Hp} : ∀ {vs ws : List V} {ts us : List T}, RpAll K F vs ts → RpAll K F ws us → RpAll K F (vs ++ ws) (ts ++ us)
  | _, _, _, _, .nil, q => q
  | _, _, _, _, .cons a r, q => .cons a (RpAll.append r q)
theorem RpAll.get {K : Bx} {F : Hp} : ∀ {vs : List V} {ts : List T} {i : Nat} {t : T}, RpAll K F vs ts → ts[i]? = some t → ∃ v, vs[i]? = some v ∧ Rp K F v t
  | _, _, _, _, .nil, e => by simp at e
  | _, _, 0, _, .cons a r, e => by
    simp at e
    subst e
    exact ⟨_, rfl, a⟩
  | _, _, i + 1, _, .cons a r, e => by
    obtain ⟨v, h1, h2⟩ := RpAll.get (i := i) r (by simpa using e)
    exact ⟨v, by simpa using h1, h2⟩
theorem RpAll.get' {K : Bx} {F : Hp} : ∀ {vs : List V} {ts : List T} {i : Nat} {v : V}, RpAll K F vs ts → vs[i]? = some v → ∃ t, ts[i]? = some t ∧ Rp K F v t
  | _, _, _, _, .nil, e => by simp at e
  | _, _, 0, _, .cons a r, e => by
    simp at e
    subst e
    exact ⟨_, rfl, a⟩
  | _, _, i + 1, _, .cons a r, e => by
    obtain ⟨v, h1, h2⟩ := RpAll.get' (i := i) r (by simpa using e)
    exact ⟨v, by simpa using h1, h2⟩
theorem RpAll.drop {K : Bx} {F : Hp} : ∀ {vs : List V} {ts : List T} (n : Nat), RpAll K F vs ts → RpAll K F (vs.drop n) (ts.drop n)
  | _, _, 0, r => r
  | _, _, _ + 1, .nil => .nil
  | _, _, n + 1, .cons _ r => RpAll.drop n r
theorem RpAll.take {K : Bx} {F : Hp} : ∀ {vs : List V} {ts : List T} (n : Nat), RpAll K F vs ts → RpAll K F (vs.take n) (ts.take n)
  | _, _, 0, r => .nil
  | _, _, _ + 1, .nil => .nil
  | _, _, n + 1, .cons a r => .cons a (RpAll.take n r)
theorem RpAll.set {K : Bx} {F : Hp} {v : V} {t : T} (h : Rp K F v t) : ∀ {vs : List V} {ts : List T} (n : Nat), RpAll K F vs ts → RpAll K F (vs.set n v) (ts.set n t)
  | _, _, _, .nil => .nil
  | _, _, 0, .cons _ r => .cons h r
  | _, _, n + 1, .cons a r => .cons a (RpAll.set h n r)
theorem RpAll.replicate {K : Bx} {F : Hp} {v : V} {t : T} (h : Rp K F v t) : ∀ n : Nat, RpAll K F (List.replicate n v) (List.replicate n t)
  | 0 => .nil
  | n + 1 => .cons h (RpAll.replicate h n)
theorem RpAll.mem {K : Bx} {F : Hp} {vs : List V} {ts : List T} (r : RpAll K F vs ts) {t : T} (h : t ∈ ts) : ∃ v, v ∈ vs ∧ Rp K F v t := by
  obtain ⟨i, hi, e⟩ := List.getElem_of_mem h
  obtain ⟨v, e1, h1⟩ := r.get (i := i) (t := t) (by rw [List.getElem?_eq_getElem hi, e])
  exact ⟨v, List.mem_of_getElem? e1, h1⟩
theorem RpKv.length {K : Bx} {F : Hp} : ∀ {vs : List (T × V)} {ts : List (T × T)}, RpKv K F vs ts → vs.length = ts.length
  | _, _, .nil => rfl
  | _, _, .cons _ r => by rw [List.length_cons, List.length_cons, RpKv.length r]

/-! ### data: trees without dicts and raw values -/
mutual
def T.toD : T → PyData
  | .non => .none | .bl b => .bool b | .int i => .int i | .str x => .str x
  | .tup xs => .tuple (T.toDs xs) | .lst xs => .list (T.toDs xs) | .dic _ _ => .none | .raw _ => .none
def T.toDs : List T → List PyData
  | [] => []
  | x :: xs => x.toD :: T.toDs xs
end
mutual
/-- data of depth at most n whose texts are right -/
def T.fit : Nat → T → Bool
  | _, .non => true | _, .bl _ => true | _, .int _ => true | _, .str x => PyData.strOk x
  | 0, .tup _ => false | 0, .lst _ => false
  | n + 1, .tup xs => T.fits n xs
  | n + 1, .lst xs => T.fits n xs
  | _, .dic _ _ => false | _, .raw _ => false
def T.fits : Nat → List T → Bool
  | _, [] => true
  | n, x :: xs => T.fit n x && T.fits n xs
end
theorem fits_all (n : Nat) : ∀ xs : List T, T.fits n xs = xs.all (T.fit n)
  | [] => by rw [T.fits]; rfl
  | x :: xs => by rw [T.fits, List.all_cons, fits_all n xs]
theorem toDs_map : ∀ xs : List T, T.toDs xs = xs.map T.toD
  | [] => by rw [T.toDs]; rfl
  | x :: xs => by rw [T.toDs, List.map_cons, toDs_map xs]
@[simp] theorem fit_tup (n : Nat) (xs : List T) : T.fit (n + 1) (.tup xs) = xs.all (T.fit n) := by rw [T.fit, fits_all]
@[simp] theorem fit_lst (n : Nat) (xs : List T) : T.fit (n + 1) (.lst xs) = xs.all (T.fit n) := by rw [T.fit, fits_all]
@[simp] theorem fit_int (n : Nat) (i : Int) : T.fit n (.int i) = true := by cases n <;> rw [T.fit]
@[simp] theorem fit_bl (n : Nat) (i : Bool) : T.fit n (.bl i) = true := by cases n <;> rw [T.fit]
@[simp] theorem fit_non (n : Nat) : T.fit n .non = true := by cases n <;> rw [T.fit]
@[simp] theorem fit_str (n : Nat) (x : Str) : T.fit n (.str x) = PyData.strOk x := by cases n <;> rw [T.fit]
@[simp] theorem toD_tup (xs : List T) : T.toD (.tup xs) = .tuple (xs.map T.toD) := by rw [T.toD, toDs_map]
@[simp] theorem toD_lst (xs : List T) : T.toD (.lst xs) = .list (xs.map T.toD) := by rw [T.toD, toDs_map]
@[simp] theorem toD_int (i : Int) : T.toD (.int i) = .int i := by rw [T.toD]
@[simp] theorem toD_bl (i : Bool) : T.toD (.bl i) = .bool i := by rw [T.toD]
@[simp] theorem toD_non : T.toD .non = .none := by rw [T.toD]
@[simp] theorem toD_str (x : Str) : T.toD (.str x) = .str x := by rw [T.toD]

mutual
theorem fit_lay : ∀ (n : Nat) (t : T), T.fit n t = true → t.toD.canLay0 = true ∧ t.toD.depth ≤ n
  | n, .non, _ => by simp [PyData.canLay0, PyData.depth]
  | n, .bl _, _ => by simp [PyData.canLay0, PyData.depth]
  | n, .int _, _ => by simp [PyData.canLay0, PyData.depth]
  | n, .str x, h => by
    rw [fit_str] at h
    simp [PyData.canLay0, PyData.depth, h]
  | 0, .tup xs, h => by rw [T.fit] at h; cases h
  | 0, .lst xs, h => by rw [T.fit] at h; cases h
  | n + 1, .tup xs, h => by
    rw [T.fit] at h
    have q := fits_lay n xs h
    rw [T.toD]
    simp only [PyData.canLay0, PyData.depth]
    exact ⟨q.1, by omega⟩
  | n + 1, .lst xs, h => by
    rw [T.fit] at h
    have q := fits_lay n xs h
    rw [T.toD]
    simp only [PyData.canLay0, PyData.depth]
    exact ⟨q.1, by omega⟩
  | n, .dic _ _, h => by cases n <;> (rw [T.fit] at h; cases h)
  | n, .raw _, h => by cases n <;> (rw [T.fit] at h; cases h)
theorem fits_lay : ∀ (n : Nat) (ts : List T), T.fits n ts = true → PyData.canLayAll0 (T.toDs ts) = true ∧ PyData.depthAll (T.toDs ts) ≤ n
  | n, [], _ => by rw [T.toDs]; simp [PyData.canLayAll0, PyData.depthAll]
  | n, x :: xs, h => by
    rw [T.fits, Bool.and_eq_true] at h
    have q1 := fit_lay n x h.1
    have q2 := fits_lay n xs h.2
    rw [T.toDs]
    simp only [PyData.canLayAll0, PyData.depthAll, Bool.and_eq_true]
    exact ⟨⟨q1.1, q2.1⟩, by omega⟩
end
theorem fit_shaped {n : Nat} {t : T} (h : T.fit n t = true) (hn : n ≤ 64) : SeqAt.shaped t.toD = true := by
  have q := fit_lay n t h
  show (t.toD.canLay0 && decide (t.toD.depth ≤ 64)) = true
  rw [Bool.and_eq_true]
  exact ⟨q.1, decide_eq_true (by omega)⟩
mutual
theorem Rp.dp {K : Bx} {F : Hp} : ∀ {v : V} {t : T} (n : Nat), Rp K F v t → T.fit n t = true → Dp K.K F v t.toD
  | _, _, n, .non, _ => by rw [toD_non]; exact .non
  | _, _, n, .bl b, _ => by rw [toD_bl]; exact .bl b
  | _, _, n, .int b, _ => by rw [toD_int]; exact .int b
  | _, _, n, .str b, _ => by rw [toD_str]; exact .str b
  | _, _, 0, .tup s _ r, h => by rw [T.fit] at h; cases h
  | _, _, 0, .lst s r, h => by rw [T.fit] at h; cases h
  | _, _, n + 1, .tup s _ r, h => by rw [T.fit] at h; rw [T.toD]; exact .tup s (RpAll.dp n r h)
  | _, _, n + 1, .lst s r, h => by rw [T.fit] at h; rw [T.toD]; exact .lst (SqL.of s) (RpAll.dp n r h)
  | _, _, n, .dk s r, h => by cases n <;> (rw [T.fit] at h; cases h)
  | _, _, n, .dt s r, h => by cases n <;> (rw [T.fit] at h; cases h)
  | _, _, n, .raw _, h => by cases n <;> (rw [T.fit] at h; cases h)
theorem RpAll.dp {K : Bx} {F : Hp} : ∀ {vs : List V} {ts : List T} (n : Nat), RpAll K F vs ts → T.fits n ts = true → DpAll K.K F vs (T.toDs ts)
  | _, _, n, .nil, _ => by rw [T.toDs]; exact .nil
  | _, _, n, .cons a r, h => by
    rw [T.fits, Bool.and_eq_true] at h
    rw [T.toDs]
    exact .cons (Rp.dp n a h.1) (RpAll.dp n r h.2)
end
/-- Python's == on data -/
def eqT (x y : T) : Bool := PyData.eqv x.toD y.toD
def eqTs (xs ys : List T) : Bool := PyData.eqvAll (xs.map T.toD) (ys.map T.toD)
@[simp] theorem eqT_int (i j : Int) : eqT (.int i) (.int j) = (i == j) := by simp [eqT, PyData.eqv]
@[simp] theorem eqT_str (i j : Str) : eqT (.str i) (.str j) = (i == j) := by simp [eqT, PyData.eqv]
@[simp] theorem eqT_bl (i j : Bool) : eqT (.bl i) (.bl j) = (i == j) := by simp [eqT, PyData.eqv]
@[simp] theorem eqT_non : eqT .non .non = true := by simp [eqT, PyData.eqv]
@[simp] theorem eqT_tup (xs ys : List T) : eqT (.tup xs) (.tup ys) = eqTs xs ys := by simp [eqT, eqTs, PyData.eqv]
@[simp] theorem eqT_lst (xs ys : List T) : eqT (.lst xs) (.lst ys) = eqTs xs ys := by simp [eqT, eqTs, PyData.eqv]
@[simp] theorem eqTs_nil : eqTs [] [] = true := by simp [eqTs, PyData.eqvAll]
@[simp] theorem eqTs_cons (x y : T) (xs ys : List T) : eqTs (x :: xs) (y :: ys) = (eqT x y && eqTs xs ys) := by simp [eqTs, eqT, PyData.eqvAll]
@[simp] theorem eqTs_nc (y : T) (ys : List T) : eqTs [] (y :: ys) = false := by simp [eqTs, PyData.eqvAll]
@[simp] theorem eqTs_cn (y : T) (ys : List T) : eqTs (y :: ys) [] = false := by simp [eqTs, PyData.eqvAll]
@[simp] theorem eqT_tl (xs ys : List T) : eqT (.tup xs) (.lst ys) = false := by simp [eqT, PyData.eqv]
@[simp] theorem eqT_lt (xs ys : List T) : eqT (.lst xs) (.tup ys) = false := by simp [eqT, PyData.eqv]
@[simp] theorem eqT_nt (ys : List T) : eqT .non (.tup ys) = false := by simp [eqT, PyData.eqv]
@[simp] theorem eqT_tn (ys : List T) : eqT (.tup ys) .non = false := by simp [eqT, PyData.eqv]
@[simp] theorem eqT_ni (i : Int) : eqT .non (.int i) = false := by simp [eqT, PyData.eqv]
@[simp] theorem eqT_in (i : Int) : eqT (.int i) .non = false := by simp [eqT, PyData.eqv]

/-! ### the world: what stands outside of trees and is changed by some defs alone -/
structure Wd where
  own : Addr → Bool
  inv : Hp → Prop
  st : ∀ H H' : Hp, (∀ a, own a = true → H' a = H a) → inv H → inv H'
  tr : ∀ H, inv H → ∀ a, own a = true → H a ≠ none
  /-- the object that is drawn from; how much may still be drawn -/
  sa : Addr
  bud : Nat → Hp → Prop
  sb : ∀ (H H' : Hp) (k : Nat), (∀ a, own a = true → H' a = H a) → bud k H → bud k H'
/-- the world as it stands in H0 -/
def Wd.fz (W : Wd) (H0 : Hp) (h : ∀ a, W.own a = true → H0 a ≠ none) : Wd where
  own := W.own
  inv := fun H => ∀ a, W.own a = true → H a = H0 a
  st := fun H H' h1 h2 a w => (h1 a w).trans (h2 a w)
  tr := fun H h1 a w => by rw [h1 a w]; exact h a w
  sa := W.sa
  bud := fun _ _ => False
  sb := fun _ _ _ _ q => q
def off (W : Wd) (H : Hp) : Hp := fun a => if W.own a = true then none else H a
theorem off_ne {W : Wd} {H : Hp} {a : Addr} (h : W.own a = false) : off W H a = H a := by
  unfold off
  rw [if_neg (by rw [h]; decide)]
theorem off_own {W : Wd} {H : Hp} {a : Addr} (h : W.own a = true) : off W H a = none := if_pos h
theorem off_some {W : Wd} {H : Hp} {a : Addr} {o : HO} (h : off W H a = some o) : W.own a = false ∧ H a = some o := by
  unfold off at h
  split at h
  · cases h
  · rename_i z
    exact ⟨by simpa using z, h⟩
theorem off_sub {W : Wd} {H : Hp} : Sub (off W H) H := fun _ _ h => .inl (off_some h).2
theorem off_none {W : Wd} {H : Hp} {a : Addr} (h : H a = none) : off W H a = none := by
  unfold off
  rw [h]
  split <;> rfl
theorem off_upd {W : Wd} {H : Hp} {p : Addr} {o : HO} (h : W.own p = false) : off W (upd H p o) = upd (off W H) p o := by
  funext a
  by_cases e : a = p
  · subst e
    rw [off_ne h, upd_same, upd_same]
  · rw [upd_ne e]
    unfold off
    rw [upd_ne e]
theorem Sub.upd {F H : Hp} {p : Addr} {o : HO} (h : Sub F H) : Sub (upd F p o) (upd H p o) := fun a u e => by
  by_cases q : a = p
  · subst q
    rw [upd_same] at e
    rw [upd_same]
    exact .inl e
  · rw [upd_ne q] at e
    rw [upd_ne q]
    exact h a u e
theorem Sub.updR {F H : Hp} {p : Addr} {o : HO} (h : Sub F H) (n : F p = none) : Sub F (L2.upd H p o) := fun a u e => by
  rw [upd_ne (ne_of_none e n)]
  exact h a u e
/-- what stood at the entry stands; of what was frozen then, dicts may have been locked -/
def Keep (F0 H0 H : Hp) : Prop := ∀ a o, H0 a = some o → H a = some o ∨ (F0 a ≠ none ∧ dkO o = true ∧ ∃ od, H a = some (.frz od o))
theorem Keep.refl {F0 H : Hp} : Keep F0 H H := fun _ _ h => .inl h
theorem Keep.updR {F0 H0 H : Hp} {p : Addr} {o : HO} (h : Keep F0 H0 H) (n : H0 p = none) : Keep F0 H0 (L2.upd H p o) := fun a u e => by
  rw [upd_ne (ne_of_none e n)]
  exact h a u e
theorem Keep.sub {F0 H0 H : Hp} (h : Keep F0 H0 H) : Sub H0 H := fun a o e => by
  rcases h a o e with q | ⟨_, q, r⟩
  · exact .inl q
  · exact .inr ⟨q, r⟩

/-- what a slot is known to hold: nothing, a tree, an own list, an own dict -/
inductive S where
  | no | d (t : T) | ol (xs : List T) | od (k : DK) (kvs : List (T × T)) | gh (k : Nat)
/-- what an expression gives: a tree, or the own object of a slot -/
inductive R where
  | v (t : T) | loc (i : Nat)

structure Fc where
  W : Wd
  H0 : Hp
  F0 : Hp
  pins : List (Addr × HO)

/-- an own object: not frozen, not there at the entry -/
structure Own (G : Fc) (F H : Hp) (p : Addr) : Prop where
  f : F p = none
  h0 : G.H0 p = none
  w : G.W.own p = false
/-- a dict at an address -/
def DAt (K : Bx) (F H : Hp) (p : Addr) (k : DK) (kvs : List (T × T)) : Prop := match k with
  | .flat => ∃ l : List (Key × V), H p = some (.dK l) ∧ RpKv K F (l.map fun q => (kT q.1, q.2)) kvs
  | .tup => ∃ l : List (NestedKey × Addr × V), H p = some (DxO K.P K.w p l) ∧ RpNk K F l kvs
/-- .. that may be locked -/
def DRd (K : Bx) (F H : Hp) (p : Addr) (k : DK) (kvs : List (T × T)) : Prop := match k with
  | .flat => ∃ l : List (Key × V), Rd H p (.dK l) ∧ RpKv K F (l.map fun q => (kT q.1, q.2)) kvs
  | .tup => ∃ l : List (NestedKey × Addr × V), Rd H p (DxO K.P K.w p l) ∧ RpNk K F l kvs
theorem DAt.rd {K : Bx} {F H : Hp} {p : Addr} {k : DK} {kvs : List (T × T)} (h : DAt K F H p k kvs) : DRd K F H p k kvs := by
  cases k with
  | flat =>
    obtain ⟨l, a, b⟩ := h
    exact ⟨l, .inl a, b⟩
  | tup =>
    obtain ⟨l, a, b⟩ := h
    exact ⟨l, .inl a, b⟩
theorem DAt.keep {K : Bx} {F H F' H' : Hp} {p : Addr} {k : DK} {kvs : List (T × T)} (h : DAt K F H p k kvs) (s : Sub F F') (e : H' p = H p) : DAt K F' H' p k kvs := by
  cases k with
  | flat =>
    obtain ⟨l, a, b⟩ := h
    exact ⟨l, e.trans a, b.mono s⟩
  | tup =>
    obtain ⟨l, a, b⟩ := h
    exact ⟨l, e.trans a, b.mono s⟩
theorem DAt.some {K : Bx} {F H : Hp} {p : Addr} {k : DK} {kvs : List (T × T)} (h : DAt K F H p k kvs) : ∃ u, H p = some u := by
  cases k with
  | flat =>
    obtain ⟨l, a, b⟩ := h
    exact ⟨_, a⟩
  | tup =>
    obtain ⟨l, a, b⟩ := h
    exact ⟨_, a⟩
def SlotOk (K : Bx) (G : Fc) (F H : Hp) (o : Option (Option V)) : S → Prop
  | .no => True
  | .d t => ∃ v, o = some (some v) ∧ Rp K F v t
  | .ol xs => ∃ p vs, o = some (some (.ref p)) ∧ Own G F H p ∧ H p = some (.lst vs) ∧ RpAll K F vs xs
  | .od k kvs => ∃ p, o = some (some (.ref p)) ∧ Own G F H p ∧ DAt K F H p k kvs
  | .gh k => o = some (some (.ref G.W.sa)) ∧ G.W.bud k H
def S.isOwn : S → Bool
  | .ol _ => true
  | .od _ _ => true
  | _ => false
/-- .. or what is drawn from -/
@[simp] def S.isX : S → Bool
  | .no => false
  | .d _ => false
  | _ => true
theorem S.isX_own {s : S} (h : s.isX = false) : s.isOwn = false := by cases s <;> first | rfl | cases h

structure Rel (K : Bx) (G : Fc) (σ : L2.St) (H : Hp) (ρ : List S) (F : Hp) : Prop where
  sub : Sub F (off G.W H)
  base : Keep G.F0 (off G.W G.H0) (off G.W H)
  old : Sub G.F0 F
  fresh : ∀ a, F a ≠ none → G.F0 a ≠ none ∨ G.H0 a = none
  inv : G.W.inv H
  inv0 : G.W.inv G.H0
  len : ρ.length = σ.length
  pin : ∀ q ∈ G.pins, H q.1 = some q.2 ∧ Own G F H q.1 ∧ ∀ (i : Nat) (s : S), ρ[i]? = some s → s.isOwn = true → σ[i]? ≠ some (some (V.ref q.1))
  slot : ∀ (i : Nat) (s : S), ρ[i]? = some s → SlotOk K G F H σ[i]? s
  sep : ∀ (i j : Nat) (s t : S) (p : Addr), ρ[i]? = some s → ρ[j]? = some t → s.isOwn = true → t.isOwn = true → σ[i]? = some (some (V.ref p)) → σ[j]? = some (some (V.ref p)) → i = j

section
variable {K : Bx} {G : Fc} {σ : L2.St} {H : Hp} {ρ : List S} {F : Hp}
theorem Rel.subH (r : Rel K G σ H ρ F) : Sub F H := r.sub.trans off_sub
theorem Rel.freeF (r : Rel K G σ H ρ F) {p : Addr} (n : H p = none) : F p = none := by
  cases e : F p with
  | none => rfl
  | some o =>
    obtain ⟨u, q⟩ := r.subH.some e
    rw [n] at q
    cases q
theorem Rel.free0 (r : Rel K G σ H ρ F) {p : Addr} (n : H p = none) : G.H0 p = none := by
  cases e : G.H0 p with
  | none => rfl
  | some o =>
    cases w : G.W.own p with
    | true => exact absurd n (G.W.tr _ r.inv p w)
    | false =>
      obtain ⟨u, q⟩ := (r.base.sub.trans off_sub).some (show off G.W G.H0 p = some o by rw [off_ne w]; exact e)
      rw [n] at q
      cases q
theorem Rel.notOwn (r : Rel K G σ H ρ F) {p : Addr} (n : H p = none) : G.W.own p = false := by
  cases w : G.W.own p with
  | true => exact absurd n (G.W.tr _ r.inv p w)
  | false => rfl
theorem own_upd {W : Wd} {H : Hp} {p : Addr} {o : HO} (nw : W.own p = false) : ∀ a, W.own a = true → upd H p o a = H a := fun a w => by
  have h : a ≠ p := fun z => by
    subst z
    rw [nw] at w
    cases w
  rw [upd_ne h]
theorem SlotOk.keep {o : Option (Option V)} {s : S} {H' F' : Hp} (h : SlotOk K G F H o s) (hF : Sub F F') (hW : ∀ a, G.W.own a = true → H' a = H a) (hn : ∀ p, s.isOwn = true → o = some (some (.ref p)) → H' p = H p ∧ F' p = none) : SlotOk K G F' H' o s := by
  cases s with
  | no => trivial
  | d t =>
    obtain ⟨v, e, r⟩ := h
    exact ⟨v, e, r.mono hF⟩
  | ol xs =>
    obtain ⟨p, vs, e, w, hp, r⟩ := h
    obtain ⟨h1, h2⟩ := hn p rfl e
    exact ⟨p, vs, e, ⟨h2, w.h0, w.w⟩, by rw [h1]; exact hp, r.mono hF⟩
  | od k kvs =>
    obtain ⟨p, e, w, q⟩ := h
    obtain ⟨h1, h2⟩ := hn p rfl e
    exact ⟨p, e, ⟨h2, w.h0, w.w⟩, q.keep hF h1⟩
  | gh k => exact ⟨h.1, G.W.sb _ _ k hW h.2⟩
theorem SlotOk.there {o : Option (Option V)} {s : S} (h : SlotOk K G F H o s) {p : Addr} (w : s.isOwn = true) (e : o = some (some (.ref p))) : (∃ u, H p = some u) ∧ Own G F H p := by
  cases s with
  | no => cases w
  | d t => cases w
  | ol xs =>
    obtain ⟨p', vs, e', w, hp, r⟩ := h
    rw [e] at e'
    cases e'
    exact ⟨⟨_, hp⟩, w⟩
  | od k kvs =>
    obtain ⟨p', e', w, q⟩ := h
    rw [e] at e'
    cases e'
    exact ⟨q.some, w⟩
  | gh k => cases w
/-- a new object, frozen at once -/
theorem Rel.alloc (r : Rel K G σ H ρ F) {p : Addr} (n : H p = none) (o : HO) : Rel K G σ (upd H p o) ρ (upd F p o) ∧ Sub F (upd F p o) := by
  have nw := r.notOwn n
  have nF := r.freeF n
  have s1 : Sub F (upd F p o) := Sub.refl.updR nF
  refine ⟨⟨by rw [off_upd nw]; exact r.sub.upd, by rw [off_upd nw]; exact r.base.updR (off_none (r.free0 n)), r.old.trans s1, fun a e => ?_, G.W.st _ _ (fun a w => ?_) r.inv, r.inv0, r.len, fun q hq => ?_, fun i s e => ?_, r.sep⟩, s1⟩
  · by_cases h : a = p
    · subst h
      exact .inr (r.free0 n)
    · rw [upd_ne h] at e
      exact r.fresh a e
  · have h : a ≠ p := fun z => by
      subst z
      rw [nw] at w
      cases w
    rw [upd_ne h]
  · obtain ⟨h1, h2, h3⟩ := r.pin q hq
    have h : q.1 ≠ p := ne_of_none h1 n
    exact ⟨by rw [upd_ne h]; exact h1, ⟨by rw [upd_ne h]; exact h2.f, h2.h0, h2.w⟩, h3⟩
  · refine (r.slot i s e).keep s1 (own_upd nw) fun q w eq => ?_
    obtain ⟨⟨u, hu⟩, ow⟩ := (r.slot i s e).there w eq
    have h : q ≠ p := ne_of_none hu n
    rw [upd_ne h, upd_ne h]
    exact ⟨rfl, ow.f⟩
/-- a new object that is not frozen yet -/
theorem Rel.lay (r : Rel K G σ H ρ F) {p : Addr} (n : H p = none) (o : HO) : Rel K G σ (upd H p o) ρ F := by
  have nw := r.notOwn n
  refine ⟨by rw [off_upd nw]; exact r.sub.updR (r.freeF n), by rw [off_upd nw]; exact r.base.updR (off_none (r.free0 n)), r.old, r.fresh, G.W.st _ _ (fun a w => ?_) r.inv, r.inv0, r.len, fun q hq => ?_, fun i s e => ?_, r.sep⟩
  · have h : a ≠ p := fun z => by
      subst z
      rw [nw] at w
      cases w
    rw [upd_ne h]
  · obtain ⟨h1, h2, h3⟩ := r.pin q hq
    have h : q.1 ≠ p := ne_of_none h1 n
    exact ⟨by rw [upd_ne h]; exact h1, ⟨h2.f, h2.h0, h2.w⟩, h3⟩
  · refine (r.slot i s e).keep Sub.refl (own_upd nw) fun q w eq => ?_
    obtain ⟨⟨u, hu⟩, ow⟩ := (r.slot i s e).there w eq
    rw [upd_ne (ne_of_none hu n)]
    exact ⟨rfl, ow.f⟩
/-- a frozen dict is locked -/
theorem Rel.lock (r : Rel K G σ H ρ F) {p : Addr} {u : HO} (hF : F p = some u) (hd : dkO u = true) (od : Obj) : H p = some u → Rel K G σ (upd H p (.frz od u)) ρ (upd F p (.frz od u)) ∧ Sub F (upd F p (.frz od u)) := by
  intro hH
  have nw : G.W.own p = false := by
    rcases r.sub p u hF with q | ⟨_, _, q⟩
    · exact (off_some q).1
    · exact (off_some q).1
  have s1 : Sub F (upd F p (.frz od u)) := fun a v e => by
    by_cases h : a = p
    · subst h
      rw [hF] at e
      cases e
      exact .inr ⟨hd, od, upd_same⟩
    · rw [upd_ne h]
      exact .inl e
  refine ⟨⟨by rw [off_upd nw]; exact r.sub.upd, fun a v e => ?_, r.old.trans s1, fun a e => ?_, G.W.st _ _ (fun a w => ?_) r.inv, r.inv0, r.len, fun q hq => ?_, fun i s e => ?_, r.sep⟩, s1⟩
  · by_cases h : a = p
    · subst h
      have z := r.base a v e
      rw [off_ne nw, hH] at z
      rw [off_ne nw, upd_same]
      rcases z with z | ⟨z1, z2, od2, z3⟩
      · cases z
        refine .inr ⟨?_, hd, od, rfl⟩
        rcases r.fresh a (by rw [hF]; exact fun c => nomatch c) with c | c
        · exact c
        · exact absurd ((off_some e).2) (by rw [c]; exact fun c => nomatch c)
      · cases z3
        cases hd
    · rw [off_upd nw, upd_ne h]
      exact r.base a v e
  · by_cases h : a = p
    · subst h
      exact r.fresh a (by rw [hF]; exact fun c => nomatch c)
    · rw [upd_ne h] at e
      exact r.fresh a e
  · have h : a ≠ p := fun z => by
      subst z
      rw [nw] at w
      cases w
    rw [upd_ne h]
  · obtain ⟨h1, h2, h3⟩ := r.pin q hq
    have h : q.1 ≠ p := fun z => by
      have := h2.f
      rw [z, hF] at this
      cases this
    exact ⟨by rw [upd_ne h]; exact h1, ⟨by rw [upd_ne h]; exact h2.f, h2.h0, h2.w⟩, h3⟩
  · refine (r.slot i s e).keep s1 (own_upd nw) fun q w eq => ?_
    obtain ⟨_, ow⟩ := (r.slot i s e).there w eq
    have h : q ≠ p := fun z => by
      have := ow.f
      rw [z, hF] at this
      cases this
    rw [upd_ne h, upd_ne h]
    exact ⟨rfl, ow.f⟩
end
end TL
set_option Elab.async false
set_option linter.all false
set_option maxRecDepth 100000
set_option autoImplicit false
/-! TL1: what an expression gives, over trees; names, constants, displays, operators -/
namespace TL
open PySem PySem.Spec PyProof.Rows L2

def RelR (K : Bx) (σ : L2.St) (F : Hp) (v : V) : R → Prop
  | .v t => Rp K F v t
  | .loc i => σ[i]? = some (some v)
def resS : Option S → Option T
  | some (.ol xs) => some (.lst xs)
  | some (.od k kvs) => some (.dic k kvs)
  | some (.d t) => some t
  | _ => none
/-- the tree of what is given, as it stands now -/
def res (ρ : List S) : R → Option T
  | .v t => some t
  | .loc i => resS ρ[i]?
@[simp] theorem res_v (ρ : List S) (t : T) : res ρ (.v t) = some t := rfl
@[simp] theorem res_loc (ρ : List S) (i : Nat) : res ρ (.loc i) = resS ρ[i]? := rfl
@[simp] theorem resS_ol (xs : List T) : resS (some (.ol xs)) = some (.lst xs) := rfl
@[simp] theorem resS_od (k : DK) (xs : List (T × T)) : resS (some (.od k xs)) = some (.dic k xs) := rfl
@[simp] theorem resS_d (t : T) : resS (some (.d t)) = some t := rfl
/-- frozen: what is kept for longer -/
def frz (r : R) (ρ : List S) (k : T → List S → Prop) : Prop :=
  match r with
  | .v t => k t ρ
  | .loc i => match ρ[i]? with
    | some (.ol xs) => k (.lst xs) (ρ.set i (.d (.lst xs)))
    | some (.od m kvs) => k (.dic m kvs) (ρ.set i (.d (.dic m kvs)))
    | some (.d t) => k t ρ
    | _ => False
@[simp] theorem resS_no : resS (some .no) = none := rfl
@[simp] theorem resS_none : resS none = none := rfl
@[simp] theorem frz_l (i : Nat) (s_ : S) (r_ : List S) (k : T → List S → Prop) : frz (.loc i) (s_ :: r_) k = (match (s_ :: r_)[i]? with
    | some (.ol xs) => k (.lst xs) ((s_ :: r_).set i (.d (.lst xs)))
    | some (.od m kvs) => k (.dic m kvs) ((s_ :: r_).set i (.d (.dic m kvs)))
    | some (.d t) => k t (s_ :: r_)
    | _ => False) := rfl
@[simp] theorem frz_v (t : T) (ρ : List S) (k : T → List S → Prop) : frz (.v t) ρ k = k t ρ := rfl

abbrev WE := List S → (R → List S → Prop) → Prop
abbrev WT := List S → (Bool → List S → Prop) → Prop
abbrev WA := List S → (List T → List S → Prop) → Prop
abbrev WR := List S → (List R → List S → Prop) → Prop

def LE (K : Bx) (G : Fc) (t : WE) : TE := fun σ H Q => ∃ ρ F Q', Rel K G σ H ρ F ∧ t ρ Q' ∧
  ∀ v H' ρ' F' r, Rel K G σ H' ρ' F' → Sub F F' → RelR K σ F' v r → Q' r ρ' → Q v H'
def LT (K : Bx) (G : Fc) (t : WT) : TT := fun σ H Q => ∃ ρ F Q', Rel K G σ H ρ F ∧ t ρ Q' ∧
  ∀ b H' ρ' F', Rel K G σ H' ρ' F' → Sub F F' → Q' b ρ' → Q b H'
def LA (K : Bx) (G : Fc) (t : WA) : TA := fun σ H Q => ∃ ρ F Q', Rel K G σ H ρ F ∧ t ρ Q' ∧
  ∀ vs H' ρ' F' xs, Rel K G σ H' ρ' F' → Sub F F' → RpAll K F' vs xs → Q' xs ρ' → Q vs H'
inductive RelRs (K : Bx) (σ : L2.St) (F : Hp) : List V → List R → Prop
  | nil : RelRs K σ F [] []
  | cons {v : V} {vs : List V} {r : R} {rs : List R} : RelR K σ F v r → RelRs K σ F vs rs → RelRs K σ F (v :: vs) (r :: rs)
def LR (K : Bx) (G : Fc) (t : WR) : TA := fun σ H Q => ∃ ρ F Q', Rel K G σ H ρ F ∧ t ρ Q' ∧
  ∀ vs H' ρ' F' rs, Rel K G σ H' ρ' F' → Sub F F' → RelRs K σ F' vs rs → Q' rs ρ' → Q vs H'

theorem PE.wk {X : Cx} {e : Expr} {t t' : TE} (h : PE X e t) (w : ∀ σ H Q, t' σ H Q → t σ H Q) : PE X e t' :=
  ⟨fun pins s σ H Q I q => h.run pins s σ H Q I (w σ H Q q)⟩
theorem PT.wk {X : Cx} {e : Expr} {t t' : TT} (h : PT X e t) (w : ∀ σ H Q, t' σ H Q → t σ H Q) : PT X e t' :=
  ⟨fun pins s σ H Q I q => h.run pins s σ H Q I (w σ H Q q)⟩
theorem PW.wk {X : Cx} {e : Expr} {t t' : TT} (h : PW X e t) (w : ∀ σ H Q, t' σ H Q → t σ H Q) : PW X e t' :=
  ⟨fun wh pins s σ H Q I q => h.run wh pins s σ H Q I (w σ H Q q)⟩
theorem PA.wk {X : Cx} {es : List Expr} {t t' : TA} (h : PA X es t) (w : ∀ σ H Q, t' σ H Q → t σ H Q) : PA X es t' :=
  ⟨fun pos pins s σ H Q I q => h.run pos pins s σ H Q I (w σ H Q q)⟩

section
variable {K : Bx} {G : Fc} {σ : L2.St} {H : Hp} {ρ : List S} {F : Hp}
theorem RelR.mono {F' : Hp} {v : V} {r : R} (h : RelR K σ F v r) (s : Sub F F') : RelR K σ F' v r := by
  cases r with
  | v t => exact Rp.mono s h
  | loc i => exact h
theorem RelRs.mono {F' : Hp} (s : Sub F F') : ∀ {vs : List V} {rs : List R}, RelRs K σ F vs rs → RelRs K σ F' vs rs
  | _, _, .nil => .nil
  | _, _, .cons h r => .cons (h.mono s) (RelRs.mono s r)
/-- what stands there now: the outermost list or dict may be an own one, its parts are frozen -/
def Ct (K : Bx) (F H : Hp) (v : V) : T → Prop
  | .lst xs => ∃ p vs, v = .ref p ∧ H p = some (.lst vs) ∧ RpAll K F vs xs
  | .dic k kvs => ∃ p, v = .ref p ∧ DRd K F H p k kvs
  | t => Rp K F v t
theorem Ct.of {v : V} {t : T} (h : Rp K F v t) (s : Sub F H) : Ct K F H v t := by
  cases h with
  | lst e r => exact ⟨_, _, rfl, s.at e, r⟩
  | dk e r => exact ⟨_, rfl, ⟨_, s.rd e, r⟩⟩
  | dt e r => exact ⟨_, rfl, ⟨_, s.rd e, r⟩⟩
  | non => exact .non
  | bl b => exact .bl b
  | int i => exact .int i
  | str x => exact .str x
  | tup e n r => exact .tup e n r
  | raw v => exact .raw v
theorem DRd.rp {p : Addr} {k : DK} {kvs : List (T × T)} (h : DRd K F H p k kvs) (s : Sub F H) : Rp K H (.ref p) (.dic k kvs) := by
  cases k with
  | flat =>
    obtain ⟨l, e, r⟩ := h
    exact .dk e (r.mono s)
  | tup =>
    obtain ⟨l, e, r⟩ := h
    exact .dt e (r.mono s)
theorem Ct.rp {v : V} {t : T} (h : Ct K F H v t) (s : Sub F H) : Rp K H v t := by
  cases t with
  | lst xs =>
    obtain ⟨p, vs, rfl, e, r⟩ := h
    exact .lst e (r.mono s)
  | dic k kvs =>
    obtain ⟨p, rfl, q⟩ := h
    exact q.rp s
  | non => exact Rp.mono s h
  | bl b => exact Rp.mono s h
  | int i => exact Rp.mono s h
  | str x => exact Rp.mono s h
  | tup xs => exact Rp.mono s h
  | raw v => exact Rp.mono s h
theorem Rel.ct (h : Rel K G σ H ρ F) {v : V} {r : R} {x : T} (q : RelR K σ F v r) (e : res ρ r = some x) : Ct K F H v x := by
  cases r with
  | v t =>
    cases e
    exact Ct.of q h.subH
  | loc i =>
    have q : σ[i]? = some (some v) := q
    cases es : ρ[i]? with
    | none =>
      rw [res_loc, es] at e
      cases e
    | some s =>
      have z := h.slot i s es
      rw [res_loc, es] at e
      cases s with
      | no => cases e
      | gh k => cases e
      | d t =>
        cases e
        obtain ⟨v', e', r⟩ := z
        rw [q] at e'
        cases e'
        exact Ct.of r h.subH
      | ol xs =>
        cases e
        obtain ⟨p, vs, e', w, hp, r⟩ := z
        rw [q] at e'
        cases e'
        exact ⟨p, vs, rfl, hp, r⟩
      | od k kvs =>
        cases e
        obtain ⟨p, e', w, r⟩ := z
        rw [q] at e'
        cases e'
        exact ⟨p, rfl, r.rd⟩
theorem Ct.int {v : V} {i : Int} (h : Ct K F H v (.int i)) : v = .int i := by cases h; rfl
theorem Ct.str {v : V} {i : Str} (h : Ct K F H v (.str i)) : v = .str i := by cases h; rfl
theorem Ct.bl {v : V} {i : Bool} (h : Ct K F H v (.bl i)) : v = .bl i := by cases h; rfl
theorem Ct.non {v : V} (h : Ct K F H v .non) : v = .non := by cases h; rfl
theorem Ct.raw {v w : V} (h : Ct K F H v (.raw w)) : v = w := by cases h; rfl
theorem Ct.tup {v : V} {xs : List T} (h : Ct K F H v (.tup xs)) : ∃ p vs, v = .ref p ∧ SqT K.K F p vs ∧ RpAll K F vs xs := by
  cases h with
  | tup e _ r => exact ⟨_, _, rfl, e, r⟩
theorem Ct.tupN {v : V} {xs : List T} (h : Ct K F H v (.tup xs)) : ∃ p vs, v = .ref p ∧ SqT K.K F p vs ∧ NoD K.K F p ∧ RpAll K F vs xs := by
  cases h with
  | tup e n r => exact ⟨_, _, rfl, e, n, r⟩
theorem Rel.frzOk (h : Rel K G σ H ρ F) {v : V} {r : R} {k : T → List S → Prop} (q : RelR K σ F v r) (f : frz r ρ k) : ∃ ρ' F' t, Rel K G σ H ρ' F' ∧ Sub F F' ∧ Rp K F' v t ∧ k t ρ' := by
  cases r with
  | v t => exact ⟨ρ, F, t, h, Sub.refl, q, f⟩
  | loc i =>
    have q : σ[i]? = some (some v) := q
    unfold frz at f
    have own : ∀ (s : S) (t : T), ρ[i]? = some s → s.isOwn = true → (∀ p F' o, Sub F F' → F' p = some o → H p = some o → v = .ref p → Rp K F' v t) → k t (ρ.set i (.d t)) → ∃ ρ' F' t, Rel K G σ H ρ' F' ∧ Sub F F' ∧ Rp K F' v t ∧ k t ρ' := by
      intro s t es so hr hk
      have z := h.slot i s es
      have hv : ∃ p, v = .ref p := by
        cases s with
        | no => cases so
        | gh k => cases so
        | d t => cases so
        | ol xs =>
          obtain ⟨p, vs, e', _⟩ := z
          rw [q] at e'
          cases e'
          exact ⟨p, rfl⟩
        | od k kvs =>
          obtain ⟨p, e', _⟩ := z
          rw [q] at e'
          cases e'
          exact ⟨p, rfl⟩
      obtain ⟨p, rfl⟩ := hv
      obtain ⟨⟨o, hp⟩, ow⟩ := z.there so q
      have s1 : Sub F (upd F p o) := Sub.refl.updR ow.f
      have hR := hr p (upd F p o) o s1 upd_same hp rfl
      refine ⟨ρ.set i (.d t), upd F p o, t, ⟨fun a u e => ?_, h.base, h.old.trans s1, fun a e => ?_, h.inv, h.inv0, by rw [List.length_set]; exact h.len, fun b hb => ?_, fun j u e => ?_, fun j l u w b e1 e2 o1 o2 => ?_⟩, s1, hR, hk⟩
      · by_cases ha : a = p
        · subst ha
          rw [upd_same] at e
          cases e
          rw [off_ne ow.w]
          exact .inl hp
        · rw [upd_ne ha] at e
          exact h.sub a u e
      · by_cases ha : a = p
        · subst ha
          exact .inr ow.h0
        · rw [upd_ne ha] at e
          exact h.fresh a e
      · obtain ⟨h1, h2, h3⟩ := h.pin b hb
        have hne : b.1 ≠ p := fun z => by
          refine h3 i s es so ?_
          rw [z]
          exact q
        refine ⟨h1, ⟨by rw [upd_ne hne]; exact h2.f, h2.h0, h2.w⟩, fun j u e1 w1 => ?_⟩
        by_cases hj : i = j
        · subst hj
          rw [List.getElem?_set_self (by
            obtain ⟨hi, _⟩ := List.getElem?_eq_some_iff.mp es
            exact hi)] at e1
          cases e1
          cases w1
        · rw [List.getElem?_set_ne hj] at e1
          exact h3 j u e1 w1
      · by_cases hj : i = j
        · subst hj
          rw [List.getElem?_set_self (by
            obtain ⟨hi, _⟩ := List.getElem?_eq_some_iff.mp es
            exact hi)] at e
          cases e
          exact ⟨_, q, hR⟩
        · rw [List.getElem?_set_ne hj] at e
          refine (h.slot j u e).keep s1 (fun _ _ => rfl) fun b w eb => ?_
          obtain ⟨_, ob⟩ := (h.slot j u e).there w eb
          have hb : b ≠ p := fun z => by
            subst z
            exact hj (h.sep i j s u b es e so w q eb)
          rw [upd_ne hb]
          exact ⟨rfl, ob.f⟩
      · have f1 : ρ[j]? = some u := by
          by_cases hj : i = j
          · subst hj
            rw [List.getElem?_set_self (by
              obtain ⟨hi, _⟩ := List.getElem?_eq_some_iff.mp es
              exact hi)] at e1
            cases e1
            cases o1
          · rw [List.getElem?_set_ne hj] at e1
            exact e1
        have f2 : ρ[l]? = some w := by
          by_cases hj : i = l
          · subst hj
            rw [List.getElem?_set_self (by
              obtain ⟨hi, _⟩ := List.getElem?_eq_some_iff.mp es
              exact hi)] at e2
            cases e2
            cases o2
          · rw [List.getElem?_set_ne hj] at e2
            exact e2
        exact h.sep j l u w b f1 f2 o1 o2
    cases es : ρ[i]? with
    | none =>
      simp only [es] at f
    | some s =>
      have z := h.slot i s es
      simp only [es] at f
      cases s with
      | no => exact f.elim
      | gh k => exact f.elim
      | d t =>
        obtain ⟨v', e', r⟩ := z
        rw [q] at e'
        cases e'
        exact ⟨ρ, F, t, h, Sub.refl, r, f⟩
      | ol xs =>
        refine own (.ol xs) (.lst xs) es rfl (fun p F' o s1 e1 e2 e3 => ?_) f
        subst e3
        obtain ⟨p', vs, e', w, hp, r⟩ := z
        rw [q] at e'
        cases e'
        rw [hp] at e2
        cases e2
        exact .lst e1 (r.mono s1)
      | od m kvs =>
        refine own (.od m kvs) (.dic m kvs) es rfl (fun p F' o s1 e1 e2 e3 => ?_) f
        subst e3
        obtain ⟨p', e', w, dd⟩ := z
        rw [q] at e'
        cases e'
        cases m with
        | flat =>
          obtain ⟨l, hp, r⟩ := dd
          rw [hp] at e2
          cases e2
          exact .dk (.inl e1) (r.mono s1)
        | tup =>
          obtain ⟨l, hp, r⟩ := dd
          rw [hp] at e2
          cases e2
          exact .dt (.inl e1) (r.mono s1)
end

section
variable {X : Cx} {G : Fc}
/-! ### names, constants -/
def wVar (i : Nat) : WE := fun ρ Q => match ρ[i]? with
  | some (.d t) => Q (.v t) ρ
  | some (.ol _) => Q (.loc i) ρ
  | some (.od _ _) => Q (.loc i) ρ
  | _ => False
@[simp] theorem wVar_s (i : Nat) (s_ : S) (r_ : List S) (Q_ : _) : wVar i (s_ :: r_) Q_ = (fun ρ Q => match ρ[i]? with
  | some (.d t) => Q (.v t) ρ
  | some (.ol _) => Q (.loc i) ρ
  | some (.od _ _) => Q (.loc i) ρ
  | _ => False) (s_ :: r_) Q_ := rfl
theorem te_var {i : Nat} {x : Str} {pos : Pos} (hN : X.N[i]? = some x) (hv : Vis X.env.scope x) (hd : (x == ("__debug__" : Str)) = false := by decide) (hcd : (x == ("__classdict__" : Str)) = false := by decide) : PE X (.Name x pos) (LE (bx X) G (wVar i)) := by
  refine PE.wk (pe_var hN hv hd hcd) fun σ H Q ⟨ρ, F, Q', R, ht, k⟩ => ?_
  unfold wVar at ht
  cases es : ρ[i]? with
  | none => simp only [es] at ht
  | some s =>
    have z := R.slot i s es
    simp only [es] at ht
    cases s with
    | no => exact ht.elim
    | gh k => exact ht.elim
    | d t =>
      obtain ⟨v, e, r⟩ := z
      exact ⟨v, e, k v H ρ F (.v t) R Sub.refl r ht⟩
    | ol xs =>
      obtain ⟨p, vs, e, _⟩ := z
      exact ⟨_, e, k _ H ρ F (.loc i) R Sub.refl e ht⟩
    | od m kvs =>
      obtain ⟨p, e, _⟩ := z
      exact ⟨_, e, k _ H ρ F (.loc i) R Sub.refl e ht⟩
def wC (t : T) : WE := fun ρ Q => Q (.v t) ρ
@[simp] theorem wC_s (t : T) (s_ : S) (r_ : List S) (Q_ : _) : wC t (s_ :: r_) Q_ = (fun ρ Q => Q (.v t) ρ) (s_ :: r_) Q_ := rfl
theorem te_c {e : Expr} {v : V} {t : T} (h : PE X e (tC v)) (r : ∀ F, Rp (bx X) F v t) : PE X e (LE (bx X) G (wC t)) :=
  PE.wk h fun _ H _ ⟨ρ, F, _, R, ht, k⟩ => k v H ρ F (.v t) R Sub.refl (r F) ht
theorem te_int {i j pos} : PE X (.Constant (.int i) j pos) (LE (bx X) G (wC (.int i))) := te_c pe_int fun _ => .int i
theorem te_bl {b j pos} : PE X (.Constant (.bool b) j pos) (LE (bx X) G (wC (.bl b))) := te_c pe_bl fun _ => .bl b
theorem te_non {j pos} : PE X (.Constant .none j pos) (LE (bx X) G (wC .non)) := te_c pe_non fun _ => .non
theorem te_str {x j pos} : PE X (.Constant (.str x) j pos) (LE (bx X) G (wC (.str x))) := te_c pe_str fun _ => .str x

/-! ### rows of expressions -/
def wNil : WA := fun ρ Q => Q [] ρ
@[simp] theorem wNil_s (s_ : S) (r_ : List S) (Q_ : _) : wNil (s_ :: r_) Q_ = (fun ρ Q => Q [] ρ) (s_ :: r_) Q_ := rfl
def wCons (t : WE) (u : WA) : WA := fun ρ Q => t ρ fun r ρ1 => frz r ρ1 fun x ρ2 => u ρ2 fun xs ρ3 => Q (x :: xs) ρ3
@[simp] theorem wCons_s (t : WE) (u : WA) (s_ : S) (r_ : List S) (Q_ : _) : wCons t u (s_ :: r_) Q_ = (fun ρ Q => t ρ fun r ρ1 => frz r ρ1 fun x ρ2 => u ρ2 fun xs ρ3 => Q (x :: xs) ρ3) (s_ :: r_) Q_ := rfl
theorem ta_nil : PA X [] (LA (bx X) G wNil) := PA.wk pa_nil fun _ H _ ⟨ρ, F, _, R, ht, k⟩ => k [] H ρ F [] R Sub.refl .nil ht
theorem ta_cons {e : Expr} {es : List Expr} {t : WE} {u : WA} (h : PE X e (LE (bx X) G t)) (q : PA X es (LA (bx X) G u)) (hs : starEach (e :: es) X.env = (false, eval e X.env) :: starEach es X.env := by rfl) : PA X (e :: es) (LA (bx X) G (wCons t u)) := by
  refine PA.wk (pa_cons h q hs) fun σ H Q ⟨ρ, F, Q', R, ht, k⟩ => ?_
  refine ⟨ρ, F, _, R, ht, fun v H1 ρ1 F1 r R1 s1 rr q1 => ?_⟩
  obtain ⟨ρ2, F2, x, R2, s2, rx, q2⟩ := R1.frzOk rr q1
  exact ⟨ρ2, F2, _, R2, q2, fun vs H3 ρ3 F3 xs R3 s3 rs q3 => k (v :: vs) H3 ρ3 F3 (x :: xs) R3 (s1.trans (s2.trans s3)) (.cons (rx.mono s3) rs) q3⟩
def wNilR : WR := fun ρ Q => Q [] ρ
@[simp] theorem wNilR_s (s_ : S) (r_ : List S) (Q_ : _) : wNilR (s_ :: r_) Q_ = (fun ρ Q => Q [] ρ) (s_ :: r_) Q_ := rfl
def wConsR (t : WE) (u : WR) : WR := fun ρ Q => t ρ fun r ρ1 => u ρ1 fun rs ρ2 => Q (r :: rs) ρ2
@[simp] theorem wConsR_s (t : WE) (u : WR) (s_ : S) (r_ : List S) (Q_ : _) : wConsR t u (s_ :: r_) Q_ = (fun ρ Q => t ρ fun r ρ1 => u ρ1 fun rs ρ2 => Q (r :: rs) ρ2) (s_ :: r_) Q_ := rfl
theorem tr_nil : PA X [] (LR (bx X) G wNilR) := PA.wk pa_nil fun _ H _ ⟨ρ, F, _, R, ht, k⟩ => k [] H ρ F [] R Sub.refl .nil ht
theorem tr_cons {e : Expr} {es : List Expr} {t : WE} {u : WR} (h : PE X e (LE (bx X) G t)) (q : PA X es (LR (bx X) G u)) (hs : starEach (e :: es) X.env = (false, eval e X.env) :: starEach es X.env := by rfl) : PA X (e :: es) (LR (bx X) G (wConsR t u)) := by
  refine PA.wk (pa_cons h q hs) fun σ H Q ⟨ρ, F, Q', R, ht, k⟩ => ?_
  refine ⟨ρ, F, _, R, ht, fun v H1 ρ1 F1 r R1 s1 rr q1 => ?_⟩
  exact ⟨ρ1, F1, _, R1, q1, fun vs H3 ρ3 F3 xs R3 s3 rs q3 => k (v :: vs) H3 ρ3 F3 (r :: xs) R3 (s1.trans s3) (.cons (rr.mono s3) rs) q3⟩

/-! ### tuples, lists -/
def wTup (t : WA) : WE := fun ρ Q => t ρ fun xs ρ1 => xs.length ≤ sizeLine ∧ Q (.v (.tup xs)) ρ1
@[simp] theorem wTup_s (t : WA) (s_ : S) (r_ : List S) (Q_ : _) : wTup t (s_ :: r_) Q_ = (fun ρ Q => t ρ fun xs ρ1 => xs.length ≤ sizeLine ∧ Q (.v (.tup xs)) ρ1) (s_ :: r_) Q_ := rfl
def wLst (t : WA) : WE := fun ρ Q => t ρ fun xs ρ1 => xs.length ≤ sizeLine ∧ Q (.v (.lst xs)) ρ1
@[simp] theorem wLst_s (t : WA) (s_ : S) (r_ : List S) (Q_ : _) : wLst t (s_ :: r_) Q_ = (fun ρ Q => t ρ fun xs ρ1 => xs.length ≤ sizeLine ∧ Q (.v (.lst xs)) ρ1) (s_ :: r_) Q_ := rfl
/-- a new tuple, as a tree -/
theorem newT {G : Fc} {σ : L2.St} {H : Hp} {ρ : List S} {F : Hp} {vs : List V} {xs : List T} {Q : VK} (R : Rel (bx X) G σ H ρ F) (rs : RpAll (bx X) F vs xs) (k : ∀ w H' F', Rel (bx X) G σ H' ρ F' → Sub F F' → Rp (bx X) F' w (.tup xs) → Q w H') : NewT H vs Q := fun p o n hd => by
  obtain ⟨R2, s2⟩ := R.alloc n (.frz o (.tup vs))
  exact k _ _ _ R2 s2 (Rp.tup (.inl (.inr ⟨o, upd_same⟩)) (.inl ⟨o, _, upd_same, hd⟩) (rs.mono s2))
theorem te_tup {es : List Expr} {t : WA} {x1 pos} (h : PA X es (LA (bx X) G t)) : PE X (.Tuple es x1 pos) (LE (bx X) G (wTup t)) := by
  refine PE.wk (pe_tupN h) fun σ H Q ⟨ρ, F, Q', R, ht, k⟩ => ⟨ρ, F, _, R, ht, fun vs H1 ρ1 F1 xs R1 s1 rs q => ?_⟩
  exact ⟨by rw [rs.length]; exact q.1, newT R1 rs fun w H' F' R2 s2 rw' => k _ _ _ _ (.v (.tup xs)) R2 (s1.trans s2) rw' q.2⟩
theorem te_lst {es : List Expr} {t : WA} {pos} (h : PA X es (LA (bx X) G t)) : PE X (.List es pos) (LE (bx X) G (wLst t)) := by
  refine PE.wk (pe_lst h) fun σ H Q ⟨ρ, F, Q', R, ht, k⟩ => ⟨ρ, F, _, R, ht, fun vs H1 ρ1 F1 xs R1 s1 rs q => ?_⟩
  refine ⟨by rw [rs.length]; exact q.1, fun p n => ?_⟩
  obtain ⟨R2, s2⟩ := R1.alloc n (.lst vs)
  exact k _ _ _ _ (.v (.lst xs)) R2 (s1.trans s2) (Rp.lst upd_same (rs.mono s2)) q.2

/-! ### operators of two values -/
/-- the weakest reading of an operation on values -/
def rAny (X : Cx) (f : Value → Value → Sem Value) : R2 := fun x y H Q => ∀ (pins : List (Addr × Obj)) (s : Shared) (σ : L2.St) (v u : Value), Inv X pins σ H s → RelV x v → RelV y u → wpAny (model X.prog X.w) X.A (f v u) (EP X pins σ Q) X.xe s
theorem opAny {f : Value → Value → Sem Value} : OpR X f (rAny X f) := fun pins s σ H x y v u Q I rx ry h => h pins s σ v u I rx ry
theorem anyOf {f : Value → Value → Sem Value} {r : R2} (h : OpR X f r) {x y : V} {H : Hp} {Q : VK} (q : r x y H Q) : rAny X f x y H Q := fun pins s σ v u I rx ry => h pins s σ H x y v u Q I rx ry q
abbrev WOp := T → T → (T → Prop) → Prop
/-- an operation over trees -/
def OpT (X : Cx) (G : Fc) (f : Value → Value → Sem Value) (o : WOp) : Prop :=
  ∀ (σ : L2.St) (H : Hp) (ρ : List S) (F : Hp) (v u : V) (x y : T) (Q' : T → Prop) (Q : VK), Rel (bx X) G σ H ρ F → Ct (bx X) F H v x → Ct (bx X) F H u y → o x y Q' →
    (∀ w H' F' z, Rel (bx X) G σ H' ρ F' → Sub F F' → Rp (bx X) F' w z → Q' z → Q w H') → rAny X f v u H Q
def wOp (o : WOp) (ta tb : WE) : WE := fun ρ Q => ta ρ fun r ρ1 => tb ρ1 fun q ρ2 => ∃ x y, res ρ2 r = some x ∧ res ρ2 q = some y ∧ o x y fun z => Q (.v z) ρ2
@[simp] theorem wOp_s (o : WOp) (ta tb : WE) (s_ : S) (r_ : List S) (Q_ : _) : wOp o ta tb (s_ :: r_) Q_ = (fun ρ Q => ta ρ fun r ρ1 => tb ρ1 fun q ρ2 => ∃ x y, res ρ2 r = some x ∧ res ρ2 q = some y ∧ o x y fun z => Q (.v z) ρ2) (s_ :: r_) Q_ := rfl
theorem lift2 {f : Value → Value → Sem Value} {o : WOp} {ta tb : WE} (ho : OpT X G f o) {σ : L2.St} {H : Hp} {Q : VK} (h : LE (bx X) G (wOp o ta tb) σ H Q) : tOp (rAny X f) (LE (bx X) G ta) (LE (bx X) G tb) σ H Q := by
  obtain ⟨ρ, F, Q', R, ht, k⟩ := h
  refine ⟨ρ, F, _, R, ht, fun v H1 ρ1 F1 r R1 s1 rr q1 => ?_⟩
  refine ⟨ρ1, F1, _, R1, q1, fun u H2 ρ2 F2 q R2 s2 rq q2 => ?_⟩
  obtain ⟨x, y, e1, e2, q2⟩ := q2
  exact ho σ H2 ρ2 F2 v u x y _ Q R2 (R2.ct (rr.mono s2) e1) (R2.ct rq e2) q2 fun w H' F' z R3 s3 rz qz => k w H' ρ2 F' (.v z) R3 (s1.trans (s2.trans s3)) rz qz
theorem te_op {op : Operator} {o : WOp} {a b : Expr} {ta tb : WE} {pos} (ho : OpT X G (binaryOp op) o) (ha : PE X a (LE (bx X) G ta)) (hb : PE X b (LE (bx X) G tb)) : PE X (.BinOp a op b pos) (LE (bx X) G (wOp o ta tb)) :=
  PE.wk (pe_op opAny ha hb) fun _ _ _ h => lift2 ho h
theorem te_cmp {op : CmpOp} {o : WOp} {a b : Expr} {ta tb : WE} {pos} (ho : OpT X G (compareOp op) o) (ha : PE X a (LE (bx X) G ta)) (hb : PE X b (LE (bx X) G tb)) (hm : behindInMarks op b = false) : PE X (.Compare a [op] [b] pos) (LE (bx X) G (wOp o ta tb)) :=
  PE.wk (pe_cmpR opAny ha hb hm) fun _ _ _ h => lift2 ho h

/-- ints only, a value out that is a tree -/
theorem opScal {f : Value → Value → Sem Value} {o : WOp} (h : ∀ (v u : V) (x y : T) (F H : Hp) (Q' : T → Prop), Ct (bx X) F H v x → Ct (bx X) F H u y → o x y Q' → ∃ (z : T) (w : V), (∀ F', Rp (bx X) F' w z) ∧ Q' z ∧ ∀ (Q : VK), Q w H → rAny X f v u H Q) : OpT X G f o := by
  intro σ H ρ F v u x y Q' Q R cx cy q k
  obtain ⟨z, w, rz, qz, g⟩ := h v u x y F H Q' cx cy q
  exact g Q (k w H F z R Sub.refl (rz F) qz)
@[simp] def oSub : WOp := fun x y Q => match x, y with
  | .int i, .int j => Q (.int (i - j))
  | _, _ => False
theorem ot_sub : OpT X G (binaryOp .Sub) oSub := opScal fun v u x y F H Q' cx cy q => by
  unfold oSub at q
  split at q
  · rename_i i j
    obtain rfl := cx.int
    obtain rfl := cy.int
    exact ⟨.int (i - j), .int (i - j), fun _ => .int _, q, fun Q h => anyOf op_sub ⟨_, _, rfl, rfl, h⟩⟩
  · exact q.elim
@[simp] def oMul : WOp := fun x y Q => match x, y with
  | .int i, .int j => CMul i j ∧ Q (.int (i * j))
  | .lst xs, .int k => -(2 ^ 63) ≤ k ∧ k < 2 ^ 63 ∧ xs.length * k.toNat ≤ sizeLine ∧ Q (.lst (List.replicate k.toNat xs).flatten)
  | _, _ => False
theorem flat_rp {K : Bx} {F : Hp} {vs : List V} {xs : List T} (h : RpAll K F vs xs) : ∀ n : Nat, RpAll K F (List.replicate n vs).flatten (List.replicate n xs).flatten
  | 0 => .nil
  | n + 1 => by
    rw [List.replicate_succ, List.replicate_succ, List.flatten_cons, List.flatten_cons]
    exact h.append (flat_rp h n)
theorem ot_mul : OpT X G (binaryOp .Mult) oMul := by
  intro σ H ρ F v u x y Q' Q R cx cy q k
  unfold oMul at q
  split at q
  · rename_i i j
    obtain rfl := cx.int
    obtain rfl := cy.int
    exact anyOf op_mul ⟨_, _, rfl, rfl, q.1, k _ H F _ R Sub.refl (.int _) q.2⟩
  · rename_i xs n
    obtain ⟨p, vs, rfl, hp, rv⟩ := cx
    obtain rfl := cy.int
    obtain ⟨q1, q2, q3, q4⟩ := q
    refine anyOf op_rep ⟨p, n, vs, rfl, rfl, hp, q1, q2, by rw [rv.length]; exact q3, fun l nl => ?_⟩
    obtain ⟨R2, s2⟩ := R.alloc nl (.lst (List.replicate n.toNat vs).flatten)
    exact k _ _ _ _ R2 s2 (Rp.lst upd_same ((flat_rp rv n.toNat).mono s2)) q4
  · exact q.elim
@[simp] def oFdiv : WOp := fun x y Q => match x, y with
  | .int i, .int j => CDiv i j ∧ Q (.int (i / j))
  | _, _ => False
theorem ot_fdiv : OpT X G (binaryOp .FloorDiv) oFdiv := opScal fun v u x y F H Q' cx cy q => by
  unfold oFdiv at q
  split at q
  · rename_i i j
    obtain rfl := cx.int
    obtain rfl := cy.int
    exact ⟨.int (i / j), .int (i / j), fun _ => .int _, q.2, fun Q h => anyOf op_fdiv ⟨_, _, rfl, rfl, q.1, h⟩⟩
  · exact q.elim
@[simp] def oMod : WOp := fun x y Q => match x, y with
  | .int i, .int j => 0 < j ∧ Q (.int (i % j))
  | _, _ => False
theorem ot_mod : OpT X G (binaryOp .Mod) oMod := opScal fun v u x y F H Q' cx cy q => by
  unfold oMod at q
  split at q
  · rename_i i j
    obtain rfl := cx.int
    obtain rfl := cy.int
    exact ⟨.int (i % j), .int (i % j), fun _ => .int _, q.2, fun Q h => anyOf op_mod ⟨_, _, rfl, rfl, q.1, h⟩⟩
  · exact q.elim
@[simp] def oPow : WOp := fun x y Q => match x, y with
  | .int i, .int j => CPow i j ∧ Q (.int (i ^ j.toNat))
  | _, _ => False
theorem ot_pow : OpT X G (binaryOp .Pow) oPow := opScal fun v u x y F H Q' cx cy q => by
  unfold oPow at q
  split at q
  · rename_i i j
    obtain rfl := cx.int
    obtain rfl := cy.int
    exact ⟨.int (i ^ j.toNat), .int (i ^ j.toNat), fun _ => .int _, q.2, fun Q h => anyOf op_pow ⟨_, _, rfl, rfl, q.1, h⟩⟩
  · exact q.elim
@[simp] def oAdd : WOp := fun x y Q => match x, y with
  | .int i, .int j => Q (.int (i + j))
  | .str i, .str j => i.length + j.length ≤ sizeLine ∧ Q (.str (i ++ j))
  | .tup xs, .tup ys => xs.length + ys.length ≤ sizeLine ∧ Q (.tup (xs ++ ys))
  | .lst xs, .lst ys => xs.length + ys.length ≤ sizeLine ∧ Q (.lst (xs ++ ys))
  | _, _ => False
theorem ot_add : OpT X G (binaryOp .Add) oAdd := by
  intro σ H ρ F v u x y Q' Q R cx cy q k
  unfold oAdd at q
  split at q
  · rename_i i j
    obtain rfl := cx.int
    obtain rfl := cy.int
    exact anyOf op_add ⟨_, _, rfl, rfl, k _ H F _ R Sub.refl (.int _) q⟩
  · rename_i i j
    obtain rfl := cx.str
    obtain rfl := cy.str
    exact anyOf op_add_str ⟨_, _, rfl, rfl, q.1, k _ H F _ R Sub.refl (.str _) q.2⟩
  · rename_i xs ys
    obtain ⟨p, vs, rfl, hp, np, rv⟩ := cx.tupN
    obtain ⟨b, us, rfl, hb, nb, ru⟩ := cy.tupN
    refine anyOf op_catN ⟨p, b, vs, us, rfl, rfl, R.subH.sqT hp, R.subH.sqT hb, by rw [rv.length, ru.length]; exact q.1, fun e => ?_, fun _ e => ?_, newT R (rv.append ru) fun w H' F' R2 s2 rw' => k _ _ _ _ R2 s2 rw' q.2⟩
    · subst e
      cases rv
      exact k _ H F _ R Sub.refl (.tup hb nb ru) q.2
    · subst e
      cases ru
      rw [List.append_nil] at q
      exact k _ H F _ R Sub.refl (.tup hp np rv) q.2
  · rename_i xs ys
    obtain ⟨p, vs, rfl, hp, rv⟩ := cx
    obtain ⟨b, us, rfl, hb, ru⟩ := cy
    refine anyOf op_cat ⟨p, b, vs, us, rfl, rfl, hp, hb, by rw [rv.length, ru.length]; exact q.1, fun l nl => ?_⟩
    obtain ⟨R2, s2⟩ := R.alloc nl (.lst (vs ++ us))
    exact k _ _ _ _ R2 s2 (Rp.lst upd_same ((rv.append ru).mono s2)) q.2
  · exact q.elim

/-! ### comparisons -/
@[simp] def oEq : WOp := fun x y Q => T.fit 60 x = true ∧ T.fit 60 y = true ∧ Q (.bl (eqT x y))
@[simp] def oNe : WOp := fun x y Q => T.fit 60 x = true ∧ T.fit 60 y = true ∧ Q (.bl (!eqT x y))
theorem ot_eq (hu : X.A.units + 64 < cLine) : OpT X G (compareOp .Eq) oEq := by
  intro σ H ρ F v u x y Q' Q R cx cy q k
  obtain ⟨f1, f2, q⟩ := q
  exact anyOf (op_eqD hu) ⟨_, _, (cx.rp R.subH).dp 60 f1, (cy.rp R.subH).dp 60 f2, fit_shaped f1 (by decide), fit_shaped f2 (by decide), k _ H F _ R Sub.refl (.bl _) q⟩
theorem ot_ne (hu : X.A.units + 64 < cLine) : OpT X G (compareOp .NotEq) oNe := by
  intro σ H ρ F v u x y Q' Q R cx cy q k
  obtain ⟨f1, f2, q⟩ := q
  exact anyOf (op_neD hu) ⟨_, _, (cx.rp R.subH).dp 60 f1, (cy.rp R.subH).dp 60 f2, fit_shaped f1 (by decide), fit_shaped f2 (by decide), k _ H F _ R Sub.refl (.bl _) q⟩
@[simp] def oI (g : Int → Int → Bool) : WOp := fun x y Q => match x, y with
  | .int i, .int j => Q (.bl (g i j))
  | _, _ => False
theorem ot_i {op : CmpOp} {g : Int → Int → Bool} (h : OpR X (compareOp op) (rI0 fun i j => .bl (g i j))) : OpT X G (compareOp op) (oI g) := opScal fun v u x y F H Q' cx cy q => by
  unfold oI at q
  split at q
  · rename_i i j
    obtain rfl := cx.int
    obtain rfl := cy.int
    exact ⟨.bl (g i j), .bl (g i j), fun _ => .bl _, q, fun Q z => anyOf h ⟨_, _, rfl, rfl, z⟩⟩
  · exact q.elim
theorem ot_lt : OpT X G (compareOp .Lt) (oI fun i j => decide (i < j)) := ot_i op_lt
theorem ot_le : OpT X G (compareOp .LtE) (oI fun i j => decide (i ≤ j)) := ot_i op_le
theorem ot_gt : OpT X G (compareOp .Gt) (oI fun i j => decide (j < i)) := ot_i op_gt
theorem ot_ge : OpT X G (compareOp .GtE) (oI fun i j => decide (j ≤ i)) := ot_i op_ge
@[simp] def isNonT : T → Bool
  | .non => true
  | _ => false
/-- is None; the left one no raw value -/
@[simp] def oIsN : WOp := fun x y Q => match x, y with
  | .raw _, _ => False
  | x, .non => Q (.bl (isNonT x))
  | _, _ => False
@[simp] def oNotN : WOp := fun x y Q => match x, y with
  | .raw _, _ => False
  | x, .non => Q (.bl (!isNonT x))
  | _, _ => False
theorem Ct.isNon {K : Bx} {F H : Hp} {v : V} {t : T} (h : Ct K F H v t) (n : ∀ w, t ≠ .raw w) : decide (v = .non) = isNonT t := by
  cases t with
  | lst xs =>
    obtain ⟨p, vs, rfl, _⟩ := h
    rfl
  | dic k kvs =>
    obtain ⟨p, rfl, _⟩ := h
    rfl
  | raw w => exact absurd rfl (n w)
  | non => cases h; rfl
  | bl b => cases h; rfl
  | int b => cases h; rfl
  | str b => cases h; rfl
  | tup b => cases h; rfl
theorem ot_isN : OpT X G (compareOp .Is) oIsN := opScal fun v u x y F H Q' cx cy q => by
  unfold oIsN at q
  split at q
  · exact q.elim
  · rename_i n
    obtain rfl := cy.non
    exact ⟨_, _, fun _ => .bl _, q, fun Q z => anyOf op_isN ⟨rfl, by rw [cx.isNon n]; exact z⟩⟩
  · exact q.elim
theorem ot_notN : OpT X G (compareOp .IsNot) oNotN := opScal fun v u x y F H Q' cx cy q => by
  unfold oNotN at q
  split at q
  · exact q.elim
  · rename_i n
    obtain rfl := cy.non
    exact ⟨_, _, fun _ => .bl _, q, fun Q z => anyOf op_notN ⟨rfl, by rw [cx.isNon n]; exact z⟩⟩
  · exact q.elim
end
end TL
set_option Elab.async false
set_option linter.all false
set_option maxRecDepth 100000
set_option autoImplicit false
/-! TL2: tests, chains, in, subscripts, slices; new objects -/
namespace TL
open PySem PySem.Spec PyProof.Rows L2
section
variable {X : Cx} {G : Fc}

/-! ### tests -/
def wB (t : WE) : WT := fun ρ Q => t ρ fun r ρ1 => ∃ b, res ρ1 r = some (.bl b) ∧ Q b ρ1
@[simp] theorem wB_s (t : WE) (s_ : S) (r_ : List S) (Q_ : _) : wB t (s_ :: r_) Q_ = (fun ρ Q => t ρ fun r ρ1 => ∃ b, res ρ1 r = some (.bl b) ∧ Q b ρ1) (s_ :: r_) Q_ := rfl
theorem liftB {t : WE} {σ : L2.St} {H : Hp} {Q : Bool → Hp → Prop} (h : LT (bx X) G (wB t) σ H Q) : tB (LE (bx X) G t) σ H Q := by
  obtain ⟨ρ, F, Q', R, ht, k⟩ := h
  refine ⟨ρ, F, _, R, ht, fun v H1 ρ1 F1 r R1 s1 rr ⟨b, e, q⟩ => ?_⟩
  obtain rfl := (R1.ct rr e).bl
  exact ⟨b, rfl, k b H1 ρ1 F1 R1 s1 q⟩
theorem tt_val {e : Expr} {t : WE} (h : PE X e (LE (bx X) G t)) (he : ∀ whole, isTrue e X.env whole = (do let v ← whole; standAt e.pos; holding [v] (truthy v)) := by intro _; rfl) : PT X e (LT (bx X) G (wB t)) :=
  PT.wk (pt_val h he) fun _ _ _ q => liftB q
theorem tt_cmp {op : CmpOp} {o : WOp} {a b : Expr} {ta tb : WE} {pos} (ho : OpT X G (compareOp op) o) (ha : PE X a (LE (bx X) G ta)) (hb : PE X b (LE (bx X) G tb)) (hm : behindInMarks op b = false) : PT X (.Compare a [op] [b] pos) (LT (bx X) G (wB (wOp o ta tb))) := by
  refine PT.wk (pt_cmpR opAny ha hb hm) fun σ H Q h => ?_
  obtain ⟨ρ, F, Q', R, ht, k⟩ := h
  refine lift2 ho ⟨ρ, F, _, R, ht, fun v H1 ρ1 F1 r R1 s1 rr ⟨b, e, q⟩ => ?_⟩
  obtain rfl := (R1.ct rr e).bl
  exact ⟨b, rfl, k b H1 ρ1 F1 R1 s1 q⟩
def wAndT (t u : WT) : WT := fun ρ Q => t ρ fun b ρ1 => if b = true then u ρ1 Q else Q false ρ1
@[simp] theorem wAndT_s (t u : WT) (s_ : S) (r_ : List S) (Q_ : _) : wAndT t u (s_ :: r_) Q_ = (fun ρ Q => t ρ fun b ρ1 => if b = true then u ρ1 Q else Q false ρ1) (s_ :: r_) Q_ := rfl
def wOrT (t u : WT) : WT := fun ρ Q => t ρ fun b ρ1 => if b = true then Q true ρ1 else u ρ1 Q
@[simp] theorem wOrT_s (t u : WT) (s_ : S) (r_ : List S) (Q_ : _) : wOrT t u (s_ :: r_) Q_ = (fun ρ Q => t ρ fun b ρ1 => if b = true then Q true ρ1 else u ρ1 Q) (s_ :: r_) Q_ := rfl
def wNotT (t : WT) : WT := fun ρ Q => t ρ fun b ρ1 => Q (!b) ρ1
@[simp] theorem wNotT_s (t : WT) (s_ : S) (r_ : List S) (Q_ : _) : wNotT t (s_ :: r_) Q_ = (fun ρ Q => t ρ fun b ρ1 => Q (!b) ρ1) (s_ :: r_) Q_ := rfl
theorem tw_and1 {a : Expr} {t : WT} {pos} (ha : PT X a (LT (bx X) G t)) : PW X (.BoolOp .And [a] pos) (LT (bx X) G t) := pw_and1 ha
theorem tw_or1 {a : Expr} {t : WT} {pos} (ha : PT X a (LT (bx X) G t)) : PW X (.BoolOp .Or [a] pos) (LT (bx X) G t) := pw_or1 ha
theorem tw_and {a b : Expr} {rest : List Expr} {t u : WT} {pos} (ha : PT X a (LT (bx X) G t)) (hb : PW X (.BoolOp .And (b :: rest) pos) (LT (bx X) G u)) : PW X (.BoolOp .And (a :: b :: rest) pos) (LT (bx X) G (wAndT t u)) := by
  refine PW.wk (pw_and ha hb) fun σ H Q ⟨ρ, F, Q', R, ht, k⟩ => ⟨ρ, F, _, R, ht, fun b H1 ρ1 F1 R1 s1 q => ?_⟩
  cases b with
  | true => exact ⟨ρ1, F1, _, R1, q, fun b H2 ρ2 F2 R2 s2 q2 => k b H2 ρ2 F2 R2 (s1.trans s2) q2⟩
  | false => exact k false H1 ρ1 F1 R1 s1 q
theorem tw_or {a b : Expr} {rest : List Expr} {t u : WT} {pos} (ha : PT X a (LT (bx X) G t)) (hb : PW X (.BoolOp .Or (b :: rest) pos) (LT (bx X) G u)) : PW X (.BoolOp .Or (a :: b :: rest) pos) (LT (bx X) G (wOrT t u)) := by
  refine PW.wk (pw_or ha hb) fun σ H Q ⟨ρ, F, Q', R, ht, k⟩ => ⟨ρ, F, _, R, ht, fun b H1 ρ1 F1 R1 s1 q => ?_⟩
  cases b with
  | true => exact k true H1 ρ1 F1 R1 s1 q
  | false => exact ⟨ρ1, F1, _, R1, q, fun b H2 ρ2 F2 R2 s2 q2 => k b H2 ρ2 F2 R2 (s1.trans s2) q2⟩
theorem tt_not {a : Expr} {t : WT} {pos} (ha : PT X a (LT (bx X) G t)) : PT X (.UnaryOp .Not a pos) (LT (bx X) G (wNotT t)) :=
  PT.wk (pt_not ha) fun σ H Q ⟨ρ, F, Q', R, ht, k⟩ => ⟨ρ, F, _, R, ht, fun b H1 ρ1 F1 R1 s1 q => k (!b) H1 ρ1 F1 R1 s1 q⟩

/-! ### and, or, not as values; a if t else b -/
def wAndV (ta tb : WE) : WE := fun ρ Q => ta ρ fun r ρ1 => ∃ b, res ρ1 r = some (.bl b) ∧ if b = true then tb ρ1 Q else Q (.v (.bl false)) ρ1
@[simp] theorem wAndV_s (ta tb : WE) (s_ : S) (r_ : List S) (Q_ : _) : wAndV ta tb (s_ :: r_) Q_ = (fun ρ Q => ta ρ fun r ρ1 => ∃ b, res ρ1 r = some (.bl b) ∧ if b = true then tb ρ1 Q else Q (.v (.bl false)) ρ1) (s_ :: r_) Q_ := rfl
def wOrV (ta tb : WE) : WE := fun ρ Q => ta ρ fun r ρ1 => ∃ b, res ρ1 r = some (.bl b) ∧ if b = true then Q (.v (.bl true)) ρ1 else tb ρ1 Q
@[simp] theorem wOrV_s (ta tb : WE) (s_ : S) (r_ : List S) (Q_ : _) : wOrV ta tb (s_ :: r_) Q_ = (fun ρ Q => ta ρ fun r ρ1 => ∃ b, res ρ1 r = some (.bl b) ∧ if b = true then Q (.v (.bl true)) ρ1 else tb ρ1 Q) (s_ :: r_) Q_ := rfl
def wNotV (ta : WE) : WE := fun ρ Q => ta ρ fun r ρ1 => ∃ b, res ρ1 r = some (.bl b) ∧ Q (.v (.bl (!b))) ρ1
@[simp] theorem wNotV_s (ta : WE) (s_ : S) (r_ : List S) (Q_ : _) : wNotV ta (s_ :: r_) Q_ = (fun ρ Q => ta ρ fun r ρ1 => ∃ b, res ρ1 r = some (.bl b) ∧ Q (.v (.bl (!b))) ρ1) (s_ :: r_) Q_ := rfl
theorem te_one {a : Expr} {t : WE} {op pos} (h : PE X a (LE (bx X) G t)) : PE X (.BoolOp op [a] pos) (LE (bx X) G t) := pe_one h
theorem te_and {a b : Expr} {rest : List Expr} {ta tb : WE} {pos} (ha : PE X a (LE (bx X) G ta)) (hb : PE X (.BoolOp .And (b :: rest) pos) (LE (bx X) G tb)) : PE X (.BoolOp .And (a :: b :: rest) pos) (LE (bx X) G (wAndV ta tb)) := by
  refine PE.wk (pe_and ha hb) fun σ H Q ⟨ρ, F, Q', R, ht, k⟩ => ⟨ρ, F, _, R, ht, fun v H1 ρ1 F1 r R1 s1 rr ⟨b, e, q⟩ => ?_⟩
  obtain rfl := (R1.ct rr e).bl
  refine ⟨b, rfl, ?_⟩
  cases b with
  | true => exact ⟨ρ1, F1, _, R1, q, fun v H2 ρ2 F2 r R2 s2 rr q2 => k v H2 ρ2 F2 r R2 (s1.trans s2) rr q2⟩
  | false => exact k _ H1 ρ1 F1 (.v (.bl false)) R1 s1 (Rp.bl _) q
theorem te_or {a b : Expr} {rest : List Expr} {ta tb : WE} {pos} (ha : PE X a (LE (bx X) G ta)) (hb : PE X (.BoolOp .Or (b :: rest) pos) (LE (bx X) G tb)) : PE X (.BoolOp .Or (a :: b :: rest) pos) (LE (bx X) G (wOrV ta tb)) := by
  refine PE.wk (pe_or ha hb) fun σ H Q ⟨ρ, F, Q', R, ht, k⟩ => ⟨ρ, F, _, R, ht, fun v H1 ρ1 F1 r R1 s1 rr ⟨b, e, q⟩ => ?_⟩
  obtain rfl := (R1.ct rr e).bl
  refine ⟨b, rfl, ?_⟩
  cases b with
  | true => exact k _ H1 ρ1 F1 (.v (.bl true)) R1 s1 (Rp.bl _) q
  | false => exact ⟨ρ1, F1, _, R1, q, fun v H2 ρ2 F2 r R2 s2 rr q2 => k v H2 ρ2 F2 r R2 (s1.trans s2) rr q2⟩
theorem te_not {a : Expr} {ta : WE} {pos} (ha : PE X a (LE (bx X) G ta)) : PE X (.UnaryOp .Not a pos) (LE (bx X) G (wNotV ta)) := by
  refine PE.wk (pe_not ha) fun σ H Q ⟨ρ, F, Q', R, ht, k⟩ => ⟨ρ, F, _, R, ht, fun v H1 ρ1 F1 r R1 s1 rr ⟨b, e, q⟩ => ?_⟩
  obtain rfl := (R1.ct rr e).bl
  exact ⟨b, rfl, k _ H1 ρ1 F1 (.v (.bl (!b))) R1 s1 (Rp.bl _) q⟩
def wIf (t : WT) (ta tb : WE) : WE := fun ρ Q => t ρ fun b ρ1 => if b = true then ta ρ1 Q else tb ρ1 Q
@[simp] theorem wIf_s (t : WT) (ta tb : WE) (s_ : S) (r_ : List S) (Q_ : _) : wIf t ta tb (s_ :: r_) Q_ = (fun ρ Q => t ρ fun b ρ1 => if b = true then ta ρ1 Q else tb ρ1 Q) (s_ :: r_) Q_ := rfl
theorem te_if {c a b : Expr} {t : WT} {ta tb : WE} {pos} (hc : PT X c (LT (bx X) G t)) (ha : PE X a (LE (bx X) G ta)) (hb : PE X b (LE (bx X) G tb)) : PE X (.IfExp c a b pos) (LE (bx X) G (wIf t ta tb)) := by
  refine PE.wk (pe_ifExp hc ha hb) fun σ H Q ⟨ρ, F, Q', R, ht, k⟩ => ⟨ρ, F, _, R, ht, fun b H1 ρ1 F1 R1 s1 q => ?_⟩
  cases b with
  | true => exact ⟨ρ1, F1, _, R1, q, fun v H2 ρ2 F2 r R2 s2 rr q2 => k v H2 ρ2 F2 r R2 (s1.trans s2) rr q2⟩
  | false => exact ⟨ρ1, F1, _, R1, q, fun v H2 ρ2 F2 r R2 s2 rr q2 => k v H2 ρ2 F2 r R2 (s1.trans s2) rr q2⟩
/-- -n -/
def wNeg (ta : WE) : WE := fun ρ Q => ta ρ fun r ρ1 => ∃ i, res ρ1 r = some (.int i) ∧ Q (.v (.int (-i))) ρ1
@[simp] theorem wNeg_s (ta : WE) (s_ : S) (r_ : List S) (Q_ : _) : wNeg ta (s_ :: r_) Q_ = (fun ρ Q => ta ρ fun r ρ1 => ∃ i, res ρ1 r = some (.int i) ∧ Q (.v (.int (-i))) ρ1) (s_ :: r_) Q_ := rfl
theorem te_neg {a : Expr} {ta : WE} {pos} (ha : PE X a (LE (bx X) G ta)) : PE X (.UnaryOp .USub a pos) (LE (bx X) G (wNeg ta)) := by
  refine PE.wk (pe_un un_neg ha) fun σ H Q ⟨ρ, F, Q', R, ht, k⟩ => ⟨ρ, F, _, R, ht, fun v H1 ρ1 F1 r R1 s1 rr ⟨b, e, q⟩ => ?_⟩
  obtain rfl := (R1.ct rr e).int
  exact ⟨b, rfl, k _ H1 ρ1 F1 (.v (.int (-b))) R1 s1 (Rp.int _) q⟩

/-! ### chains of comparisons -/
def wChain (o o' : WOp) (ta tb tc : WE) : WE := fun ρ Q => ta ρ fun r ρ1 => tb ρ1 fun q ρ2 => ∃ x y, res ρ2 r = some x ∧ res ρ2 q = some y ∧ o x y fun z => ∃ b, z = .bl b ∧
  if b = true then tc ρ2 fun p ρ3 => ∃ y' z, res ρ3 q = some y' ∧ res ρ3 p = some z ∧ o' y' z fun z => Q (.v z) ρ3 else Q (.v (.bl false)) ρ2
@[simp] theorem wChain_s (o o' : WOp) (ta tb tc : WE) (s_ : S) (r_ : List S) (Q_ : _) : wChain o o' ta tb tc (s_ :: r_) Q_ = (fun ρ Q => ta ρ fun r ρ1 => tb ρ1 fun q ρ2 => ∃ x y, res ρ2 r = some x ∧ res ρ2 q = some y ∧ o x y fun z => ∃ b, z = .bl b ∧
  if b = true then tc ρ2 fun p ρ3 => ∃ y' z, res ρ3 q = some y' ∧ res ρ3 p = some z ∧ o' y' z fun z => Q (.v z) ρ3 else Q (.v (.bl false)) ρ2) (s_ :: r_) Q_ := rfl
theorem liftChain {f f' : Value → Value → Sem Value} {o o' : WOp} {ta tb tc : WE} (ho : OpT X G f o) (ho' : OpT X G f' o') {σ : L2.St} {H : Hp} {Q : VK} (h : LE (bx X) G (wChain o o' ta tb tc) σ H Q) :
    tChain (rAny X f) (rAny X f') (LE (bx X) G ta) (LE (bx X) G tb) (LE (bx X) G tc) σ H Q := by
  obtain ⟨ρ, F, Q', R, ht, k⟩ := h
  refine ⟨ρ, F, _, R, ht, fun v H1 ρ1 F1 r R1 s1 rr q1 => ⟨ρ1, F1, _, R1, q1, fun u H2 ρ2 F2 q R2 s2 rq q2 => ?_⟩⟩
  obtain ⟨x, y, e1, e2, q2⟩ := q2
  refine ho σ H2 ρ2 F2 v u x y _ _ R2 (R2.ct (rr.mono s2) e1) (R2.ct rq e2) q2 fun w H3 F3 z R3 s3 rz qz => ?_
  obtain ⟨b, rfl, qz⟩ := qz
  cases rz
  refine ⟨b, rfl, ?_⟩
  cases b with
  | false => exact k _ H3 ρ2 F3 (.v (.bl false)) R3 (s1.trans (s2.trans s3)) (Rp.bl _) qz
  | true =>
    refine ⟨ρ2, F3, _, R3, qz, fun w' H4 ρ4 F4 p R4 s4 rp q4 => ?_⟩
    obtain ⟨y', z, e3, e4, q4⟩ := q4
    exact ho' σ H4 ρ4 F4 u w' y' z _ Q R4 (R4.ct (rq.mono (s3.trans s4)) e3) (R4.ct rp e4) q4 fun w2 H5 F5 z2 R5 s5 rz2 q5 => k w2 H5 ρ4 F5 (.v z2) R5 (s1.trans (s2.trans (s3.trans (s4.trans s5)))) rz2 q5
theorem te_chain {op op' : CmpOp} {o o' : WOp} {a b c : Expr} {ta tb tc : WE} {pos} (ho : OpT X G (compareOp op) o) (ho' : OpT X G (compareOp op') o') (ha : PE X a (LE (bx X) G ta)) (hb : PE X b (LE (bx X) G tb)) (hc : PE X c (LE (bx X) G tc))
    (hm : lastMarks [op, op'] [b, c] = false := by with_unfolding_all rfl) : PE X (.Compare a [op, op'] [b, c] pos) (LE (bx X) G (wChain o o' ta tb tc)) :=
  PE.wk (pe_chain opAny opAny ha hb hc hm) fun _ _ _ h => liftChain ho ho' h
theorem tt_chain {op op' : CmpOp} {o o' : WOp} {a b c : Expr} {ta tb tc : WE} {pos} (ho : OpT X G (compareOp op) o) (ho' : OpT X G (compareOp op') o') (ha : PE X a (LE (bx X) G ta)) (hb : PE X b (LE (bx X) G tb)) (hc : PE X c (LE (bx X) G tc))
    (hm : lastMarks [op, op'] [b, c] = false := by with_unfolding_all rfl) : PT X (.Compare a [op, op'] [b, c] pos) (LT (bx X) G (wB (wChain o o' ta tb tc))) := by
  refine PT.wk (pt_chain opAny opAny ha hb hc hm) fun σ H Q h => ?_
  obtain ⟨ρ, F, Q', R, ht, k⟩ := h
  refine liftChain ho ho' ⟨ρ, F, _, R, ht, fun v H1 ρ1 F1 r R1 s1 rr ⟨b, e, q⟩ => ?_⟩
  obtain rfl := (R1.ct rr e).bl
  exact ⟨b, rfl, k b H1 ρ1 F1 R1 s1 q⟩

/-! ### in -/
def strIn (y z : Str) : Bool := !(Builtin.Str.occurrences z y 0 z.length 1).isEmpty
def isFlat : T → Bool
  | .int _ => true
  | .str _ => true
  | _ => false
def keyB : DK → T → Bool
  | .flat, t => isFlat t
  | .tup, t => isTupT t && nkOk 8 t && T.fit 60 t
def look (kvs : List (T × T)) (k : T) : Option T := (kvs.find? fun p => eqT p.1 k).map (·.2)
def memT (x : T) (ys : List T) : Bool := ys.any fun y => eqT y x
@[simp] def oInB (g : Bool → Bool) : WOp := fun x c Q => match c with
  | .lst ys => T.fit 59 x = true ∧ ys.all (T.fit 59) = true ∧ Q (.bl (g (memT x ys)))
  | .tup ys => T.fit 59 x = true ∧ ys.all (T.fit 59) = true ∧ Q (.bl (g (memT x ys)))
  | .str z => match x with
    | .str y => Q (.bl (g (strIn y z)))
    | _ => False
  | .dic k kvs => keyB k x = true ∧ Q (.bl (g (look kvs x).isSome))
  | _ => False
theorem any_toD (x : T) (ys : List T) : ((ys.map T.toD).any fun z => PyData.eqv z x.toD) = memT x ys := by
  rw [List.any_map]
  rfl
end

/-! ### a key of a dict -/
theorem isFlat_key {t : T} (h : isFlat t = true) : ∃ k : Key, t = kT k := by
  cases t with
  | int i => exact ⟨.inl i, rfl⟩
  | str x => exact ⟨.inr x, rfl⟩
  | _ => exact absurd (show false = true from h) Bool.false_ne_true
theorem kT_eq (a b : Key) : eqT (kT a) (kT b) = decide (a = b) := by
  cases a with
  | inl i =>
    cases b with
    | inl j =>
      show eqT (.int i) (.int j) = _
      rw [eqT_int, key_ll]
    | inr y =>
      rw [key_lr]
      simp [kT, eqT, PyData.eqv]
  | inr x =>
    cases b with
    | inl j =>
      rw [key_rl]
      simp [kT, eqT, PyData.eqv]
    | inr y =>
      show eqT (.str x) (.str y) = _
      rw [eqT_str, key_rr]
      by_cases e : x = y
      · subst e; simp
      · rw [decide_eq_false e]
        exact beq_eq_false_iff_ne.mpr e
theorem kT_rp {B : Bx} {F : Hp} {v : V} {k : Key} (h : Rp B F v (kT k)) : v = kV k := by
  cases k with
  | inl i => cases h; rfl
  | inr x => cases h; rfl
theorem look_flat {B : Bx} {F : Hp} {k : Key} : ∀ {l : List (Key × V)} {kvs : List (T × T)}, RpKv B F (l.map fun q => (kT q.1, q.2)) kvs →
    (valV l k = none ∧ look kvs (kT k) = none) ∨ ∃ v x, valV l k = some v ∧ look kvs (kT k) = some x ∧ Rp B F v x
  | [], _, h => by
    cases h
    exact .inl ⟨rfl, rfl⟩
  | (a, v) :: l, _, h => by
    cases h with
    | cons hx hr =>
      rename_i x s
      by_cases e : a = k
      · subst e
        refine .inr ⟨v, x, valV_pos rfl, ?_, hx⟩
        simp [look, List.find?_cons, kT_eq]
      · have e1 : valV ((a, v) :: l) k = valV l k := valV_neg e
        have e2 : look ((kT a, x) :: s) (kT k) = look s (kT k) := by simp [look, List.find?_cons, kT_eq, e]
        rw [e1, e2]
        exact look_flat hr
end TL
set_option Elab.async false
set_option linter.all false
set_option maxRecDepth 100000
set_option autoImplicit false
/-! TL3: dicts -/
namespace TL
open PySem PySem.Spec PyProof.Rows L2

/-! ### keys that are tuples -/
mutual
theorem nk_depth : ∀ (n : Nat) (t : T), nkOk n t = true → (nk t).depth ≤ n
  | n, .non, _ => by simp [nk, NestedKey.depth]
  | n, .bl _, _ => by simp [nk, NestedKey.depth]
  | n, .int _, _ => by simp [nk, NestedKey.depth]
  | n, .str _, _ => by simp [nk, NestedKey.depth]
  | n + 1, .tup xs, h => by
    rw [nkOk] at h
    have q := nks_depth n xs h
    rw [nk]
    simp only [NestedKey.depth]
    omega
  | 0, .tup xs, h => by rw [nkOk] at h; cases h
  | n, .lst _, h => by cases n <;> (rw [nkOk] at h; cases h)
  | n, .dic _ _, h => by cases n <;> (rw [nkOk] at h; cases h)
  | n, .raw _, h => by cases n <;> (rw [nkOk] at h; cases h)
theorem nks_depth : ∀ (n : Nat) (ts : List T), nksOk n ts = true → NestedKey.depthAll (nks ts) ≤ n
  | n, [], _ => by simp [nks, NestedKey.depthAll]
  | n, x :: xs, h => by
    rw [nksOk, Bool.and_eq_true] at h
    have q1 := nk_depth n x h.1
    have q2 := nks_depth n xs h.2
    rw [nks]
    simp only [NestedKey.depthAll]
    omega
end
section
variable {X : Cx} {pins : List (Addr × Obj)} {σ : L2.St} {H : Hp} {s : Shared}
mutual
theorem nk_is (I : Inv X pins σ H s) : ∀ (n : Nat) (t : T) (v : V) (u : Value), nkOk n t = true → Rp (bx X) H v t → RelV v u → NestedIs s.heap (nk t) u
  | n, .non, v, u, _, r, e => by
    cases r
    obtain rfl : u = Value.none := e
    rw [nk]
    exact .none
  | n, .bl b, v, u, _, r, e => by
    cases r
    obtain rfl : u = Value.bool b := e
    rw [nk]
    exact .bool rfl
  | n, .int i, v, u, _, r, e => by
    cases r
    obtain ⟨t, rfl⟩ := e
    rw [nk]
    exact .int i t
  | n, .str i, v, u, _, r, e => by
    cases r
    obtain ⟨t, rfl⟩ := e
    rw [nk]
    exact .text i t
  | n + 1, .tup xs, v, u, h, r, e => by
    rw [nkOk] at h
    cases r with
    | tup hs _ hr =>
      obtain rfl : u = Value.ref _ := e
      obtain ⟨its, rv, ⟨o, ho, hc, m, hd⟩, hz⟩ := I.tuple hs
      rw [nk]
      exact .tup ho hc hd (by simpa using nks_is I n xs _ its h hr rv)
  | 0, .tup xs, v, u, h, r, e => by rw [nkOk] at h; cases h
  | n, .lst _, v, u, h, r, e => by cases n <;> (rw [nkOk] at h; cases h)
  | n, .dic _ _, v, u, h, r, e => by cases n <;> (rw [nkOk] at h; cases h)
  | n, .raw _, v, u, h, r, e => by cases n <;> (rw [nkOk] at h; cases h)
theorem nks_is (I : Inv X pins σ H s) : ∀ (n : Nat) (ts : List T) (vs : List V) (us : List Value), nksOk n ts = true → RpAll (bx X) H vs ts → Vals vs us → NestedAll s.heap (nks ts) us
  | n, [], _, _, _, r, e => by
    cases r
    cases e
    rw [nks]
    exact .nil
  | n, x :: xs, _, _, h, r, e => by
    rw [nksOk, Bool.and_eq_true] at h
    cases r with
    | cons r1 r2 =>
      cases e with
      | cons e1 e2 =>
        rw [nks]
        exact .cons (nk_is I n x _ _ h.1 r1 e1) (nks_is I n xs _ _ h.2 r2 e2)
end
theorem key_is (I : Inv X pins σ H s) {b : Addr} {y : T} (r : Rp (bx X) H (.ref b) y) (ok : nkOk 8 y = true) : (nestedKind X.prog X.w).is s.heap (nk y) b :=
  ⟨nk_is I 8 y _ _ ok r rfl, nk_depth 8 y ok⟩
end
mutual
theorem eq_nk : ∀ (n m : Nat) (a b : T), nkOk n a = true → nkOk m b = true → (eqT a b = true ↔ nk a = nk b)
  | n, m, a, .lst _, _, h => by cases m <;> (rw [nkOk] at h; cases h)
  | n, m, a, .dic _ _, _, h => by cases m <;> (rw [nkOk] at h; cases h)
  | n, m, a, .raw _, _, h => by cases m <;> (rw [nkOk] at h; cases h)
  | n, m, .lst _, b, h, _ => by cases n <;> (rw [nkOk] at h; cases h)
  | n, m, .dic _ _, b, h, _ => by cases n <;> (rw [nkOk] at h; cases h)
  | n, m, .raw _, b, h, _ => by cases n <;> (rw [nkOk] at h; cases h)
  | 0, m, .tup _, b, h, _ => by rw [nkOk] at h; cases h
  | n, 0, a, .tup _, _, h => by rw [nkOk] at h; cases h
  | n + 1, m + 1, .tup xs, .tup ys, h1, h2 => by
    rw [nkOk] at h1 h2
    rw [eqT_tup, nk, nk]
    have q := eqs_nk n m xs ys h1 h2
    constructor
    · intro e
      rw [q.mp e]
    · intro e
      injection e with e
      exact q.mpr e
  | n, m, .non, .non, _, _ => by simp [nk]
  | n, m, .non, .bl b, _, _ => by simp [nk, eqT, PyData.eqv]
  | n, m, .non, .int b, _, _ => by simp [nk, eqT, PyData.eqv]
  | n, m, .non, .str b, _, _ => by simp [nk, eqT, PyData.eqv]
  | n, m + 1, .non, .tup b, _, _ => by simp [nk, eqT, PyData.eqv]
  | n, m, .bl a, .non, _, _ => by simp [nk, eqT, PyData.eqv]
  | n, m, .bl a, .bl b, _, _ => by cases a <;> cases b <;> simp [nk, eqT, PyData.eqv]
  | n, m, .bl a, .int b, _, _ => by simp [nk, eqT, PyData.eqv]
  | n, m, .bl a, .str b, _, _ => by simp [nk, eqT, PyData.eqv]
  | n, m + 1, .bl a, .tup b, _, _ => by simp [nk, eqT, PyData.eqv]
  | n, m, .int a, .non, _, _ => by simp [nk, eqT, PyData.eqv]
  | n, m, .int a, .bl b, _, _ => by simp [nk, eqT, PyData.eqv]
  | n, m, .int a, .int b, _, _ => by simp [nk]
  | n, m, .int a, .str b, _, _ => by simp [nk, eqT, PyData.eqv]
  | n, m + 1, .int a, .tup b, _, _ => by simp [nk, eqT, PyData.eqv]
  | n, m, .str a, .non, _, _ => by simp [nk, eqT, PyData.eqv]
  | n, m, .str a, .bl b, _, _ => by simp [nk, eqT, PyData.eqv]
  | n, m, .str a, .int b, _, _ => by simp [nk, eqT, PyData.eqv]
  | n, m, .str a, .str b, _, _ => by simp [nk]
  | n, m + 1, .str a, .tup b, _, _ => by simp [nk, eqT, PyData.eqv]
  | n + 1, m, .tup a, .non, _, _ => by simp [nk, eqT, PyData.eqv]
  | n + 1, m, .tup a, .bl b, _, _ => by simp [nk, eqT, PyData.eqv]
  | n + 1, m, .tup a, .int b, _, _ => by simp [nk, eqT, PyData.eqv]
  | n + 1, m, .tup a, .str b, _, _ => by simp [nk, eqT, PyData.eqv]
theorem eqs_nk : ∀ (n m : Nat) (a b : List T), nksOk n a = true → nksOk m b = true → (eqTs a b = true ↔ nks a = nks b)
  | n, m, [], [], _, _ => by simp [nks]
  | n, m, [], y :: ys, _, _ => by simp [nks]
  | n, m, x :: xs, [], _, _ => by simp [nks]
  | n, m, x :: xs, y :: ys, h1, h2 => by
    rw [nksOk, Bool.and_eq_true] at h1 h2
    rw [eqTs_cons, Bool.and_eq_true, eq_nk n m x y h1.1 h2.1, eqs_nk n m xs ys h1.2 h2.2, nks, nks]
    simp
end
abbrev Ents : List (NestedKey × Addr × V) → List (NestedKey × Addr × Value) → Prop := Paired (fun (p : NestedKey × Addr × V) (q : NestedKey × Addr × Value) => p.1 = q.1 ∧ p.2.1 = q.2.1 ∧ RelV p.2.2 q.2.2)
theorem nk_eqB {a b : T} (ha : nkOk 8 a = true) (hb : nkOk 8 b = true) : eqT a b = decide (nk a = nk b) := by
  rw [Bool.eq_iff_iff, eq_nk 8 8 a b ha hb]
  simp
theorem look_tup {B : Bx} {F : Hp} {y : T} (hy : nkOk 8 y = true) : ∀ {l : List (NestedKey × Addr × V)} {kvs : List (T × T)} {ys : List (NestedKey × Addr × Value)}, RpNk B F l kvs → Ents l ys →
    (atKey ys (nk y) = none ∧ look kvs y = none) ∨ ∃ a u v x, atKey ys (nk y) = some (a, u) ∧ look kvs y = some x ∧ RelV v u ∧ Rp B F v x
  | _, _, _, .nil, h => by
    cases h
    exact .inl ⟨rfl, rfl⟩
  | _, _, _, .cons (b := b0) (y := z) (x := x) (s := s) ht hz hk hx hr, h => by
    cases h with
    | cons h1 h2 =>
      rename_i q ys
      obtain ⟨k, a, u⟩ := q
      obtain ⟨e1, e2, e3⟩ := h1
      simp only at e1 e2 e3
      subst e1 e2
      by_cases e : nk z = nk y
      · refine .inr ⟨b0, u, _, x, ?_, ?_, e3, hx⟩
        · simp [atKey, List.find?_cons, e]
        · simp [look, List.find?_cons, nk_eqB hz hy, e]
      · have e1 : ∀ b, atKey ((nk z, b, u) :: ys) (nk y) = atKey ys (nk y) := fun b => by simp [atKey, List.find?_cons, e]
        have e2 : look ((z, x) :: s) y = look s y := by simp [look, List.find?_cons, nk_eqB hz hy, e]
        rw [e1, e2]
        exact look_tup hy hr h2
def putT (kvs : List (T × T)) (k x : T) : List (T × T) :=
  if (kvs.any fun p => eqT p.1 k) = true then kvs.map (fun p => if eqT p.1 k = true then (p.1, x) else p) else kvs ++ [(k, x)]
def putX (l : List (NestedKey × Addr × V)) (k : NestedKey) (a : Addr) (v : V) : List (NestedKey × Addr × V) :=
  if (l.any fun p => decide (p.1 = k)) = true then l.map (fun p => if p.1 = k then (p.1, p.2.1, v) else p) else l ++ [(k, a, v)]
theorem RpNk.any {B : Bx} {F : Hp} {y : T} (hy : nkOk 8 y = true) : ∀ {l : List (NestedKey × Addr × V)} {kvs : List (T × T)}, RpNk B F l kvs → (l.any fun p => decide (p.1 = nk y)) = kvs.any fun p => eqT p.1 y
  | _, _, .nil => rfl
  | _, _, .cons ht hz hk hx hr => by rw [List.any_cons, List.any_cons, RpNk.any hy hr, nk_eqB hz hy]
theorem RpNk.over {B : Bx} {F : Hp} {y x : T} {v : V} (hy : nkOk 8 y = true) (hv : Rp B F v x) : ∀ {l : List (NestedKey × Addr × V)} {kvs : List (T × T)}, RpNk B F l kvs →
    RpNk B F (l.map fun p => if p.1 = nk y then (p.1, p.2.1, v) else p) (kvs.map fun p => if eqT p.1 y = true then (p.1, x) else p)
  | _, _, .nil => .nil
  | _, _, .cons (y := z) ht hz hk hx hr => by
    rw [List.map_cons, List.map_cons]
    simp only [nk_eqB hz hy, decide_eq_true_eq]
    by_cases e : nk z = nk y
    · rw [if_pos e, if_pos e]
      exact .cons ht hz hk hv (RpNk.over hy hv hr)
    · rw [if_neg e, if_neg e]
      exact .cons ht hz hk hx (RpNk.over hy hv hr)
theorem RpNk.snoc {B : Bx} {F : Hp} {y x : T} {v : V} {b : Addr} (ht : isTupT y = true) (hy : nkOk 8 y = true) (hb : Rp B F (.ref b) y) (hv : Rp B F v x) : ∀ {l : List (NestedKey × Addr × V)} {kvs : List (T × T)}, RpNk B F l kvs → RpNk B F (l ++ [(nk y, b, v)]) (kvs ++ [(y, x)])
  | _, _, .nil => .cons ht hy hb hv .nil
  | _, _, .cons a c d e r => .cons a c d e (RpNk.snoc ht hy hb hv r)
theorem RpNk.put {B : Bx} {F : Hp} {y x : T} {v : V} {b : Addr} (ht : isTupT y = true) (hy : nkOk 8 y = true) (hb : Rp B F (.ref b) y) (hv : Rp B F v x) {l : List (NestedKey × Addr × V)} {kvs : List (T × T)} (r : RpNk B F l kvs) : RpNk B F (putX l (nk y) b v) (putT kvs y x) := by
  unfold putX putT
  rw [r.any hy]
  split
  · exact r.over hy hv
  · exact r.snoc ht hy hb hv
theorem RpNk.length {B : Bx} {F : Hp} : ∀ {l : List (NestedKey × Addr × V)} {kvs : List (T × T)}, RpNk B F l kvs → l.length = kvs.length
  | _, _, .nil => rfl
  | _, _, .cons _ _ _ _ r => by rw [List.length_cons, List.length_cons, RpNk.length r]
theorem Ents.any {l : List (NestedKey × Addr × V)} {ys : List (NestedKey × Addr × Value)} {k : NestedKey} (h : Ents l ys) : (l.any fun p => decide (p.1 = k)) = (atKey ys k).isSome := by
  induction h with
  | nil => rfl
  | cons h1 h2 ih =>
    rename_i p q xs zs
    obtain ⟨e1, e2, e3⟩ := h1
    rw [List.any_cons, ih]
    by_cases e : q.1 = k
    · simp [atKey, List.find?_cons, e1, e]
    · simp [atKey, List.find?_cons, e1, e]
theorem Ents.over {l : List (NestedKey × Addr × V)} {ys : List (NestedKey × Addr × Value)} {k : NestedKey} {v : V} {u : Value} (r : RelV v u) (h : Ents l ys) : Ents (l.map fun p => if p.1 = k then (p.1, p.2.1, v) else p) (ys.map (putAt k u)) := by
  induction h with
  | nil => exact .nil
  | cons h1 h2 ih =>
    rename_i p q xs zs
    obtain ⟨e1, e2, e3⟩ := h1
    rw [List.map_cons, List.map_cons]
    refine .cons ?_ ih
    unfold putAt
    by_cases e : q.1 = k
    · rw [if_pos (by rw [e1]; exact e), if_pos e]
      exact ⟨e1, e2, r⟩
    · rw [if_neg (by rw [e1]; exact e), if_neg e]
      exact ⟨e1, e2, e3⟩
theorem Ents.snoc {l : List (NestedKey × Addr × V)} {ys : List (NestedKey × Addr × Value)} {k : NestedKey} {b : Addr} {v : V} {u : Value} (r : RelV v u) (h : Ents l ys) : Ents (l ++ [(k, b, v)]) (ys ++ [(k, b, u)]) := by
  induction h with
  | nil => exact .cons ⟨rfl, rfl, r⟩ .nil
  | cons h1 h2 ih => exact .cons h1 ih
theorem Ents.put {l : List (NestedKey × Addr × V)} {ys : List (NestedKey × Addr × Value)} {k : NestedKey} {b : Addr} {v : V} {u : Value} (r : RelV v u) (h : Ents l ys) : Ents (putX l k b v) (storedH ys k b u) := by
  unfold putX storedH
  rw [h.any]
  split
  · exact h.over r
  · exact h.snoc r
theorem putT_length (kvs : List (T × T)) (k x : T) : (putT kvs k x).length ≤ kvs.length + 1 := by
  unfold putT
  split
  · rw [List.length_map]
    omega
  · simp

section
variable {X : Cx} {pins : List (Addr × Obj)} {σ : L2.St} {H F : Hp} {s : Shared}
theorem dx_of (I : Inv X pins σ H s) {p : Addr} {l : List (NestedKey × Addr × V)} {kvs : List (T × T)} (e : Rd H p (DxO X.prog X.w p l)) (r : RpNk (bx X) H l kvs) :
    (p == sysModules) = false ∧ l.length ≤ sizeLine ∧ ∃ ys, Ents l ys ∧ s.heap.DictOfH (nestedKind X.prog X.w) p ys := by
  have q := e.ok I.hok
  obtain ⟨⟨h1, h2, ys, o, es, ep, hp, ho, hx, hd, he, hn⟩, _⟩ := q
  refine ⟨h1, h2, ys, hp, o, es, ep, ho, hx, hd, he, ?_, hn⟩
  have all : ∀ {l : List (NestedKey × Addr × V)} {kvs : List (T × T)} {ys : List (NestedKey × Addr × Value)}, RpNk (bx X) H l kvs → Ents l ys → ∀ x ∈ ys, (nestedKind X.prog X.w).is s.heap x.1 x.2.1 := by
    intro l kvs ys r h
    induction h generalizing kvs with
    | nil => intro x hx; cases hx
    | cons h1 h2 ih =>
      rename_i p q xs zs
      cases r with
      | cons a b c d r =>
        intro x hx
        rcases List.mem_cons.mp hx with rfl | hx
        · obtain ⟨e1, e2, _⟩ := h1
          have k := key_is I c b
          simp only at e1 e2
          rw [← e1, ← e2]
          exact k
        · exact ih r x hx
  exact all r hp
theorem dgetK {a : Addr} {kvs : List (Key × V)} {k : Key} (e : Rd H a (.dK kvs)) : DGet H a (kV k) (valV kvs k) := .inl ⟨kvs, k, e, rfl, rfl⟩
theorem in1_room {k : Nat} {A : Around} (hr : Room k A) : A.in1.units + 8 < cLine := by
  have h := hr.un
  show A.units + 1 + 8 < cLine
  omega
theorem dat_in {k : Nat} {op : CmpOp} {g : Bool → Bool} (hop : (op = .In ∧ g = fun b => b) ∨ (op = .NotIn ∧ g = fun b => !b)) (hr : Room k X.A) (I : Inv X pins σ H s) (sub : Sub F H) {p : Addr} {m : DK} {kvs : List (T × T)} {y : T} {v : V} {u : Value} (h : DRd (bx X) F H p m kvs) (ky : keyB m y = true) (ry : Rp (bx X) H v y) (ru : RelV v u)
    {Q : Value → Shared → Prop} {E : Value → Shared → Prop} (q : ∀ s', Inv X pins σ H s' → Q (.bool (g (look kvs y).isSome)) s') : wpAny (model X.prog X.w) X.A (compareOp op u (.ref p)) Q E s := by
  cases m with
  | flat =>
    obtain ⟨l, e, r⟩ := h
    obtain ⟨k', rfl⟩ := isFlat_key ky
    obtain rfl := kT_rp ry
    have hl := look_flat (k := k') r
    have hu : X.A.units + 1 < cLine := by have := hr.un; omega
    have hs : (valV l k').isSome = (look kvs (kT k')).isSome := by
      rcases hl with ⟨a, b⟩ | ⟨v, x, a, b, _⟩ <;> rw [a, b] <;> rfl
    rcases hop with ⟨rfl, rfl⟩ | ⟨rfl, rfl⟩
    · exact d_in hu I (dgetK (k := k') e) ru fun s' I' => by rw [hs]; exact q s' I'
    · exact d_notIn hu I (dgetK (k := k') e) ru fun s' I' => by rw [hs]; exact q s' I'
  | tup =>
    obtain ⟨l, e, r⟩ := h
    unfold keyB at ky
    simp only [Bool.and_eq_true] at ky
    obtain ⟨⟨k1, k2⟩, k3⟩ := ky
    cases y with
    | tup ys =>
      obtain ⟨b, rfl⟩ : ∃ b, v = .ref b := by
        cases ry
        exact ⟨_, rfl⟩
      obtain rfl : u = Value.ref b := ru
      obtain ⟨h1, h2, zs, he, hd⟩ := dx_of I e (r.mono sub)
      have hl := look_tup k2 r he
      have hs : (atKey zs (nk (.tup ys))).isSome = (look kvs (.tup ys)).isSome := by
        rcases hl with ⟨a, b⟩ | ⟨a, u, v, x, c, d, _⟩
        · rw [a, b]; rfl
        · rw [c, d]; rfl
      rcases hop with ⟨rfl, rfl⟩ | ⟨rfl, rfl⟩
      · exact wpAny_in_heap (knd := nestedKind X.prog X.w) (in1_room hr) (key_is I ry k2) h1 hd (by rw [hs]; exact q _ (I.tok _))
      · refine notIn_keyed (knd := nestedKind X.prog X.w) (kvs := pairsH zs) (in1_room hr) (key_is I ry k2) h1 ⟨zs, hd, rfl⟩ ?_
        rw [valueAt_pairsH, Option.isSome_map, hs]
        exact q _ (I.tok _)
    | _ => exact absurd (show false = true from k1) Bool.false_ne_true
theorem dat_get {k : Nat} (hr : Room k X.A) (I : Inv X pins σ H s) (sub : Sub F H) {p : Addr} {m : DK} {kvs : List (T × T)} {y x : T} {v : V} {u : Value} (h : DRd (bx X) F H p m kvs) (ky : keyB m y = true) (ry : Rp (bx X) H v y) (ru : RelV v u)
    (hx : look kvs y = some x) {Q : Value → Shared → Prop} {E : Value → Shared → Prop} (q : ∀ w' w s', Inv X pins σ H s' → RelV w w' → Rp (bx X) F w x → Q w' s') : wpAny (model X.prog X.w) X.A (getItem (.ref p) u) Q E s := by
  cases m with
  | flat =>
    obtain ⟨l, e, r⟩ := h
    obtain ⟨k', rfl⟩ := isFlat_key ky
    obtain rfl := kT_rp ry
    have hl := look_flat (k := k') r
    have hu : X.A.units + 1 < cLine := by have := hr.un; omega
    rcases hl with ⟨a, b⟩ | ⟨w, z, a, b, c⟩
    · rw [b] at hx; cases hx
    · rw [b] at hx; cases hx
      exact d_getItem hu I (by rw [← a]; exact dgetK (k := k') e) ru fun w' s' I' rw' => q w' w s' I' rw' c
  | tup =>
    obtain ⟨l, e, r⟩ := h
    unfold keyB at ky
    simp only [Bool.and_eq_true] at ky
    obtain ⟨⟨k1, k2⟩, k3⟩ := ky
    cases y with
    | tup ys =>
      obtain ⟨b, rfl⟩ : ∃ b, v = .ref b := by
        cases ry
        exact ⟨_, rfl⟩
      obtain rfl : u = Value.ref b := ru
      obtain ⟨h1, h2, zs, he, hd⟩ := dx_of I e (r.mono sub)
      rcases look_tup k2 r he with ⟨a, b⟩ | ⟨a, u, v, z, c, d, e1, e2⟩
      · rw [b] at hx; cases hx
      · rw [d] at hx; cases hx
        exact wpAny_getItem_heap (knd := nestedKind X.prog X.w) (in1_room hr) (key_is I ry k2) hd c (q u v _ (I.tok _) e1 e2)
    | _ => exact absurd (show false = true from k1) Bool.false_ne_true
/-- what stands at a dict's place behind d[y] = x -/
def putO (X : Cx) (p : Addr) (m : DK) (o : HO) (v w : V) (y : T) : HO := match m, o with
  | .flat, .dK l => match y with
    | .int i => .dK (putK l (.inl i) w)
    | .str z => .dK (putK l (.inr z) w)
    | _ => o
  | _, _ => o
theorem RpKv.any {B : Bx} {F : Hp} {k : Key} : ∀ {l : List (Key × V)} {kvs : List (T × T)}, RpKv B F (l.map fun q => (kT q.1, q.2)) kvs → (l.any fun p => decide (p.1 = k)) = kvs.any fun p => eqT p.1 (kT k)
  | [], _, h => by cases h; rfl
  | (a, v) :: l, _, h => by
    cases h with
    | cons hx hr => rw [List.any_cons, List.any_cons, RpKv.any hr, kT_eq]
theorem RpKv.over {B : Bx} {F : Hp} {k : Key} {w : V} {x : T} (hw : Rp B F w x) : ∀ {l : List (Key × V)} {kvs : List (T × T)}, RpKv B F (l.map fun q => (kT q.1, q.2)) kvs →
    RpKv B F ((l.map fun kv => if kv.1 = k then (kv.1, w) else kv).map fun q => (kT q.1, q.2)) (kvs.map fun p => if eqT p.1 (kT k) = true then (p.1, x) else p)
  | [], _, h => by cases h; exact .nil
  | (a, v) :: l, _, h => by
    cases h with
    | cons hx hr =>
      rw [List.map_cons, List.map_cons, List.map_cons]
      simp only [kT_eq, decide_eq_true_eq]
      by_cases e : a = k
      · rw [if_pos e, if_pos e]
        exact .cons hw (RpKv.over hw hr)
      · rw [if_neg e, if_neg e]
        exact .cons hx (RpKv.over hw hr)
theorem RpKv.snoc {B : Bx} {F : Hp} {k : Key} {w : V} {x : T} (hw : Rp B F w x) : ∀ {l : List (Key × V)} {kvs : List (T × T)}, RpKv B F (l.map fun q => (kT q.1, q.2)) kvs → RpKv B F ((l ++ [(k, w)]).map fun q => (kT q.1, q.2)) (kvs ++ [(kT k, x)])
  | [], _, h => by cases h; exact .cons hw .nil
  | (a, v) :: l, _, h => by
    cases h with
    | cons hx hr => exact .cons hx (RpKv.snoc hw hr)
theorem RpKv.put {B : Bx} {F : Hp} {k : Key} {w : V} {x : T} (hw : Rp B F w x) {l : List (Key × V)} {kvs : List (T × T)} (r : RpKv B F (l.map fun q => (kT q.1, q.2)) kvs) : RpKv B F ((putK l k w).map fun q => (kT q.1, q.2)) (putT kvs (kT k) x) := by
  unfold putK putT
  rw [RpKv.any r]
  split
  · exact RpKv.over hw r
  · exact RpKv.snoc hw r
theorem dat_put {k : Nat} (hr : Room k X.A) (I : Inv X pins σ H s) (sub : Sub F H) {p : Addr} {m : DK} {kvs : List (T × T)} {y x : T} {v w : V} {u uw : Value} (h : DAt (bx X) F H p m kvs) (ky : keyB m y = true) (hl : kvs.length < sizeLine) (ry : Rp (bx X) F v y) (rx : Rp (bx X) F w x) (ru : RelV v u) (rw' : RelV w uw)
    (hpF : F p = none) {Q : Unit → Shared → Prop} {E : Value → Shared → Prop} (q : ∀ o s', Inv X pins σ (upd H p o) s' → DAt (bx X) F (upd H p o) p m (putT kvs y x) → Q () s') : wpAny (model X.prog X.w) X.A (setItem (.ref p) u uw) Q E s := by
  cases m with
  | flat =>
    obtain ⟨l, e, r⟩ := h
    obtain ⟨k', rfl⟩ := isFlat_key ky
    obtain rfl := kT_rp ry
    have hu : X.A.units + 1 < cLine := by have := hr.un; omega
    have el : l.length = kvs.length := by have := r.length; rw [List.length_map] at this; exact this
    exact d_setItem hu I (DPut.k (k := k') (v := w) e (by omega)) ru rw' fun s' I' => q _ s' I' ⟨_, upd_same, r.put rx⟩
  | tup =>
    obtain ⟨l, e, r⟩ := h
    unfold keyB at ky
    simp only [Bool.and_eq_true] at ky
    obtain ⟨⟨k1, k2⟩, k3⟩ := ky
    cases y with
    | tup ys =>
      obtain ⟨b, rfl⟩ : ∃ b, v = .ref b := by
        cases ry
        exact ⟨_, rfl⟩
      obtain rfl : u = Value.ref b := ru
      have e' : H p = some (DxO X.prog X.w p l) := e
      obtain ⟨h1, h2, zs, he, hd⟩ := dx_of I (.inl e') (r.mono sub)
      have ez : zs.length = l.length := (Paired.length he).symm
      have el := r.length
      have el2 := putT_length kvs (.tup ys) x
      have er := (r.put k1 k2 ry rx).length
      refine wpAny_setItem_heap (knd := nestedKind X.prog X.w) (hsz := by omega) (in1_room hr) (key_is I (ry.mono sub) k2) hd fun h' dd' hs => ?_
      obtain ⟨o, es, ep, ho, hx, hdt, hes, _, hn⟩ := dd'
      have new : ∀ H' : Hp, ObjOk X.prog X.w H' h' p (DxO X.prog X.w p (putX l (nk (.tup ys)) b w)) := fun H' => by
        refine ⟨⟨h1, by omega, _, o, es, ep, he.put rw', ho, hx, hdt, hes, hn⟩, ⟨o, ho⟩, fun ha hb hf hk => ?_⟩
        obtain ⟨f1, f2, ys', o', es', ep', g1, g2, g3⟩ := hf
        exact ⟨f1, f2, ys', o', es', ep', g1, hk _ g2, g3⟩
      exact q _ _ (d_write I (by rw [e']; exact True.intro) hs ⟨o, ho⟩ (new _)) ⟨_, upd_same, r.put k1 k2 ry rx⟩
    | _ => exact absurd (show false = true from k1) Bool.false_ne_true
end
end TL
set_option Elab.async false
set_option linter.all false
set_option maxRecDepth 100000
set_option autoImplicit false
/-! TL4: in, subscripts, slices, methods, own objects that change -/
namespace TL
open PySem PySem.Spec PyProof.Rows L2

section
variable {K : Bx} {G : Fc} {σ : L2.St} {H : Hp} {ρ : List S} {F : Hp}
theorem set_at {α : Type} {l : List α} {i : Nat} {x y : α} (h : l[i]? = some x) : (l.set i y)[i]? = some y := by
  obtain ⟨hi, _⟩ := List.getElem?_eq_some_iff.mp h
  exact List.getElem?_set_self hi
/-- the own object of slot i has changed -/
theorem Rel.mut (h : Rel K G σ H ρ F) {i : Nat} {s s' : S} {p : Addr} {o : HO} (e : ρ[i]? = some s) (w : s.isOwn = true) (ep : σ[i]? = some (some (.ref p))) (w' : s'.isOwn = true) (ok : SlotOk K G F (upd H p o) σ[i]? s') : Rel K G σ (upd H p o) (ρ.set i s') F := by
  obtain ⟨⟨u, hu⟩, ow⟩ := (h.slot i s e).there w ep
  refine ⟨fun a q ea => ?_, fun a q ea => ?_, h.old, h.fresh, G.W.st _ _ (fun a wa => ?_) h.inv, h.inv0, by rw [List.length_set]; exact h.len, fun b hb => ?_, fun j t et => ?_, fun j l t r b e1 e2 o1 o2 f1 f2 => ?_⟩
  · rw [off_upd ow.w]
    exact h.sub.updR ow.f a q ea
  · rw [off_upd ow.w]
    exact h.base.updR (off_none ow.h0) a q ea
  · have ha : a ≠ p := fun z => by
      subst z
      rw [ow.w] at wa
      cases wa
    rw [upd_ne ha]
  · obtain ⟨h1, h2, h3⟩ := h.pin b hb
    have hne : b.1 ≠ p := fun z => by
      refine h3 i s e w ?_
      rw [z]
      exact ep
    refine ⟨by rw [upd_ne hne]; exact h1, ⟨h2.f, h2.h0, h2.w⟩, fun j u e1 w1 => ?_⟩
    by_cases hj : i = j
    · subst hj
      exact h3 i s e w
    · rw [List.getElem?_set_ne hj] at e1
      exact h3 j u e1 w1
  · by_cases hj : i = j
    · subst hj
      rw [set_at e] at et
      cases et
      exact ok
    · rw [List.getElem?_set_ne hj] at et
      refine (h.slot j t et).keep Sub.refl (own_upd ow.w) fun b wb eb => ?_
      obtain ⟨_, ob⟩ := (h.slot j t et).there wb eb
      have hb : b ≠ p := fun z => by
        subst z
        exact hj (h.sep i j s t b e et w wb ep eb)
      rw [upd_ne hb]
      exact ⟨rfl, ob.f⟩
  · have own1 : ∃ t', ρ[j]? = some t' ∧ t'.isOwn = true := by
      by_cases hj : i = j
      · subst hj
        exact ⟨s, e, w⟩
      · rw [List.getElem?_set_ne hj] at e1
        exact ⟨t, e1, o1⟩
    have own2 : ∃ t', ρ[l]? = some t' ∧ t'.isOwn = true := by
      by_cases hj : i = l
      · subst hj
        exact ⟨s, e, w⟩
      · rw [List.getElem?_set_ne hj] at e2
        exact ⟨r, e2, o2⟩
    obtain ⟨t1, g1, w1⟩ := own1
    obtain ⟨t2, g2, w2⟩ := own2
    exact h.sep j l t1 t2 b g1 g2 w1 w2 f1 f2
end

section
variable {X : Cx} {G : Fc}
/-! ### in -/
theorem ot_inB {k : Nat} {op : CmpOp} {g : Bool → Bool} (hop : (op = .In ∧ g = fun b => b) ∨ (op = .NotIn ∧ g = fun b => !b)) (hr : Room k X.A) : OpT X G (compareOp op) (oInB g) := by
  intro σ H ρ F v u x c Q' Q R cx cc q k
  have hun := hr.un
  unfold oInB at q
  split at q
  · rename_i ys
    obtain ⟨f1, f2, q⟩ := q
    have rc := cc.rp R.subH
    have rx := cx.rp R.subH
    have d1 := rx.dp 59 f1
    have d2 := rc.dp 60 (by rw [fit_lst]; exact f2)
    have sh1 := fit_shaped f1 (by decide)
    have sh2 : SeqAt.shaped (T.lst ys).toD = true := fit_shaped (n := 60) (by rw [fit_lst]; exact f2) (by decide)
    rw [toD_lst] at d2 sh2
    have fin := k (.bl (g (memT x ys))) H F _ R Sub.refl (.bl _) q
    intro pins s σ' v' u' I ru rv
    obtain ⟨as, r1⟩ := Dp.reads I _ _ _ d1 ru
    obtain ⟨bs, r2⟩ := Dp.reads I _ _ _ d2 rv
    rcases hop with ⟨rfl, rfl⟩ | ⟨rfl, rfl⟩
    · exact SeqAt.in_list_reads r2 r1 (SeqAt.canLay_of_shaped sh2) (SeqAt.canLay_of_shaped sh1) (room_in_shaped sh1 (by omega)) ⟨.bl _, H, I, rfl, by rw [any_toD]; exact fin⟩
    · exact SeqAt.notIn_list_reads r2 r1 (SeqAt.canLay_of_shaped sh2) (SeqAt.canLay_of_shaped sh1) (room_in_shaped sh1 (by omega)) ⟨.bl _, H, I, rfl, by rw [any_toD]; exact fin⟩
  · rename_i ys
    obtain ⟨f1, f2, q⟩ := q
    have rc := cc.rp R.subH
    have rx := cx.rp R.subH
    have d1 := rx.dp 59 f1
    have d2 := rc.dp 60 (by rw [fit_tup]; exact f2)
    have sh1 := fit_shaped f1 (by decide)
    have sh2 : SeqAt.shaped (T.tup ys).toD = true := fit_shaped (n := 60) (by rw [fit_tup]; exact f2) (by decide)
    rw [toD_tup] at d2 sh2
    have fin := k (.bl (g (memT x ys))) H F _ R Sub.refl (.bl _) q
    intro pins s σ' v' u' I ru rv
    obtain ⟨as, r1⟩ := Dp.reads I _ _ _ d1 ru
    obtain ⟨bs, r2⟩ := Dp.reads I _ _ _ d2 rv
    rcases hop with ⟨rfl, rfl⟩ | ⟨rfl, rfl⟩
    · exact SeqAt.in_tuple_reads r2 r1 (SeqAt.canLay_of_shaped sh2) (SeqAt.canLay_of_shaped sh1) (room_in_shaped sh1 (by omega)) ⟨.bl _, H, I, rfl, by rw [any_toD]; exact fin⟩
    · exact SeqAt.notIn_tuple_reads r2 r1 (SeqAt.canLay_of_shaped sh2) (SeqAt.canLay_of_shaped sh1) (room_in_shaped sh1 (by omega)) ⟨.bl _, H, I, rfl, by rw [any_toD]; exact fin⟩
  · rename_i z
    split at q
    · rename_i y
      obtain rfl := cx.str
      obtain rfl := cc.str
      have fin := k (.bl (g (strIn y z))) H F _ R Sub.refl (.bl _) q
      rcases hop with ⟨rfl, rfl⟩ | ⟨rfl, rfl⟩
      · exact anyOf op_in_str ⟨y, z, rfl, rfl, fin⟩
      · exact anyOf op_notin_str ⟨y, z, rfl, rfl, fin⟩
    · exact q.elim
  · rename_i m kvs
    obtain ⟨ky, q⟩ := q
    obtain ⟨p, rfl, dd⟩ := cc
    have rx := cx.rp R.subH
    have fin := k (.bl (g (look kvs x).isSome)) H F _ R Sub.refl (.bl _) q
    intro pins s σ' v' u' I ru rv
    obtain rfl : u' = Value.ref p := rv
    exact dat_in hop hr I R.subH dd ky rx ru fun s' I' => ⟨.bl _, H, I', rfl, fin⟩
  · exact q.elim
@[simp] def oIn : WOp := oInB fun b => b
@[simp] def oNotIn : WOp := oInB fun b => !b
theorem ot_in {k : Nat} (hr : Room k X.A) : OpT X G (compareOp .In) oIn := ot_inB (.inl ⟨rfl, rfl⟩) hr
theorem ot_notIn {k : Nat} (hr : Room k X.A) : OpT X G (compareOp .NotIn) oNotIn := ot_inB (.inr ⟨rfl, rfl⟩) hr

/-! ### subscripts -/
def rIxAny (X : Cx) : R2 := fun x y H Q => ∀ (value slice : Expr) (pins : List (Addr × Obj)) (s : Shared) (σ : L2.St) (v u : Value), Inv X pins σ H s → RelV x v → RelV y u →
  subscripted slice false v u = operate [v, u] (getItem v u) → wpAny (model X.prog X.w) X.A (subscriptTail value slice v u) (EP X pins σ Q) X.xe s
theorem ixAny : IxR X (rIxAny X) := fun value slice pins s σ H x y v u Q I rx ry h hs => h value slice pins s σ v u I rx ry hs
theorem ixOf {r : R2} (h : IxR X r) {x y : V} {H : Hp} {Q : VK} (q : r x y H Q) : rIxAny X x y H Q := fun value slice pins s σ v u I rx ry hs => h value slice pins s σ H x y v u Q I rx ry q hs
@[simp] def oIx : WOp := fun c i Q => match c with
  | .lst ys => match i with
    | .int n => ∃ x, atI ys n = some x ∧ Q x
    | _ => False
  | .tup ys => match i with
    | .int n => ∃ x, atI ys n = some x ∧ Q x
    | _ => False
  | .str z => match i with
    | .int n => z.length ≤ sizeLine ∧ ∃ x, atI z.cps.toList n = some x ∧ Q (.str ⟨#[x]⟩)
    | _ => False
  | .dic k kvs => keyB k i = true ∧ ∃ x, look kvs i = some x ∧ Q x
  | _ => False
theorem atI_rp {B : Bx} {F : Hp} {vs : List V} {ts : List T} {n : Int} {t : T} (r : RpAll B F vs ts) (e : atI ts n = some t) : ∃ v, atI vs n = some v ∧ Rp B F v t := by
  unfold atI at e ⊢
  rw [r.length]
  cases q : ixN ts.length n with
  | none => rw [q] at e; cases e
  | some j =>
    rw [q] at e
    exact r.get (i := j) e
theorem dat_type {F H : Hp} {pins : List (Addr × Obj)} {σ : L2.St} {s : Shared} (I : Inv X pins σ H s) (sub : Sub F H) {p : Addr} {m : DK} {kvs : List (T × T)} (h : DRd (bx X) F H p m kvs) : s.TypeIs (.ref p) "dict" := by
  cases m with
  | flat =>
    obtain ⟨l, e, r⟩ := h
    exact dict_typeIs I (dgetK (k := .inl 0) e)
  | tup =>
    obtain ⟨l, e, r⟩ := h
    obtain ⟨_, _, zs, _, hd⟩ := dx_of I e (r.mono sub)
    exact hd.typeIs
theorem te_ix {a b : Expr} {ta tb : WE} {k : Nat} {pos} (hr : Room k X.A) (ha : PE X a (LE (bx X) G ta)) (hb : PE X b (LE (bx X) G tb)) (hs : PlainIx b) : PE X (.Subscript a b pos) (LE (bx X) G (wOp oIx ta tb)) := by
  refine PE.wk (pe_ix ixAny ha hb hs) fun σ H Q h => ?_
  obtain ⟨ρ, F, Q', R, ht, k⟩ := h
  refine ⟨ρ, F, _, R, ht, fun v H1 ρ1 F1 r R1 s1 rr q1 => ⟨ρ1, F1, _, R1, q1, fun u H2 ρ2 F2 q R2 s2 rq q2 => ?_⟩⟩
  obtain ⟨x, y, e1, e2, q2⟩ := q2
  have cx := R2.ct (rr.mono s2) e1
  have cy := R2.ct rq e2
  have go : ∀ {w : V} {z : T}, Rp (bx X) F2 w z → Q' (.v z) ρ2 → Q w H2 := fun {w z} rz qz => k w H2 ρ2 F2 (.v z) R2 (s1.trans s2) rz qz
  unfold oIx at q2
  split at q2
  · rename_i ys
    split at q2
    · rename_i n
      obtain ⟨z, ez, qz⟩ := q2
      obtain ⟨p, vs, rfl, hp, rv⟩ := cx
      obtain rfl := cy.int
      obtain ⟨w, ew, rw'⟩ := atI_rp rv ez
      exact ixOf ix_list ⟨p, vs, n, w, rfl, rfl, SqL.of hp, ew, go rw' qz⟩
    · exact q2.elim
  · rename_i ys
    split at q2
    · rename_i n
      obtain ⟨z, ez, qz⟩ := q2
      obtain ⟨p, vs, rfl, hp, rv⟩ := cx.tup
      obtain rfl := cy.int
      obtain ⟨w, ew, rw'⟩ := atI_rp rv ez
      exact ixOf ix_tup ⟨p, vs, n, w, rfl, rfl, R2.subH.sqT hp, ew, go rw' qz⟩
    · exact q2.elim
  · rename_i z
    split at q2
    · rename_i n
      obtain ⟨hz, c, ez, qz⟩ := q2
      obtain rfl := cx.str
      obtain rfl := cy.int
      exact ixOf ix_str ⟨z, n, c, rfl, rfl, hz, ez, go (.str _) qz⟩
    · exact q2.elim
  · rename_i m kvs
    obtain ⟨ky, z, ez, qz⟩ := q2
    obtain ⟨p, rfl, dd⟩ := cx
    have ry := cy.rp R2.subH
    intro value slice pins s σ' v' u' I rv ru hs
    obtain rfl : v' = Value.ref p := rv
    exact tail_any (dat_type I R2.subH dd) PySem.F.slot_dict_getitem.lookup (dat_get hr I R2.subH dd ky ry ru ez fun w' w s' I' rw' rz => ⟨w, H2, I', rw', go rz qz⟩) hs
  · exact q2.elim

/-! ### slices -/
def cutT (xs : List T) (lo hi : Option Int) : List T := (xs.drop (HT.sIx xs.length 0 lo)).take (HT.sIx xs.length xs.length hi - HT.sIx xs.length 0 lo)
theorem cut_rp {B : Bx} {F : Hp} {vs : List V} {ts : List T} (r : RpAll B F vs ts) (lo hi : Option Int) : RpAll B F (cutV vs lo hi) (cutT ts lo hi) := by
  unfold cutV cutT
  rw [r.length]
  exact (r.drop _).take _
abbrev WO := List S → (Option Int → List S → Prop) → Prop
def LO (K : Bx) (G : Fc) (t : WO) : TO := fun σ H Q => ∃ ρ F Q', Rel K G σ H ρ F ∧ t ρ Q' ∧ ∀ o H' ρ' F', Rel K G σ H' ρ' F' → Sub F F' → Q' o ρ' → Q o H'
def wPart0 : WO := fun ρ Q => Q none ρ
@[simp] theorem wPart0_s (s_ : S) (r_ : List S) (Q_ : _) : wPart0 (s_ :: r_) Q_ = (fun ρ Q => Q none ρ) (s_ :: r_) Q_ := rfl
def wPart (t : WE) : WO := fun ρ Q => t ρ fun r ρ1 => ∃ i, res ρ1 r = some (.int i) ∧ Q (some i) ρ1
@[simp] theorem wPart_s (t : WE) (s_ : S) (r_ : List S) (Q_ : _) : wPart t (s_ :: r_) Q_ = (fun ρ Q => t ρ fun r ρ1 => ∃ i, res ρ1 r = some (.int i) ∧ Q (some i) ρ1) (s_ :: r_) Q_ := rfl
theorem PO.wk {e : Option Expr} {t t' : TO} (h : PO X e t) (w : ∀ σ H Q, t' σ H Q → t σ H Q) : PO X e t' := ⟨fun pins s σ H Q I q => h.run pins s σ H Q I (w σ H Q q)⟩
theorem to_none : PO X none (LO (bx X) G wPart0) := PO.wk po_none fun _ H _ ⟨ρ, F, _, R, ht, k⟩ => k none H ρ F R Sub.refl ht
theorem to_some {e : Expr} {t : WE} (h : PE X e (LE (bx X) G t)) : PO X (some e) (LO (bx X) G (wPart t)) := by
  refine PO.wk (po_some h) fun σ H Q ⟨ρ, F, _, R, ht, k⟩ => ⟨ρ, F, _, R, ht, fun v H1 ρ1 F1 r R1 s1 rr ⟨i, e, q⟩ => ?_⟩
  obtain rfl := (R1.ct rr e).int
  exact ⟨i, rfl, k _ H1 ρ1 F1 R1 s1 q⟩
@[simp] def oSl (x : T) (lo hi : Option Int) (Q : T → Prop) : Prop := match x with
  | .lst ys => Q (.lst (cutT ys lo hi))
  | .tup ys => Q (.tup (cutT ys lo hi))
  | .str z => z.length ≤ sizeLine ∧ Q (.str (cutS z lo hi))
  | _ => False
def wSl (te : WE) (tl th : WO) : WE := fun ρ Q => te ρ fun r ρ1 => tl ρ1 fun lo ρ2 => th ρ2 fun hi ρ3 => ∃ x, res ρ3 r = some x ∧ oSl x lo hi fun z => Q (.v z) ρ3
@[simp] theorem wSl_s (te : WE) (tl th : WO) (s_ : S) (r_ : List S) (Q_ : _) : wSl te tl th (s_ :: r_) Q_ = (fun ρ Q => te ρ fun r ρ1 => tl ρ1 fun lo ρ2 => th ρ2 fun hi ρ3 => ∃ x, res ρ3 r = some x ∧ oSl x lo hi fun z => Q (.v z) ρ3) (s_ :: r_) Q_ := rfl
theorem te_slice {a : Expr} {lo hi : Option Expr} {te : WE} {tl th : WO} {p2 pos} (ha : PE X a (LE (bx X) G te)) (hl : PO X lo (LO (bx X) G tl)) (hh : PO X hi (LO (bx X) G th)) : PE X (.Subscript a (.Slice lo hi none p2) pos) (LE (bx X) G (wSl te tl th)) := by
  refine PE.wk (pe_slice (SlR.or sl_list (SlR.or sl_tupN sl_str)) ha hl hh) fun σ H Q h => ?_
  obtain ⟨ρ, F, Q', R, ht, k⟩ := h
  refine ⟨ρ, F, _, R, ht, fun v H1 ρ1 F1 r R1 s1 rr q1 => ⟨ρ1, F1, _, R1, q1, fun l H2 ρ2 F2 R2 s2 q2 => ⟨ρ2, F2, _, R2, q2, fun u H3 ρ3 F3 R3 s3 q3 => ?_⟩⟩⟩
  obtain ⟨x, e, q⟩ := q3
  have cx := R3.ct (rr.mono (s2.trans s3)) e
  unfold oSl at q
  split at q
  · rename_i ys
    obtain ⟨p, vs, rfl, hp, rv⟩ := cx
    refine .inl ⟨p, vs, rfl, SqL.of hp, fun l nl => ?_⟩
    obtain ⟨R4, s4⟩ := R3.alloc nl _
    exact k _ _ _ _ (.v (.lst _)) R4 (s1.trans (s2.trans (s3.trans s4))) (Rp.lst upd_same ((cut_rp rv _ _).mono s4)) q
  · rename_i ys
    obtain ⟨p, vs, rfl, hp, np, rv⟩ := cx.tupN
    refine .inr (.inl ⟨p, vs, rfl, R3.subH.sqT hp, fun hw => ?_, fun hw => newT R3 (cut_rp rv _ _) fun w H' F' R4 s4 rw' => k _ _ _ _ (.v (.tup _)) R4 (s1.trans (s2.trans (s3.trans s4))) rw' q⟩)
    have e : cutT ys l u = ys := by
      unfold cutT
      rw [← rv.length, hw.1, hw.2, Nat.sub_zero, List.drop_zero, rv.length]
      exact List.take_length
    rw [e] at q
    exact k _ _ _ _ (.v (.tup ys)) R3 (s1.trans (s2.trans s3)) (Rp.tup hp np rv) q
  · rename_i z
    obtain ⟨hz, q⟩ := q
    obtain rfl := cx.str
    exact .inr (.inr ⟨z, rfl, hz, k _ _ _ _ (.v (.str _)) R3 (s1.trans (s2.trans s3)) (Rp.str _) q⟩)
  · exact q.elim

/-! ### methods of built-in types -/
/-- the type of a value, as the heap has it -/
def TyR (X : Cx) (T : String) (x : V) (H : Hp) : Prop := ∀ (pins : List (Addr × Obj)) (s : Shared) (σ : L2.St) (v : Value), Inv X pins σ H s → RelV x v → s.TypeIs v T ∧ ∀ a, v = .ref a → ∃ ob, s.heap.get? a = some ob ∧ ob.dict = none
def tBMG (X : Cx) (T : String) (r : V → List V → Hp → VK → Prop) (to : TE) (t : TA) : TE := fun σ H Q => to σ H fun x H1 => TyR X T x H1 ∧ t σ H1 fun xs H2 => r x xs H2 Q
theorem pe_bmG {o e : Expr} {es : List Expr} {to : TE} {t : TA} {name : Str} {apos cpos : Pos} {T id : String} {r : V → List V → Hp → VK → Prop} (pa : PlainAttrs T) (slot : Slot T name id) (hty : typeOf (.builtin id) = pure (.type "method_descriptor")) (hm : MtR X id r) (ho : PE X o to) (ha : PA X (e :: es) t)
    (hbase : attributeBase o name X.env (eval o X.env) = eval o X.env := by rfl)
    (hfew : ((backTo cpos (starEach (e :: es) X.env)).all (fun x => !x.1) && (backToKw cpos (keywordEach [] X.env)).all (fun x => x.1.isSome)
      && decide ((e :: es).length + ([] : List Keyword).length + (if ([] : List Keyword).isEmpty then 0 else 1) < 30)) = true := by rfl)
    (hline : (apos.endLine == cpos.line) = true := by rfl) (hs : starEach (e :: es) X.env = (false, eval e X.env) :: starEach es X.env := by rfl) (hplain : (backTo cpos (starEach es X.env)).any (·.1) = false := by rfl) :
    PE X (.Call (.Attribute o name apos) (e :: es) [] cpos) (tBMG X T r to t) := by
  refine ⟨fun pins s σ H Q I h => ?_⟩
  refine wpAny_Call_method_late hbase hfew hline rfl (thn (ho.run pins s σ H _ I h) fun v s1 ⟨x, H1, I1, r1, ty, q1⟩ => ?_)
  obtain ⟨h1, h2⟩ := ty pins s1 σ v I1 r1
  refine ⟨T, id, pa, slot, hty, h1, h2, ?_⟩
  have hA := ha.run cpos pins s1 σ H1 _ I1 q1
  rw [hs] at hA ⊢
  refine Calls.callWith_builtin (by show (false || (backTo cpos (starEach es X.env)).any (·.1)) = false; rw [hplain] <;> rfl) (Calls.evalArgs_plain ?_)
  exact thn hA fun us s2 ⟨vs, H2, I2, r2, q2⟩ => hm pins s2 σ H2 x vs v us Q I2 r1 r2 q2
theorem pe_bmG0 {o : Expr} {to : TE} {name : Str} {apos cpos : Pos} {T id : String} {r : V → List V → Hp → VK → Prop} (pa : PlainAttrs T) (slot : Slot T name id) (hty : typeOf (.builtin id) = pure (.type "method_descriptor")) (hm : MtR X id r) (ho : PE X o to)
    (hbase : attributeBase o name X.env (eval o X.env) = eval o X.env := by rfl) (hline : (apos.endLine == cpos.line) = true := by rfl) : PE X (.Call (.Attribute o name apos) [] [] cpos) (fun σ H Q => to σ H fun x H1 => TyR X T x H1 ∧ r x [] H1 Q) := by
  refine ⟨fun pins s σ H Q I h => ?_⟩
  refine wpAny_Call_method0_late hbase hline (thn (ho.run pins s σ H _ I h) fun v s1 ⟨x, H1, I1, r1, ty, q1⟩ => ?_)
  obtain ⟨h1, h2⟩ := ty pins s1 σ v I1 r1
  exact ⟨T, id, pa, slot, hty, h1, h2, Calls.callWith_builtin rfl (PySem.evalArgs_none (hm pins s1 σ H1 x [] v [] Q I1 r1 .nil q1))⟩
theorem tyR_of {T : String} {x : V} {H : Hp} (h : tyV X.K T x H) : TyR X T x H := fun pins s σ v I r => tyV_is I r h
theorem tyR_lst {p : Addr} {vs : List V} {H : Hp} (h : H p = some (.lst vs)) : TyR X "list" (.ref p) H := tyR_of (.inl ⟨rfl, _, SqL.of h⟩)
theorem tyR_str {z : Str} {H : Hp} : TyR X "str" (.str z) H := tyR_of rfl
/-- x.append(e), x an own list -/
def wApp (i : Nat) (t : WA) : WE := fun ρ Q => (∃ xs, ρ[i]? = some (.ol xs)) ∧ t ρ fun ys ρ1 => match ys, ρ1[i]? with
  | [y], some (.ol xs) => xs.length < sizeLine ∧ Q (.v .non) (ρ1.set i (.ol (xs ++ [y])))
  | _, _ => False
@[simp] theorem wApp_s (i : Nat) (t : WA) (s_ : S) (r_ : List S) (Q_ : _) : wApp i t (s_ :: r_) Q_ = (fun ρ Q => (∃ xs, ρ[i]? = some (.ol xs)) ∧ t ρ fun ys ρ1 => match ys, ρ1[i]? with
  | [y], some (.ol xs) => xs.length < sizeLine ∧ Q (.v .non) (ρ1.set i (.ol (xs ++ [y])))
  | _, _ => False) (s_ :: r_) Q_ := rfl
theorem te_append {i : Nat} {x : Str} {e : Expr} {t : WA} {p apos cpos : Pos} (hN : X.N[i]? = some x) (hv : Vis X.env.scope x) (ha : PA X [e] (LA (bx X) G t)) (hd : (x == ("__debug__" : Str)) = false := by decide) (hcd : (x == ("__classdict__" : Str)) = false := by decide)
    (hbase : attributeBase (.Name x p) "append" X.env (eval (.Name x p) X.env) = eval (.Name x p) X.env := by rfl)
    (hfew : ((backTo cpos (starEach [e] X.env)).all (fun x => !x.1) && (backToKw cpos (keywordEach [] X.env)).all (fun x => x.1.isSome)
      && decide (([e] : List Expr).length + ([] : List Keyword).length + (if ([] : List Keyword).isEmpty then 0 else 1) < 30)) = true := by rfl)
    (hline : (apos.endLine == cpos.line) = true := by rfl) (hs : starEach [e] X.env = (false, eval e X.env) :: starEach [] X.env := by rfl) (hplain : (backTo cpos (starEach [] X.env)).any (·.1) = false := by rfl) :
    PE X (.Call (.Attribute (.Name x p) "append" apos) [e] [] cpos) (LE (bx X) G (wApp i t)) := by
  refine PE.wk (pe_bmG PySem.F.plainAttrs_list PySem.F.slot_list_append PySem.F.type_list_append mt_append (pe_var (i := i) hN hv hd hcd) ha hbase hfew hline hs hplain) fun σ H Q ⟨ρ, F, Q', R, ⟨⟨xs0, e0⟩, ht⟩, k⟩ => ?_
  obtain ⟨p0, vs0, ep, ow0, hp0, rv0⟩ := R.slot i _ e0
  refine ⟨_, ep, tyR_lst hp0, ρ, F, _, R, ht, fun us H1 ρ1 F1 ys R1 s1 rs q => ?_⟩
  obtain ⟨xs, y, rfl, e1, hl, q⟩ : ∃ xs y, ys = [y] ∧ ρ1[i]? = some (.ol xs) ∧ xs.length < sizeLine ∧ Q' (.v .non) (ρ1.set i (.ol (xs ++ [y]))) := by
    split at q
    · rename_i y xs e1
      exact ⟨xs, y, rfl, e1, q.1, q.2⟩
    · exact q.elim
  cases rs with
  | cons ry rt =>
    rename_i w ws
    cases rt
    obtain ⟨p1, vs, ep1, ow, hp, rv⟩ := R1.slot i _ e1
    rw [ep] at ep1
    cases ep1
    refine ⟨p0, vs, w, rfl, rfl, hp, by rw [rv.length]; exact hl, ?_⟩
    have ok : SlotOk (bx X) G F1 (upd H1 p0 (.lst (vs ++ [w]))) σ[i]? (.ol (xs ++ [y])) := ⟨p0, _, ep, ⟨ow.f, ow.h0, ow.w⟩, upd_same, rv.append (.cons ry .nil)⟩
    exact k _ _ _ F1 (.v .non) (R1.mut e1 rfl ep rfl ok) s1 Rp.non q
end
end TL
set_option Elab.async false
set_option linter.all false
set_option maxRecDepth 100000
set_option autoImplicit false
/-! TL5: statements, loops, comprehensions, defs -/
namespace TL
open PySem PySem.Spec PyProof.Rows L2

/-- what is known less -/
def wk : List S → List S → Prop
  | [], [] => True
  | a :: as, b :: bs => (b = .no ∨ a = b) ∧ wk as bs
  | _, _ => False
@[simp] theorem wk_nil : wk [] [] = True := by unfold wk; rfl
@[simp] theorem wk_cons (a b : S) (as bs : List S) : wk (a :: as) (b :: bs) = ((b = .no ∨ a = b) ∧ wk as bs) := by rw [wk]
theorem wk_refl : ∀ ρ : List S, wk ρ ρ
  | [] => True.intro
  | a :: as => ⟨.inr rfl, wk_refl as⟩
theorem wk_len : ∀ {ρ ρ' : List S}, wk ρ ρ' → ρ.length = ρ'.length
  | [], [], _ => rfl
  | a :: as, b :: bs, h => by rw [List.length_cons, List.length_cons, wk_len h.2]
theorem wk_get : ∀ {ρ ρ' : List S}, wk ρ ρ' → ∀ (i : Nat) (s : S), ρ'[i]? = some s → s = .no ∨ ρ[i]? = some s
  | [], [], _, i, s, e => by simp at e
  | a :: as, b :: bs, h, 0, s, e => by
    simp at e
    subst e
    rcases h.1 with h1 | h1
    · exact .inl h1
    · exact .inr (by simp [h1])
  | a :: as, b :: bs, h, i + 1, s, e => by
    rw [List.getElem?_cons_succ] at e ⊢
    exact wk_get h.2 i s e
def wipeS (ρ : List S) : List Nat → List S
  | [] => ρ
  | v :: vs => (wipeS ρ vs).set v .no
def noOwn (ρ : List S) (vs : List Nat) : Prop := ∀ i ∈ vs, ∀ s, ρ[i]? = some s → s.isX = false

section
variable {K : Bx} {G : Fc} {σ : L2.St} {H : Hp} {ρ ρ' : List S} {F : Hp}
theorem Rel.wk (h : Rel K G σ H ρ F) (w : wk ρ ρ') : Rel K G σ H ρ' F := by
  have own : ∀ (i : Nat) (s : S), ρ'[i]? = some s → s.isOwn = true → ρ[i]? = some s := fun i s e o => by
    rcases wk_get w i s e with z | z
    · subst z
      cases o
    · exact z
  refine ⟨h.sub, h.base, h.old, h.fresh, h.inv, h.inv0, (wk_len w).symm.trans h.len, fun q hq => ?_, fun i s e => ?_, fun i j s t p e1 e2 o1 o2 => h.sep i j s t p (own i s e1 o1) (own j t e2 o2) o1 o2⟩
  · obtain ⟨h1, h2, h3⟩ := h.pin q hq
    exact ⟨h1, h2, fun i s e o => h3 i s (own i s e o) o⟩
  · rcases wk_get w i s e with z | z
    · subst z
      trivial
    · exact h.slot i s z
/-- a slot gets a value that holds no own object of another slot -/
theorem Rel.setD (h : Rel K G σ H ρ F) {v : V} {t : T} (i : Nat) (r : Rp K F v t) : Rel K G (σ.set i (some v)) H (ρ.set i (.d t)) F := by
  have own : ∀ (j : Nat) (s : S), (ρ.set i (.d t))[j]? = some s → s.isOwn = true → ρ[j]? = some s ∧ (σ.set i (some v))[j]? = σ[j]? := fun j s e o => by
    by_cases hj : i = j
    · subst hj
      by_cases hi : i < ρ.length
      · rw [List.getElem?_set_self hi] at e
        cases e
        cases o
      · rw [List.getElem?_eq_none (by rw [List.length_set]; omega)] at e
        cases e
    · rw [List.getElem?_set_ne hj] at e
      exact ⟨e, List.getElem?_set_ne hj⟩
  refine ⟨h.sub, h.base, h.old, h.fresh, h.inv, h.inv0, by rw [List.length_set, List.length_set]; exact h.len, fun q hq => ?_, fun j s e => ?_, fun j l s u p e1 e2 o1 o2 f1 f2 => ?_⟩
  · obtain ⟨h1, h2, h3⟩ := h.pin q hq
    refine ⟨h1, h2, fun j s e o => ?_⟩
    obtain ⟨g1, g2⟩ := own j s e o
    rw [g2]
    exact h3 j s g1 o
  · by_cases hj : i = j
    · subst hj
      by_cases hi : i < ρ.length
      · rw [List.getElem?_set_self hi] at e
        cases e
        exact ⟨v, List.getElem?_set_self (by rw [← h.len]; exact hi), r⟩
      · rw [List.getElem?_eq_none (by rw [List.length_set]; omega)] at e
        cases e
    · rw [List.getElem?_set_ne hj] at e ⊢
      exact h.slot j s e
  · obtain ⟨g1, g2⟩ := own j s e1 o1
    obtain ⟨g3, g4⟩ := own l u e2 o2
    rw [g2] at f1
    rw [g4] at f2
    exact h.sep j l s u p g1 g3 o1 o2 f1 f2
/-- a new own object -/
structure New (K : Bx) (G : Fc) (σ : L2.St) (H : Hp) (ρ : List S) (F : Hp) (v : V) (s : S) : Prop where
  ok : SlotOk K G F H (some (some v)) s
  own : s.isOwn = true
  alone : ∀ (i : Nat) (t : S), ρ[i]? = some t → t.isOwn = true → σ[i]? ≠ some (some v)
  pins : ∀ q ∈ G.pins, v ≠ V.ref q.1
theorem Rel.setN (h : Rel K G σ H ρ F) {v : V} {n : S} (i : Nat) (r : New K G σ H ρ F v n) : Rel K G (σ.set i (some v)) H (ρ.set i n) F := by
  have at_i : ∀ s : S, (ρ.set i n)[i]? = some s → s = n ∧ (σ.set i (some v))[i]? = some (some v) := fun s e => by
    by_cases hi : i < ρ.length
    · rw [List.getElem?_set_self hi] at e
      exact ⟨(Option.some.inj e).symm, List.getElem?_set_self (by rw [← h.len]; exact hi)⟩
    · rw [List.getElem?_eq_none (by rw [List.length_set]; omega)] at e
      cases e
  have ne_i : ∀ (j : Nat) (s : S), i ≠ j → (ρ.set i n)[j]? = some s → ρ[j]? = some s ∧ (σ.set i (some v))[j]? = σ[j]? := fun j s hj e => by
    rw [List.getElem?_set_ne hj] at e
    exact ⟨e, List.getElem?_set_ne hj⟩
  refine ⟨h.sub, h.base, h.old, h.fresh, h.inv, h.inv0, by rw [List.length_set, List.length_set]; exact h.len, fun q hq => ?_, fun j s e => ?_, fun j l s u p e1 e2 o1 o2 f1 f2 => ?_⟩
  · obtain ⟨h1, h2, h3⟩ := h.pin q hq
    refine ⟨h1, h2, fun j s e o z => ?_⟩
    by_cases hj : i = j
    · subst hj
      rw [(at_i s e).2] at z
      exact r.pins q hq (Option.some.inj (Option.some.inj z))
    · obtain ⟨g1, g2⟩ := ne_i j s hj e
      rw [g2] at z
      exact h3 j s g1 o z
  · by_cases hj : i = j
    · subst hj
      obtain ⟨rfl, g⟩ := at_i s e
      rw [g]
      exact r.ok
    · obtain ⟨g1, g2⟩ := ne_i j s hj e
      rw [g2]
      exact h.slot j s g1
  · by_cases hj : i = j
    · by_cases hl : i = l
      · exact hj.symm.trans hl
      · subst hj
        rw [(at_i s e1).2] at f1
        obtain ⟨g1, g2⟩ := ne_i l u hl e2
        rw [g2] at f2
        have ev : v = V.ref p := Option.some.inj (Option.some.inj f1)
        subst ev
        exact absurd f2 (r.alone l u g1 o2)
    · obtain ⟨g1, g2⟩ := ne_i j s hj e1
      rw [g2] at f1
      by_cases hl : i = l
      · subst hl
        rw [(at_i u e2).2] at f2
        have ev : v = V.ref p := Option.some.inj (Option.some.inj f2)
        subst ev
        exact absurd f1 (r.alone j s g1 o1)
      · obtain ⟨g3, g4⟩ := ne_i l u hl e2
        rw [g4] at f2
        exact h.sep j l s u p g1 g3 o1 o2 f1 f2
/-- a new object that was just laid -/
theorem Rel.new (h : Rel K G σ H ρ F) {p : Addr} (n : H p = none) {o : HO} {s : S} (w : s.isOwn = true) (ok : Own G F (upd H p o) p → SlotOk K G F (upd H p o) (some (some (.ref p))) s) : Rel K G σ (upd H p o) ρ F ∧ New K G σ (upd H p o) ρ F (.ref p) s := by
  have ow : Own G F (upd H p o) p := ⟨h.freeF n, h.free0 n, h.notOwn n⟩
  refine ⟨h.lay n o, ok ow, w, fun i t e o' z => ?_, fun q hq z => ?_⟩
  · obtain ⟨⟨u, hu⟩, _⟩ := (h.slot i t e).there o' z
    rw [n] at hu
    cases hu
  · obtain ⟨h1, _, _⟩ := h.pin q hq
    cases z
    rw [n] at h1
    cases h1
/-- .. is frozen -/
@[simp] def treeS : S → T
  | .ol xs => .lst xs
  | .od k kvs => .dic k kvs
  | .d t => t
  | .no => .non
  | .gh _ => .non
theorem New.at {v : V} {s : S} (r : New K G σ H ρ F v s) : ∃ p o, v = .ref p ∧ H p = some o ∧ Own G F H p ∧ ∀ F', Sub F F' → F' p = some o → Rp K F' v (treeS s) := by
  have ok := r.ok
  have w := r.own
  cases s with
  | no => cases w
  | gh k => cases w
  | d t => cases w
  | ol xs =>
    obtain ⟨p, vs, e, ow, hp, rv⟩ := ok
    cases e
    exact ⟨p, _, rfl, hp, ow, fun F' s1 e => .lst e (rv.mono s1)⟩
  | od k kvs =>
    obtain ⟨p, e, ow, dd⟩ := ok
    cases e
    cases k with
    | flat =>
      obtain ⟨l, hp, rv⟩ := dd
      exact ⟨p, _, rfl, hp, ow, fun F' s1 e => .dk (.inl e) (rv.mono s1)⟩
    | tup =>
      obtain ⟨l, hp, rv⟩ := dd
      exact ⟨p, _, rfl, hp, ow, fun F' s1 e => .dt (.inl e) (rv.mono s1)⟩
theorem Rel.frzN (h : Rel K G σ H ρ F) {v : V} {s : S} (r : New K G σ H ρ F v s) : ∃ F', Rel K G σ H ρ F' ∧ Sub F F' ∧ Rp K F' v (treeS s) := by
  obtain ⟨p, o, rfl, hp, ow, mk⟩ := r.at
  have s1 : Sub F (upd F p o) := Sub.refl.updR ow.f
  refine ⟨upd F p o, ⟨fun a u e => ?_, h.base, h.old.trans s1, fun a e => ?_, h.inv, h.inv0, h.len, fun q hq => ?_, fun i t e => ?_, h.sep⟩, s1, mk _ s1 upd_same⟩
  · by_cases ha : a = p
    · subst ha
      rw [upd_same] at e
      cases e
      rw [off_ne ow.w]
      exact .inl hp
    · rw [upd_ne ha] at e
      exact h.sub a u e
  · by_cases ha : a = p
    · subst ha
      exact .inr ow.h0
    · rw [upd_ne ha] at e
      exact h.fresh a e
  · obtain ⟨h1, h2, h3⟩ := h.pin q hq
    have hne : q.1 ≠ p := fun z => r.pins q hq (by rw [z])
    exact ⟨h1, ⟨by rw [upd_ne hne]; exact h2.f, h2.h0, h2.w⟩, h3⟩
  · refine (h.slot i t e).keep s1 (fun _ _ => rfl) fun q w eq => ?_
    obtain ⟨_, ob⟩ := (h.slot i t e).there w eq
    have hne : q ≠ p := fun z => r.alone i t e w (by rw [eq, z])
    rw [upd_ne hne]
    exact ⟨rfl, ob.f⟩
end

/-! ### new objects as values -/
abbrev WN := List S → (S → List S → Prop) → Prop
def LN (K : Bx) (G : Fc) (t : WN) : TE := fun σ H Q => ∃ ρ F Q', Rel K G σ H ρ F ∧ t ρ Q' ∧
  ∀ v H' ρ' F' s, Rel K G σ H' ρ' F' → Sub F F' → New K G σ H' ρ' F' v s → Q' s ρ' → Q v H'
def wFz (t : WN) : WE := fun ρ Q => t ρ fun s ρ1 => Q (.v (treeS s)) ρ1
@[simp] theorem wFz_s (t : WN) (s_ : S) (r_ : List S) (Q_ : _) : wFz t (s_ :: r_) Q_ = (fun ρ Q => t ρ fun s ρ1 => Q (.v (treeS s)) ρ1) (s_ :: r_) Q_ := rfl
theorem liftN {K : Bx} {G : Fc} {t : WN} {σ : L2.St} {H : Hp} {Q : VK} (h : LE K G (wFz t) σ H Q) : LN K G t σ H Q := by
  obtain ⟨ρ, F, Q', R, ht, k⟩ := h
  refine ⟨ρ, F, _, R, ht, fun v H' ρ' F' s R' s1 n q => ?_⟩
  obtain ⟨F2, R2, s2, rv⟩ := R'.frzN n
  exact k v H' ρ' F2 (.v (treeS s)) R2 (s1.trans s2) rv q
theorem te_new {X : Cx} {G : Fc} {e : Expr} {t : WN} (h : PE X e (LN (bx X) G t)) : PE X e (LE (bx X) G (wFz t)) := PE.wk h fun _ _ _ q => liftN q

section
variable {X : Cx} {G : Fc}
def wLstN (t : WA) : WN := fun ρ Q => t ρ fun xs ρ1 => xs.length ≤ sizeLine ∧ Q (.ol xs) ρ1
@[simp] theorem wLstN_s (t : WA) (s_ : S) (r_ : List S) (Q_ : _) : wLstN t (s_ :: r_) Q_ = (fun ρ Q => t ρ fun xs ρ1 => xs.length ≤ sizeLine ∧ Q (.ol xs) ρ1) (s_ :: r_) Q_ := rfl
theorem tn_lst {es : List Expr} {t : WA} {pos} (h : PA X es (LA (bx X) G t)) : PE X (.List es pos) (LN (bx X) G (wLstN t)) := by
  refine PE.wk (pe_lst h) fun σ H Q ⟨ρ, F, Q', R, ht, k⟩ => ⟨ρ, F, _, R, ht, fun vs H1 ρ1 F1 xs R1 s1 rs q => ?_⟩
  refine ⟨by rw [rs.length]; exact q.1, fun p n => ?_⟩
  obtain ⟨R2, N2⟩ := R1.new n (o := .lst vs) (s := .ol xs) rfl fun ow => ⟨p, vs, rfl, ow, upd_same, rs⟩
  exact k _ _ _ _ _ R2 s1 N2 q.2
def wDic0 (m : DK) : WN := fun ρ Q => Q (.od m []) ρ
theorem tn_dic0 {pos} : PE X (.Dict [] [] pos) (LN (bx X) G (wDic0 .flat)) := by
  refine PE.wk pe_dnewK fun σ H Q ⟨ρ, F, Q', R, ht, k⟩ => fun p n => ?_
  obtain ⟨R2, N2⟩ := R.new n (o := .dK []) (s := .od .flat []) rfl fun ow => ⟨p, rfl, ow, [], upd_same, .nil⟩
  exact k _ _ _ _ _ R2 Sub.refl N2 ht
theorem dx_empty (P : Program) (w : World) (h : Heap) (hs : sysModules < h.objs.size) (H' : Hp) : ObjOk P w H' (h.push { cls := .type "dict", data := .dict #[] }) h.objs.size (DxO P w h.objs.size []) := by
  obtain ⟨o, es, ep, ho, hx, hd, he, _, hn⟩ := Heap.DictOfH.new (knd := nestedKind P w) h
  refine ⟨⟨beq_eq_false_iff_ne.mpr (Nat.ne_of_gt hs), Nat.zero_le _, [], o, es, ep, .nil, ho, hx, hd, he, hn⟩, ⟨o, ho⟩, fun ha hb hf hk => ?_⟩
  obtain ⟨f1, f2, ys', o', es', ep', g1, g2, g3⟩ := hf
  exact ⟨f1, f2, ys', o', es', ep', g1, hk _ g2, g3⟩
theorem pe_dnewX {pos} : PE X (.Dict [] [] pos) (fun σ H Q => ∀ p, H p = none → Q (.ref p) (upd H p (DxO X.prog X.w p []))) := ⟨fun pins s σ H Q I h =>
  wpAny_Dict_empty ⟨.ref s.heap.objs.size, _, I.laid (a := s.heap.objs.size) (o := DxO X.prog X.w s.heap.objs.size []) (t' := s.toks) (fun _ _ q => Heap.get?_push_of_some _ q) (Nat.le_refl _) (dx_empty _ _ s.heap I.big _), rfl, h _ (I.hok.fresh (Nat.le_refl _))⟩⟩
theorem tn_dic0T {pos} : PE X (.Dict [] [] pos) (LN (bx X) G (wDic0 .tup)) := by
  refine PE.wk pe_dnewX fun σ H Q ⟨ρ, F, Q', R, ht, k⟩ => fun p n => ?_
  obtain ⟨R2, N2⟩ := R.new n (o := DxO X.prog X.w p []) (s := .od .tup []) rfl fun ow => ⟨p, rfl, ow, [], upd_same, .nil⟩
  exact k _ _ _ _ _ R2 Sub.refl N2 ht
/-- new lists by operators: xs + ys, xs * n -/
def wOpN (o : T → T → (List T → Prop) → Prop) (ta tb : WE) : WN := fun ρ Q => ta ρ fun r ρ1 => tb ρ1 fun q ρ2 => ∃ x y, res ρ2 r = some x ∧ res ρ2 q = some y ∧ o x y fun z => Q (.ol z) ρ2
@[simp] theorem wOpN_s (o : T → T → (List T → Prop) → Prop) (ta tb : WE) (s_ : S) (r_ : List S) (Q_ : _) : wOpN o ta tb (s_ :: r_) Q_ = (fun ρ Q => ta ρ fun r ρ1 => tb ρ1 fun q ρ2 => ∃ x y, res ρ2 r = some x ∧ res ρ2 q = some y ∧ o x y fun z => Q (.ol z) ρ2) (s_ :: r_) Q_ := rfl
@[simp] def oAddN : T → T → (List T → Prop) → Prop := fun x y Q => match x, y with
  | .lst xs, .lst ys => xs.length + ys.length ≤ sizeLine ∧ Q (xs ++ ys)
  | _, _ => False
@[simp] def oMulN : T → T → (List T → Prop) → Prop := fun x y Q => match x, y with
  | .lst xs, .int k => -(2 ^ 63) ≤ k ∧ k < 2 ^ 63 ∧ xs.length * k.toNat ≤ sizeLine ∧ Q (List.replicate k.toNat xs).flatten
  | _, _ => False
theorem tn_add {a b : Expr} {ta tb : WE} {pos} (ha : PE X a (LE (bx X) G ta)) (hb : PE X b (LE (bx X) G tb)) : PE X (.BinOp a .Add b pos) (LN (bx X) G (wOpN oAddN ta tb)) := by
  refine PE.wk (pe_op op_cat ha hb) fun σ H Q ⟨ρ, F, Q', R, ht, k⟩ => ?_
  refine ⟨ρ, F, _, R, ht, fun v H1 ρ1 F1 r R1 s1 rr q1 => ⟨ρ1, F1, _, R1, q1, fun u H2 ρ2 F2 q R2 s2 rq q2 => ?_⟩⟩
  obtain ⟨x, y, e1, e2, q2⟩ := q2
  have cx := R2.ct (rr.mono s2) e1
  have cy := R2.ct rq e2
  unfold oAddN at q2
  split at q2
  · rename_i xs ys
    obtain ⟨p, vs, rfl, hp, rv⟩ := cx
    obtain ⟨b, us, rfl, hb, ru⟩ := cy
    refine ⟨p, b, vs, us, rfl, rfl, hp, hb, by rw [rv.length, ru.length]; exact q2.1, fun l nl => ?_⟩
    obtain ⟨R3, N3⟩ := R2.new nl (o := .lst (vs ++ us)) (s := .ol (xs ++ ys)) rfl fun ow => ⟨l, _, rfl, ow, upd_same, rv.append ru⟩
    exact k _ _ _ _ _ R3 (s1.trans s2) N3 q2.2
  · exact q2.elim
theorem tn_mul {a b : Expr} {ta tb : WE} {pos} (ha : PE X a (LE (bx X) G ta)) (hb : PE X b (LE (bx X) G tb)) : PE X (.BinOp a .Mult b pos) (LN (bx X) G (wOpN oMulN ta tb)) := by
  refine PE.wk (pe_op op_rep ha hb) fun σ H Q ⟨ρ, F, Q', R, ht, k⟩ => ?_
  refine ⟨ρ, F, _, R, ht, fun v H1 ρ1 F1 r R1 s1 rr q1 => ⟨ρ1, F1, _, R1, q1, fun u H2 ρ2 F2 q R2 s2 rq q2 => ?_⟩⟩
  obtain ⟨x, y, e1, e2, q2⟩ := q2
  have cx := R2.ct (rr.mono s2) e1
  have cy := R2.ct rq e2
  unfold oMulN at q2
  split at q2
  · rename_i xs n
    obtain ⟨p, vs, rfl, hp, rv⟩ := cx
    obtain rfl := cy.int
    obtain ⟨g1, g2, g3, g4⟩ := q2
    refine ⟨p, n, vs, rfl, rfl, hp, g1, g2, by rw [rv.length]; exact g3, fun l nl => ?_⟩
    obtain ⟨R3, N3⟩ := R2.new nl (o := .lst (List.replicate n.toNat vs).flatten) (s := .ol (List.replicate n.toNat xs).flatten) rfl fun ow => ⟨l, _, rfl, ow, upd_same, flat_rp rv n.toNat⟩
    exact k _ _ _ _ _ R3 (s1.trans s2) N3 g4
  · exact q2.elim

/-! ### statements -/
structure ED where
  nx : List S → Prop
  rt : T → Prop
  bk : List S → Prop := fun _ => False
  ct : List S → Prop := fun _ => False
abbrev WS := ED → List S → Prop
def EndL (K : Bx) (G : Fc) (F : Hp) (P : List S → Prop) (Q : L2.St → Hp → Prop) : Prop := ∀ σ' H' ρ' F', Rel K G σ' H' ρ' F' → Sub F F' → P ρ' → Q σ' H'
def EndR (K : Bx) (G : Fc) (F : Hp) (P : T → Prop) (Q : VK) : Prop := ∀ v σ' H' ρ' F' t, Rel K G σ' H' ρ' F' → Sub F F' → Rp K F' v t → P t → Q v H'
def LS (K : Bx) (G : Fc) (t : WS) : TS := fun D σ H => ∃ (ρ : List S) (F : Hp) (D' : ED), Rel K G σ H ρ F ∧ t D' ρ ∧
  EndL K G F D'.nx D.nx ∧ EndR K G F D'.rt D.rt ∧ EndL K G F D'.bk D.bk ∧ EndL K G F D'.ct D.ct
theorem EndL.mono {K : Bx} {G : Fc} {F F' : Hp} {P : List S → Prop} {Q : L2.St → Hp → Prop} (h : EndL K G F P Q) (s : Sub F F') : EndL K G F' P Q := fun σ' H' ρ' F2 R s2 p => h σ' H' ρ' F2 R (s.trans s2) p
theorem EndR.mono {K : Bx} {G : Fc} {F F' : Hp} {P : T → Prop} {Q : VK} (h : EndR K G F P Q) (s : Sub F F') : EndR K G F' P Q := fun v σ' H' ρ' F2 t R s2 r p => h v σ' H' ρ' F2 t R (s.trans s2) r p
theorem PS.wk {st : Stmt} {t t' : TS} (h : PS X st t) (w : ∀ D σ H, t' D σ H → t D σ H) : PS X st t' := ⟨fun pins s σ H D I q => h.run pins s σ H D I (w D σ H q)⟩
theorem PSs.wk {st : List Stmt} {t t' : TS} (h : PSs X st t) (w : ∀ D σ H, t' D σ H → t D σ H) : PSs X st t' := ⟨fun pins s σ H D I q => h.run pins s σ H D I (w D σ H q)⟩
def wNext : WS := fun D ρ => D.nx ρ
@[simp] theorem wNext_s (D_ : ED) (s_ : S) (r_ : List S) : wNext D_ (s_ :: r_) = (fun D ρ => D.nx ρ) D_ (s_ :: r_) := rfl
def wSeq (t u : WS) : WS := fun D ρ => t { D with nx := fun ρ' => u D ρ' } ρ
@[simp] theorem wSeq_s (t u : WS) (D_ : ED) (s_ : S) (r_ : List S) : wSeq t u D_ (s_ :: r_) = (fun D ρ => t { D with nx := fun ρ' => u D ρ' } ρ) D_ (s_ :: r_) := rfl
theorem tss_nil : PSs X [] (LS (bx X) G wNext) := PSs.wk pss_nil fun D σ H ⟨ρ, F, D', R, ht, k, _⟩ => k σ H ρ F R Sub.refl ht
theorem tss_one {st : Stmt} {t : WS} (h : PS X st (LS (bx X) G t)) : PSs X [st] (LS (bx X) G t) := pss_one h
theorem tss_cons {st : Stmt} {rest : List Stmt} {t u : WS} (h : PS X st (LS (bx X) G t)) (q : PSs X rest (LS (bx X) G u)) : PSs X (st :: rest) (LS (bx X) G (wSeq t u)) := by
  refine PSs.wk (pss_cons h q) fun D σ H ⟨ρ, F, D', R, ht, k1, k2, k3, k4⟩ => ?_
  exact ⟨ρ, F, { D' with nx := fun ρ' => u D' ρ' }, R, ht, fun σ' H' ρ' F' R' s' p => ⟨ρ', F', D', R', p, k1.mono s', k2.mono s', k3.mono s', k4.mono s'⟩, k2, k3, k4⟩
/-- the ways of a statement join -/
def wCut (t u : WS) : WS := fun D ρ => ∃ M : List S → Prop, t { D with nx := fun ρ' => ∃ ρ'', M ρ'' ∧ wk ρ' ρ'' } ρ ∧ ∀ ρ', M ρ' → u D ρ'
theorem tss_cut {st : Stmt} {rest : List Stmt} {t u : WS} (h : PS X st (LS (bx X) G t)) (q : PSs X rest (LS (bx X) G u)) : PSs X (st :: rest) (LS (bx X) G (wCut t u)) := by
  refine PSs.wk (pss_cons h q) fun D σ H ⟨ρ, F, D', R, ⟨M, h1, h2⟩, k1, k2, k3, k4⟩ => ?_
  exact ⟨ρ, F, _, R, h1, fun σ' H' ρ' F' R' s' ⟨ρ'', m, w⟩ => ⟨ρ'', F', D', R'.wk w, h2 ρ'' m, k1.mono s', k2.mono s', k3.mono s', k4.mono s'⟩, k2, k3, k4⟩
theorem ts_pass {pos} : PS X (.Pass pos) (LS (bx X) G wNext) := PS.wk ps_pass fun D σ H ⟨ρ, F, D', R, ht, k, _⟩ => k σ H ρ F R Sub.refl ht
def wBrk : WS := fun D ρ => D.bk ρ
@[simp] theorem wBrk_s (D_ : ED) (s_ : S) (r_ : List S) : wBrk D_ (s_ :: r_) = (fun D ρ => D.bk ρ) D_ (s_ :: r_) := rfl
def wCnt : WS := fun D ρ => D.ct ρ
@[simp] theorem wCnt_s (D_ : ED) (s_ : S) (r_ : List S) : wCnt D_ (s_ :: r_) = (fun D ρ => D.ct ρ) D_ (s_ :: r_) := rfl
theorem ts_break {pos} : PS X (.Break pos) (LS (bx X) G wBrk) := PS.wk ps_break fun D σ H ⟨ρ, F, D', R, ht, _, _, k, _⟩ => k σ H ρ F R Sub.refl ht
theorem ts_continue {pos} : PS X (.Continue pos) (LS (bx X) G wCnt) := PS.wk ps_continue fun D σ H ⟨ρ, F, D', R, ht, _, _, _, k⟩ => k σ H ρ F R Sub.refl ht
def wNever : WS := fun _ _ => False
@[simp] theorem wNever_s (D_ : ED) (s_ : S) (r_ : List S) : wNever D_ (s_ :: r_) = (fun _ _ => False) D_ (s_ :: r_) := rfl
theorem ts_never {st : Stmt} : PS X st (LS (bx X) G wNever) := PS.wk ps_never fun D σ H ⟨_, _, _, _, ht, _⟩ => ht
def wDrop (t : WE) : WS := fun D ρ => t ρ fun _ ρ1 => D.nx ρ1
@[simp] theorem wDrop_s (t : WE) (D_ : ED) (s_ : S) (r_ : List S) : wDrop t D_ (s_ :: r_) = (fun D ρ => t ρ fun _ ρ1 => D.nx ρ1) D_ (s_ :: r_) := rfl
theorem ts_expr {e : Expr} {t : WE} {pos} (h : PE X e (LE (bx X) G t)) (hs : swapsWith e none pos.line X.env = pure false := by rfl) : PS X (.Expr e pos) (LS (bx X) G (wDrop t)) :=
  PS.wk (ps_expr h hs) fun D σ H ⟨ρ, F, D', R, ht, k, _⟩ => ⟨ρ, F, _, R, ht, fun v H' ρ' F' r R' s' rr q => k σ H' ρ' F' R' s' q⟩
def wRet (t : WE) : WS := fun D ρ => t ρ fun r ρ1 => frz r ρ1 fun x _ => D.rt x
@[simp] theorem wRet_s (t : WE) (D_ : ED) (s_ : S) (r_ : List S) : wRet t D_ (s_ :: r_) = (fun D ρ => t ρ fun r ρ1 => frz r ρ1 fun x _ => D.rt x) D_ (s_ :: r_) := rfl
theorem ts_ret {e : Expr} {t : WE} {pos} (h : PE X e (LE (bx X) G t)) : PS X (.Return (some e) pos) (LS (bx X) G (wRet t)) :=
  PS.wk (ps_ret h) fun D σ H ⟨ρ, F, D', R, ht, _, k, _⟩ => ⟨ρ, F, _, R, ht, fun v H' ρ' F' r R' s' rr q => by
    obtain ⟨ρ2, F2, x, R2, s2, rx, q2⟩ := R'.frzOk rr q
    exact k v σ H' ρ2 F2 x R2 (s'.trans s2) rx q2⟩
def wRetN : WS := fun D _ => D.rt .non
@[simp] theorem wRetN_s (D_ : ED) (s_ : S) (r_ : List S) : wRetN D_ (s_ :: r_) = (fun D _ => D.rt .non) D_ (s_ :: r_) := rfl
theorem ts_retN {pos} : PS X (.Return none pos) (LS (bx X) G wRetN) := PS.wk ps_retN fun D σ H ⟨ρ, F, D', R, ht, _, k, _⟩ => k .non σ H ρ F .non R Sub.refl .non ht
def wIfS (c : WT) (t u : WS) : WS := fun D ρ => c ρ fun b ρ1 => if b = true then t D ρ1 else u D ρ1
@[simp] theorem wIfS_s (c : WT) (t u : WS) (D_ : ED) (s_ : S) (r_ : List S) : wIfS c t u D_ (s_ :: r_) = (fun D ρ => c ρ fun b ρ1 => if b = true then t D ρ1 else u D ρ1) D_ (s_ :: r_) := rfl
theorem ts_if {c : Expr} {a b : List Stmt} {tc : WT} {t u : WS} {pos} (hc : PT X c (LT (bx X) G tc)) (ha : PSs X a (LS (bx X) G t)) (hb : PSs X b (LS (bx X) G u)) : PS X (.If c a b pos) (LS (bx X) G (wIfS tc t u)) := by
  refine PS.wk (ps_if hc ha hb) fun D σ H ⟨ρ, F, D', R, ht, k1, k2, k3, k4⟩ => ⟨ρ, F, _, R, ht, fun b H' ρ' F' R' s' q => ?_⟩
  cases b with
  | true => exact ⟨ρ', F', D', R', q, k1.mono s', k2.mono s', k3.mono s', k4.mono s'⟩
  | false => exact ⟨ρ', F', D', R', q, k1.mono s', k2.mono s', k3.mono s', k4.mono s'⟩
/-- name = value -/
def wSet (i : Nat) (t : WE) : WS := fun D ρ => t ρ fun r ρ1 => frz r ρ1 fun x ρ2 => D.nx (ρ2.set i (.d x))
@[simp] theorem wSet_s (i : Nat) (t : WE) (D_ : ED) (s_ : S) (r_ : List S) : wSet i t D_ (s_ :: r_) = (fun D ρ => t ρ fun r ρ1 => frz r ρ1 fun x ρ2 => D.nx (ρ2.set i (.d x))) D_ (s_ :: r_) := rfl
theorem ts_set {i : Nat} {x : Str} {e : Expr} {t : WE} {pos pos' : Pos} (hN : X.N.Nodup) (hi : X.N[i]? = some x) (hx : Loc X.env.scope x) (he : PE X e (LE (bx X) G t)) (hs : swapsWith e (some (.Name x pos')) pos.line X.env = pure false := by rfl) (hf : X.fn x = true ∨ X.env.scope.names.lookup x = some .local := by first | exact .inl rfl | exact .inr rfl | assumption) :
    PS X (.Assign [.Name x pos'] e pos) (LS (bx X) G (wSet i t)) := by
  refine PS.wk (ps_set hN hi hx he hs hf) fun D σ H ⟨ρ, F, D', R, ht, k, _⟩ => ⟨ρ, F, _, R, ht, fun v H' ρ' F' r R' s' rr q => ?_⟩
  obtain ⟨ρ2, F2, y, R2, s2, ry, q2⟩ := R'.frzOk rr q
  exact k _ H' _ F2 (R2.setD i ry) (s'.trans s2) q2
def wSetN (i : Nat) (t : WN) : WS := fun D ρ => t ρ fun s ρ1 => D.nx (ρ1.set i s)
@[simp] theorem wSetN_s (i : Nat) (t : WN) (D_ : ED) (s_ : S) (r_ : List S) : wSetN i t D_ (s_ :: r_) = (fun D ρ => t ρ fun s ρ1 => D.nx (ρ1.set i s)) D_ (s_ :: r_) := rfl
theorem ts_setN {i : Nat} {x : Str} {e : Expr} {t : WN} {pos pos' : Pos} (hN : X.N.Nodup) (hi : X.N[i]? = some x) (hx : Loc X.env.scope x) (he : PE X e (LN (bx X) G t)) (hs : swapsWith e (some (.Name x pos')) pos.line X.env = pure false := by rfl) (hf : X.fn x = true ∨ X.env.scope.names.lookup x = some .local := by first | exact .inl rfl | exact .inr rfl | assumption) :
    PS X (.Assign [.Name x pos'] e pos) (LS (bx X) G (wSetN i t)) := by
  refine PS.wk (ps_set hN hi hx he hs hf) fun D σ H ⟨ρ, F, D', R, ht, k, _⟩ => ⟨ρ, F, _, R, ht, fun v H' ρ' F' s R' s' rn q => ?_⟩
  exact k _ H' _ F' (R'.setN i rn) s' q

/-! ### targets -/
abbrev WG := T → List S → (List S → Prop) → Prop
abbrev WGs := List T → List S → (List S → Prop) → Prop
def Agr (is : List Nat) (σ σ' : L2.St) : Prop := ∀ vs : List Nat, (∀ i ∈ is, i ∈ vs) → wipe σ' vs = wipe σ vs
def LG (K : Bx) (G : Fc) (is : List Nat) (g : WG) : TG := fun v σ H Q => ∃ ρ F t Q', Rel K G σ H ρ F ∧ Rp K F v t ∧ g t ρ Q' ∧
  ∀ σ' H' ρ' F', Rel K G σ' H' ρ' F' → Sub F F' → Agr is σ σ' → Q' ρ' → Q σ' H'
def LGs (K : Bx) (G : Fc) (is : List Nat) (g : WGs) : TGs := fun vs σ H Q => ∃ ρ F ts Q', Rel K G σ H ρ F ∧ RpAll K F vs ts ∧ g ts ρ Q' ∧
  ∀ σ' H' ρ' F', Rel K G σ' H' ρ' F' → Sub F F' → Agr is σ σ' → Q' ρ' → Q σ' H'
theorem PG.wk {tg : Expr} {t t' : TG} (h : PG X tg t) (w : ∀ v σ H Q, t' v σ H Q → t v σ H Q) : PG X tg t' := ⟨fun pins s σ H v u Q I r q => h.run pins s σ H v u Q I r (w v σ H Q q)⟩
theorem PGs.wk {tg : List Expr} {t t' : TGs} (h : PGs X tg t) (w : ∀ v σ H Q, t' v σ H Q → t v σ H Q) : PGs X tg t' := ⟨fun pins s σ H v u Q I r q => h.run pins s σ H v u Q I r (w v σ H Q q)⟩
theorem wipe_get {σ : L2.St} {i : Nat} : ∀ {vs : List Nat}, (wipe σ vs)[i]? = if i < σ.length ∧ i ∈ vs then some none else σ[i]?
  | [] => by simp [wipe]
  | v :: vs => by
    unfold wipe
    by_cases hv : v = i
    · subst hv
      by_cases hl : v < σ.length
      · rw [List.getElem?_set_self (by rw [wipe_length]; exact hl), if_pos ⟨hl, List.mem_cons_self⟩]
      · rw [List.getElem?_eq_none (by rw [List.length_set, wipe_length]; omega), if_neg (fun z => hl z.1), List.getElem?_eq_none (by omega)]
    · rw [List.getElem?_set_ne hv, wipe_get]
      by_cases hm : i < σ.length ∧ i ∈ vs
      · rw [if_pos hm, if_pos ⟨hm.1, List.mem_cons_of_mem _ hm.2⟩]
      · rw [if_neg hm, if_neg fun z => hm ⟨z.1, by
          rcases List.mem_cons.mp z.2 with e | e
          · exact absurd e.symm hv
          · exact e⟩]
theorem agr_set {σ : L2.St} {i : Nat} {o : Option V} : Agr [i] σ (σ.set i o) := fun vs h => by
  refine List.ext_getElem? fun j => ?_
  rw [wipe_get, wipe_get, List.length_set]
  by_cases hj : i = j
  · subst hj
    have hm := h i (by simp)
    by_cases hl : i < σ.length
    · rw [if_pos ⟨hl, hm⟩, if_pos ⟨hl, hm⟩]
    · rw [if_neg fun z => hl z.1, if_neg fun z => hl z.1, List.getElem?_eq_none (by rw [List.length_set]; omega), List.getElem?_eq_none (by omega)]
  · rw [List.getElem?_set_ne hj]
theorem Agr.trans {is js : List Nat} {σ σ1 σ2 : L2.St} (a : Agr is σ σ1) (b : Agr js σ1 σ2) : Agr (is ++ js) σ σ2 := fun vs h =>
  (b vs fun i hi => h i (List.mem_append_right _ hi)).trans (a vs fun i hi => h i (List.mem_append_left _ hi))
theorem Agr.refl {σ : L2.St} : Agr [] σ σ := fun _ _ => rfl
def gSet (i : Nat) : WG := fun t ρ Q => Q (ρ.set i (.d t))
@[simp] theorem gSet_s (i : Nat) (t_ : T) (s_ : S) (r_ : List S) (Q_ : List S → Prop) : gSet i t_ (s_ :: r_) Q_ = (fun t ρ Q => Q (ρ.set i (.d t))) t_ (s_ :: r_) Q_ := rfl
theorem tg_name {i : Nat} {x : Str} {pos : Pos} (hN : X.N.Nodup) (hi : X.N[i]? = some x) (hx : Loc X.env.scope x) (hf : X.fn x = true ∨ X.env.scope.names.lookup x = some .local := by first | exact .inl rfl | exact .inr rfl | assumption) : PG X (.Name x pos) (LG (bx X) G [i] (gSet i)) :=
  PG.wk (pg_name hN hi hx hf) fun v σ H Q ⟨ρ, F, t, Q', R, rt, h, k⟩ => k _ H _ F (R.setD i rt) Sub.refl agr_set h
def gNilT : WGs := fun ts ρ Q => match ts with
  | [] => Q ρ
  | _ => False
@[simp] theorem gNilT_s (t_ : List T) (s_ : S) (r_ : List S) (Q_ : List S → Prop) : gNilT t_ (s_ :: r_) Q_ = (fun ts ρ Q => match ts with
  | [] => Q ρ
  | _ => False) t_ (s_ :: r_) Q_ := rfl
def gConsT (g : WG) (u : WGs) : WGs := fun ts ρ Q => match ts with
  | t :: r => g t ρ fun ρ1 => u r ρ1 Q
  | [] => False
@[simp] theorem gConsT_s (g : WG) (u : WGs) (t_ : List T) (s_ : S) (r_ : List S) (Q_ : List S → Prop) : gConsT g u t_ (s_ :: r_) Q_ = (fun ts ρ Q => match ts with
  | t :: r => g t ρ fun ρ1 => u r ρ1 Q
  | [] => False) t_ (s_ :: r_) Q_ := rfl
theorem tgs_nil : PGs X [] (LGs (bx X) G [] gNilT) := PGs.wk pgs_nil fun vs σ H Q ⟨ρ, F, ts, Q', R, rt, h, k⟩ => by
  cases rt with
  | cons _ _ => exact h.elim
  | nil =>
  exact ⟨rfl, k σ H ρ F R Sub.refl Agr.refl h⟩
theorem tgs_cons {e : Expr} {es : List Expr} {is js : List Nat} {g : WG} {u : WGs} (h1 : PG X e (LG (bx X) G is g)) (h2 : PGs X es (LGs (bx X) G js u))
    (hs : (assignEach (e :: es) X.env).map (·.2) = assign e X.env :: (assignEach es X.env).map (·.2) := by rfl) : PGs X (e :: es) (LGs (bx X) G (is ++ js) (gConsT g u)) := by
  refine PGs.wk (pgs_cons h1 h2 hs) fun vs σ H Q ⟨ρ, F, ts, Q', R, rt, h, k⟩ => ?_
  cases rt with
  | nil => exact h.elim
  | cons r1 r2 =>
    refine ⟨_, _, rfl, ρ, F, _, _, R, r1, h, fun σ1 H1 ρ1 F1 R1 s1 a1 q1 => ?_⟩
    exact ⟨ρ1, F1, _, Q', R1, r2.mono s1, q1, fun σ2 H2 ρ2 F2 R2 s2 a2 q2 => k σ2 H2 ρ2 F2 R2 (s1.trans s2) (a1.trans a2) q2⟩
def gTupT (n : Nat) (u : WGs) : WG := fun t ρ Q => match t with
  | .tup xs => xs.length = n ∧ u xs ρ Q
  | _ => False
@[simp] theorem gTupT_s (n : Nat) (u : WGs) (t_ : T) (s_ : S) (r_ : List S) (Q_ : List S → Prop) : gTupT n u t_ (s_ :: r_) Q_ = (fun t ρ Q => match t with
  | .tup xs => xs.length = n ∧ u xs ρ Q
  | _ => False) t_ (s_ :: r_) Q_ := rfl
theorem tg_tup {es : List Expr} {m : Nat} {is : List Nat} {u : WGs} {n : Nat} {pos : Pos} (hc : X.calm = true) (h : PGs X es (LGs (bx X) G is u))
    (hn : (assignEach es X.env).length = n := by rfl) (hst : (assignEach es X.env).findIdx? (·.1) = none := by rfl) : PG X (.Tuple es m pos) (LG (bx X) G is (gTupT n u)) := by
  refine PG.wk (pg_tup hc h hn hst) fun v σ H Q ⟨ρ, F, t, Q', R, rt, h, k⟩ => ?_
  unfold gTupT at h
  split at h
  · rename_i xs
    cases rt with
    | tup hs _ hr => exact ⟨_, _, rfl, R.subH.sqT hs, by rw [hr.length]; exact h.1, ρ, F, xs, Q', R, hr, h.2, k⟩
  · exact h.elim
/-- (a, b) = a list of two -/
def gLstT (n : Nat) (u : WGs) : WG := fun t ρ Q => match t with
  | .tup xs => xs.length = n ∧ u xs ρ Q
  | .lst xs => xs.length = n ∧ u xs ρ Q
  | _ => False
@[simp] theorem gLstT_s (n : Nat) (u : WGs) (t_ : T) (s_ : S) (r_ : List S) (Q_ : List S → Prop) : gLstT n u t_ (s_ :: r_) Q_ = (fun t ρ Q => match t with
  | .tup xs => xs.length = n ∧ u xs ρ Q
  | .lst xs => xs.length = n ∧ u xs ρ Q
  | _ => False) t_ (s_ :: r_) Q_ := rfl
def wAsg (t : WE) (g : WG) : WS := fun D ρ => t ρ fun r ρ1 => frz r ρ1 fun x ρ2 => g x ρ2 D.nx
@[simp] theorem wAsg_s (t : WE) (g : WG) (D_ : ED) (s_ : S) (r_ : List S) : wAsg t g D_ (s_ :: r_) = (fun D ρ => t ρ fun r ρ1 => frz r ρ1 fun x ρ2 => g x ρ2 D.nx) D_ (s_ :: r_) := rfl
theorem ts_asg {tg e : Expr} {t : WE} {is : List Nat} {g : WG} {pos : Pos} (he : PE X e (LE (bx X) G t)) (hg : PG X tg (LG (bx X) G is g)) (hs : swapsWithSole [tg] e pos.line X.env = pure false := by rfl) (hw : swappedStores [tg] e X.env = pure none := by rfl)
    (h1 : (assignEach [tg] X.env).map (·.2) = [assign tg X.env] := by rfl) : PS X (.Assign [tg] e pos) (LS (bx X) G (wAsg t g)) := by
  refine PS.wk (ps_asg he hg hs hw h1) fun D σ H ⟨ρ, F, D', R, ht, k, _⟩ => ⟨ρ, F, _, R, ht, fun v H' ρ' F' r R' s' rr q => ?_⟩
  obtain ⟨ρ2, F2, y, R2, s2, ry, q2⟩ := R'.frzOk rr q
  exact ⟨ρ2, F2, y, _, R2, ry, q2, fun σ' H3 ρ3 F3 R3 s3 _ q3 => k σ' H3 ρ3 F3 R3 (s'.trans (s2.trans s3)) q3⟩
/-- a, b = e1, e2, two names -/
def wPar (i j : Nat) (t : WA) : WS := fun D ρ => t ρ fun xs ρ1 => match xs with
  | [x, y] => D.nx ((ρ1.set i (.d x)).set j (.d y))
  | _ => False
@[simp] theorem wPar_s (i j : Nat) (t : WA) (D_ : ED) (s_ : S) (r_ : List S) : wPar i j t D_ (s_ :: r_) = (fun D ρ => t ρ fun xs ρ1 => match xs with
  | [x, y] => D.nx ((ρ1.set i (.d x)).set j (.d y))
  | _ => False) D_ (s_ :: r_) := rfl
theorem ts_par {i j : Nat} {x y : Str} {a b : Expr} {t : WA} {px py pt : Pos} {kt k2 pt2} {pos : Pos} (hc : X.calm = true) (hN : X.N.Nodup) (hi : X.N[i]? = some x) (hj : X.N[j]? = some y) (hij : i ≠ j)
    (hx : X.env.scope.names.lookup x = some .local) (hy : X.env.scope.names.lookup y = some .local) (ha : PA X [a, b] (LA (bx X) G t))
    (hw : swappedStores [.Tuple [.Name x px, .Name y py] kt pt] (.Tuple [a, b] k2 pt2) X.env = pure (some [x, y]))
    (hs : swapsWithSole [.Tuple [.Name x px, .Name y py] kt pt] (.Tuple [a, b] k2 pt2) pos.line X.env = pure false := by rfl) :
    PS X (.Assign [.Tuple [.Name x px, .Name y py] kt pt] (.Tuple [a, b] k2 pt2) pos) (LS (bx X) G (wPar i j t)) := by
  refine PS.wk (ps_par hc hN hi hj hij hx hy ha hw hs) fun D σ H ⟨ρ, F, D', R, ht, k, _⟩ => ⟨ρ, F, _, R, ht, fun vs H' ρ' F' xs R' s' rs q => ?_⟩
  cases rs with
  | nil => exact q.elim
  | cons r1 r2 =>
    cases r2 with
    | nil => exact q.elim
    | cons r2 r3 =>
      cases r3 with
      | cons _ _ => exact q.elim
      | nil =>
      exact ⟨_, _, rfl, k _ H' _ F' ((R'.setD i r1).setD j r2) s' q⟩
end
end TL
set_option Elab.async false
set_option linter.all false
set_option maxRecDepth 100000
set_option autoImplicit false
/-! TL6: what is walked; for, while; comprehensions; defs and their calls -/
namespace TL
open PySem PySem.Spec PyProof.Rows L2

/-- an iterator hands on these trees, one after the other, as long as the frozen heap stands -/
def ItOk (K : Bx) (F : Hp) (J : It) (L : List T) : Prop := ∀ (i : Nat) (H' F' : Hp), Sub F F' → Sub F' H' →
  (i < L.length → J.go i H') ∧ (i = L.length → J.stop i H') ∧ ∀ (x : V) (H2 : Hp) (t : T), L[i]? = some t → J.yld i H' x H2 →
    ∀ (G : Fc) (σ : L2.St) (ρ : List S), Rel K G σ H' ρ F' → ∃ F2, Rel K G σ H2 ρ F2 ∧ Sub F' F2 ∧ Rp K F2 x t
abbrev WI := List S → (List T → List S → Prop) → Prop
def LI (K : Bx) (G : Fc) (t : WI) : TI := fun σ H R => ∃ ρ F Q', Rel K G σ H ρ F ∧ t ρ Q' ∧
  ∀ J H1 ρ1 F1 L, Rel K G σ H1 ρ1 F1 → Sub F F1 → ItOk K F1 J L → Q' L ρ1 → R J H1
theorem PI.wk {X : Cx} {tg e : Expr} {t t' : TI} (h : PI X tg e t) (w : ∀ σ H Q, t' σ H Q → t σ H Q) : PI X tg e t' := ⟨fun pins s σ H Q I q => h.run pins s σ H Q I (w σ H Q q)⟩
theorem PI.or {X : Cx} {tg e : Expr} {t t' : TI} (h : PI X tg e t) (h' : PI X tg e t') : PI X tg e (fun σ H R => t σ H R ∨ t' σ H R) := ⟨fun pins s σ H Q I q => by
  rcases q with q | q
  · exact h.run pins s σ H Q I q
  · exact h'.run pins s σ H Q I q⟩
theorem itOk_list {K : Bx} {F : Hp} {a : Addr} {vs : List V} {L : List T} (h : F a = some (.lst vs)) (r : RpAll K F vs L) : ItOk K F (Itl K.K a) L := fun i H' F' s1 s2 => by
  have hq : SqL K.K H' a vs := SqL.of (s2.at (s1.at h))
  refine ⟨fun hi => ?_, fun hi => ⟨vs, hq, by rw [r.length]; exact Nat.le_of_eq hi.symm⟩, fun x H2 t et y G σ ρ R => ?_⟩
  · obtain ⟨v, ev, _⟩ := r.get (List.getElem?_eq_getElem hi)
    exact ⟨vs, v, hq, ev⟩
  · obtain ⟨rfl, y⟩ := y
    obtain ⟨v, ev, rv⟩ := r.get et
    have := y vs hq
    rw [ev] at this
    cases this
    exact ⟨F', R, Sub.refl, rv.mono s1⟩
theorem itOk_tup {K : Bx} {F : Hp} {a : Addr} {vs : List V} {L : List T} (h : SqT K.K F a vs) (r : RpAll K F vs L) : ItOk K F (Itt K.K a) L := fun i H' F' s1 s2 => by
  have hq : SqT K.K H' a vs := s2.sqT (s1.sqT h)
  refine ⟨fun hi => ?_, fun hi => ⟨vs, hq, by rw [r.length]; exact Nat.le_of_eq hi.symm⟩, fun x H2 t et y G σ ρ R => ?_⟩
  · obtain ⟨v, ev, _⟩ := r.get (List.getElem?_eq_getElem hi)
    exact ⟨vs, v, hq, ev⟩
  · obtain ⟨rfl, y⟩ := y
    obtain ⟨v, ev, rv⟩ := r.get et
    have := y vs hq
    rw [ev] at this
    cases this
    exact ⟨F', R, Sub.refl, rv.mono s1⟩
def strTs (z : Str) : List T := z.cps.toList.map fun c => .str ⟨#[c]⟩
theorem itOk_str {K : Bx} {F : Hp} {z : Str} : ItOk K F (Its z) (strTs z) := fun i H' F' s1 s2 => by
  refine ⟨fun hi => ?_, fun hi => ?_, fun x H2 t et y G σ ρ R => ?_⟩
  · show i < z.cps.size
    simpa [strTs] using hi
  · show z.cps.size ≤ i
    exact Nat.le_of_eq (by simpa [strTs] using hi.symm)
  · obtain ⟨rfl, c, ec, rfl⟩ := y
    have : t = .str ⟨#[c]⟩ := by
      unfold strTs at et
      rw [List.getElem?_map, Array.getElem?_toList, ec] at et
      exact (Option.some.inj et).symm
    subst this
    exact ⟨F', R, Sub.refl, .str _⟩
def rangeTs (lo : Int) (n : Nat) : List T := (List.range n).map fun i : Nat => T.int (lo + (i : Int))
theorem itOk_range {K : Bx} {F : Hp} {lo : Int} {n : Nat} : ItOk K F (Itr lo n) (rangeTs lo n) := fun i H' F' s1 s2 => by
  refine ⟨fun hi => ?_, fun hi => ?_, fun x H2 t et y G σ ρ R => ?_⟩
  · show i < n
    simpa [rangeTs] using hi
  · show n ≤ i
    exact Nat.le_of_eq (by simpa [rangeTs] using hi.symm)
  · obtain ⟨rfl, rfl⟩ := y
    have : t = .int (lo + (i : Int)) := by
      unfold rangeTs at et
      rw [List.getElem?_map] at et
      by_cases hi : i < n
      · rw [List.getElem?_range hi] at et
        exact (Option.some.inj et).symm
      · rw [List.getElem?_eq_none (by simpa using hi)] at et
        cases et
    subst this
    exact ⟨F', R, Sub.refl, .int _⟩
@[simp] def seqT : T → Option (List T)
  | .lst xs => some xs
  | .tup xs => some xs
  | .str z => some (strTs z)
  | _ => none
theorem strTs_rp {K : Bx} {F : Hp} (z : Str) : RpAll K F (z.cps.toList.map fun c => V.str ⟨#[c]⟩) (strTs z) := by
  unfold strTs
  generalize z.cps.toList = l
  induction l with
  | nil => exact .nil
  | cons x l ih => exact .cons (.str _) ih
theorem src_of {K : Bx} {F : Hp} {v : V} {t : T} {L : List T} (r : Rp K F v t) (e : seqT t = some L) : ∃ (S : Src) (vs : List V), v = S.val ∧ RpAll K F vs L ∧ ∀ H, Sub F H → S.at K.K H vs := by
  cases r with
  | lst hs hr => cases e; exact ⟨.ls _, _, rfl, hr, fun H s => SqL.of (s.at hs)⟩
  | tup hs _ hr => cases e; exact ⟨.tp _, _, rfl, hr, fun H s => s.sqT hs⟩
  | str z => cases e; exact ⟨.tx z, _, rfl, strTs_rp z, fun H s => rfl⟩
  | _ => cases e
def enumTs (xs : List T) : List T := xs.mapIdx fun i x => .tup [.int (i : Int), x]
theorem itOk_enum {K : Bx} {F : Hp} {S : Src} {vs : List V} {L : List T} (h : ∀ H, Sub F H → S.at K.K H vs) (r : RpAll K F vs L) : ItOk K F (ItE K.K 0 S) (enumTs L) := fun i H' F' s1 s2 => by
  have hq := h H' (s1.trans s2)
  refine ⟨fun hi => ?_, fun hi => ⟨vs, hq, by rw [r.length]; simpa [enumTs] using hi⟩, fun x H2 t et y G σ ρ R => ?_⟩
  · obtain ⟨v, ev, _⟩ := r.get (List.getElem?_eq_getElem (show i < L.length by simpa [enumTs] using hi))
    exact ⟨vs, v, hq, ev⟩
  · obtain ⟨T', z, o, rfl, nT, hd, rfl, y⟩ := y
    unfold enumTs at et
    rw [List.getElem?_mapIdx] at et
    obtain ⟨u, eu, rfl⟩ := Option.map_eq_some_iff.mp et
    obtain ⟨v, ev, rv⟩ := r.get eu
    have := y vs hq
    rw [ev] at this
    cases this
    rw [Int.zero_add]
    obtain ⟨R2, s3⟩ := R.alloc nT (.frz o (.tup [.int (i : Nat), z]))
    exact ⟨_, R2, s3, Rp.tup (.inl (.inr ⟨o, upd_same⟩)) (.inl ⟨o, _, upd_same, hd⟩) (.cons (.int _) (.cons (rv.mono (s1.trans s3)) .nil))⟩
def zipTs (xs ys : List T) : List T := List.zipWith (fun x y => T.tup [x, y]) xs ys
theorem itOk_zip {K : Bx} {F : Hp} {S1 S2 : Src} {vs us : List V} {xs ys : List T} (h : ∀ H, Sub F H → S1.at K.K H vs) (r : RpAll K F vs xs) (h' : ∀ H, Sub F H → S2.at K.K H us) (r' : RpAll K F us ys) : ItOk K F (ItZ K.K S1 S2) (zipTs xs ys) := fun i H' F' s1 s2 => by
  have hq := h H' (s1.trans s2)
  have hq' := h' H' (s1.trans s2)
  have hl : (zipTs xs ys).length = min xs.length ys.length := by simp [zipTs]
  refine ⟨fun hi => ?_, fun hi => ⟨vs, us, hq, hq', ?_, ?_, ?_⟩, fun x H2 t et y G σ ρ R => ?_⟩
  · obtain ⟨v, ev, _⟩ := r.get (List.getElem?_eq_getElem (show i < xs.length by omega))
    obtain ⟨u, eu, _⟩ := r'.get (List.getElem?_eq_getElem (show i < ys.length by omega))
    exact ⟨vs, us, v, u, hq, hq', ev, eu⟩
  · rw [r.length]; omega
  · rw [r'.length]; omega
  · rw [r.length, r'.length]; omega
  · obtain ⟨T', z, z', o, rfl, nT, hd, rfl, y, y'⟩ := y
    unfold zipTs at et
    rw [List.getElem?_zipWith] at et
    cases e1 : xs[i]? with
    | none => rw [e1] at et; cases et
    | some p =>
      cases e2 : ys[i]? with
      | none => rw [e1, e2] at et; cases et
      | some q =>
        rw [e1, e2] at et
        cases et
        obtain ⟨v, ev, rv⟩ := r.get e1
        obtain ⟨u, eu, ru⟩ := r'.get e2
        have g1 := y vs hq
        have g2 := y' us hq'
        rw [ev] at g1
        rw [eu] at g2
        cases g1
        cases g2
        obtain ⟨R2, s3⟩ := R.alloc nT (.frz o (.tup [z, z']))
        exact ⟨_, R2, s3, .tup (.inl (.inr ⟨o, upd_same⟩)) (.inl ⟨o, _, upd_same, hd⟩) (.cons (rv.mono (s1.trans s3)) (.cons (ru.mono (s1.trans s3)) .nil))⟩

/-! ### the keys of a dict -/
def Itkx (P : Program) (w : World) (d : Addr) (o : Obj) (l : List (NestedKey × Addr × V)) : It :=
  ⟨fun i H => H d = some (.frz o (DxO P w d l)) ∧ i < l.length, fun i H x H' => H' = H ∧ ∃ k b v, l[i]? = some (k, b, v) ∧ x = .ref b, fun i H => H d = some (.frz o (DxO P w d l)) ∧ l.length ≤ i⟩
theorem frzX {X : Cx} {pins : List (Addr × Obj)} {σ : L2.St} {H : Hp} {s : Shared} {d : Addr} {o : Obj} {l : List (NestedKey × Addr × V)} (I : Inv X pins σ H s) (h : H d = some (.frz o (DxO X.prog X.w d l))) :
    (d == sysModules) = false ∧ s.heap.get? d = some o ∧ o.ExactDict ∧ ∃ (es : Array DictEntry) (ep : Nat), o.data = .dict es ep ∧ es.size = l.length ∧
      ∀ (i : Nat) (k : NestedKey) (b : Addr) (v : V), l[i]? = some (k, b, v) → ∃ en : DictEntry, es[i]? = some en ∧ en.key = .ref b := by
  obtain ⟨hd, ⟨hs, z, ys, o', es, ep, hp, ho, hx, hdt, he, hn⟩, _⟩ := I.hok d _ h
  rw [hd] at ho
  cases ho
  have l1 : es.size = ys.length := size_of_entries he
  have l2 : l.length = ys.length := Paired.length hp
  refine ⟨hs, hd, hx, es, ep, hdt, by omega, fun i k b v e => ?_⟩
  obtain ⟨q, hq, e1, e2, e3⟩ := paired_get hp e
  have z := entry_at he i
  rw [hq] at z
  refine ⟨_, z, ?_⟩
  show Value.ref q.2.1 = .ref b
  simp only at e2
  rw [e2]
theorem turn_keysX {P : Program} {w : World} {K : PySem.W.Frag} {tg : Expr} {d : Addr} {o : Obj} {es : Array DictEntry} {ep : Nat} {l : List (NestedKey × Addr × V)} (it : Addr) (hod : o.data = .dict es ep) : Turn P w K tg (Itkx P w d o l) [it] it (fun i h => h.IsKeyIter it d i l.length ep) where
  mem := by simp
  obj := fun i h st b hb => by
    have e : b = it := by simpa using hb
    subst e
    obtain ⟨oi, e, c, dd⟩ := st
    exact ⟨oi, e, fun v z => by rw [dd] at z; cases z⟩
  keep := fun i h h' st k => st.at fun oi e => k it (by simp) oi e
  item := by
    intro X hP hw hK hc i pins s σ H E I hf st hg
    subst hP hw hK
    obtain ⟨hd, hi⟩ := hg
    obtain ⟨f0, f1, f2, f3, f4, f5⟩ := hf it (by simp)
    obtain ⟨hs, hgd, hx, es', ep', hdt, hsz, ent⟩ := frzX I hd
    obtain ⟨rfl, rfl⟩ := dict_ep hod hdt
    obtain ⟨⟨k, b, v⟩, hkv⟩ : ∃ p, l[i]? = some p := ⟨l[i], List.getElem?_eq_getElem hi⟩
    obtain ⟨en, hen, hkey⟩ := ent i k b v hkv
    refine next_key_item st hgd hdt hsz hen fun h' st' sb => ?_
    have I1 : Inv X pins σ H { s with heap := h' } := I.turned (t' := s.toks) (fun b ob hb e => (sb.2 b hb).trans e) f0 f1 f3 f4 f5
    obtain ⟨oi, e, c, dd⟩ := id st'
    exact ⟨en.key, rfl, go_of (s := { s with heap := h' }) e c dd (by decide) ⟨.ref b, H, I1, hkey, ⟨rfl, k, b, v, hkv, rfl⟩, st', fun b hb => (hf b hb).1⟩⟩
  done := by
    intro X hP hw hK hc i pins s σ H E I hf st hg
    subst hP hw hK
    obtain ⟨hd, hi⟩ := hg
    obtain ⟨f0, f1, f2, f3, f4, f5⟩ := hf it (by simp)
    obtain ⟨hs, hgd, hx, es', ep', hdt, hsz, ent⟩ := frzX I hd
    obtain ⟨rfl, rfl⟩ := dict_ep hod hdt
    exact next_key_end (I.ok.hd hc) st hgd hdt hsz hi fun h' eb => ⟨rfl, I.turned (t' := s.toks) (fun b ob hb e => eb b ob hb e) f0 f1 f3 f4 f5⟩
  self := fun A i s Q E st h => by
    refine wpAny_pyIter_slot st.typeIs F.slot_dict_keyiterator_iter (wpAny_call_entry F.slot_dict_keyiterator_iter st.typeIs F.entry_dict_keyiterator_iter ?_ (F.args_dict_keyiterator_iter_1 _))
    show wpAny _ _ (ret (.ref it)) _ _ s
    exact wpAny_pure ⟨_, rfl, "dict_keyiterator", _, st.typeIs, F.slot_dict_keyiterator_next.lookup, h⟩
/-- the heap in which the dict is locked -/
def Lkd (H : Hp) (d : Addr) (u : HO) (o : Obj) (H2 : Hp) : Prop := (H d = some (.frz o u) ∧ H2 = H) ∨ (H d = some u ∧ H2 = upd H d (.frz o u))
theorem Lkd.at {H H2 : Hp} {d : Addr} {u : HO} {o : Obj} (h : Lkd H d u o H2) : H2 d = some (.frz o u) := by
  rcases h with ⟨e, rfl⟩ | ⟨e, rfl⟩
  · exact e
  · exact upd_same
theorem lkd_of {X : Cx} {pins : List (Addr × Obj)} {σ : L2.St} {H : Hp} {s : Shared} {d : Addr} {u : HO} (I : Inv X pins σ H s) (mu : Mut (some u)) (r : Rd H d u) : ∃ o H2, Lkd H d u o H2 ∧ Inv X pins σ H2 s := by
  rcases r with e | ⟨o, e⟩
  · obtain ⟨o, I2⟩ := I.lock e mu
    exact ⟨o, _, .inr ⟨e, rfl⟩, I2⟩
  · exact ⟨o, H, .inl ⟨e, rfl⟩, I⟩
def iDict (X : Cx) (v : V) (H1 : Hp) (R : It → Hp → Prop) : Prop := ∃ d, v = .ref d ∧
    ((∃ l, Rd H1 d (.dK l) ∧ ∀ o H2, Lkd H1 d (.dK l) o H2 → R (Itk d o l) H2) ∨ (∃ l, Rd H1 d (DxO X.prog X.w d l) ∧ ∀ o H2, Lkd H1 d (DxO X.prog X.w d l) o H2 → R (Itkx X.prog X.w d o l) H2))
theorem iter_dict {X : Cx} {tg : Expr} {pins : List (Addr × Obj)} {σ : L2.St} {H1 : Hp} {s1 : Shared} {R : It → Hp → Prop} {x : V} {u : Value} (I1 : Inv X pins σ H1 s1) (rx : RelV x u) (q : iDict X x H1 R) : wpAny (model X.prog X.w) X.A (pyIter u) (PIE X pins σ tg R) X.xe s1 := by
  obtain ⟨d, ex, q⟩ := q
  subst ex
  obtain rfl : u = Value.ref d := rx
  rcases q with ⟨l, hd, q⟩ | ⟨l, hd, q⟩
  · obtain ⟨o, H2, lk, I2⟩ := lkd_of I1 (show Mut (some (HO.dK l)) from True.intro) hd
    obtain ⟨hs, hgd, hx, es, ep, vs, hdt, hsz, kv, hm⟩ := I2.frzK lk.at
    refine iter_keys hs hgd hx hdt (pi_one (tk := s1.toks) I2 _ (turn_keys _ hdt) ⟨_, Heap.get?_push_size _ rfl, rfl, ?_⟩ (q o H2 lk))
    rw [hsz] <;> rfl
  · obtain ⟨o, H2, lk, I2⟩ := lkd_of I1 (show Mut (some (DxO X.prog X.w d l)) from True.intro) hd
    obtain ⟨hs, hgd, hx, es, ep, hdt, hsz, ent⟩ := frzX I2 lk.at
    refine iter_keys hs hgd hx hdt (pi_one (tk := s1.toks) I2 _ (turn_keysX _ hdt) ⟨_, Heap.get?_push_size _ rfl, rfl, ?_⟩ (q o H2 lk))
    rw [hsz] <;> rfl
theorem Rel.lkd {K : Bx} {G : Fc} {σ : L2.St} {H H2 : Hp} {ρ : List S} {F : Hp} (R : Rel K G σ H ρ F) {d : Addr} {u : HO} {o : Obj} (hd : dkO u = true) (hF : Rd F d u) (lk : Lkd H d u o H2) : ∃ F2, Rel K G σ H2 ρ F2 ∧ Sub F F2 ∧ F2 d = some (.frz o u) := by
  rcases lk with ⟨e, rfl⟩ | ⟨e, rfl⟩
  · rcases hF with f | ⟨o', f⟩
    · -- F has it unlocked
      have nw : G.W.own d = false := by
        rcases R.sub d u f with q | ⟨_, _, q⟩
        · exact (off_some q).1
        · exact (off_some q).1
      have s1 : Sub F (upd F d (.frz o u)) := fun a v e2 => by
        by_cases h : a = d
        · subst h
          rw [f] at e2
          cases e2
          exact .inr ⟨hd, o, upd_same⟩
        · rw [upd_ne h]
          exact .inl e2
      refine ⟨upd F d (.frz o u), ⟨fun a v e2 => ?_, R.base, R.old.trans s1, fun a e2 => ?_, R.inv, R.inv0, R.len, fun q hq => ?_, fun i s es => ?_, R.sep⟩, s1, upd_same⟩
      · by_cases h : a = d
        · subst h
          rw [upd_same] at e2
          cases e2
          rw [off_ne nw]
          exact .inl e
        · rw [upd_ne h] at e2
          exact R.sub a v e2
      · by_cases h : a = d
        · subst h
          exact R.fresh a (by rw [f]; exact fun c => nomatch c)
        · rw [upd_ne h] at e2
          exact R.fresh a e2
      · obtain ⟨h1, h2, h3⟩ := R.pin q hq
        have h : q.1 ≠ d := fun z => by
          have := h2.f
          rw [z, f] at this
          cases this
        exact ⟨h1, ⟨by rw [upd_ne h]; exact h2.f, h2.h0, h2.w⟩, h3⟩
      · refine (R.slot i s es).keep s1 (fun _ _ => rfl) fun q w eq => ?_
        obtain ⟨_, ow⟩ := (R.slot i s es).there w eq
        have h : q ≠ d := fun z => by
          have := ow.f
          rw [z, f] at this
          cases this
        rw [upd_ne h]
        exact ⟨rfl, ow.f⟩
    · have q := R.subH.at f
      rw [e] at q
      cases q
      exact ⟨F, R, Sub.refl, f⟩
  · rcases hF with f | ⟨o', f⟩
    · obtain ⟨R2, s2⟩ := R.lock f hd o e
      exact ⟨_, R2, s2, upd_same⟩
    · have q := R.subH.at f
      rw [e] at q
      cases q
theorem RpKv.keys {K : Bx} {F : Hp} : ∀ {l : List (T × V)} {kvs : List (T × T)}, RpKv K F l kvs → kvs.map (·.1) = l.map (·.1)
  | _, _, .nil => rfl
  | _, _, .cons _ r => by rw [List.map_cons, List.map_cons, RpKv.keys r]
theorem RpNk.key {K : Bx} {F : Hp} : ∀ {l : List (NestedKey × Addr × V)} {kvs : List (T × T)} {i : Nat} {k : NestedKey} {b : Addr} {v : V} {t : T}, RpNk K F l kvs → l[i]? = some (k, b, v) → (kvs.map (·.1))[i]? = some t → Rp K F (.ref b) t
  | _, _, _, _, _, _, _, .nil, e, _ => by simp at e
  | _, _, 0, _, _, _, _, .cons a b c d r, e, e2 => by
    simp at e e2
    obtain ⟨_, rfl, _⟩ := e
    subst e2
    exact c
  | _, _, i + 1, _, _, _, _, .cons a b c d r, e, e2 => RpNk.key (i := i) r (by simpa using e) (by simpa using e2)
theorem kV_rp {K : Bx} {F : Hp} (k : Key) : Rp K F (kV k) (kT k) := by
  cases k with
  | inl i => exact .int i
  | inr x => exact .str x
theorem itOk_keys {K : Bx} {F : Hp} {d : Addr} {o : Obj} {l : List (Key × V)} {kvs : List (T × T)} (h : F d = some (.frz o (.dK l))) (r : RpKv K F (l.map fun q => (kT q.1, q.2)) kvs) : ItOk K F (Itk d o l) (kvs.map (·.1)) := fun i H' F' s1 s2 => by
  have hq := s2.at (s1.at h)
  have hl : kvs.length = l.length := by have := r.length; rw [List.length_map] at this; exact this.symm
  refine ⟨fun hi => ⟨hq, by rw [List.length_map] at hi; omega⟩, fun hi => ⟨hq, by rw [List.length_map] at hi; omega⟩, fun x H2 t et y G σ ρ R => ?_⟩
  obtain ⟨rfl, k, v, ek, rfl⟩ := y
  rw [r.keys, List.map_map, List.getElem?_map, ek] at et
  cases et
  exact ⟨F', R, Sub.refl, kV_rp k⟩
theorem itOk_keysX {K : Bx} {F : Hp} {d : Addr} {o : Obj} {l : List (NestedKey × Addr × V)} {kvs : List (T × T)} (h : F d = some (.frz o (DxO K.P K.w d l))) (r : RpNk K F l kvs) : ItOk K F (Itkx K.P K.w d o l) (kvs.map (·.1)) := fun i H' F' s1 s2 => by
  have hq := s2.at (s1.at h)
  have hl : l.length = kvs.length := r.length
  refine ⟨fun hi => ⟨hq, by rw [List.length_map] at hi; omega⟩, fun hi => ⟨hq, by rw [List.length_map] at hi; omega⟩, fun x H2 t et y G σ ρ R => ?_⟩
  obtain ⟨rfl, k, b, v, ek, rfl⟩ := y
  exact ⟨F', R, Sub.refl, (r.key ek et).mono s1⟩

section
variable {X : Cx} {G : Fc}
/-- a list, a tuple, a text, the keys of a dict -/
@[simp] def iterT : T → Option (List T)
  | .lst xs => some xs
  | .tup xs => some xs
  | .str z => some (strTs z)
  | .dic _ kvs => some (kvs.map (·.1))
  | _ => none
def wSq (t : WE) : WI := fun ρ Q => t ρ fun r ρ1 => frz r ρ1 fun x ρ2 => ∃ L, iterT x = some L ∧ Q L ρ2
@[simp] theorem wSq_s (t : WE) (s_ : S) (r_ : List S) (Q_ : _) : wSq t (s_ :: r_) Q_ = (fun ρ Q => t ρ fun r ρ1 => frz r ρ1 fun x ρ2 => ∃ L, iterT x = some L ∧ Q L ρ2) (s_ :: r_) Q_ := rfl
def iSeq (X : Cx) (v : V) (H1 : Hp) (R : It → Hp → Prop) : Prop :=
  (∃ a, v = .ref a ∧ (∃ xs, SqL X.K H1 a xs) ∧ R (Itl X.K a) H1) ∨ (∃ a, v = .ref a ∧ (∃ xs, SqT X.K H1 a xs) ∧ R (Itt X.K a) H1) ∨ ∃ x, v = .str x ∧ R (Its x) H1
theorem iter_seq {tg : Expr} {pins : List (Addr × Obj)} {σ : L2.St} {H1 : Hp} {s1 : Shared} {R : It → Hp → Prop} {y : V} {v : Value} (I1 : Inv X pins σ H1 s1) (r1 : RelV y v) (q1 : iSeq X y H1 R) : wpAny (model X.prog X.w) X.A (pyIter v) (PIE X pins σ tg R) X.xe s1 := by
  rcases q1 with ⟨a, rfl, ⟨xs, hq⟩, q⟩ | ⟨a, rfl, ⟨xs, hq⟩, q⟩ | ⟨x, rfl, q⟩
  · cases r1
    obtain ⟨its, rv, p, hz⟩ := I1.list hq
    exact wpAny_pyIter_list p.isList (pi_one (tk := s1.toks) I1 _ (turn_list a _) ⟨_, Heap.get?_push_size _ rfl, rfl, rfl⟩ q)
  · cases r1
    obtain ⟨its, rv, p, hz⟩ := I1.tuple hq
    exact wpAny_pyIter_tuple (show s1.heap.IsTuple a its.toArray from p) (pi_one (tk := s1.toks) I1 _ (turn_tuple a _) ⟨_, Heap.get?_push_size _ rfl, rfl, rfl⟩ q)
  · obtain ⟨t, rfl⟩ := r1
    cases ha : x.cps.all (· < 128) with
    | false => exact wpAny_pyIter_wide ha (pi_one (tk := s1.toks) I1 _ (turn_str _ x t _ (.inr rfl)) ⟨_, Heap.get?_push_size _ rfl, rfl, rfl⟩ q)
    | true => exact wpAny_pyIter_ascii ha (pi_one (tk := s1.toks) I1 _ (turn_str _ x t _ (.inl rfl)) ⟨_, Heap.get?_push_size _ rfl, rfl, rfl⟩ q)
theorem pi_all {tg e : Expr} {te : TE} (he : PE X e te) : PI X tg e (fun σ H R => te σ H fun v H1 => iSeq X v H1 R ∨ iDict X v H1 R) := by
  refine ⟨fun pins s σ H R I h => thn (he.run pins s σ H _ I h) fun v s1 ⟨y, H1, I1, r1, q1⟩ => ?_⟩
  rcases q1 with q | q
  · exact iter_seq I1 r1 q
  · exact iter_dict I1 r1 q
theorem ti_seq {tg l : Expr} {t : WE} (h : PE X l (LE (bx X) G t)) : PI X tg l (LI (bx X) G (wSq t)) := by
  refine PI.wk (pi_all h) fun σ H Q ⟨ρ, F, Q', R, ht, k⟩ => ?_
  refine ⟨ρ, F, _, R, ht, fun v H1 ρ1 F1 r R1 s1 rr q => ?_⟩
  obtain ⟨ρ2, F2, x, R2, s2, rx, L, eL, q2⟩ := R1.frzOk rr q
  cases rx with
  | lst hs hr => cases eL; exact .inl (.inl ⟨_, rfl, ⟨_, SqL.of (R2.subH.at hs)⟩, k _ H1 ρ2 F2 _ R2 (s1.trans s2) (itOk_list hs hr) q2⟩)
  | tup hs _ hr => cases eL; exact .inl (.inr (.inl ⟨_, rfl, ⟨_, R2.subH.sqT hs⟩, k _ H1 ρ2 F2 _ R2 (s1.trans s2) (itOk_tup hs hr) q2⟩))
  | str z => cases eL; exact .inl (.inr (.inr ⟨z, rfl, k _ H1 ρ2 F2 _ R2 (s1.trans s2) itOk_str q2⟩))
  | dk hs hr =>
    cases eL
    refine .inr ⟨_, rfl, .inl ⟨_, R2.subH.rd hs, fun o H2 lk => ?_⟩⟩
    obtain ⟨F3, R3, s3, e3⟩ := R2.lkd rfl hs lk
    exact k _ H2 ρ2 F3 _ R3 (s1.trans (s2.trans s3)) (itOk_keys e3 (hr.mono s3)) q2
  | dt hs hr =>
    cases eL
    refine .inr ⟨_, rfl, .inr ⟨_, R2.subH.rd hs, fun o H2 lk => ?_⟩⟩
    obtain ⟨F3, R3, s3, e3⟩ := R2.lkd rfl hs lk
    exact k _ H2 ρ2 F3 _ R3 (s1.trans (s2.trans s3)) (itOk_keysX e3 (hr.mono s3)) q2
  | _ => cases eL
def wRng1 (t : WA) : WI := fun ρ Q => t ρ fun xs ρ1 => match xs with
  | [.int j] => (-(2 ^ 62) ≤ j ∧ j < 2 ^ 62) ∧ Q (rangeTs 0 j.toNat) ρ1
  | _ => False
@[simp] theorem wRng1_s (t : WA) (s_ : S) (r_ : List S) (Q_ : _) : wRng1 t (s_ :: r_) Q_ = (fun ρ Q => t ρ fun xs ρ1 => match xs with
  | [.int j] => (-(2 ^ 62) ≤ j ∧ j < 2 ^ 62) ∧ Q (rangeTs 0 j.toNat) ρ1
  | _ => False) (s_ :: r_) Q_ := rfl
def wRng2 (t : WA) : WI := fun ρ Q => t ρ fun xs ρ1 => match xs with
  | [.int i, .int j] => (-(2 ^ 62) ≤ i ∧ i < 2 ^ 62 ∧ -(2 ^ 62) ≤ j ∧ j < 2 ^ 62) ∧ Q (rangeTs i (j - i).toNat) ρ1
  | _ => False
@[simp] theorem wRng2_s (t : WA) (s_ : S) (r_ : List S) (Q_ : _) : wRng2 t (s_ :: r_) Q_ = (fun ρ Q => t ρ fun xs ρ1 => match xs with
  | [.int i, .int j] => (-(2 ^ 62) ≤ i ∧ i < 2 ^ 62 ∧ -(2 ^ 62) ≤ j ∧ j < 2 ^ 62) ∧ Q (rangeTs i (j - i).toNat) ρ1
  | _ => False) (s_ :: r_) Q_ := rfl
theorem RpAll.one {B : Bx} {F : Hp} {vs : List V} {x : T} (h : RpAll B F vs [x]) : ∃ v, vs = [v] ∧ Rp B F v x := by
  cases h with
  | cons a r =>
    cases r
    exact ⟨_, rfl, a⟩
theorem RpAll.two {B : Bx} {F : Hp} {vs : List V} {x y : T} (h : RpAll B F vs [x, y]) : ∃ v u, vs = [v, u] ∧ Rp B F v x ∧ Rp B F u y := by
  cases h with
  | cons a r =>
    obtain ⟨u, rfl, b⟩ := RpAll.one r
    exact ⟨_, _, rfl, a, b⟩
theorem ti_range1 {tg a : Expr} {t : WA} {p pos : Pos} (hg : Gl X "range") (hm : X.mg "range" = none) (ha : PA X [a] (LA (bx X) G t)) (hs : starEach [a] X.env = [(false, eval a X.env)] := by rfl) : PI X tg (.Call (.Name "range" p) [a] [] pos) (LI (bx X) G (wRng1 t)) := by
  refine PI.wk (pi_range1 hg hm ha hs) fun σ H Q ⟨ρ, F, Q', R, ht, k⟩ => ⟨ρ, F, _, R, ht, fun vs H1 ρ1 F1 xs R1 s1 rs q => ?_⟩
  obtain ⟨j, rfl, h1, h2, q⟩ : ∃ j : Int, xs = [.int j] ∧ -(2 ^ 62) ≤ j ∧ j < 2 ^ 62 ∧ Q' (rangeTs 0 j.toNat) ρ1 := by
    split at q
    · exact ⟨_, rfl, q.1.1, q.1.2, q.2⟩
    · exact q.elim
  obtain ⟨v, rfl, rv⟩ := rs.one
  cases rv
  exact ⟨j, rfl, h1, h2, k _ H1 ρ1 F1 _ R1 s1 itOk_range q⟩
theorem ti_range2 {tg a b : Expr} {t : WA} {p pos : Pos} (hg : Gl X "range") (hm : X.mg "range" = none) (ha : PA X [a, b] (LA (bx X) G t)) (hs : starEach [a, b] X.env = [(false, eval a X.env), (false, eval b X.env)] := by rfl) (hs2 : starEach [b] X.env = [(false, eval b X.env)] := by rfl) :
    PI X tg (.Call (.Name "range" p) [a, b] [] pos) (LI (bx X) G (wRng2 t)) := by
  refine PI.wk (pi_range2 hg hm ha hs hs2) fun σ H Q ⟨ρ, F, Q', R, ht, k⟩ => ⟨ρ, F, _, R, ht, fun vs H1 ρ1 F1 xs R1 s1 rs q => ?_⟩
  obtain ⟨i, j, rfl, h1, q⟩ : ∃ i j : Int, xs = [.int i, .int j] ∧ (-(2 ^ 62) ≤ i ∧ i < 2 ^ 62 ∧ -(2 ^ 62) ≤ j ∧ j < 2 ^ 62) ∧ Q' (rangeTs i (j - i).toNat) ρ1 := by
    split at q
    · exact ⟨_, _, rfl, q.1, q.2⟩
    · exact q.elim
  obtain ⟨v, u, rfl, rv, ru⟩ := rs.two
  cases rv
  cases ru
  exact ⟨i, j, rfl, h1, k _ H1 ρ1 F1 _ R1 s1 itOk_range q⟩
def wEnum (t : WA) : WI := fun ρ Q => t ρ fun xs ρ1 => match xs with
  | [x] => ∃ ys, seqT x = some ys ∧ Q (enumTs ys) ρ1
  | _ => False
@[simp] theorem wEnum_s (t : WA) (s_ : S) (r_ : List S) (Q_ : _) : wEnum t (s_ :: r_) Q_ = (fun ρ Q => t ρ fun xs ρ1 => match xs with
  | [x] => ∃ ys, seqT x = some ys ∧ Q (enumTs ys) ρ1
  | _ => False) (s_ :: r_) Q_ := rfl
theorem ti_enum {elts : List Expr} {kk : Nat} {tpos p pos : Pos} {e : Expr} {t : WA} (hg : Gl X "enumerate") (hm : X.mg "enumerate" = none) (ha : PA X [e] (LA (bx X) G t)) (hs : starEach [e] X.env = [(false, eval e X.env)] := by rfl) : PI X (.Tuple elts kk tpos) (.Call (.Name "enumerate" p) [e] [] pos) (LI (bx X) G (wEnum t)) := by
  refine PI.wk (pi_enumS hg hm ha hs) fun σ H Q ⟨ρ, F, Q', R, ht, k⟩ => ⟨ρ, F, _, R, ht, fun vs H1 ρ1 F1 xs R1 s1 rs q => ?_⟩
  obtain ⟨x, ys, rfl, es, q⟩ : ∃ x ys, xs = [x] ∧ seqT x = some ys ∧ Q' (enumTs ys) ρ1 := by
    split at q
    · obtain ⟨ys, h1, h2⟩ := q
      exact ⟨_, ys, rfl, h1, h2⟩
    · exact q.elim
  obtain ⟨v, rfl, rv⟩ := rs.one
  obtain ⟨S, us, rfl, ru, at'⟩ := src_of rv es
  exact ⟨S, us, rfl, at' _ R1.subH, k _ H1 ρ1 F1 _ R1 s1 (itOk_enum at' ru) q⟩
def wZip (t : WA) : WI := fun ρ Q => t ρ fun xs ρ1 => match xs with
  | [x, y] => ∃ ys zs, seqT x = some ys ∧ seqT y = some zs ∧ Q (zipTs ys zs) ρ1
  | _ => False
@[simp] theorem wZip_s (t : WA) (s_ : S) (r_ : List S) (Q_ : _) : wZip t (s_ :: r_) Q_ = (fun ρ Q => t ρ fun xs ρ1 => match xs with
  | [x, y] => ∃ ys zs, seqT x = some ys ∧ seqT y = some zs ∧ Q (zipTs ys zs) ρ1
  | _ => False) (s_ :: r_) Q_ := rfl
theorem ti_zip {elts : List Expr} {kk : Nat} {tpos p pos : Pos} {e e2 : Expr} {t : WA} (hg : Gl X "zip") (hm : X.mg "zip" = none) (ha : PA X [e, e2] (LA (bx X) G t)) (hs : starEach [e, e2] X.env = (false, eval e X.env) :: starEach [e2] X.env := by rfl) (hpl : (backTo pos (starEach [e2] X.env)).any (·.1) = false := by rfl) : PI X (.Tuple elts kk tpos) (.Call (.Name "zip" p) [e, e2] [] pos) (LI (bx X) G (wZip t)) := by
  refine PI.wk (pi_zipS hg hm ha hs hpl) fun σ H Q ⟨ρ, F, Q', R, ht, k⟩ => ⟨ρ, F, _, R, ht, fun vs H1 ρ1 F1 xs R1 s1 rs q => ?_⟩
  obtain ⟨x, y, ys, zs, rfl, e1, e2, q⟩ : ∃ x y ys zs, xs = [x, y] ∧ seqT x = some ys ∧ seqT y = some zs ∧ Q' (zipTs ys zs) ρ1 := by
    split at q
    · obtain ⟨ys, zs, h1, h2, h3⟩ := q
      exact ⟨_, _, ys, zs, rfl, h1, h2, h3⟩
    · exact q.elim
  obtain ⟨v, u, rfl, rv, ru⟩ := rs.two
  obtain ⟨S1, us, rfl, ru1, at1⟩ := src_of rv e1
  obtain ⟨S2, ws, rfl, ru2, at2⟩ := src_of ru e2
  exact ⟨S1, S2, us, ws, rfl, at1 _ R1.subH, at2 _ R1.subH, k _ H1 ρ1 F1 _ R1 s1 (itOk_zip at1 ru1 at2 ru2) q⟩

/-! ### for, while -/
/-- P: what holds ahead of the i-th turn -/
def wFor (t : WI) (g : WG) (tb : WS) : WS := fun D ρ => t ρ fun L ρ1 => ∃ P : Nat → List S → Prop, (∃ ρ', P 0 ρ' ∧ wk ρ1 ρ') ∧
  (∀ i x ρ2, L[i]? = some x → P i ρ2 → g x ρ2 fun ρ3 => tb ⟨fun ρ4 => ∃ ρ', P (i + 1) ρ' ∧ wk ρ4 ρ', D.rt, D.nx, fun ρ4 => ∃ ρ', P (i + 1) ρ' ∧ wk ρ4 ρ'⟩ ρ3) ∧ ∀ ρ2, P L.length ρ2 → D.nx ρ2
theorem ts_for {tg iter : Expr} {body : List Stmt} {t : WI} {is : List Nat} {g : WG} {tb : WS} {pos : Pos} (hp : PassesOwn (model X.prog X.w) X.A X.env X.xe) (hc : X.calm = true) (hi : PI X tg iter (LI (bx X) G t)) (hg : PG X tg (LG (bx X) G is g)) (hb : PSs X body (LS (bx X) G tb))
    (hs : ∀ x, foldedSetIterable iter X.env x = pure x := by intro _; rfl) : PS X (.For tg iter body [] pos) (LS (bx X) G (wFor t g tb)) := by
  refine PS.wk (ps_for hp hc hi hg hb hs) fun D σ H ⟨ρ, F, D', R, ht, k1, k2, k3, k4⟩ => ⟨ρ, F, _, R, ht, fun J H1 ρ1 F1 L R1 s1 ok ⟨P, ⟨ρ', p0, w0⟩, step, fin⟩ => ?_⟩
  refine ⟨fun i m σ2 H2 => ∃ ρ2 F2, Rel (bx X) G σ2 H2 ρ2 F2 ∧ Sub F1 F2 ∧ m = L.length - i ∧ i ≤ L.length ∧ P i ρ2, ⟨L.length, ρ', F1, R1.wk w0, Sub.refl, rfl, Nat.zero_le _, p0⟩, fun i m σ2 H2 ⟨ρ2, F2, R2, s2, em, hi, p2⟩ => ?_⟩
  obtain ⟨o1, o2, o3⟩ := ok i H2 F2 s2 R2.subH
  by_cases hlt : i < L.length
  · refine .inr ⟨o1 hlt, fun σ' H' => ∃ ρ4 F4, Rel (bx X) G σ' H' ρ4 F4 ∧ Sub F1 F4 ∧ P (i + 1) ρ4, fun σ' H' ⟨ρ4, F4, R4, s4, p4⟩ => ⟨L.length - (i + 1), by omega, ρ4, F4, R4, s4, rfl, hlt, p4⟩, fun x H3 y => ?_⟩
    have et := List.getElem?_eq_getElem hlt
    obtain ⟨F3, R3, s3, rx⟩ := o3 x H3 _ et y G σ2 ρ2 R2
    refine ⟨ρ2, F3, _, _, R3, rx, step i _ ρ2 et p2, fun σ4 H4 ρ4 F4 R4 s4 _ q4 => ?_⟩
    refine ⟨ρ4, F4, _, R4, q4, fun σ5 H5 ρ5 F5 R5 s5 ⟨ρ', pn, wn⟩ => ⟨ρ', F5, R5.wk wn, s2.trans (s3.trans (s4.trans s5)), pn⟩, k2.mono (s1.trans (s2.trans (s3.trans s4))), ?_, fun σ5 H5 ρ5 F5 R5 s5 ⟨ρ', pn, wn⟩ => ⟨ρ', F5, R5.wk wn, s2.trans (s3.trans (s4.trans s5)), pn⟩⟩
    exact k1.mono (s1.trans (s2.trans (s3.trans s4)))
  · have e : i = L.length := by omega
    subst e
    exact .inl ⟨o2 rfl, k1 σ2 H2 ρ2 F2 R2 (s1.trans s2) (fin ρ2 p2)⟩
/-- P: what holds ahead of a turn, at this measure -/
def wWhile (tc : WT) (tb : WS) : WS := fun D ρ => ∃ P : Nat → List S → Prop, (∃ m ρ', P m ρ' ∧ wk ρ ρ') ∧ ∀ m ρ1, P m ρ1 → tc ρ1 fun b ρ2 => if b = true then
  tb ⟨fun ρ3 => ∃ m' ρ', m' < m ∧ P m' ρ' ∧ wk ρ3 ρ', D.rt, D.nx, fun ρ3 => ∃ m' ρ', m' < m ∧ P m' ρ' ∧ wk ρ3 ρ'⟩ ρ2 else D.nx ρ2
theorem ts_while {c : Expr} {body : List Stmt} {tc : WT} {tb : WS} {pos : Pos} (hp : PassesOwn (model X.prog X.w) X.A X.env X.xe) (hc : PT X c (LT (bx X) G tc)) (hb : PSs X body (LS (bx X) G tb)) : PS X (.While c body [] pos) (LS (bx X) G (wWhile tc tb)) := by
  refine PS.wk (ps_while hp hc hb) fun D σ H ⟨ρ, F, D', R, ⟨P, ⟨m0, ρ', p0, w0⟩, step⟩, k1, k2, k3, k4⟩ => ?_
  refine ⟨fun m σ2 H2 => ∃ ρ2 F2, Rel (bx X) G σ2 H2 ρ2 F2 ∧ Sub F F2 ∧ P m ρ2, ⟨m0, ρ', F, R.wk w0, Sub.refl, p0⟩, fun m σ2 H2 ⟨ρ2, F2, R2, s2, p2⟩ => ?_⟩
  refine ⟨ρ2, F2, _, R2, step m ρ2 p2, fun b H3 ρ3 F3 R3 s3 q => ?_⟩
  cases b with
  | false => exact k1 σ2 H3 ρ3 F3 R3 (s2.trans s3) q
  | true =>
    refine ⟨fun σ' H' => ∃ m' ρ4 F4, m' < m ∧ Rel (bx X) G σ' H' ρ4 F4 ∧ Sub F F4 ∧ P m' ρ4, fun σ' H' ⟨m', ρ4, F4, l, R4, s4, p4⟩ => ⟨m', l, ρ4, F4, R4, s4, p4⟩, ?_⟩
    refine ⟨ρ3, F3, _, R3, q, fun σ5 H5 ρ5 F5 R5 s5 ⟨m', ρ', l, pn, wn⟩ => ⟨m', ρ', F5, l, R5.wk wn, s2.trans (s3.trans s5), pn⟩, k2.mono (s2.trans s3), k1.mono (s2.trans s3), fun σ5 H5 ρ5 F5 R5 s5 ⟨m', ρ', l, pn, wn⟩ => ⟨m', ρ', F5, l, R5.wk wn, s2.trans (s3.trans s5), pn⟩⟩
end
end TL
set_option Elab.async false
set_option linter.all false
set_option maxRecDepth 100000
set_option autoImplicit false
/-! TL7: list comprehensions; defs and their calls -/
namespace TL
open PySem PySem.Spec PyProof.Rows L2

theorem wipeS_length (ρ : List S) : ∀ vs : List Nat, (wipeS ρ vs).length = ρ.length
  | [] => rfl
  | v :: vs => by unfold wipeS; rw [List.length_set, wipeS_length ρ vs]
theorem wipeS_get {ρ : List S} {i : Nat} : ∀ {vs : List Nat}, (wipeS ρ vs)[i]? = if i < ρ.length ∧ i ∈ vs then some .no else ρ[i]?
  | [] => by simp [wipeS]
  | v :: vs => by
    unfold wipeS
    by_cases hv : v = i
    · subst hv
      by_cases hl : v < ρ.length
      · rw [List.getElem?_set_self (by rw [wipeS_length]; exact hl), if_pos ⟨hl, List.mem_cons_self⟩]
      · rw [List.getElem?_eq_none (by rw [List.length_set, wipeS_length]; omega), if_neg (fun z => hl z.1), List.getElem?_eq_none (by omega)]
    · rw [List.getElem?_set_ne hv, wipeS_get]
      by_cases hm : i < ρ.length ∧ i ∈ vs
      · rw [if_pos hm, if_pos ⟨hm.1, List.mem_cons_of_mem _ hm.2⟩]
      · rw [if_neg hm, if_neg fun z => hm ⟨z.1, by
          rcases List.mem_cons.mp z.2 with e | e
          · exact absurd e.symm hv
          · exact e⟩]
theorem wipeS_some {ρ : List S} {i : Nat} {s : S} {vs : List Nat} (e : (wipeS ρ vs)[i]? = some s) : s = .no ∨ (i ∉ vs ∧ ρ[i]? = some s) := by
  rw [wipeS_get] at e
  by_cases hm : i < ρ.length ∧ i ∈ vs
  · rw [if_pos hm] at e
    exact .inl (Option.some.inj e).symm
  · rw [if_neg hm] at e
    have hl : i < ρ.length := (List.getElem?_eq_some_iff.mp e).1
    exact .inr ⟨fun z => hm ⟨hl, z⟩, e⟩
theorem wipe_out' {σ : L2.St} {i : Nat} {vs : List Nat} (h : i ∉ vs) : (wipe σ vs)[i]? = σ[i]? := by
  rw [wipe_get, if_neg fun z => h z.2]
theorem wipe_idem (σ : L2.St) (vs : List Nat) : wipe (wipe σ vs) vs = wipe σ vs := by
  refine List.ext_getElem? fun j => ?_
  rw [wipe_get, wipe_get, wipe_length]
  by_cases hm : j < σ.length ∧ j ∈ vs
  · simp only [if_pos hm]
  · simp only [if_neg hm]
theorem wipeS_idem (ρ : List S) (vs : List Nat) : wipeS (wipeS ρ vs) vs = wipeS ρ vs := by
  refine List.ext_getElem? fun j => ?_
  rw [wipeS_get, wipeS_length, wipeS_get]
  by_cases hm : j < ρ.length ∧ j ∈ vs
  · simp only [if_pos hm]
  · simp only [if_neg hm]
def Fc.pin (G : Fc) (l : List (Addr × HO)) : Fc := { G with pins := l }
section
variable {K : Bx} {G : Fc} {σ : L2.St} {H H' : Hp} {ρ : List S} {F F' : Hp}
theorem SlotOk.pin {o : Option (Option V)} {s : S} {l : List (Addr × HO)} (h : SlotOk K G F H o s) : SlotOk K (G.pin l) F H o s := by
  cases s with
  | no => exact h
  | d t => exact h
  | ol xs =>
    obtain ⟨p, vs, e, ow, q⟩ := h
    exact ⟨p, vs, e, ⟨ow.f, ow.h0, ow.w⟩, q⟩
  | od k kvs =>
    obtain ⟨p, e, ow, q⟩ := h
    exact ⟨p, e, ⟨ow.f, ow.h0, ow.w⟩, q⟩
  | gh k => exact h
theorem SlotOk.unpin {o : Option (Option V)} {s : S} {l : List (Addr × HO)} (h : SlotOk K (G.pin l) F H o s) : SlotOk K G F H o s := by
  cases s with
  | no => exact h
  | d t => exact h
  | ol xs =>
    obtain ⟨p, vs, e, ow, q⟩ := h
    exact ⟨p, vs, e, ⟨ow.f, ow.h0, ow.w⟩, q⟩
  | od k kvs =>
    obtain ⟨p, e, ow, q⟩ := h
    exact ⟨p, e, ⟨ow.f, ow.h0, ow.w⟩, q⟩
  | gh k => exact h
theorem Rel.wipe (h : Rel K G σ H ρ F) (vs : List Nat) : Rel K G (wipe σ vs) H (wipeS ρ vs) F := by
  have own : ∀ (i : Nat) (s : S), (wipeS ρ vs)[i]? = some s → s.isOwn = true → ρ[i]? = some s ∧ (L2.wipe σ vs)[i]? = σ[i]? := fun i s e o => by
    rcases wipeS_some e with z | ⟨z, e'⟩
    · subst z
      cases o
    · exact ⟨e', wipe_out' z⟩
  refine ⟨h.sub, h.base, h.old, h.fresh, h.inv, h.inv0, by rw [wipeS_length, wipe_length]; exact h.len, fun q hq => ?_, fun i s e => ?_, fun i j s t p e1 e2 o1 o2 f1 f2 => ?_⟩
  · obtain ⟨h1, h2, h3⟩ := h.pin q hq
    refine ⟨h1, h2, fun i s e o => ?_⟩
    obtain ⟨g1, g2⟩ := own i s e o
    rw [g2]
    exact h3 i s g1 o
  · rcases wipeS_some e with z | ⟨z, e'⟩
    · subst z
      trivial
    · rw [wipe_out' z]
      exact h.slot i s e'
  · obtain ⟨g1, g2⟩ := own i s e1 o1
    obtain ⟨g3, g4⟩ := own j t e2 o2
    rw [g2] at f1
    rw [g4] at f2
    exact h.sep i j s t p g1 g3 o1 o2 f1 f2
theorem Rel.unwipe (h : Rel K G σ H ρ F) {vs : List Nat} (h' : Rel K G (L2.wipe σ vs) H' (wipeS ρ vs) F') (sF : Sub F F') (no : noOwn ρ vs) : Rel K G σ H' ρ F' := by
  have own : ∀ (i : Nat) (s : S), ρ[i]? = some s → s.isOwn = true → (wipeS ρ vs)[i]? = some s ∧ (L2.wipe σ vs)[i]? = σ[i]? := fun i s e o => by
    have hi : i ∉ vs := fun z => by
      have := S.isX_own (no i z s e)
      rw [o] at this
      cases this
    exact ⟨by rw [wipeS_get, if_neg fun z => hi z.2]; exact e, wipe_out' hi⟩
  refine ⟨h'.sub, h'.base, h'.old, h'.fresh, h'.inv, h'.inv0, h.len, fun q hq => ?_, fun i s e => ?_, fun i j s t p e1 e2 o1 o2 f1 f2 => ?_⟩
  · obtain ⟨h1, h2, h3⟩ := h'.pin q hq
    refine ⟨h1, h2, fun i s e o => ?_⟩
    obtain ⟨g1, g2⟩ := own i s e o
    rw [← g2]
    exact h3 i s g1 o
  · by_cases hi : i ∈ vs
    · have z := h.slot i s e
      have o := no i hi s e
      cases s with
      | no => exact z
      | d t =>
        obtain ⟨v, ev, rv⟩ := z
        exact ⟨v, ev, rv.mono sF⟩
      | ol xs => cases o
      | od k kvs => cases o
      | gh k => cases o
    · have e' : (wipeS ρ vs)[i]? = some s := by rw [wipeS_get, if_neg fun z => hi z.2]; exact e
      have z := h'.slot i s e'
      rw [wipe_out' hi] at z
      exact z
  · obtain ⟨g1, g2⟩ := own i s e1 o1
    obtain ⟨g3, g4⟩ := own j t e2 o2
    rw [← g2] at f1
    rw [← g4] at f2
    exact h'.sep i j s t p g1 g3 o1 o2 f1 f2
/-- a new object is pinned -/
theorem Rel.pinned (h : Rel K G σ H ρ F) {D : Addr} (n : H D = none) (o : HO) : Rel K (G.pin ((D, o) :: G.pins)) σ (upd H D o) ρ F := by
  have r := h.lay n o
  refine ⟨r.sub, r.base, r.old, r.fresh, r.inv, r.inv0, r.len, fun q hq => ?_, fun i s e => (r.slot i s e).pin, r.sep⟩
  rcases List.mem_cons.mp hq with e | hq
  · subst e
    refine ⟨upd_same, ⟨h.freeF n, h.free0 n, h.notOwn n⟩, fun i s e o' z => ?_⟩
    obtain ⟨⟨u, hu⟩, _⟩ := (h.slot i s e).there o' z
    rw [n] at hu
    cases hu
  · obtain ⟨h1, h2, h3⟩ := r.pin q hq
    exact ⟨h1, ⟨h2.f, h2.h0, h2.w⟩, h3⟩
/-- the pinned one has changed -/
theorem Rel.repin {D : Addr} {o o' : HO} {l : List (Addr × HO)} (h : Rel K (G.pin ((D, o) :: l)) σ H ρ F) (nd : ∀ q ∈ l, q.1 ≠ D) : Rel K (G.pin ((D, o') :: l)) σ (upd H D o') ρ F := by
  obtain ⟨h1, h2, h3⟩ := h.pin (D, o) List.mem_cons_self
  have hw : G.W.own D = false := h2.w
  refine ⟨fun a u e => ?_, fun a u e => ?_, h.old, h.fresh, G.W.st _ _ (fun a w => ?_) h.inv, h.inv0, h.len, fun q hq => ?_, fun i s e => ?_, h.sep⟩
  · have z : Sub F (upd (off G.W H) D o') := Sub.updR (F := F) h.sub h2.f
    rw [← off_upd hw] at z
    exact z a u e
  · have z : Keep G.F0 (off G.W G.H0) (upd (off G.W H) D o') := Keep.updR (p := D) (o := o') h.base (off_none h2.h0)
    rw [← off_upd hw] at z
    exact z a u e
  · have ha : a ≠ D := fun z => by
      subst z
      rw [hw] at w
      cases w
    rw [upd_ne ha]
  · rcases List.mem_cons.mp hq with e | hq
    · subst e
      exact ⟨upd_same, ⟨h2.f, h2.h0, h2.w⟩, h3⟩
    · obtain ⟨g1, g2, g3⟩ := h.pin q (List.mem_cons_of_mem _ hq)
      have hne := nd q hq
      exact ⟨by rw [upd_ne hne]; exact g1, ⟨g2.f, g2.h0, g2.w⟩, g3⟩
  · refine ((h.slot i s e).unpin.keep Sub.refl (own_upd hw) fun p w ep => ?_).pin
    obtain ⟨_, ob⟩ := (h.slot i s e).there w ep
    have hne : p ≠ D := fun z => by
      subst z
      exact h3 i s e w ep
    rw [upd_ne hne]
    exact ⟨rfl, ob.f⟩
theorem Rel.unpin {D : Addr} {o : HO} (h : Rel K (G.pin ((D, o) :: G.pins)) σ H ρ F) : Rel K G σ H ρ F :=
  ⟨h.sub, h.base, h.old, h.fresh, h.inv, h.inv0, h.len, fun q hq => by
    obtain ⟨g1, g2, g3⟩ := h.pin q (List.mem_cons_of_mem _ hq)
    exact ⟨g1, ⟨g2.f, g2.h0, g2.w⟩, g3⟩, fun i s e => (h.slot i s e).unpin, h.sep⟩
end

section
variable {X : Cx} {G : Fc}
theorem PTs.wk {ifs : List Expr} {t t' : TT} (h : PTs X ifs t) (w : ∀ σ H Q, t' σ H Q → t σ H Q) : PTs X ifs t' := ⟨fun pins s σ H Q I q => h.run pins s σ H Q I (w σ H Q q)⟩
def wYes : WT := fun ρ Q => Q true ρ
@[simp] theorem wYes_s (s_ : S) (r_ : List S) (Q_ : _) : wYes (s_ :: r_) Q_ = (fun ρ Q => Q true ρ) (s_ :: r_) Q_ := rfl
theorem tts_nil : PTs X [] (LT (bx X) G wYes) := PTs.wk pts_nil fun σ H Q ⟨ρ, F, _, R, ht, k⟩ => k true H ρ F R Sub.refl ht
theorem tts_one {c : Expr} {t : WT} (h : PT X c (LT (bx X) G t)) : PTs X [c] (LT (bx X) G t) := pts_one h
def wLc (t : WI) (g : WG) (tt : WT) (te : WE) (vs : List Nat) : WN := fun ρ Q => t ρ fun L ρ1 => noOwn ρ1 vs ∧ ∃ P : Nat → List T → Prop, P 0 [] ∧
  (∀ i x acc, L[i]? = some x → P i acc → g x (wipeS ρ1 vs) fun ρ2 => tt ρ2 fun b ρ3 => if b = true then te ρ3 fun r ρ4 => frz r ρ4 fun y ρ5 => (acc.length < sizeLine ∧ P (i + 1) (acc ++ [y])) ∧ wk ρ5 (wipeS ρ1 vs) else P (i + 1) acc ∧ wk ρ3 (wipeS ρ1 vs)) ∧
  ∀ acc, P L.length acc → Q (.ol acc) ρ1
/-- with whatever pins -/
def xG (K : Bx) (G : Fc) (is : List Nat) (g : WG) : TG := fun v σ H Q => ∃ l, LG K (G.pin l) is g v σ H Q
def xT (K : Bx) (G : Fc) (t : WT) : TT := fun σ H Q => ∃ l, LT K (G.pin l) t σ H Q
def xE (K : Bx) (G : Fc) (t : WE) : TE := fun σ H Q => ∃ l, LE K (G.pin l) t σ H Q
theorem liftLc {t : WI} {g : WG} {tt : WT} {te : WE} {vs is : List Nat} (his : ∀ i ∈ is, i ∈ vs) {σ : L2.St} {H : Hp} {Q : VK} (h : LN (bx X) G (wLc t g tt te vs) σ H Q) :
    tLc (LI (bx X) G t) (xG (bx X) G is g) (xT (bx X) G tt) (xE (bx X) G te) vs σ H Q := by
  obtain ⟨ρ, F, Q', R, ht, k⟩ := h
  refine ⟨ρ, F, _, R, ht, fun J H1 ρ1 F1 L R1 s1 ok ⟨no, P, p0, step, fin⟩ => fun D nD => ?_⟩
  have pne : ∀ q ∈ G.pins, q.1 ≠ D := fun q hq => ne_of_none (R1.pin q hq).1 nD
  refine ⟨fun i m H2 => ∃ F2 acc vacc, Rel (bx X) (G.pin ((D, .lst vacc) :: G.pins)) (wipe σ vs) H2 (wipeS ρ1 vs) F2 ∧ Sub F1 F2 ∧ RpAll (bx X) F2 vacc acc ∧ m = L.length - i ∧ i ≤ L.length ∧ P i acc,
    ⟨L.length, F1, [], [], (R1.wipe vs).pinned nD _, Sub.refl, .nil, rfl, Nat.zero_le _, p0⟩, fun i m H2 ⟨F2, acc, vacc, R2, s2, ra, em, hi, pi⟩ => ?_⟩
  obtain ⟨o1, o2, o3⟩ := ok i H2 F2 s2 R2.subH
  by_cases hlt : i < L.length
  · refine .inr ⟨o1 hlt, fun H' => ∃ F2 acc vacc, Rel (bx X) (G.pin ((D, .lst vacc) :: G.pins)) (wipe σ vs) H' (wipeS ρ1 vs) F2 ∧ Sub F1 F2 ∧ RpAll (bx X) F2 vacc acc ∧ P (i + 1) acc,
      fun H' ⟨F3, acc', vacc', R3, s3, ra3, p3⟩ => ⟨L.length - (i + 1), by omega, F3, acc', vacc', R3, s3, ra3, rfl, hlt, p3⟩, fun x H3 y => ?_⟩
    have et := List.getElem?_eq_getElem hlt
    obtain ⟨F3, R3, s3, rx⟩ := o3 x H3 _ et y _ _ _ R2
    refine ⟨_, wipeS ρ1 vs, F3, _, _, R3, rx, step i _ acc et pi, fun σ4 H4 ρ4 F4 R4 s4 ag q4 => ⟨?_, ?_⟩⟩
    · have e := ag vs his
      rw [e, wipe_idem]
    have back : ∀ {H5 : Hp} {F5 : Hp} {ρ5 : List S}, Rel (bx X) (G.pin ((D, .lst vacc) :: G.pins)) σ4 H5 ρ5 F5 → wk ρ5 (wipeS ρ1 vs) → Rel (bx X) (G.pin ((D, .lst vacc) :: G.pins)) (wipe σ vs) H5 (wipeS ρ1 vs) F5 := fun {H5 F5 ρ5} R5 w5 => by
      have ew : wipe σ4 vs = wipe σ vs := by
        rw [ag vs his, wipe_idem]
      have R6 := (R5.wk w5).wipe vs
      rw [ew] at R6
      rw [wipeS_idem] at R6
      exact R6
    refine ⟨_, ρ4, F4, _, R4, q4, fun b H5 ρ5 F5 R5 s5 q5 => ?_⟩
    cases b with
    | false =>
      exact ⟨F5, acc, vacc, back R5 q5.2, s2.trans (s3.trans (s4.trans s5)), ra.mono (s3.trans (s4.trans s5)), q5.1⟩
    | true =>
      refine ⟨_, ρ5, F5, _, R5, q5, fun y H6 ρ6 F6 r R6 s6 rr q6 => ?_⟩
      obtain ⟨ρ7, F7, z, R7, s7, rz, ⟨hl, pz⟩, wz⟩ := R6.frzOk rr q6
      obtain ⟨h1, _, _⟩ := R7.pin (D, .lst vacc) List.mem_cons_self
      refine ⟨vacc, h1, by rw [ra.length]; exact hl, F7, acc ++ [z], vacc ++ [y], (back R7 wz).repin pne, s2.trans (s3.trans (s4.trans (s5.trans (s6.trans s7)))), (ra.mono (s3.trans (s4.trans (s5.trans (s6.trans s7))))).append (.cons rz .nil), pz⟩
  · have e : i = L.length := by omega
    subst e
    refine .inl ⟨o2 rfl, ?_⟩
    obtain ⟨h1, h2, h3⟩ := R2.pin (D, .lst vacc) List.mem_cons_self
    have R3 : Rel (bx X) G (wipe σ vs) H2 (wipeS ρ1 vs) F2 := R2.unpin
    have R4 := R1.unwipe R3 s2 no
    refine k (.ref D) H2 ρ1 F2 (.ol acc) R4 (s1.trans s2) ⟨⟨D, vacc, rfl, ⟨h2.f, h2.h0, h2.w⟩, h1, ra⟩, rfl, fun j t e o z => ?_, fun q hq z => ?_⟩ (fin acc pi)
    · have hj : j ∉ vs := fun z => by
        have := S.isX_own (no j z t e)
        rw [o] at this
        cases this
      exact h3 j t (by rw [wipeS_get, if_neg fun z => hj z.2]; exact e) o (by rw [wipe_out' hj]; exact z)
    · exact pne q hq (V.ref.inj z).symm
theorem tn_lc {elt tg iter : Expr} {ifs : List Expr} {scope : Scope} {own : List (Str × Nat)} {pos : Pos} {t : WI} {is : List Nat} {g : WG} {tt : WT} {te : WE} (hc : X.calm = true) (hN : X.N.Nodup) (hi : PI X tg iter (LI (bx X) G t)) (ok : BlkOk X.N X.env.scope scope own) (his : ∀ i ∈ is, i ∈ own.map (·.2))
    (hg : ∀ (l : List (Addr × HO)) (s : Shared) (H : Hp) (C : Addr) (cl : List (Str × Addr)) (fp : List Addr), PG (X.blk s H scope (compEnvC scope cl C X.env) fp) tg (LG (bx X) (G.pin l) is g)) (ht : ∀ (l : List (Addr × HO)) (s : Shared) (H : Hp) (C : Addr) (cl : List (Str × Addr)) (fp : List Addr), PTs (X.blk s H scope (compEnvC scope cl C X.env) fp) ifs (LT (bx X) (G.pin l) tt))
    (he : ∀ (l : List (Addr × HO)) (s : Shared) (H : Hp) (C : Addr) (cl : List (Str × Addr)) (fp : List Addr), PE (X.blk s H scope (compEnvC scope cl C X.env) fp) elt (LE (bx X) (G.pin l) te)) (hs : ∀ x, foldedSetIterable iter X.env x = pure x := by intro _; rfl) :
    PE X (.ListComp elt [⟨tg, iter, ifs, 0⟩] scope pos) (LN (bx X) G (wLc t g tt te (own.map (·.2)))) :=
  PE.wk (pe_lc (g := xG (bx X) G is g) (tt := xT (bx X) G tt) (te := xE (bx X) G te) hc hN hi ok (fun s H C cl fp => ⟨fun pins s σ H v u Q I r ⟨l, q⟩ => (hg l _ _ _ _ _).run pins s σ H v u Q I r q⟩) (fun s H C cl fp => ⟨fun pins s σ H Q I ⟨l, q⟩ => (ht l _ _ _ _ _).run pins s σ H Q I q⟩)
    (fun s H C cl fp => ⟨fun pins s σ H Q I ⟨l, q⟩ => (he l _ _ _ _ _).run pins s σ H Q I q⟩) hs) fun _ _ _ h => liftLc his h
/-- name = [..], on one line, the name a local; the list is its own -/
theorem ts_setLcN {i : Nat} {y : Str} {py : Pos} {elt tg iter : Expr} {ifs : List Expr} {scope : Scope} {own : List (Str × Nat)} {pos spos : Pos} {t : WI} {is : List Nat} {g : WG} {tt : WT} {te : WE} (hc : X.calm = true) (hN : X.N.Nodup) (hy : X.N[i]? = some y) (hyl : X.env.scope.names.lookup y = some .local)
    (hsw : swapsWith (.ListComp elt [⟨tg, iter, ifs, 0⟩] scope pos) (some (.Name y py)) spos.line X.env = pure true) (hi : PI X tg iter (LI (bx X) G t)) (ok : BlkOk X.N X.env.scope scope own) (his : ∀ i ∈ is, i ∈ own.map (·.2))
    (hg : ∀ (l : List (Addr × HO)) (s : Shared) (H : Hp) (C : Addr) (cl : List (Str × Addr)) (fp : List Addr), PG (X.blk s H scope (compEnvC scope cl C X.env) fp) tg (LG (bx X) (G.pin l) is g)) (ht : ∀ (l : List (Addr × HO)) (s : Shared) (H : Hp) (C : Addr) (cl : List (Str × Addr)) (fp : List Addr), PTs (X.blk s H scope (compEnvC scope cl C X.env) fp) ifs (LT (bx X) (G.pin l) tt))
    (he : ∀ (l : List (Addr × HO)) (s : Shared) (H : Hp) (C : Addr) (cl : List (Str × Addr)) (fp : List Addr), PE (X.blk s H scope (compEnvC scope cl C X.env) fp) elt (LE (bx X) (G.pin l) te)) (hs : ∀ x, foldedSetIterable iter X.env x = pure x := by intro _; rfl) :
    PS X (.Assign [.Name y py] (.ListComp elt [⟨tg, iter, ifs, 0⟩] scope pos) spos) (LS (bx X) G (wSetN i (wLc t g tt te (own.map (·.2))))) := by
  refine PS.wk (ps_setLc (g := xG (bx X) G is g) (tt := xT (bx X) G tt) (te := xE (bx X) G te) hc hN hy hyl hsw hi ok (fun s H C cl fp => ⟨fun pins s σ H v u Q I r ⟨l, q⟩ => (hg l _ _ _ _ _).run pins s σ H v u Q I r q⟩) (fun s H C cl fp => ⟨fun pins s σ H Q I ⟨l, q⟩ => (ht l _ _ _ _ _).run pins s σ H Q I q⟩)
    (fun s H C cl fp => ⟨fun pins s σ H Q I ⟨l, q⟩ => (he l _ _ _ _ _).run pins s σ H Q I q⟩) hs) fun D σ H ⟨ρ, F, D', R, h, k, _⟩ => ?_
  exact liftLc his ⟨ρ, F, _, R, h, fun v H' ρ' F' s R' s' rn q => k _ H' _ F' (R'.setN i rn) s' q⟩
/-- .. a new list is frozen at a name -/
def wSetZ (i : Nat) (t : WN) : WS := fun D ρ => t ρ fun s ρ1 => D.nx (ρ1.set i (.d (treeS s)))
@[simp] theorem wSetZ_s (i : Nat) (t : WN) (D_ : ED) (s_ : S) (r_ : List S) : wSetZ i t D_ (s_ :: r_) = (fun D ρ => t ρ fun s ρ1 => D.nx (ρ1.set i (.d (treeS s)))) D_ (s_ :: r_) := rfl
theorem setZ_of {i : Nat} {t : WN} {e : TG → TS} {D : Ends} {σ : L2.St} {H : Hp} : LS (bx X) G (wSetZ i t) D σ H → LN (bx X) G t σ H (fun x H1 => gName i x σ H1 D.nx) := fun ⟨ρ, F, D', R, h, k, _⟩ =>
  ⟨ρ, F, _, R, h, fun v H' ρ' F' s R' s' rn q => by
    obtain ⟨F2, R2, s2, rv⟩ := R'.frzN rn
    exact k _ H' _ F2 (R2.setD i rv) (s'.trans s2) q⟩
theorem ts_setLc {i : Nat} {y : Str} {py : Pos} {elt tg iter : Expr} {ifs : List Expr} {scope : Scope} {own : List (Str × Nat)} {pos spos : Pos} {t : WI} {is : List Nat} {g : WG} {tt : WT} {te : WE} (hc : X.calm = true) (hN : X.N.Nodup) (hy : X.N[i]? = some y) (hyl : X.env.scope.names.lookup y = some .local)
    (hsw : swapsWith (.ListComp elt [⟨tg, iter, ifs, 0⟩] scope pos) (some (.Name y py)) spos.line X.env = pure true) (hi : PI X tg iter (LI (bx X) G t)) (ok : BlkOk X.N X.env.scope scope own) (his : ∀ i ∈ is, i ∈ own.map (·.2))
    (hg : ∀ (l : List (Addr × HO)) (s : Shared) (H : Hp) (C : Addr) (cl : List (Str × Addr)) (fp : List Addr), PG (X.blk s H scope (compEnvC scope cl C X.env) fp) tg (LG (bx X) (G.pin l) is g)) (ht : ∀ (l : List (Addr × HO)) (s : Shared) (H : Hp) (C : Addr) (cl : List (Str × Addr)) (fp : List Addr), PTs (X.blk s H scope (compEnvC scope cl C X.env) fp) ifs (LT (bx X) (G.pin l) tt))
    (he : ∀ (l : List (Addr × HO)) (s : Shared) (H : Hp) (C : Addr) (cl : List (Str × Addr)) (fp : List Addr), PE (X.blk s H scope (compEnvC scope cl C X.env) fp) elt (LE (bx X) (G.pin l) te)) (hs : ∀ x, foldedSetIterable iter X.env x = pure x := by intro _; rfl) :
    PS X (.Assign [.Name y py] (.ListComp elt [⟨tg, iter, ifs, 0⟩] scope pos) spos) (LS (bx X) G (wSetZ i (wLc t g tt te (own.map (·.2))))) := by
  refine PS.wk (ps_setLc (g := xG (bx X) G is g) (tt := xT (bx X) G tt) (te := xE (bx X) G te) hc hN hy hyl hsw hi ok (fun s H C cl fp => ⟨fun pins s σ H v u Q I r ⟨l, q⟩ => (hg l _ _ _ _ _).run pins s σ H v u Q I r q⟩) (fun s H C cl fp => ⟨fun pins s σ H Q I ⟨l, q⟩ => (ht l _ _ _ _ _).run pins s σ H Q I q⟩)
    (fun s H C cl fp => ⟨fun pins s σ H Q I ⟨l, q⟩ => (he l _ _ _ _ _).run pins s σ H Q I q⟩) hs) fun D σ H h => ?_
  exact liftLc his (setZ_of (e := fun _ _ _ _ => True) h)

/-! ### defs -/
/-- a promise over trees: arguments, what is wanted of the value -/
abbrev TSp := List T → (T → Prop) → Prop
def liftSp (K : Bx) (W : Wd) (sp : TSp) : Sp := fun vs H Q _ => ∃ F xs Q', Sub F (off W H) ∧ (∀ a, W.own a = true → H a ≠ none) ∧ RpAll K F vs xs ∧ sp xs Q' ∧
  ∀ v H' F' t, Sub F F' → Sub F' (off W H') → Keep F (off W H) (off W H') → (∀ a, F' a ≠ none → F a ≠ none ∨ H a = none) → (∀ a, W.own a = true → H' a = H a) → Rp K F' v t → Q' t → Q v H'
def startS (n : Nat) (xs : List T) : List S := xs.map S.d ++ List.replicate (n - xs.length) .no
theorem start_get {N : List Str} {vs : List V} {xs : List T} {K : Bx} {F : Hp} (r : RpAll K F vs xs) {i : Nat} {s : S} (e : (startS N.length xs)[i]? = some s) : s = .no ∨ ∃ t v, s = .d t ∧ (L2.start N vs)[i]? = some (some v) ∧ Rp K F v t := by
  unfold startS at e
  by_cases hi : i < xs.length
  · rw [List.getElem?_append_left (by rw [List.length_map]; exact hi), List.getElem?_map] at e
    obtain ⟨t, et, rfl⟩ := Option.map_eq_some_iff.mp e
    obtain ⟨v, ev, rv⟩ := r.get et
    refine .inr ⟨t, v, rfl, ?_, rv⟩
    unfold L2.start
    rw [List.getElem?_append_left (by rw [List.length_map, r.length]; exact hi), List.getElem?_map, ev]
    rfl
  · rw [List.getElem?_append_right (by rw [List.length_map]; omega), List.getElem?_replicate] at e
    split at e
    · exact .inl (Option.some.inj e).symm
    · cases e
theorem rel_start {K : Bx} {W : Wd} {H F : Hp} {N : List Str} {vs : List V} {xs : List T} (sF : Sub F (off W H)) (iw : W.inv H) (r : RpAll K F vs xs) (hl : xs.length ≤ N.length) : Rel K ⟨W, H, F, []⟩ (L2.start N vs) H (startS N.length xs) F := by
  refine ⟨sF, Keep.refl, Sub.refl, fun a h => .inl h, iw, iw, ?_, fun q hq => (by cases hq), fun i s e => ?_, fun i j s t p e1 e2 o1 o2 f1 f2 => ?_⟩
  · simp [startS, L2.start, r.length]
  · rcases start_get r e with z | ⟨t, v, z, ev, rv⟩
    · subst z
      trivial
    · subst z
      exact ⟨v, ev, rv⟩
  · rcases start_get r e1 with z | ⟨t, v, z, ev, rv⟩
    · subst z
      cases o1
    · subst z
      cases o1
/-- room for k calls; nothing that repr looks for runs around -/
structure Rm (k : Nat) (A : Around) : Prop where
  room : Room k A
  gd : A.guards = some []
theorem Rm.mono {j k : Nat} {A : Around} (r : Rm k A) (h : j ≤ k) : Rm j A := ⟨r.room.mono h, r.gd⟩
/-- a def keeps its promise, where nothing that repr looks for runs around -/
structure FnG (P : Program) (w : World) (K : PySem.W.Frag) (mg : Str → Option Value) (base : Heap) (CX : CXT) (k : Nat) (f : Addr) (fd : FuncData) (ps : List Str) (sp : Sp) : Prop where
  len : ∀ vs H Q E, sp vs H Q E → vs.length = ps.length
  run : ∀ (A : Around) (outer : List Env) (s : Shared) (H : Hp) (args : Args) (us : List Value) (vs : List V) (Q : VK) (E : XK), Rm k A → Env0 P w K mg base A outer s H → BindsTo s fd args (ps.zip us) → Vals vs us → sp vs H Q E →
    codeAny (model P w) A (.call (.ref f) args) (CR CX outer P w H s Q E) s
theorem FnG.mono {P : Program} {w : World} {K : PySem.W.Frag} {mg : Str → Option Value} {base : Heap} {CX : CXT} {j k : Nat} {f : Addr} {fd : FuncData} {ps : List Str} {sp : Sp} (F : FnG P w K mg base CX j f fd ps sp) (h : j ≤ k) : FnG P w K mg base CX k f fd ps sp :=
  ⟨F.len, fun A outer s H args us vs Q E hr => F.run A outer s H args us vs Q E (hr.mono h)⟩
theorem fnG_of {CX : CXT} {P : Program} {w : World} {K : PySem.W.Frag} {mg : Str → Option Value} {base : Heap} {k : Nat} {f : Addr} {name qual : Str} {params : Arguments} {body : List Stmt} {scope : Scope} {dV kV doc pm cdv ct oc : Value} {an od : Option Addr}
    {osl : Array (Option Value)} {N ps : List Str} {sp : Sp} (lk : K.lookup f = some ⟨oc, od, .func (PySem.W.fnOf name qual params body scope dV kV doc pm an cdv ct), osl⟩) (hcd : PySem.W.codeIn K cdv qual = true) (sc : FnScope N ps scope)
    (len : ∀ vs H Q E, sp vs H Q E → vs.length = ps.length)
    (hbody : ∀ (A : Around) (outer : List Env) (s : Shared) (H : Hp) (vs : List V) (Q : VK) (E : XK), Rm k (A.deeper (envOfC qual scope s.heap.objs.size f cdv)) → sp vs H Q E →
      ∃ t, PSs (cxOf CX P w K mg base N qual scope f cdv A outer s H E) body t ∧ t { nx := fun _ H' => Q .non H', rt := Q } (L2.start N vs) H) :
    FnG P w K mg base CX (k + 1) f (PySem.W.fnOf name qual params body scope dV kV doc pm an cdv ct) ps sp := by
  refine ⟨len, fun A outer s H args us vs Q E hr e0 hb r hsp => ?_⟩
  have hl := len _ _ _ _ hsp
  have kin : K.In s.heap := e0.mod.kin.keeps fun b o e => (e0.bs b o e).1
  have lim : s.heap.NoLimit := e0.mod.nolimit.keeps fun b o e => (e0.bs b o e).1
  have kinds : ∀ y ∈ ps.zip us, scope.names.lookup y.1 = some .local ∨ (scope.names.lookup y.1 = some .cell ∧ ((cellsFrom (s.heap.objs.size + 1) scope.names []).lookup y.1).isSome = true) := fun y hy =>
    (sc.par y.1 (List.of_mem_zip (show (y.1, y.2) ∈ ps.zip us from hy)).1).imp id fun q => ⟨q, PySem.W.cellsFrom_some _ _ _ (.inl q)⟩
  refine codeAny_call_function hr.room.depth (kin _ _ lk) rfl sc.co sc.gen rfl (PySem.W.codeRec_of kin hcd) (hb _ _ _ _ (wpAny_newFunctionEnv_cells sc.kind kinds fun env he s1 x => ?_))
  subst he
  obtain ⟨t, ht, hq⟩ := hbody A outer s H vs Q E ⟨hr.room.deeper _, hr.gd⟩ hsp
  have I : Inv (cxOf CX P w K mg base N qual scope f cdv A outer s H E) [] (L2.start N vs) H s1 := inv_start sc hr.room.hd e0 hl r x
  refine ⟨lim.keeps x.toInCall.keep, codeAny_func (wpAny_mono (ht.run [] s1 _ H _ I hq) (fun fl s' hs => ?_) fun e s' hs => hs)⟩
  cases fl with
  | ret u =>
    obtain ⟨v, σ', H', J, rv, q⟩ := hs
    exact ⟨v, H', J.os, J.bare, J.base, J.hok, rv, q⟩
  | next =>
    obtain ⟨σ', H', J, q⟩ := hs
    exact ⟨.non, H', J.os, J.bare, J.base, J.hok, rfl, q⟩
  | brk => exact hs.elim fun _ z => z.elim fun _ z => z.2.elim
  | cont => exact hs.elim fun _ z => z.elim fun _ z => z.2.elim
/-- THE RULE for a def: the term of its body and what it reads -/
theorem okT {P : Program} {w : World} {K : PySem.W.Frag} {mg : Str → Option Value} {base : Heap} {W : Wd} {x qual : Str} {st : Stmt} {f : Addr} {fd : FuncData} {N ps : List Str} {k : Nat} {sp : TSp} {t : WS} (F : Fun K x qual st f fd) (sc : FnScope N ps (defScope st)) (hps : ps.length ≤ N.length)
    (len : ∀ xs Q, sp xs Q → xs.length = ps.length)
    (body : ∀ (cdv : Value) (A : Around) (outer : List Env) (s : Shared) (H F : Hp) (E : XK), Rm k (A.deeper (envOfC qual (defScope st) s.heap.objs.size f cdv)) →
      ∀ hz : ∀ a, W.own a = true → H a ≠ none, PSs (cxOf CX0 P w K mg base N qual (defScope st) f cdv A outer s H E).nox (defBody st) (LS ⟨P, w, K⟩ ⟨W.fz H hz, H, F, []⟩ t))
    (read : ∀ xs Q, sp xs Q → t { nx := fun _ => Q .non, rt := Q } (startS N.length xs)) : FnG P w K mg base CX0 (k + 1) f fd ps (liftSp ⟨P, w, K⟩ W sp) := by
  obtain ⟨oc, od, kV, doc, pm, an, cdv, ct, osl, rfl, lk, hcd⟩ := F.ex
  refine fnG_of lk hcd sc (fun vs H Q E ⟨F, xs, Q', _, _, r, h, _⟩ => by rw [r.length]; exact len xs Q' h) fun A outer s H vs Q E hr ⟨F, xs, Q', sF, iw, r, h, fin⟩ => ?_
  refine ⟨_, (body cdv A outer s H F E hr iw).nox, startS N.length xs, F, _, rel_start (W := W.fz H iw) sF (fun _ _ => rfl) r (by rw [len xs Q' h]; exact hps), read xs Q' h, ?_, ?_, fun _ _ _ _ _ _ z => z.elim, fun _ _ _ _ _ _ z => z.elim⟩
  · exact fun σ' H' ρ' F' R s' q => fin .non H' F' .non s' R.sub R.base R.fresh R.inv .non q
  · exact fun v σ' H' ρ' F' t R s' rv q => fin v H' F' t s' R.sub R.base R.fresh R.inv rv q
/-- the call of a def -/
def wCall (sp : TSp) (t : WA) : WE := fun ρ Q => t ρ fun xs ρ1 => sp xs fun y => Q (.v y) ρ1
@[simp] theorem wCall_s (sp : TSp) (t : WA) (s_ : S) (r_ : List S) (Q_ : _) : wCall sp t (s_ :: r_) Q_ = (fun ρ Q => t ρ fun xs ρ1 => sp xs fun y => Q (.v y) ρ1) (s_ :: r_) Q_ := rfl
theorem Keep.trans {F0 F H0 H H' : Hp} (h : Keep F0 H0 H) (k : Keep F H H') (fr : ∀ a, F a ≠ none → F0 a ≠ none ∨ H0 a = none) : Keep F0 H0 H' := fun a o e => by
  rcases h a o e with q | ⟨q1, q2, od, q3⟩
  · rcases k a o q with z | ⟨z1, z2⟩
    · exact .inl z
    · rcases fr a z1 with c | c
      · exact .inr ⟨c, z2⟩
      · rw [e] at c
        cases c
  · rcases k a _ q3 with z | ⟨_, z, _⟩
    · exact .inr ⟨q1, q2, od, z⟩
    · cases z
theorem Rel.fresh' {K : Bx} {σ : L2.St} {H : Hp} {ρ : List S} {F : Hp} (R : Rel K G σ H ρ F) : ∀ a, F a ≠ none → G.F0 a ≠ none ∨ off G.W G.H0 a = none := fun a h => (R.fresh a h).imp id off_none
theorem Rel.after {K : Bx} {σ : L2.St} {H H' : Hp} {ρ : List S} {F F' : Hp} (R : Rel K G σ H ρ F) (s1 : Sub F F') (s2 : Sub F' (off G.W H')) (s3 : Keep F (off G.W H) (off G.W H')) (fr : ∀ a, F' a ≠ none → F a ≠ none ∨ H a = none) (iw : ∀ a, G.W.own a = true → H' a = H a) : Rel K G σ H' ρ F' := by
  have iv : G.W.inv H' := G.W.st _ _ iw R.inv
  have stay : ∀ p u, H p = some u → Own G F H p → H' p = H p ∧ F' p = none := fun p u e ow => by
    have q : H' p = some u := by
      rcases s3 p u (by rw [off_ne ow.w]; exact e) with q | ⟨q, _⟩
      · exact (off_some q).2
      · exact absurd ow.f q
    refine ⟨by rw [e]; exact q, ?_⟩
    cases z : F' p with
    | none => rfl
    | some o =>
      rcases fr p (by rw [z]; exact fun c => nomatch c) with c | c
      · exact absurd ow.f c
      · rw [e] at c; cases c
  refine ⟨s2, R.base.trans s3 R.fresh', R.old.trans s1, fun a h => ?_, iv, R.inv0, R.len, fun q hq => ?_, fun i s e => ?_, R.sep⟩
  · rcases fr a h with c | c
    · exact R.fresh a c
    · exact .inr (R.free0 c)
  · obtain ⟨h1, h2, h3⟩ := R.pin q hq
    obtain ⟨g1, g2⟩ := stay q.1 _ h1 h2
    exact ⟨g1.trans h1, ⟨g2, h2.h0, h2.w⟩, h3⟩
  · refine (R.slot i s e).keep s1 iw fun p w ep => ?_
    obtain ⟨⟨u, hu⟩, ow⟩ := (R.slot i s e).there w ep
    exact stay p u hu ow
theorem wCall_of {W : Wd} {sp : TSp} {t : WA} {E : XK} {dvs : List V} {dts : List T} (hW : G.W.own = W.own) (hd : ∀ F, RpAll (bx X) F dvs dts) {σ : L2.St} {H : Hp} {Q : VK} (h : LE (bx X) G (wCall (fun xs => sp (xs ++ dts)) t) σ H Q) : tCall (liftSp (bx X) W sp) dvs E (LA (bx X) G t) σ H Q := by
  have ho : ∀ H, off W H = off G.W H := fun H => by unfold off; rw [hW]
  obtain ⟨ρ, F, Q', R, ht, k⟩ := h
  refine ⟨ρ, F, _, R, ht, fun vs H1 ρ1 F1 xs R1 s1 rs q => ⟨F1, xs ++ dts, _, by rw [ho]; exact R1.sub, fun a w => G.W.tr _ R1.inv a (by rw [hW]; exact w), rs.append (hd F1), q, fun v H' F' y a1 a2 a3 a4 a5 ry qy => ?_⟩⟩
  rw [ho] at a2 a3
  rw [ho] at a3
  exact k v H' ρ1 F' (.v y) (R1.after a1 a2 a3 a4 fun a w => a5 a (by rw [← hW]; exact w)) (s1.trans a1) ry qy
section
variable {CX : CXT} {k : Nat} {f : Addr} {fd : FuncData} {ps ks : List Str} {sp : Sp} {E : XK} {dvs : List V} {ds : List Value} {x : Str} {p pos : Pos} {e : Expr} {es : List Expr} {kws : List Keyword} {t tk : TA} {g : List Value → List Value → List Value} {gV : List V → List V → List V}
theorem runG {pins : List (Addr × Obj)} {σ : L2.St} {H : Hp} {s : Shared} {Q : VK} {args : Args} {us : List Value} {vs : List V} (F : FnG X.prog X.w X.K X.mg X.base CX k f fd ps sp) (hr : Rm k X.A) (hx : Passes CX X E) (I : Inv X pins σ H s)
    (hb : us.length = ps.length → BindsTo s fd args (ps.zip us)) (r : Vals vs us) (h : sp vs H Q E) : wpAny (model X.prog X.w) X.A (call (.ref f) args.pos args.kw) (EP X pins σ Q) X.xe s := by
  have hl : us.length = ps.length := by rw [← r.length]; exact F.len _ _ _ _ h
  refine wpAny_call (codeAny_mono (F.run X.A X.stack s H args us vs Q E hr I.env0 (hb hl) r h) fun r s' hq => ?_)
  cases r with
  | error e => exact hx pins σ H s e s' I hq
  | ok fl =>
    cases fl with
    | ret u => exact I.after hq
    | next => exact False.elim hq
    | brk => exact False.elim hq
    | cont => exact False.elim hq
theorem pe_callG (F : FnG X.prog X.w X.K X.mg X.base CX k f fd ps sp) (hr : Rm k X.A) (hg : Gl X x) (hm : X.mg x = some (.ref f)) (hk : PySem.W.keepIn X.K (.ref f) = true) (hb : Binds X.K fd ps ds) (hd : Vals dvs ds) (hx : Passes CX X E) (ha : PA X (e :: es) t)
    (hdb : (x == ("__debug__" : Str)) = false) (he : starEach (e :: es) X.env = (false, eval e X.env) :: starEach es X.env) (hpl : (backTo pos (starEach es X.env)).any (·.1) = false) : PE X (.Call (.Name x p) (e :: es) [] pos) (tCall sp dvs E t) :=
  ⟨fun pins s σ H Q I h => wpAny_Call_Name_kw (ld_glob I hg hm (PySem.W.callWith_K (h₀ := X.base) I.ok.mod.kin hk (thn (ha.run pos pins s σ H _ I h) fun us s1 ⟨vs, H1, I1, r, q⟩ =>
    ⟨I1.kIn, runG (args := ⟨us, []⟩) F hr hx I1 (fun hl => hb s1 us I1.kIn hl) (r.append hd) q⟩) he hpl) hdb)⟩
theorem pe_callG0 (F : FnG X.prog X.w X.K X.mg X.base CX k f fd ps sp) (hr : Rm k X.A) (hg : Gl X x) (hm : X.mg x = some (.ref f)) (hk : PySem.W.keepIn X.K (.ref f) = true) (hb : Binds X.K fd ps ds) (hd : Vals dvs ds) (hx : Passes CX X E)
    (hdb : (x == ("__debug__" : Str)) = false) : PE X (.Call (.Name x p) [] [] pos) (tCall sp dvs E tNil) :=
  ⟨fun pins s σ H Q I h => wpAny_Call_Name_kw (ld_glob I hg hm (PySem.W.callWith_K0 I.kIn hk (runG (args := ⟨[], []⟩) F hr hx I (fun hl => hb s [] I.kIn hl) (Vals.append .nil hd) h)) hdb)⟩
theorem pe_callGK (F : FnG X.prog X.w X.K X.mg X.base CX k f fd ps sp) (hr : Rm k X.A) (hg : Gl X x) (hm : X.mg x = some (.ref f)) (hk : PySem.W.keepIn X.K (.ref f) = true) (hb : KBinds X.K fd ps ks g gV) (hx : Passes CX X E) (ha : PA X (e :: es) t) (hkw : PK X kws tk)
    (hall : (backToKw pos (keywordEach kws X.env)).all (·.1.isSome) = true) (hks : (backToKw pos (keywordEach kws X.env)).filterMap (·.1) = ks) (hdb : (x == ("__debug__" : Str)) = false) (he : starEach (e :: es) X.env = (false, eval e X.env) :: starEach es X.env)
    (hpl : ((backTo pos (starEach (e :: es) X.env)).any (·.1) || (backToKw pos (keywordEach kws X.env)).any (·.1.isNone)) = false) : PE X (.Call (.Name x p) (e :: es) kws pos) (tCallK sp gV E t tk) :=
  ⟨fun pins s σ H Q I h => wpAny_Call_Name_kw (ld_glob I hg hm (PySem.W.callWith_KW (h₀ := X.base) I.ok.mod.kin hk hall (thn (ha.run pos pins s σ H _ I h) fun us s1 ⟨vs, H1, I1, r, q⟩ =>
    thn (hkw.run pos pins s1 σ H1 _ I1 q) fun ws s2 ⟨zs, H2, I2, rz, q2⟩ => ⟨I2.kIn, by
      rw [hks]
      exact runG (args := ⟨us, ks.zip ws⟩) F hr hx I2 (fun hl => hb.to s2 us ws I2.kIn hl) (hb.rel r rz) q2⟩) hpl he) hdb)⟩
theorem pe_callGK0 (F : FnG X.prog X.w X.K X.mg X.base CX k f fd ps sp) (hr : Rm k X.A) (hg : Gl X x) (hm : X.mg x = some (.ref f)) (hk : PySem.W.keepIn X.K (.ref f) = true) (hb : KBinds X.K fd ps ks g gV) (hx : Passes CX X E) (hkw : PK X kws tk)
    (hall : (backToKw pos (keywordEach kws X.env)).all (·.1.isSome) = true) (hks : (backToKw pos (keywordEach kws X.env)).filterMap (·.1) = ks) (hdb : (x == ("__debug__" : Str)) = false)
    (hpl : ((backTo pos (starEach [] X.env)).any (·.1) || (backToKw pos (keywordEach kws X.env)).any (·.1.isNone)) = false) : PE X (.Call (.Name x p) [] kws pos) (tCallK sp gV E tNil tk) :=
  ⟨fun pins s σ H Q I h => wpAny_Call_Name_kw (ld_glob I hg hm (PySem.W.callWith_KW0 (h₀ := X.base) I.ok.mod.kin hk hall
    (thn (hkw.run pos pins s σ H _ I h) fun ws s2 ⟨zs, H2, I2, rz, q2⟩ => ⟨I2.kIn, by
      rw [hks]
      exact runG (args := ⟨[], ks.zip ws⟩) F hr hx I2 (fun hl => hb.to s2 [] ws I2.kIn hl) (hb.rel .nil rz) q2⟩) hpl) hdb)⟩
end
theorem te_call {f : Addr} {fd : FuncData} {x : Str} {p pos : Pos} {e : Expr} {es : List Expr} {k : Nat} {ps : List Str} {W : Wd} {sp : TSp} {t : WA} {ds : List Value} {dvs : List V} {dts : List T} (FO : FnG X.prog X.w X.K X.mg X.base CX0 k f fd ps (liftSp (bx X) W sp)) (hr : Rm k X.A) (hg : Gl X x) (hm : X.mg x = some (.ref f)) (hk : PySem.W.keepIn X.K (.ref f) = true) (hb : Binds X.K fd ps ds) (hd : Vals dvs ds) (hx : Passes CX0 X (fun _ _ _ => False))
    (hdt : ∀ F, RpAll (bx X) F dvs dts) (hW : G.W.own = W.own) (ha : PA X (e :: es) (LA (bx X) G t))
    (hs : starEach (e :: es) X.env = (false, eval e X.env) :: starEach es X.env := by rfl) (hplain : (backTo pos (starEach es X.env)).any (·.1) = false := by rfl) (hdb : (x == ("__debug__" : Str)) = false := by decide) :
    PE X (.Call (.Name x p) (e :: es) [] pos) (LE (bx X) G (wCall (fun xs => sp (xs ++ dts)) t)) :=
  PE.wk (pe_callG FO hr hg hm hk hb hd hx ha hdb hs hplain) fun _ _ _ h => wCall_of hW hdt h
end
end TL
set_option Elab.async false
set_option linter.all false
set_option maxRecDepth 100000
set_option autoImplicit false
/-! TL8: calls of built-in functions and types -/
namespace TL
open PySem PySem.Spec PyProof.Rows L2

abbrev WC := List T → (T → Prop) → Prop
def ress (ρ : List S) : List R → Option (List T)
  | [] => some []
  | r :: rs => match res ρ r, ress ρ rs with
    | some x, some xs => some (x :: xs)
    | _, _ => none
@[simp] theorem ress_nil (ρ : List S) : ress ρ [] = some [] := rfl
@[simp] theorem ress_v (ρ : List S) (t : T) (rs : List R) : ress ρ (.v t :: rs) = (ress ρ rs).map (t :: ·) := by
  rw [ress]
  cases ress ρ rs <;> rfl
@[simp] theorem ress_loc (ρ : List S) (i : Nat) (rs : List R) : ress ρ (.loc i :: rs) = (resS ρ[i]?).bind fun t => (ress ρ rs).map (t :: ·) := by
  rw [ress, res_loc]
  cases resS ρ[i]? <;> cases ress ρ rs <;> rfl
inductive CtAll (K : Bx) (F H : Hp) : List V → List T → Prop
  | nil : CtAll K F H [] []
  | cons {v : V} {x : T} {vs : List V} {xs : List T} : Ct K F H v x → CtAll K F H vs xs → CtAll K F H (v :: vs) (x :: xs)
theorem CtAll.one {K : Bx} {F H : Hp} {vs : List V} {x : T} (h : CtAll K F H vs [x]) : ∃ v, vs = [v] ∧ Ct K F H v x := by
  cases h with
  | cons a r =>
    cases r
    exact ⟨_, rfl, a⟩
theorem CtAll.two {K : Bx} {F H : Hp} {vs : List V} {x y : T} (h : CtAll K F H vs [x, y]) : ∃ v u, vs = [v, u] ∧ Ct K F H v x ∧ Ct K F H u y := by
  cases h with
  | cons a r =>
    obtain ⟨u, rfl, b⟩ := CtAll.one r
    exact ⟨_, _, rfl, a, b⟩
theorem Rel.cts {K : Bx} {G : Fc} {σ : L2.St} {H : Hp} {ρ : List S} {F : Hp} (h : Rel K G σ H ρ F) : ∀ {vs : List V} {rs : List R} {xs : List T}, RelRs K σ F vs rs → ress ρ rs = some xs → CtAll K F H vs xs
  | _, _, xs, .nil, e => by
    cases e
    exact .nil
  | _, _, xs, .cons (r := r) (rs := rs) a b, e => by
    rw [ress] at e
    cases e1 : res ρ r with
    | none => simp only [e1] at e; cases e
    | some x =>
      cases e2 : ress ρ rs with
      | none => simp only [e1, e2] at e; cases e
      | some ys =>
        simp only [e1, e2] at e
        cases e
        exact .cons (h.ct a e1) (Rel.cts h b e2)
def cAny (X : Cx) (f : Value) : List V → Hp → VK → Prop := fun vs H Q => ∀ (pins : List (Addr × Obj)) (s : Shared) (σ : L2.St) (us : List Value), Inv X pins σ H s → Vals vs us → wpAny (model X.prog X.w) X.A (call f us) (EP X pins σ Q) X.xe s
section
variable {X : Cx} {G : Fc}
theorem callAny {f : Value} : CallR X f (cAny X f) := fun pins s σ H xs us Q I r h => h pins s σ us I r
theorem cOf {f : Value} {r : List V → Hp → VK → Prop} (h : CallR X f r) {vs : List V} {H : Hp} {Q : VK} (q : r vs H Q) : cAny X f vs H Q := fun pins s σ us I rv => h pins s σ H vs us Q I rv q
def CallT (X : Cx) (G : Fc) (f : Value) (o : WC) : Prop := ∀ (σ : L2.St) (H : Hp) (ρ : List S) (F : Hp) (vs : List V) (xs : List T) (Q' : T → Prop) (Q : VK), Rel (bx X) G σ H ρ F → CtAll (bx X) F H vs xs → o xs Q' →
  (∀ w H' F' z, Rel (bx X) G σ H' ρ F' → Sub F F' → Rp (bx X) F' w z → Q' z → Q w H') → cAny X f vs H Q
def wCB (o : WC) (t : WR) : WE := fun ρ Q => t ρ fun rs ρ1 => ∃ xs, ress ρ1 rs = some xs ∧ o xs fun z => Q (.v z) ρ1
@[simp] theorem wCB_s (o : WC) (t : WR) (s_ : S) (r_ : List S) (Q_ : _) : wCB o t (s_ :: r_) Q_ = (fun ρ Q => t ρ fun rs ρ1 => ∃ xs, ress ρ1 rs = some xs ∧ o xs fun z => Q (.v z) ρ1) (s_ :: r_) Q_ := rfl
theorem liftCB {f : Value} {o : WC} {t : WR} (ho : CallT X G f o) {σ : L2.St} {H : Hp} {Q : VK} (h : LE (bx X) G (wCB o t) σ H Q) : tCB (cAny X f) (LR (bx X) G t) σ H Q := by
  obtain ⟨ρ, F, Q', R, ht, k⟩ := h
  refine ⟨ρ, F, _, R, ht, fun vs H1 ρ1 F1 rs R1 s1 rr ⟨xs, e, q⟩ => ?_⟩
  exact ho σ H1 ρ1 F1 vs xs _ Q R1 (R1.cts rr e) q fun w H' F' z R2 s2 rz qz => k w H' ρ1 F' (.v z) R2 (s1.trans s2) rz qz
theorem te_cb {id : String} {x : Str} {e : Expr} {es : List Expr} {o : WC} {t : WR} {p pos : Pos} (ho : CallT X G (.builtin id) o) (hg : Gl X x) (hm : X.mg x = none) (hv : bootBuiltins x = some (.builtin id)) (ha : PA X (e :: es) (LR (bx X) G t)) (hn : x ≠ "__name__" := by decide) (hdb : (x == ("__debug__" : Str)) = false := by decide)
    (he : starEach (e :: es) X.env = (false, eval e X.env) :: starEach es X.env := by rfl) (hpl : (backTo pos (starEach es X.env)).any (·.1) = false := by rfl) : PE X (.Call (.Name x p) (e :: es) [] pos) (LE (bx X) G (wCB o t)) :=
  PE.wk (pe_callB callAny hg hm hv ha hn hdb he hpl) fun _ _ _ h => liftCB ho h
theorem te_ct {Ty : String} {x : Str} {e : Expr} {es : List Expr} {o : WC} {t : WR} {p pos : Pos} (ho : CallT X G (.type Ty) o) (hg : Gl X x) (hm : X.mg x = none) (hv : bootBuiltins x = some (.type Ty)) (ha : PA X (e :: es) (LR (bx X) G t)) (hn : x ≠ "__name__" := by decide) (hdb : (x == ("__debug__" : Str)) = false := by decide)
    (he : starEach (e :: es) X.env = (false, eval e X.env) :: starEach es X.env := by rfl) (hpl : (backTo pos (starEach es X.env)).any (·.1) = false := by rfl) : PE X (.Call (.Name x p) (e :: es) [] pos) (LE (bx X) G (wCB o t)) :=
  PE.wk (pe_callTy callAny hg hm hv ha hn hdb he hpl) fun _ _ _ h => liftCB ho h
/-- calls that make a new list -/
abbrev WCN := List T → (List T → Prop) → Prop
def CallN (X : Cx) (G : Fc) (f : Value) (o : WCN) : Prop := ∀ (σ : L2.St) (H : Hp) (ρ : List S) (F : Hp) (vs : List V) (xs : List T) (Q' : List T → Prop) (Q : VK), Rel (bx X) G σ H ρ F → CtAll (bx X) F H vs xs → o xs Q' →
  (∀ p ws zs, H p = none → RpAll (bx X) F ws zs → Q' zs → Q (.ref p) (upd H p (.lst ws))) → cAny X f vs H Q
def wCBN (o : WCN) (t : WR) : WN := fun ρ Q => t ρ fun rs ρ1 => ∃ xs, ress ρ1 rs = some xs ∧ o xs fun z => Q (.ol z) ρ1
@[simp] theorem wCBN_s (o : WCN) (t : WR) (s_ : S) (r_ : List S) (Q_ : _) : wCBN o t (s_ :: r_) Q_ = (fun ρ Q => t ρ fun rs ρ1 => ∃ xs, ress ρ1 rs = some xs ∧ o xs fun z => Q (.ol z) ρ1) (s_ :: r_) Q_ := rfl
theorem liftCBN {f : Value} {o : WCN} {t : WR} (ho : CallN X G f o) {σ : L2.St} {H : Hp} {Q : VK} (h : LN (bx X) G (wCBN o t) σ H Q) : tCB (cAny X f) (LR (bx X) G t) σ H Q := by
  obtain ⟨ρ, F, Q', R, ht, k⟩ := h
  refine ⟨ρ, F, _, R, ht, fun vs H1 ρ1 F1 rs R1 s1 rr ⟨xs, e, q⟩ => ?_⟩
  refine ho σ H1 ρ1 F1 vs xs _ Q R1 (R1.cts rr e) q fun p ws zs n rz qz => ?_
  obtain ⟨R2, N2⟩ := R1.new n (o := .lst ws) (s := .ol zs) rfl fun ow => ⟨p, ws, rfl, ow, upd_same, rz⟩
  exact k _ _ ρ1 F1 _ R2 s1 N2 qz
theorem tn_cb {id : String} {x : Str} {e : Expr} {es : List Expr} {o : WCN} {t : WR} {p pos : Pos} (ho : CallN X G (.builtin id) o) (hg : Gl X x) (hm : X.mg x = none) (hv : bootBuiltins x = some (.builtin id)) (ha : PA X (e :: es) (LR (bx X) G t)) (hn : x ≠ "__name__" := by decide) (hdb : (x == ("__debug__" : Str)) = false := by decide)
    (he : starEach (e :: es) X.env = (false, eval e X.env) :: starEach es X.env := by rfl) (hpl : (backTo pos (starEach es X.env)).any (·.1) = false := by rfl) : PE X (.Call (.Name x p) (e :: es) [] pos) (LN (bx X) G (wCBN o t)) :=
  PE.wk (pe_callB callAny hg hm hv ha hn hdb he hpl) fun _ _ _ h => liftCBN ho h
theorem tn_ct {Ty : String} {x : Str} {e : Expr} {es : List Expr} {o : WCN} {t : WR} {p pos : Pos} (ho : CallN X G (.type Ty) o) (hg : Gl X x) (hm : X.mg x = none) (hv : bootBuiltins x = some (.type Ty)) (ha : PA X (e :: es) (LR (bx X) G t)) (hn : x ≠ "__name__" := by decide) (hdb : (x == ("__debug__" : Str)) = false := by decide)
    (he : starEach (e :: es) X.env = (false, eval e X.env) :: starEach es X.env := by rfl) (hpl : (backTo pos (starEach es X.env)).any (·.1) = false := by rfl) : PE X (.Call (.Name x p) (e :: es) [] pos) (LN (bx X) G (wCBN o t)) :=
  PE.wk (pe_callTy callAny hg hm hv ha hn hdb he hpl) fun _ _ _ h => liftCBN ho h

/-! ### len -/
@[simp] def oLen : WC := fun xs Q => match xs with
  | [.lst ys] => Q (.int (ys.length : Nat))
  | [.tup ys] => Q (.int (ys.length : Nat))
  | [.str z] => z.length ≤ sizeLine ∧ Q (.int (z.length : Nat))
  | [.dic _ kvs] => Q (.int (kvs.length : Nat))
  | _ => False
theorem ct_len : CallT X G (.builtin "len") oLen := by
  intro σ H ρ F vs xs Q' Q R c q k
  unfold oLen at q
  split at q
  · rename_i ys
    obtain ⟨v, rfl, cx⟩ := c.one
    obtain ⟨p, us, rfl, hp, rv⟩ := cx
    exact cOf call_len ⟨_, _, rfl, .inl ⟨us, SqL.of hp, rfl⟩, by rw [rv.length]; exact k _ H F _ R Sub.refl (.int _) q⟩
  · rename_i ys
    obtain ⟨v, rfl, cx⟩ := c.one
    obtain ⟨p, us, rfl, hp, rv⟩ := cx.tup
    exact cOf call_len ⟨_, _, rfl, .inr ⟨us, R.subH.sqT hp, rfl⟩, by rw [rv.length]; exact k _ H F _ R Sub.refl (.int _) q⟩
  · rename_i z
    obtain ⟨v, rfl, cx⟩ := c.one
    obtain rfl := cx.str
    exact cOf call_len ⟨_, _, rfl, ⟨q.1, rfl⟩, k _ H F _ R Sub.refl (.int _) q.2⟩
  · rename_i m kvs
    obtain ⟨v, rfl, cx⟩ := c.one
    obtain ⟨p, rfl, dd⟩ := cx
    have fin := k (.int ((kvs.length : Nat) : Int)) H F _ R Sub.refl (.int _) q
    cases m with
    | flat =>
      obtain ⟨l, e, r⟩ := dd
      have el : l.length = kvs.length := by have := r.length; rw [List.length_map] at this; exact this
      intro pins s σ' us I rv
      obtain ⟨u, rfl, rx⟩ := vals1 rv
      obtain rfl : u = Value.ref p := rx
      exact d_len I e fun t s' I' => ⟨.int l.length, H, I', ⟨t, rfl⟩, by rw [el]; exact fin⟩
    | tup =>
      obtain ⟨l, e, r⟩ := dd
      intro pins s σ' us I rv
      obtain ⟨u, rfl, rx⟩ := vals1 rv
      obtain rfl : u = Value.ref p := rx
      obtain ⟨h1, h2, zs, he, hd⟩ := dx_of I e (r.mono R.subH)
      have ez : zs.length = kvs.length := (Paired.length he).symm.trans r.length
      refine call_len_dictH h1 hd (by rw [← Paired.length he]; rw [sizeLine_eq] at h2; omega) ?_
      rw [ez]
      exact ⟨.int _, H, I.tok _, ⟨_, rfl⟩, fin⟩
  · exact q.elim

/-! ### list, tuple -/
@[simp] def oListN : WCN := fun xs Q => match xs with
  | [.lst ys] => Q ys
  | [.tup ys] => Q ys
  | _ => False
theorem cn_list : CallN X G (.type "list") oListN := by
  intro σ H ρ F vs xs Q' Q R c q k
  unfold oListN at q
  split at q
  · rename_i ys
    obtain ⟨v, rfl, cx⟩ := c.one
    obtain ⟨p, us, rfl, hp, rv⟩ := cx
    exact cOf call_list_of ⟨p, us, rfl, .inl (SqL.of hp), fun l n => k l us ys n rv q⟩
  · rename_i ys
    obtain ⟨v, rfl, cx⟩ := c.one
    obtain ⟨p, us, rfl, hp, rv⟩ := cx.tup
    exact cOf call_list_of ⟨p, us, rfl, .inr (R.subH.sqT hp), fun l n => k l us ys n rv q⟩
  · exact q.elim
@[simp] def oTupC : WC := fun xs Q => match xs with
  | [.lst ys] => Q (.tup ys)
  | [.tup ys] => Q (.tup ys)
  | _ => False
theorem ct_tuple : CallT X G (.type "tuple") oTupC := by
  intro σ H ρ F vs xs Q' Q R c q k
  unfold oTupC at q
  split at q
  · rename_i ys
    obtain ⟨v, rfl, cx⟩ := c.one
    obtain ⟨p, us, rfl, hp, rv⟩ := cx
    exact cOf call_tupleN ⟨p, us, rfl, .inl ⟨SqL.of hp, newT R rv fun w H' F' R2 s2 rw' => k _ _ _ _ R2 s2 rw' q⟩⟩
  · rename_i ys
    obtain ⟨v, rfl, cx⟩ := c.one
    obtain ⟨p, us, rfl, hp, np, rv⟩ := cx.tupN
    exact cOf call_tupleN ⟨p, us, rfl, .inr ⟨R.subH.sqT hp, k _ H F _ R Sub.refl (.tup hp np rv) q⟩⟩
  · exact q.elim
/-- list(range(..)), tuple(range(..)) -/
theorem rgV_rp {B : Bx} {F : Hp} (a b : Int) : RpAll B F (rgV a b) (rangeTs a (b - a).toNat) := by
  unfold rgV rangeTs
  generalize List.range (b - a).toNat = l
  induction l with
  | nil => exact .nil
  | cons x l ih => exact .cons (.int _) ih
abbrev WRg := List S → (Int → Int → List S → Prop) → Prop
def LRg (K : Bx) (G : Fc) (t : WRg) : L2.St → Hp → (Int → Int → Hp → Prop) → Prop := fun σ H Q => ∃ ρ F Q', Rel K G σ H ρ F ∧ t ρ Q' ∧ ∀ a b H' ρ' F', Rel K G σ H' ρ' F' → Sub F F' → Q' a b ρ' → Q a b H'
def wRg1 (t : WE) : WRg := fun ρ Q => t ρ fun r ρ1 => ∃ n, res ρ1 r = some (.int n) ∧ Q 0 n ρ1
@[simp] theorem wRg1_s (t : WE) (s_ : S) (r_ : List S) (Q_ : _) : wRg1 t (s_ :: r_) Q_ = (fun ρ Q => t ρ fun r ρ1 => ∃ n, res ρ1 r = some (.int n) ∧ Q 0 n ρ1) (s_ :: r_) Q_ := rfl
def wRg2 (t u : WE) : WRg := fun ρ Q => t ρ fun r ρ1 => u ρ1 fun r2 ρ2 => ∃ i j, res ρ2 r = some (.int i) ∧ res ρ2 r2 = some (.int j) ∧ Q i j ρ2
@[simp] theorem wRg2_s (t u : WE) (s_ : S) (r_ : List S) (Q_ : _) : wRg2 t u (s_ :: r_) Q_ = (fun ρ Q => t ρ fun r ρ1 => u ρ1 fun r2 ρ2 => ∃ i j, res ρ2 r = some (.int i) ∧ res ρ2 r2 = some (.int j) ∧ Q i j ρ2) (s_ :: r_) Q_ := rfl
theorem trg_1 {a : Expr} {t : WE} {p pos : Pos} (hg : Gl X "range") (hm : X.mg "range" = none) (ha : PE X a (LE (bx X) G t)) (na : starEach [a] X.env = (false, eval a X.env) :: starEach [] X.env := by rfl) : PRg X (.Call (.Name "range" p) [a] [] pos) (LRg (bx X) G (wRg1 t)) := by
  intro pins s σ H Q I ⟨ρ, F, Q', R, ht, k⟩
  refine prg_1 hg hm ha na pins s σ H Q I ⟨ρ, F, _, R, ht, fun v H1 ρ1 F1 r R1 s1 rr ⟨n, e, q⟩ => ?_⟩
  obtain rfl := (R1.ct rr e).int
  exact ⟨n, rfl, k 0 n H1 ρ1 F1 R1 s1 q⟩
theorem trg_2 {a b : Expr} {t u : WE} {p pos : Pos} (hg : Gl X "range") (hm : X.mg "range" = none) (ha : PE X a (LE (bx X) G t)) (hb : PE X b (LE (bx X) G u)) (na : starEach [a, b] X.env = (false, eval a X.env) :: starEach [b] X.env := by rfl)
    (nb : starEach [b] X.env = (false, eval b X.env) :: starEach [] X.env := by rfl) (hp : (backTo pos (starEach [b] X.env)).any (·.1) = false := by rfl) : PRg X (.Call (.Name "range" p) [a, b] [] pos) (LRg (bx X) G (wRg2 t u)) := by
  intro pins s σ H Q I ⟨ρ, F, Q', R, ht, k⟩
  refine prg_2 hg hm ha hb na nb hp pins s σ H Q I ⟨ρ, F, _, R, ht, fun v H1 ρ1 F1 r R1 s1 rr q => ⟨ρ1, F1, _, R1, q, fun w H2 ρ2 F2 r2 R2 s2 rr2 ⟨i, j, e1, e2, q2⟩ => ?_⟩⟩
  obtain rfl := (R2.ct (rr.mono s2) e1).int
  obtain rfl := (R2.ct rr2 e2).int
  exact ⟨i, j, rfl, rfl, k i j H2 ρ2 F2 R2 (s1.trans s2) q2⟩
def wLrg (t : WRg) : WN := fun ρ Q => t ρ fun a b ρ1 => RgOk a b ∧ Q (.ol (rangeTs a (b - a).toNat)) ρ1
@[simp] theorem wLrg_s (t : WRg) (s_ : S) (r_ : List S) (Q_ : _) : wLrg t (s_ :: r_) Q_ = (fun ρ Q => t ρ fun a b ρ1 => RgOk a b ∧ Q (.ol (rangeTs a (b - a).toNat)) ρ1) (s_ :: r_) Q_ := rfl
def wTrg (t : WRg) : WE := fun ρ Q => t ρ fun a b ρ1 => RgOk a b ∧ Q (.v (.tup (rangeTs a (b - a).toNat))) ρ1
@[simp] theorem wTrg_s (t : WRg) (s_ : S) (r_ : List S) (Q_ : _) : wTrg t (s_ :: r_) Q_ = (fun ρ Q => t ρ fun a b ρ1 => RgOk a b ∧ Q (.v (.tup (rangeTs a (b - a).toNat))) ρ1) (s_ :: r_) Q_ := rfl
theorem tn_listRg {e : Expr} {t : WRg} {p pos : Pos} (hc : X.calm = true) (hg : Gl X "list") (hm : X.mg "list" = none) (he : PRg X e (LRg (bx X) G t)) (na : starEach [e] X.env = (false, eval e X.env) :: starEach [] X.env := by rfl) : PE X (.Call (.Name "list" p) [e] [] pos) (LN (bx X) G (wLrg t)) := by
  refine PE.wk (pe_listRg hc hg hm he na) fun σ H Q ⟨ρ, F, Q', R, ht, k⟩ => ⟨ρ, F, _, R, ht, fun a b H1 ρ1 F1 R1 s1 ⟨ok, q⟩ => ⟨ok, fun l n => ?_⟩⟩
  obtain ⟨R2, N2⟩ := R1.new n (o := .lst (rgV a b)) (s := .ol (rangeTs a (b - a).toNat)) rfl fun ow => ⟨l, _, rfl, ow, upd_same, rgV_rp a b⟩
  exact k _ _ ρ1 F1 _ R2 s1 N2 q
theorem te_tupRg {e : Expr} {t : WRg} {p pos : Pos} (hc : X.calm = true) (hg : Gl X "tuple") (hm : X.mg "tuple" = none) (he : PRg X e (LRg (bx X) G t)) (na : starEach [e] X.env = (false, eval e X.env) :: starEach [] X.env := by rfl) : PE X (.Call (.Name "tuple" p) [e] [] pos) (LE (bx X) G (wTrg t)) := by
  refine PE.wk (pe_tupRgN hc hg hm he na) fun σ H Q ⟨ρ, F, Q', R, ht, k⟩ => ⟨ρ, F, _, R, ht, fun a b H1 ρ1 F1 R1 s1 ⟨ok, q⟩ => ⟨ok, newT R1 (rgV_rp a b) fun w H' F' R2 s2 rw' => k _ _ ρ1 _ (.v (.tup _)) R2 (s1.trans s2) rw' q⟩⟩

/-! ### numbers -/
@[simp] def oAbs : WC := fun xs Q => match xs with
  | [.int i] => Q (.int (if i < 0 then -i else i))
  | _ => False
theorem ct_abs : CallT X G (.builtin "abs") oAbs := by
  intro σ H ρ F vs xs Q' Q R c q k
  unfold oAbs at q
  split at q
  · obtain ⟨v, rfl, cx⟩ := c.one
    obtain rfl := cx.int
    exact cOf call_abs ⟨_, rfl, k _ H F _ R Sub.refl (.int _) q⟩
  · exact q.elim
@[simp] def oIntC : WC := fun xs Q => match xs with
  | [.int i] => Q (.int i)
  | [.bl b] => Q (.int (if b = true then 1 else 0))
  | _ => False
theorem ct_int : CallT X G (.type "int") oIntC := by
  intro σ H ρ F vs xs Q' Q R c q k
  unfold oIntC at q
  split at q
  · obtain ⟨v, rfl, cx⟩ := c.one
    obtain rfl := cx.int
    exact cOf call_int1 (.inl ⟨_, rfl, k _ H F _ R Sub.refl (.int _) q⟩)
  · obtain ⟨v, rfl, cx⟩ := c.one
    obtain rfl := cx.bl
    exact cOf call_int1 (.inr ⟨_, rfl, k _ H F _ R Sub.refl (.int _) q⟩)
  · exact q.elim
def maxI : List Int → Int
  | [] => 0
  | [x] => x
  | x :: y :: r => if maxI (y :: r) > x then maxI (y :: r) else x
def minI : List Int → Int
  | [] => 0
  | [x] => x
  | x :: y :: r => if minI (y :: r) < x then minI (y :: r) else x
theorem maxI_ge : ∀ (ns : List Int) (y : Int), y ∈ ns → y ≤ maxI ns
  | [], _, h => by cases h
  | [x], y, h => by
    rcases List.mem_cons.mp h with rfl | h
    · exact Int.le_refl _
    · cases h
  | x :: z :: r, y, h => by
    have ih := maxI_ge (z :: r)
    unfold maxI
    rcases List.mem_cons.mp h with rfl | h
    · split <;> omega
    · have := ih y h
      split <;> omega
theorem maxI_mem : ∀ (ns : List Int), ns ≠ [] → maxI ns ∈ ns
  | [], h => absurd rfl h
  | [x], _ => by simp [maxI]
  | x :: z :: r, _ => by
    have ih := maxI_mem (z :: r) (by simp)
    unfold maxI
    split
    · exact List.mem_cons_of_mem _ ih
    · exact List.mem_cons_self
theorem minI_le : ∀ (ns : List Int) (y : Int), y ∈ ns → minI ns ≤ y
  | [], _, h => by cases h
  | [x], y, h => by
    rcases List.mem_cons.mp h with rfl | h
    · exact Int.le_refl _
    · cases h
  | x :: z :: r, y, h => by
    have ih := minI_le (z :: r)
    unfold minI
    rcases List.mem_cons.mp h with rfl | h
    · split <;> omega
    · have := ih y h
      split <;> omega
theorem minI_mem : ∀ (ns : List Int), ns ≠ [] → minI ns ∈ ns
  | [], h => absurd rfl h
  | [x], _ => by simp [minI]
  | x :: z :: r, _ => by
    have ih := minI_mem (z :: r) (by simp)
    unfold minI
    split
    · exact List.mem_cons_of_mem _ ih
    · exact List.mem_cons_self
theorem rp_ints {B : Bx} {F : Hp} : ∀ {vs : List V} {ns : List Int}, RpAll B F vs (ns.map T.int) → vs = ns.map V.int
  | [], [], _ => rfl
  | _, [], h => by cases h; rfl
  | _, n :: ns, h => by
    cases h with
    | cons a r =>
      cases a
      rw [rp_ints r]
      rfl
theorem rp_bls {B : Bx} {F : Hp} : ∀ {vs : List V} {ns : List Bool}, RpAll B F vs (ns.map T.bl) → vs = ns.map V.bl
  | _, [], h => by cases h; rfl
  | _, n :: ns, h => by
    cases h with
    | cons a r =>
      cases a
      rw [rp_bls r]
      rfl
@[simp] def oMax : WC := fun xs Q => match xs with
  | [.int i, .int j] => Q (.int (if j > i then j else i))
  | [.lst ys] => ∃ ns : List Int, ys = ns.map T.int ∧ ns ≠ [] ∧ Q (.int (maxI ns))
  | _ => False
@[simp] def oMin : WC := fun xs Q => match xs with
  | [.int i, .int j] => Q (.int (if j < i then j else i))
  | [.lst ys] => ∃ ns : List Int, ys = ns.map T.int ∧ ns ≠ [] ∧ Q (.int (minI ns))
  | _ => False
theorem ct_max (hc : X.calm = true) : CallT X G (.builtin "max") oMax := by
  intro σ H ρ F vs xs Q' Q R c q k
  unfold oMax at q
  split at q
  · obtain ⟨v, u, rfl, cx, cy⟩ := c.two
    obtain rfl := cx.int
    obtain rfl := cy.int
    exact cOf (call_max2 hc) ⟨_, _, rfl, k _ H F _ R Sub.refl (.int _) q⟩
  · obtain ⟨ns, rfl, hn, q⟩ := q
    obtain ⟨v, rfl, cx⟩ := c.one
    obtain ⟨p, us, rfl, hp, rv⟩ := cx
    obtain rfl := rp_ints rv
    refine cOf (cr_max hc) ⟨p, ns, rfl, SqL.of hp, List.length_pos_iff.mpr hn, fun m hm hy => ?_⟩
    have e : m = maxI ns := Int.le_antisymm (maxI_ge ns m hm) (hy _ (maxI_mem ns hn))
    rw [e]
    exact k _ H F _ R Sub.refl (.int _) q
  · exact q.elim
theorem ct_min (hc : X.calm = true) : CallT X G (.builtin "min") oMin := by
  intro σ H ρ F vs xs Q' Q R c q k
  unfold oMin at q
  split at q
  · obtain ⟨v, u, rfl, cx, cy⟩ := c.two
    obtain rfl := cx.int
    obtain rfl := cy.int
    exact cOf (call_min2 hc) ⟨_, _, rfl, k _ H F _ R Sub.refl (.int _) q⟩
  · obtain ⟨ns, rfl, hn, q⟩ := q
    obtain ⟨v, rfl, cx⟩ := c.one
    obtain ⟨p, us, rfl, hp, rv⟩ := cx
    obtain rfl := rp_ints rv
    refine cOf (cr_min hc) ⟨p, ns, rfl, SqL.of hp, List.length_pos_iff.mpr hn, fun m hm hy => ?_⟩
    have e : m = minI ns := Int.le_antisymm (hy _ (minI_mem ns hn)) (minI_le ns m hm)
    rw [e]
    exact k _ H F _ R Sub.refl (.int _) q
  · exact q.elim
@[simp] def oSum : WC := fun xs Q => match xs with
  | [.lst ys] => ∃ ns : List Int, ys = ns.map T.int ∧ Q (.int ns.sum)
  | _ => False
theorem ct_sum (hc : X.calm = true) : CallT X G (.builtin "sum") oSum := by
  intro σ H ρ F vs xs Q' Q R c q k
  unfold oSum at q
  split at q
  · obtain ⟨ns, rfl, q⟩ := q
    obtain ⟨v, rfl, cx⟩ := c.one
    obtain ⟨p, us, rfl, hp, rv⟩ := cx
    obtain rfl := rp_ints rv
    exact cOf (cr_sum hc) ⟨p, ns, rfl, SqL.of hp, k _ H F _ R Sub.refl (.int _) q⟩
  · exact q.elim
@[simp] def oAll : WC := fun xs Q => match xs with
  | [.lst ys] => ∃ bs : List Bool, ys = bs.map T.bl ∧ Q (.bl (bs.all id))
  | _ => False
@[simp] def oAny : WC := fun xs Q => match xs with
  | [.lst ys] => ∃ bs : List Bool, ys = bs.map T.bl ∧ Q (.bl (bs.any id))
  | _ => False
theorem ct_all (hc : X.calm = true) : CallT X G (.builtin "all") oAll := by
  intro σ H ρ F vs xs Q' Q R c q k
  unfold oAll at q
  split at q
  · obtain ⟨bs, rfl, q⟩ := q
    obtain ⟨v, rfl, cx⟩ := c.one
    obtain ⟨p, us, rfl, hp, rv⟩ := cx
    obtain rfl := rp_bls rv
    exact cOf (cr_all hc) ⟨p, bs, rfl, SqL.of hp, k _ H F _ R Sub.refl (.bl _) q⟩
  · exact q.elim
theorem ct_any (hc : X.calm = true) : CallT X G (.builtin "any") oAny := by
  intro σ H ρ F vs xs Q' Q R c q k
  unfold oAny at q
  split at q
  · obtain ⟨bs, rfl, q⟩ := q
    obtain ⟨v, rfl, cx⟩ := c.one
    obtain ⟨p, us, rfl, hp, rv⟩ := cx
    obtain rfl := rp_bls rv
    exact cOf (cr_any hc) ⟨p, bs, rfl, SqL.of hp, k _ H F _ R Sub.refl (.bl _) q⟩
  · exact q.elim
@[simp] def oGcd : WC := fun xs Q => match xs with
  | [.int i, .int j] => Q (.int ((Nat.gcd i.natAbs j.natAbs : Nat) : Int))
  | _ => False
theorem ct_gcd : CallT X G (.builtin "math.gcd") oGcd := by
  intro σ H ρ F vs xs Q' Q R c q k
  unfold oGcd at q
  split at q
  · obtain ⟨v, u, rfl, cx, cy⟩ := c.two
    obtain rfl := cx.int
    obtain rfl := cy.int
    exact cOf cr_gcd ⟨_, _, rfl, k _ H F _ R Sub.refl (.int _) q⟩
  · exact q.elim
end

/-! ### isinstance -/
@[simp] def tyOf : T → String
  | .non => "NoneType" | .bl _ => "bool" | .int _ => "int" | .str _ => "str" | .tup _ => "tuple" | .lst _ => "list" | .dic _ _ => "dict" | .raw _ => "?"
@[simp] def isRaw : T → Bool
  | .raw _ => true
  | _ => false
/-- whether a type's values are of another type -/
@[simp] def tyIs (a n : String) : Bool := a == n || (a == "bool" && n == "int")
@[simp] def tyKnown (n : String) : Bool := ["bool", "int", "str", "tuple", "list", "dict"].contains n
section
variable {X : Cx} {pins : List (Addr × Obj)} {σ : L2.St} {H F : Hp} {s : Shared}
theorem kitT (I : Inv X pins σ H s) (sub : Sub F H) {v : V} {x : T} {u : Value} (c : Ct (bx X) F H v x) (nr : isRaw x = false) (ru : RelV v u) :
    ∃ P : Heap → Prop, PySem.W.KitX X.K u (.type (tyOf x)) P ∧ P s.heap ∧ u ≠ .builtin "__main__.__loader__#opaque" := by
  cases x with
  | non => obtain rfl := c.non; obtain rfl : u = Value.none := ru; exact ⟨_, PySem.W.kitx_none, True.intro, fun z => nomatch z⟩
  | bl b => obtain rfl := c.bl; obtain rfl : u = Value.bool b := ru; exact ⟨_, PySem.W.kitx_bool, True.intro, fun z => nomatch z⟩
  | int i => obtain rfl := c.int; obtain ⟨t, rfl⟩ := ru; exact ⟨_, PySem.W.kitx_int, True.intro, fun z => nomatch z⟩
  | str z => obtain rfl := c.str; obtain ⟨t, rfl⟩ := ru; exact ⟨_, PySem.W.kitx_str, True.intro, fun z => nomatch z⟩
  | tup xs =>
    obtain ⟨p, vs, rfl, hp, rv⟩ := c.tup
    obtain rfl : u = Value.ref p := ru
    obtain ⟨its, r, ⟨o, h1, h2, _⟩, hz⟩ := I.tuple (sub.sqT hp)
    exact ⟨_, PySem.W.kitx_tuple, ⟨o, h1, h2⟩, fun z => nomatch z⟩
  | lst xs =>
    obtain ⟨p, vs, rfl, hp, rv⟩ := c
    obtain rfl : u = Value.ref p := ru
    obtain ⟨_, its, n, _, e⟩ := (show ObjOk X.prog X.w H s.heap p (.lst vs) from I.hok p _ hp)
    exact ⟨_, PySem.W.kitx_list, ⟨_, e, rfl⟩, fun z => nomatch z⟩
  | dic m kvs =>
    obtain ⟨p, rfl, dd⟩ := c
    obtain rfl : u = Value.ref p := ru
    obtain ⟨o, h1, h2⟩ := dat_type I sub dd
    exact ⟨_, PySem.W.kitx_dict, ⟨o, h1, h2⟩, fun z => nomatch z⟩
  | raw w => cases nr
end
theorem ty_kit {K : PySem.W.Frag} {x : T} {n : String} (nr : isRaw x = false) (hn : tyKnown n = true) : PySem.W.kitOne K (.type (tyOf x)) (.type n) = some (tyIs (tyOf x) n) := by
  have hn' : n ∈ ["bool", "int", "str", "tuple", "list", "dict"] := by simpa [tyKnown] using hn
  have key : ∀ a ∈ ["NoneType", "bool", "int", "str", "tuple", "list", "dict"], ∀ b ∈ ["bool", "int", "str", "tuple", "list", "dict"], kitB a b = some (tyIs a b) := by decide +kernel
  refine kit_ty (key _ ?_ _ hn')
  cases x <;> first | (cases nr; done) | simp [tyOf]
def rawTy : T → Option String
  | .raw (.ty n) => some n
  | _ => none
@[simp] def oIsi : WC := fun xs Q => match xs with
  | [x, .raw (.ty n)] => isRaw x = false ∧ tyKnown n = true ∧ Q (.bl (tyIs (tyOf x) n))
  | [x, .tup [.raw (.ty n), .raw (.ty m)]] => isRaw x = false ∧ tyKnown n = true ∧ tyKnown m = true ∧ Q (.bl (tyIs (tyOf x) n || tyIs (tyOf x) m))
  | _ => False
section
variable {X : Cx} {G : Fc}
theorem ct_isi : CallT X G (.builtin "isinstance") oIsi := by
  intro σ H ρ F vs xs Q' Q R c q k
  unfold oIsi at q
  split at q
  · rename_i x n
    obtain ⟨nr, hn, q⟩ := q
    obtain ⟨v, u, rfl, cx, cy⟩ := c.two
    have ey : u = .ty n := cy.raw
    subst ey
    have fin := k _ H F _ R Sub.refl (.bl _) q
    intro pins s σ' us I rv
    obtain ⟨u1, u2, rfl, r1, r2⟩ := vals2 rv
    obtain rfl : u2 = Value.type n := r2
    obtain ⟨P, Z, p, hx⟩ := kitT I R.subH cx nr r1
    exact PySem.W.kia_one Z I.kIn p (ty_kit nr hn) hx fun tk => ⟨.bl _, H, I.tok tk, rfl, fin⟩
  · rename_i x n m
    obtain ⟨nr, hn, hm, q⟩ := q
    obtain ⟨v, u, rfl, cx, cy⟩ := c.two
    obtain ⟨tp, ws, rfl, hp, rw'⟩ := cy.tup
    obtain ⟨w1, w2, rfl, q1, q2⟩ := rw'.two
    cases q1
    cases q2
    have fin := k _ H F _ R Sub.refl (.bl _) q
    intro pins s σ' us I rv
    obtain ⟨u1, u2, rfl, r1, r2⟩ := vals2 rv
    obtain rfl : u2 = Value.ref tp := r2
    obtain ⟨P, Z, p, hx⟩ := kitT I R.subH cx nr r1
    obtain ⟨its, ri, ⟨o, h1, h2, n', h3⟩, hz⟩ := I.tuple (R.subH.sqT hp)
    obtain ⟨i1, i2, rfl, g1, g2⟩ := vals2 ri
    obtain rfl : i1 = Value.type n := g1
    obtain rfl : i2 = Value.type m := g2
    obtain ⟨oc, od, dt, sl⟩ := o
    simp only at h2 h3
    subst h2 h3
    refine PySem.W.kia_tup Z I.kIn p h1 (b := tyIs (tyOf x) n || tyIs (tyOf x) m) (kitAny_cons (ty_kit nr hn) (fun e => kitAny_cons (ty_kit nr hm) (fun e2 => ?_) fun e2 => ?_) fun e => ?_) hx fun tk => ⟨.bl _, H, I.tok tk, rfl, fin⟩
    · rw [e, e2]
      rfl
    · rw [e, e2]
      rfl
    · rw [e]
      rfl
  · exact q.elim

/-! ### repr -/
mutual
def T.nums : T → Bool
  | .int i => decide (i.natAbs.log2 < 1920)
  | .tup xs => T.numsAll xs
  | .lst xs => T.numsAll xs
  | _ => true
def T.numsAll : List T → Bool
  | [] => true
  | x :: xs => T.nums x && T.numsAll xs
end
theorem numsAll_all : ∀ xs : List T, T.numsAll xs = xs.all T.nums
  | [] => by rw [T.numsAll]; rfl
  | x :: xs => by rw [T.numsAll, List.all_cons, numsAll_all xs]
@[simp] theorem nums_tup (xs : List T) : T.nums (.tup xs) = xs.all T.nums := by rw [T.nums, numsAll_all]
@[simp] theorem nums_lst (xs : List T) : T.nums (.lst xs) = xs.all T.nums := by rw [T.nums, numsAll_all]
@[simp] theorem nums_int (i : Int) : T.nums (.int i) = decide (i.natAbs.log2 < 1920) := by rw [T.nums]
@[simp] theorem nums_bl (b : Bool) : T.nums (.bl b) = true := by rw [T.nums] <;> simp
@[simp] theorem nums_non : T.nums .non = true := by rw [T.nums] <;> simp
@[simp] theorem nums_str (b : Str) : T.nums (.str b) = true := by rw [T.nums] <;> simp
mutual
theorem nums_show : ∀ (n : Nat) (t : T), T.fit n t = true → T.nums t = true → t.toD.showable = true ∧ t.toD.hasDict = false
  | n, .non, _, _ => by simp [PyData.showable, PyData.hasDict]
  | n, .bl _, _, _ => by simp [PyData.showable, PyData.hasDict]
  | n, .int i, _, h => by
    rw [nums_int] at h
    simp only [toD_int, PyData.showable, PyData.hasDict, h, and_self]
  | n, .str _, _, _ => by simp [PyData.showable, PyData.hasDict]
  | 0, .tup _, h, _ => by rw [T.fit] at h; cases h
  | 0, .lst _, h, _ => by rw [T.fit] at h; cases h
  | n + 1, .tup xs, h, q => by
    rw [T.fit] at h
    rw [T.nums] at q
    have := nums_showAll n xs h q
    rw [T.toD]
    simp only [PyData.showable, PyData.hasDict]
    exact this
  | n + 1, .lst xs, h, q => by
    rw [T.fit] at h
    rw [T.nums] at q
    have := nums_showAll n xs h q
    rw [T.toD]
    simp only [PyData.showable, PyData.hasDict]
    exact this
  | n, .dic _ _, h, _ => by cases n <;> (rw [T.fit] at h; cases h)
  | n, .raw _, h, _ => by cases n <;> (rw [T.fit] at h; cases h)
theorem nums_showAll : ∀ (n : Nat) (ts : List T), T.fits n ts = true → T.numsAll ts = true → PyData.showableAll (T.toDs ts) = true ∧ PyData.hasDictAll (T.toDs ts) = false
  | n, [], _, _ => by rw [T.toDs]; simp [PyData.showableAll, PyData.hasDictAll]
  | n, x :: xs, h, q => by
    rw [T.fits, Bool.and_eq_true] at h
    rw [T.numsAll, Bool.and_eq_true] at q
    have a := nums_show n x h.1 q.1
    have b := nums_showAll n xs h.2 q.2
    rw [T.toDs]
    simp only [PyData.showableAll, PyData.hasDictAll, a.1, a.2, b.1, b.2]
    exact ⟨rfl, rfl⟩
end
def shownT (t : T) : Str := t.toD.shown
@[simp] def oRepr : WC := fun xs Q => match xs with
  | [x] => T.fit 60 x = true ∧ T.nums x = true ∧ (shownT x).length ≤ sizeLine ∧ Q (.str (shownT x))
  | _ => False
theorem ct_repr {k : Nat} (hr : Rm k X.A) : CallT X G (.builtin "repr") oRepr := by
  intro σ H ρ F vs xs Q' Q R c q k
  unfold oRepr at q
  split at q
  · rename_i x
    obtain ⟨hf, hn, hz, q⟩ := q
    obtain ⟨v, rfl, cx⟩ := c.one
    obtain ⟨s1, s2⟩ := nums_show 60 x hf hn
    have fin := k _ H F _ R Sub.refl (.str _) q
    have dp := (cx.rp R.subH).dp 60 hf
    have hd := (fit_lay 60 x hf).2
    intro pins s σ' us I rv
    obtain ⟨u, rfl, rx⟩ := vals1 rv
    have hu := hr.room.un
    have refs : ∀ a, v = .ref a → wpAny (model X.prog X.w) X.A (call (.builtin "repr") [u]) (EP X pins σ' Q) X.xe s := fun a e => by
      subst e
      obtain rfl : u = Value.ref a := rx
      obtain ⟨as, r1⟩ := Dp.reads I _ _ _ dp rfl
      exact repr_of_reads' r1 s1 (fun z => by rw [s2] at z; cases z) hr.gd (by omega) (fun _ _ z => z) (fun h' u tk hk => ⟨.str _, H, I.kept hk, ⟨_, rfl⟩, fin⟩) hz
    cases x with
    | non =>
      obtain rfl := cx.non
      obtain rfl : u = Value.none := rx
      refine P.repr_of_none ⟨.str _, H, I.tok _, ⟨_, rfl⟩, ?_⟩
      have e : shownT .non = ("None" : Str) := by simp [shownT, PyData.shown]
      rw [e] at fin
      exact fin
    | bl b =>
      obtain rfl := cx.bl
      obtain rfl : u = Value.bool b := rx
      refine P.repr_of_bool ⟨.str _, H, I.tok _, ⟨_, rfl⟩, ?_⟩
      cases b <;> exact fin
    | int i =>
      obtain rfl := cx.int
      obtain ⟨t, rfl⟩ := rx
      rw [nums_int] at hn
      refine P.repr_of_int (of_decide_eq_true hn) ⟨.str _, H, I.tok _, ⟨_, rfl⟩, ?_⟩
      have e : shownT (.int i) = ((toString i : String) : Str) := by simp [shownT, PyData.shown]
      rw [e] at fin
      exact fin
    | str z =>
      obtain rfl := cx.str
      obtain ⟨t, rfl⟩ := rx
      have e : shownT (.str z) = reprText z := by simp [shownT, PyData.shown]
      rw [e] at fin hz
      exact P.repr_of_str ⟨.str _, H, I.tok _, ⟨_, rfl⟩, fin⟩ hz
    | tup ys =>
      obtain ⟨p, _, e, _⟩ := cx.tup
      exact refs p e
    | lst ys =>
      obtain ⟨p, _, e, _⟩ := cx
      exact refs p e
    | dic m kvs => rw [T.fit] at hf; cases hf
    | raw w => rw [T.fit] at hf; cases hf
  · exact q.elim
end
end TL
set_option Elab.async false
set_option linter.all false
set_option maxRecDepth 100000
set_option autoImplicit false
/-! TL9: order of data, sorted -/
namespace TL
open PySem PySem.Spec PyProof.Rows L2

def ltT (x y : T) : Bool := PySem.W.dataLt x.toD y.toD
def leT (x y : T) : Bool := !ltT y x
theorem leT_eq : PySem.W.dataLe false T.toD = leT := rfl
@[simp] theorem ltT_int (i j : Int) : ltT (.int i) (.int j) = decide (i < j) := by
  unfold ltT
  rw [toD_int, toD_int, PySem.W.dataLt_int]
@[simp] theorem leT_int (i j : Int) : leT (.int i) (.int j) = decide (i ≤ j) := by
  unfold leT
  rw [ltT_int]
  by_cases h : j < i
  · rw [decide_eq_true h, decide_eq_false (by omega)]
    rfl
  · rw [decide_eq_false h, decide_eq_true (by omega)]
    rfl
theorem map_int_toD (ns : List Int) : (ns.map T.int).map T.toD = ns.map PyData.int := by
  rw [List.map_map]
  refine List.map_congr_left fun x _ => ?_
  simp
theorem ltT_ints (xs ys : List Int) : ltT (.tup (xs.map T.int)) (.tup (ys.map T.int)) = decide (xs < ys) := by
  unfold ltT
  rw [toD_tup, toD_tup, map_int_toD, map_int_toD, PySem.W.dataLt_tuple]
  exact PySem.W.dataLt_ints xs ys
def alikeT (x y : T) : Bool := PySem.W.alike x.toD y.toD
@[simp] theorem alikeT_int (i j : Int) : alikeT (.int i) (.int j) = true := by simp [alikeT, PySem.W.alike]
theorem alikeT_ints (xs ys : List Int) : alikeT (.tup (xs.map T.int)) (.tup (ys.map T.int)) = true := by
  unfold alikeT
  rw [toD_tup, toD_tup, map_int_toD, map_int_toD]
  simp only [PySem.W.alike]
  exact PySem.W.alike_ints xs ys
/-- what sorted takes -/
structure Srt (xs : List T) : Prop where
  fit : xs.all (T.fit 60) = true
  al : PySem.W.AllAlike (xs.map T.toD)
  ok : PySem.W.Sortable (xs.map T.toD)
theorem Srt.ints (ns : List Int) : Srt (ns.map T.int) := by
  refine ⟨by simp [List.all_map], ?_, ?_⟩
  · rw [map_int_toD]
    exact PySem.W.AllAlike.of fun b b' => by simp [PySem.W.alike]
  · rw [map_int_toD]
    exact PySem.W.Sortable.others fun b => ⟨fun z => (by cases z), fun xs z => by cases z⟩
/-- rows of ints, none empty -/
theorem Srt.rows {ls : List (List Int)} (h : ∀ l ∈ ls, l ≠ []) : Srt (ls.map fun l => T.tup (l.map T.int)) := by
  have e : (ls.map fun l => T.tup (l.map T.int)).map T.toD = ls.map fun l => PyData.tuple (l.map PyData.int) := by
    rw [List.map_map]
    refine List.map_congr_left fun l _ => ?_
    show T.toD (.tup (l.map T.int)) = _
    rw [toD_tup, map_int_toD]
  refine ⟨?_, ?_, ?_⟩
  · rw [List.all_map, List.all_eq_true]
    intro l _
    show T.fit 60 (.tup (l.map T.int)) = true
    rw [fit_tup, List.all_map, List.all_eq_true]
    intro x _
    exact fit_int _ _
  · rw [e]
    exact PySem.W.AllAlike.of fun b b' => by simp only [PySem.W.alike]; exact PySem.W.alike_ints _ _
  · rw [e]
    refine .inl fun d hd => ?_
    obtain ⟨l, hl, rfl⟩ := List.mem_map.mp hd
    cases l with
    | nil => exact absurd rfl (h _ hl)
    | cons x r => exact ⟨_, _, rfl⟩

section
variable {prog : Program} {w : World} {A : Around} {E : Value → Shared → Prop} {s : Shared}
open PySem.W PySem.Calls in
theorem sorted_seq {β : Type} {R : Value → β → Prop} {enc : β → PyData} {bs : List β} {l : Addr} {Ty : String} {o : Obj} {vs : List Value} {n : Nat} {Q : Value → Shared → Prop} (hT : Ty = "list" ∨ Ty = "tuple") (ho : s.heap.get? l = some o) (hc : o.cls = .type Ty) (hd : o.data = .seq vs.toArray n)
    (e : EachIs R vs bs) (er : EachIs (fun v b => ∃ as, Reads s.heap v (enc b) as) vs bs) (hal : AllAlike (bs.map enc)) (hk : Sortable (bs.map enc)) (hL : bs.length ≤ sizeLine) (hu : ∀ b, b ∈ bs → A.units + 2 + (enc b).depth < cLine)
    (h : ∀ (h1 h' : Heap) p out ep, (∀ b o, s.heap.get? b = some o → h1.get? b = some o) → h1.objs.size ≤ p → (∀ b o, h1.get? b = some o → h'.get? b = some o) → out.length = bs.length → EachIs R out (bs.mergeSort (dataLe false enc)) → h'.get? p = some { cls := .type "list", data := .seq (List.toArray out) ep } → Q (.ref p) { s with heap := h' }) :
    wpAny (model prog w) A (call (.builtin "sorted") [.ref l]) Q E s := by
  have hlen : vs.length ≤ sizeLine := by rw [e.length]; exact hL
  refine call_function_entry_kw kind_sorted plain_sorted entry_sorted (args_sorted1 _) ?_
  unfold Builtin.«sorted»
  refine wpAny_bind (m := checkCount "sorted" 1 1 _) (wpAny_pure ?_)
  refine wpAny_bind (wpAny_collect_seq l hT ho hc hd (fun h1 hk1 => ?_) (by simpa using hlen))
  refine wpAny_bind (wpAny_newList ?_ (by simpa using hlen))
  have ho2 : (h1.push (seqObj "list" vs.toArray 0)).get? h1.objs.size = some (seqObj "list" vs.toArray 0) := Heap.get?_push_size _ rfl
  have er2 : EachIs (fun v b => ∃ as, Reads (sortingHeap (h1.push (seqObj "list" vs.toArray 0)) h1.objs.size vs) v (enc b) as) vs bs := er.mono fun _ _ ⟨as, r⟩ => ⟨as, PyProof.Rows.Reads.keeps (fun b u q =>
    sortingHeap_old (Nat.ne_of_lt (Heap.lt_size (hk1 b u q))) (Heap.get?_push_of_some _ (hk1 b u q))) r⟩
  refine wpAny_bind (wpAny_holding (wpAny_call_entry_kw slot_list_sort ⟨_, ho2, rfl⟩ entry_list_sort ?body (args_list_sort _)))
  case body =>
    refine list_sort_vals (κ := dataKind (sortingHeap (h1.push (seqObj "list" vs.toArray 0)) h1.objs.size vs) (bs.map enc)) (s := { s with heap := h1.push (seqObj "list" vs.toArray 0) }) ho2
      (SortsAt.data (s := { s with heap := sortingHeap (h1.push (seqObj "list" vs.toArray 0)) h1.objs.size vs }) (each_map (R := fun v d => ∃ as, Reads (sortingHeap (h1.push (seqObj "list" vs.toArray 0)) h1.objs.size vs) v d as) enc er2) hal hk (bound_map fun b hb => by
        have := hu b hb
        show A.units + 1 + 1 + _ < _
        omega)) hlen ⟨.none, rfl, ?_⟩
    refine wpAny_pure ⟨_, rfl, ?_⟩
    obtain ⟨ep, he⟩ := sortedHeap_at (vs := vs) (out := (sortVals (dataKind (sortingHeap (h1.push (seqObj "list" vs.toArray 0)) h1.objs.size vs) (bs.map enc)) false vs vs).toArray) ho2
    refine h h1 _ h1.objs.size _ ep hk1 (Nat.le_refl _) (fun b u q1 => ?_) (by rw [sortVals_length false rfl]; exact e.length) (sortVals_data false e er2 hal) he
    rw [sortedHeap_old (Nat.ne_of_lt (Heap.lt_size q1)) (by rw [size_push']; exact Nat.lt_succ_of_lt (Heap.lt_size q1))]
    exact Heap.get?_push_of_some _ q1
end
section
variable {X : Cx} {G : Fc}
theorem each_of {B : Bx} {F : Hp} : ∀ {vs : List V} {ts : List T} {us : List Value}, RpAll B F vs ts → Vals vs us → PySem.W.EachIs (fun (u : Value) (t : T) => ∃ v, RelV v u ∧ Rp B F v t) us ts
  | _, _, _, .nil, .nil => .nil
  | _, _, _, .cons a b, .cons c d => .cons ⟨_, c, a⟩ (each_of b d)
theorem of_each {B : Bx} {F : Hp} : ∀ {us : List Value} {ts : List T}, PySem.W.EachIs (fun (u : Value) (t : T) => ∃ v, RelV v u ∧ Rp B F v t) us ts → ∃ vs, Vals vs us ∧ RpAll B F vs ts
  | _, _, .nil => ⟨[], .nil, .nil⟩
  | _, _, .cons ⟨v, a, b⟩ r => by
    obtain ⟨vs, c, d⟩ := of_each r
    exact ⟨v :: vs, .cons a c, .cons b d⟩
theorem each_reads {pins : List (Addr × Obj)} {σ : L2.St} {H F : Hp} {s : Shared} (I : Inv X pins σ H s) (sub : Sub F H) : ∀ {vs : List V} {ts : List T} {us : List Value}, RpAll (bx X) F vs ts → Vals vs us → ts.all (T.fit 60) = true → PySem.W.EachIs (fun (u : Value) (t : T) => ∃ as, Reads s.heap u t.toD as) us ts
  | _, _, _, .nil, .nil, _ => .nil
  | _, _, _, .cons a b, .cons c d, h => by
    rw [List.all_cons, Bool.and_eq_true] at h
    exact .cons (Dp.reads I _ _ _ ((a.mono sub).dp 60 h.1) c) (each_reads I sub b d h.2)
@[simp] def oSortN : WCN := fun xs Q => match xs with
  | [.lst ys] => Srt ys ∧ Q (ys.mergeSort leT)
  | [.tup ys] => Srt ys ∧ Q (ys.mergeSort leT)
  | _ => False
theorem cn_sorted {k : Nat} (hr : Rm k X.A) : CallN X G (.builtin "sorted") oSortN := by
  intro σ H ρ F vs xs Q' Q R c q k
  have key : ∀ (ys : List T) (p : Addr) (us : List V) (Ty : String), (Ty = "list" ∨ Ty = "tuple") → RpAll (bx X) F us ys → Srt ys → Q' (ys.mergeSort leT) →
      (∀ (pins : List (Addr × Obj)) (s : Shared) (σ' : L2.St), Inv X pins σ' H s → ∃ (its : List Value) (o : Obj) (n : Nat), Vals us its ∧ s.heap.get? p = some o ∧ o.cls = .type Ty ∧ o.data = .seq its.toArray n ∧ us.length ≤ sizeLine) → cAny X (.builtin "sorted") [.ref p] H Q := by
    intro ys p us Ty hT rv sr qz get pins s σ' ws I rw'
    obtain ⟨u, rfl, rx⟩ := vals1 rw'
    obtain rfl : u = Value.ref p := rx
    obtain ⟨its, o, n, rits, ho, hc, hd, hz⟩ := get pins s σ' I
    have hu := hr.room.un
    refine sorted_seq (R := fun (u : Value) (t : T) => ∃ v, RelV v u ∧ Rp (bx X) F v t) (enc := T.toD) (bs := ys) hT ho hc hd (each_of rv rits) (each_reads I R.subH rv rits sr.fit) sr.al sr.ok (by rw [← rv.length]; exact hz) (fun b hb => ?_) fun h1 h' q out ep hk1 hq hk hl eo he => ?_
    · have f := List.all_eq_true.mp sr.fit b hb
      have := (fit_lay 60 b f).2
      omega
    · obtain ⟨ws, rws, rzs⟩ := of_each eo
      rw [leT_eq] at rzs
      have I1 := I.kept (t' := s.toks) hk1
      have nq : H q = none := I1.hok.fresh hq
      refine ⟨.ref q, upd H q (.lst ws), I1.laid (t' := s.toks) hk hq ⟨by rw [rws.length, hl, ← rv.length]; exact hz, out, ep, rws, he⟩, rfl, k q ws _ nq rzs qz⟩
  unfold oSortN at q
  split at q
  · rename_i ys
    obtain ⟨v, rfl, cx⟩ := c.one
    obtain ⟨p, us, rfl, hp, rv⟩ := cx
    refine key ys p us "list" (.inl rfl) rv q.1 q.2 fun pins s σ' I => ?_
    obtain ⟨z, its, n, r, e⟩ := (show ObjOk X.prog X.w H s.heap p (.lst us) from I.hok p _ hp)
    exact ⟨its, _, n, r, e, rfl, rfl, z⟩
  · rename_i ys
    obtain ⟨v, rfl, cx⟩ := c.one
    obtain ⟨p, us, rfl, hp, rv⟩ := cx.tup
    refine key ys p us "tuple" (.inr rfl) rv q.1 q.2 fun pins s σ' I => ?_
    obtain ⟨its, r, ⟨o, h1, h2, n, h3⟩, z⟩ := I.tuple (R.subH.sqT hp)
    exact ⟨its, o, n, r, h1, h2, h3, z⟩
  · exact q.elim

/-! ### < of data -/
@[simp] def oLtD : WOp := fun x y Q => match x, y with
  | .int i, .int j => Q (.bl (decide (i < j)))
  | x, y => T.fit 60 x = true ∧ T.fit 60 y = true ∧ alikeT x y = true ∧ x.toD ≠ .none ∧ Q (.bl (ltT x y))
theorem ot_ltD {k : Nat} (hr : Rm k X.A) : OpT X G (compareOp .Lt) oLtD := by
  intro σ H ρ F v u x y Q' Q R cx cy q k
  unfold oLtD at q
  split at q
  · rename_i i j
    obtain rfl := cx.int
    obtain rfl := cy.int
    exact anyOf op_lt ⟨_, _, rfl, rfl, k _ H F _ R Sub.refl (.bl _) q⟩
  · obtain ⟨f1, f2, al, nn, q⟩ := q
    have d1 := (cx.rp R.subH).dp 60 f1
    have d2 := (cy.rp R.subH).dp 60 f2
    have fin := k _ H F _ R Sub.refl (.bl _) q
    have hu := hr.room.un
    have hd := (fit_lay 60 x f1).2
    intro pins s σ' v' u' I rv ru
    obtain ⟨as, r1⟩ := Dp.reads I _ _ _ d1 rv
    obtain ⟨bs, r2⟩ := Dp.reads I _ _ _ d2 ru
    exact PySem.W.lt_data r1 r2 al nn (by omega) ⟨.bl _, H, I, rfl, fin⟩
end
end TL
set_option Elab.async false
set_option linter.all false
set_option maxRecDepth 100000
set_option autoImplicit false
/-! TL10: calls by keywords, chains of three, methods, index, [::-1] -/
namespace TL
open PySem PySem.Spec PyProof.Rows L2
section
variable {X : Cx} {G : Fc}
theorem PE.or {e : Expr} {t t' : TE} (h : PE X e t) (h' : PE X e t') : PE X e (fun σ H Q => t σ H Q ∨ t' σ H Q) := ⟨fun pins s σ H Q I q => by
  rcases q with q | q
  · exact h.run pins s σ H Q I q
  · exact h'.run pins s σ H Q I q⟩
/-! ### calls without arguments, by keywords -/
def wCall0 (sp : TSp) : WE := fun ρ Q => sp [] fun y => Q (.v y) ρ
@[simp] theorem wCall0_s (sp : TSp) (s_ : S) (r_ : List S) (Q_ : _) : wCall0 sp (s_ :: r_) Q_ = (fun ρ Q => sp [] fun y => Q (.v y) ρ) (s_ :: r_) Q_ := rfl
theorem te_call0 {f : Addr} {fd : FuncData} {x : Str} {p pos : Pos} {k : Nat} {ps : List Str} {W : Wd} {sp : TSp} {ds : List Value} {dvs : List V} {dts : List T} (FO : FnG X.prog X.w X.K X.mg X.base CX0 k f fd ps (liftSp (bx X) W sp)) (hr : Rm k X.A) (hg : Gl X x) (hm : X.mg x = some (.ref f)) (hk : PySem.W.keepIn X.K (.ref f) = true) (hb : Binds X.K fd ps ds) (hd : Vals dvs ds) (hx : Passes CX0 X (fun _ _ _ => False))
    (hdt : ∀ F, RpAll (bx X) F dvs dts) (hW : G.W.own = W.own) (hdb : (x == ("__debug__" : Str)) = false := by decide) : PE X (.Call (.Name x p) [] [] pos) (LE (bx X) G (wCall0 fun xs => sp (xs ++ dts))) :=
  PE.wk (pe_callG0 FO hr hg hm hk hb hd hx hdb) fun σ H Q ⟨ρ, F, Q', R, ht, k⟩ => by
    have h2 : tCall (liftSp (bx X) W sp) dvs (fun _ _ _ => False) (LA (bx X) G wNil) σ H Q := wCall_of hW hdt ⟨ρ, F, Q', R, ht, k⟩
    obtain ⟨ρ, F, Q', R, ht, k⟩ := h2
    exact k [] H ρ F [] R Sub.refl .nil ht
theorem tk_nil : PK X [] (LA (bx X) G wNil) := ⟨fun pos pins s σ H Q I ⟨ρ, F, Q', R, ht, k⟩ => pk_nil.run pos pins s σ H Q I (k [] H ρ F [] R Sub.refl .nil ht)⟩
theorem tk_cons {e : Expr} {kws : List Keyword} {nm : Option Str} {kpos : Pos} {t : WE} {u : WA} (h : PE X e (LE (bx X) G t)) (q : PK X kws (LA (bx X) G u)) : PK X (⟨nm, e, kpos⟩ :: kws) (LA (bx X) G (wCons t u)) := ⟨fun pos pins s σ H Q I hq => by
  refine (pk_cons h q).run pos pins s σ H Q I ?_
  obtain ⟨ρ, F, Q', R, ht, k⟩ := hq
  refine ⟨ρ, F, _, R, ht, fun v H1 ρ1 F1 r R1 s1 rr q1 => ?_⟩
  obtain ⟨ρ2, F2, x, R2, s2, rx, q2⟩ := R1.frzOk rr q1
  exact ⟨ρ2, F2, _, R2, q2, fun vs H3 ρ3 F3 xs R3 s3 rs q3 => k (v :: vs) H3 ρ3 F3 (x :: xs) R3 (s1.trans (s2.trans s3)) (.cons (rx.mono s3) rs) q3⟩⟩
/-- f(e, .., k = v, ..): n positional values, m keywords; gT puts them in the parameters' order -/
def wCallK (n m : Nat) (gT : List T → List T → List T) (sp : TSp) (t tk : WA) : WE := fun ρ Q => t ρ fun xs ρ1 => tk ρ1 fun ys ρ2 => xs.length = n ∧ ys.length = m ∧ sp (gT xs ys) fun y => Q (.v y) ρ2
@[simp] theorem wCallK_s (n m : Nat) (gT : List T → List T → List T) (sp : TSp) (t tk : WA) (s_ : S) (r_ : List S) (Q_ : _) : wCallK n m gT sp t tk (s_ :: r_) Q_ = (fun ρ Q => t ρ fun xs ρ1 => tk ρ1 fun ys ρ2 => xs.length = n ∧ ys.length = m ∧ sp (gT xs ys) fun y => Q (.v y) ρ2) (s_ :: r_) Q_ := rfl
structure KG (K : Bx) (gV : List V → List V → List V) (gT : List T → List T → List T) : Prop where
  rp : ∀ (F : Hp) (vs zs : List V) (xs ys : List T), RpAll K F vs xs → RpAll K F zs ys → RpAll K F (gV vs zs) (gT xs ys)
theorem runGK {CX : CXT} {n k : Nat} {f : Addr} {fd : FuncData} {ps ks : List Str} {sp : Sp} {E : XK} {g : List Value → List Value → List Value} {gV : List V → List V → List V} {pins : List (Addr × Obj)} {σ : L2.St} {H : Hp} {s : Shared} {Q : VK} {us ws : List Value} {vs zs : List V} (F : FnG X.prog X.w X.K X.mg X.base CX k f fd ps sp) (hr : Rm k X.A) (hb : KBn X.K fd ps n ks g gV) (hx : Passes CX X E)
    (I : Inv X pins σ H s) (r : Vals vs us) (rz : Vals zs ws) (l1 : vs.length = n) (l2 : zs.length = ks.length) (h : sp (gV vs zs) H Q E) : wpAny (model X.prog X.w) X.A (call (.ref f) us (ks.zip ws)) (EP X pins σ Q) X.xe s :=
  runG (args := ⟨us, ks.zip ws⟩) F hr hx I (fun _ => hb.to s us ws I.kIn (r.length.symm.trans l1) (rz.length.symm.trans l2)) (hb.rel r rz) h
section
variable {f : Addr} {fd : FuncData} {x : Str} {p pos : Pos} {e : Expr} {es : List Expr} {kws : List Keyword} {k n : Nat} {ps ks : List Str} {W : Wd} {sp : TSp} {t tk : WA} {g : List Value → List Value → List Value} {gV : List V → List V → List V} {gT : List T → List T → List T}
theorem te_callK (FO : FnG X.prog X.w X.K X.mg X.base CX0 k f fd ps (liftSp (bx X) W sp)) (hr : Rm k X.A) (hg : Gl X x) (hm : X.mg x = some (.ref f)) (hk : PySem.W.keepIn X.K (.ref f) = true) (hb : KBn X.K fd ps n ks g gV) (hgT : KG (bx X) gV gT) (hx : Passes CX0 X (fun _ _ _ => False))
    (hW : G.W.own = W.own) (ha : PA X (e :: es) (LA (bx X) G t)) (hkw : PK X kws (LA (bx X) G tk))
    (hall : (backToKw pos (keywordEach kws X.env)).all (·.1.isSome) = true := by rfl) (hks : (backToKw pos (keywordEach kws X.env)).filterMap (·.1) = ks := by rfl)
    (hdb : (x == ("__debug__" : Str)) = false := by decide) (he : starEach (e :: es) X.env = (false, eval e X.env) :: starEach es X.env := by rfl)
    (hpl : ((backTo pos (starEach (e :: es) X.env)).any (·.1) || (backToKw pos (keywordEach kws X.env)).any (·.1.isNone)) = false := by rfl) :
    PE X (.Call (.Name x p) (e :: es) kws pos) (LE (bx X) G (wCallK n ks.length gT sp t tk)) := by
  have ho : ∀ H, off W H = off G.W H := fun H => by unfold off; rw [hW]
  refine ⟨fun pins s σ H Q I ⟨ρ, F, Q', R, ht, k0⟩ => ?_⟩
  refine wpAny_Call_Name_kw (ld_glob I hg hm ?_ hdb)
  have h1 : LA (bx X) G t σ H fun vs H1 => LA (bx X) G tk σ H1 fun zs H2 => vs.length = n ∧ zs.length = ks.length ∧ liftSp (bx X) W sp (gV vs zs) H2 Q (fun _ _ _ => False) := by
    refine ⟨ρ, F, _, R, ht, fun vs H1 ρ1 F1 xs R1 s1 rs q1 => ⟨ρ1, F1, _, R1, q1, fun zs H2 ρ2 F2 ys R2 s2 rz ⟨l1, l2, q2⟩ => ⟨by rw [rs.length]; exact l1, by rw [rz.length]; exact l2, ?_⟩⟩⟩
    refine ⟨F2, gT xs ys, _, by rw [ho]; exact R2.sub, fun a w => G.W.tr _ R2.inv a (by rw [hW]; exact w), hgT.rp _ _ _ _ _ (rs.mono s2) rz, q2, fun v H' F' y a1 a2 a3 a4 a5 ry qy => ?_⟩
    rw [ho] at a2 a3
    rw [ho] at a3
    exact k0 v H' ρ2 F' (.v y) (R2.after a1 a2 a3 a4 fun a w => a5 a (by rw [← hW]; exact w)) (s1.trans (s2.trans a1)) ry qy
  refine PySem.W.callWith_KW (h₀ := X.base) I.ok.mod.kin hk hall (thn (ha.run pos pins s σ H _ I h1) fun us s1 ⟨vs, H1, I1, r, q⟩ => ?_) hpl he
  refine thn (hkw.run pos pins s1 σ H1 _ I1 q) fun ws s2 ⟨zs, H2, I2, rz, l1, l2, q2⟩ => ⟨I2.kIn, ?_⟩
  rw [hks]
  exact runGK FO hr hb hx I2 r rz l1 l2 q2
theorem te_callK0 (FO : FnG X.prog X.w X.K X.mg X.base CX0 k f fd ps (liftSp (bx X) W sp)) (hr : Rm k X.A) (hg : Gl X x) (hm : X.mg x = some (.ref f)) (hk : PySem.W.keepIn X.K (.ref f) = true) (hb : KBn X.K fd ps 0 ks g gV) (hgT : KG (bx X) gV gT) (hx : Passes CX0 X (fun _ _ _ => False))
    (hW : G.W.own = W.own) (hkw : PK X kws (LA (bx X) G tk))
    (hall : (backToKw pos (keywordEach kws X.env)).all (·.1.isSome) = true := by rfl) (hks : (backToKw pos (keywordEach kws X.env)).filterMap (·.1) = ks := by rfl)
    (hdb : (x == ("__debug__" : Str)) = false := by decide)
    (hpl : ((backTo pos (starEach [] X.env)).any (·.1) || (backToKw pos (keywordEach kws X.env)).any (·.1.isNone)) = false := by rfl) :
    PE X (.Call (.Name x p) [] kws pos) (LE (bx X) G (wCallK 0 ks.length gT sp wNil tk)) := by
  have ho : ∀ H, off W H = off G.W H := fun H => by unfold off; rw [hW]
  refine ⟨fun pins s σ H Q I ⟨ρ, F, Q', R, ht, k0⟩ => ?_⟩
  refine wpAny_Call_Name_kw (ld_glob I hg hm ?_ hdb)
  have h1 : LA (bx X) G tk σ H fun zs H2 => zs.length = ks.length ∧ liftSp (bx X) W sp (gV [] zs) H2 Q (fun _ _ _ => False) := by
    refine ⟨ρ, F, _, R, ht, fun zs H2 ρ2 F2 ys R2 s2 rz ⟨_, l2, q2⟩ => ⟨by rw [rz.length]; exact l2, ?_⟩⟩
    refine ⟨F2, gT [] ys, _, by rw [ho]; exact R2.sub, fun a w => G.W.tr _ R2.inv a (by rw [hW]; exact w), hgT.rp _ _ _ _ _ .nil rz, q2, fun v H' F' y a1 a2 a3 a4 a5 ry qy => ?_⟩
    rw [ho] at a2 a3
    rw [ho] at a3
    exact k0 v H' ρ2 F' (.v y) (R2.after a1 a2 a3 a4 fun a w => a5 a (by rw [← hW]; exact w)) (s2.trans a1) ry qy
  refine PySem.W.callWith_KW0 (h₀ := X.base) I.ok.mod.kin hk hall
    (thn (hkw.run pos pins s σ H _ I h1) fun ws s2 ⟨zs, H2, I2, rz, l2, q2⟩ => ⟨I2.kIn, ?_⟩) hpl
  rw [hks]
  exact runGK (us := []) FO hr hb hx I2 .nil rz rfl l2 q2
end

/-! ### what is shown by hand: one step -/
theorem PE.go {e : Expr} {t : WE} (h : PE X e (LE (bx X) G t)) {pins : List (Addr × Obj)} {s : Shared} {σ : L2.St} {H : Hp} {ρ : List S} {F : Hp} {Q' : R → List S → Prop} (I : Inv X pins σ H s) (R : Rel (bx X) G σ H ρ F) (q : t ρ Q') {Z : Value → Shared → Prop}
    (k : ∀ av s' v H1 ρ1 F1 r, Inv X pins σ H1 s' → RelV v av → Rel (bx X) G σ H1 ρ1 F1 → Sub F F1 → RelR (bx X) σ F1 v r → Q' r ρ1 → Z av s') : wpAny (model X.prog X.w) X.A (eval e X.env) Z X.xe s :=
  thn (h.run pins s σ H (fun v H1 => ∃ ρ1 F1 r, Rel (bx X) G σ H1 ρ1 F1 ∧ Sub F F1 ∧ RelR (bx X) σ F1 v r ∧ Q' r ρ1) I ⟨ρ, F, Q', R, q, fun v H1 ρ1 F1 r R1 s1 rr q1 => ⟨ρ1, F1, r, R1, s1, rr, q1⟩⟩)
    fun av s' ⟨v, H1, I1, rv, ρ1, F1, r, R1, s1, rr, q1⟩ => k av s' v H1 ρ1 F1 r I1 rv R1 s1 rr q1
theorem OpT.go {f : Value → Value → Sem Value} {o : WOp} (h : OpT X G f o) {pins : List (Addr × Obj)} {s : Shared} {σ : L2.St} {H : Hp} {ρ : List S} {F : Hp} {v u : V} {x y : T} {av bv : Value} {Q' : T → Prop} (I : Inv X pins σ H s) (R : Rel (bx X) G σ H ρ F) (cx : Ct (bx X) F H v x) (cy : Ct (bx X) F H u y) (rv : RelV v av) (ru : RelV u bv) (q : o x y Q') {Z : Value → Shared → Prop}
    (k : ∀ cv s' w H1 F1 z, Inv X pins σ H1 s' → RelV w cv → Rel (bx X) G σ H1 ρ F1 → Sub F F1 → Rp (bx X) F1 w z → Q' z → Z cv s') : wpAny (model X.prog X.w) X.A (f av bv) Z X.xe s :=
  thn (h σ H ρ F v u x y Q' (fun w H1 => ∃ F1 z, Rel (bx X) G σ H1 ρ F1 ∧ Sub F F1 ∧ Rp (bx X) F1 w z ∧ Q' z) R cx cy q (fun w H1 F1 z R1 s1 rz qz => ⟨F1, z, R1, s1, rz, qz⟩) pins s σ av bv I rv ru)
    fun cv s' ⟨w, H1, I1, rw', F1, z, R1, s1, rz, qz⟩ => k cv s' w H1 F1 z I1 rw' R1 s1 rz qz

/-! ### a < b < c < d -/
def wChain3 (o o' o2 : WOp) (ta tb tc td : WE) : WE := fun ρ Q => ta ρ fun r ρ1 => tb ρ1 fun q ρ2 => ∃ x y, res ρ2 r = some x ∧ res ρ2 q = some y ∧ o x y fun z => ∃ b, z = .bl b ∧
  if b = true then tc ρ2 fun p ρ3 => ∃ y' z, res ρ3 q = some y' ∧ res ρ3 p = some z ∧ o' y' z fun z => ∃ b, z = .bl b ∧
    if b = true then td ρ3 fun l ρ4 => ∃ z' u, res ρ4 p = some z' ∧ res ρ4 l = some u ∧ o2 z' u fun z => Q (.v z) ρ4 else Q (.v (.bl false)) ρ3
  else Q (.v (.bl false)) ρ2
@[simp] theorem wChain3_s (o o' o2 : WOp) (ta tb tc td : WE) (s_ : S) (r_ : List S) (Q_ : _) : wChain3 o o' o2 ta tb tc td (s_ :: r_) Q_ = (fun ρ Q => ta ρ fun r ρ1 => tb ρ1 fun q ρ2 => ∃ x y, res ρ2 r = some x ∧ res ρ2 q = some y ∧ o x y fun z => ∃ b, z = .bl b ∧
  if b = true then tc ρ2 fun p ρ3 => ∃ y' z, res ρ3 q = some y' ∧ res ρ3 p = some z ∧ o' y' z fun z => ∃ b, z = .bl b ∧
    if b = true then td ρ3 fun l ρ4 => ∃ z' u, res ρ4 p = some z' ∧ res ρ4 l = some u ∧ o2 z' u fun z => Q (.v z) ρ4 else Q (.v (.bl false)) ρ3
  else Q (.v (.bl false)) ρ2) (s_ :: r_) Q_ := rfl
theorem truthy_bl {A : Around} {M : Model} {b : Bool} {Q : Bool → Shared → Prop} {E : Value → Shared → Prop} {s : Shared} (h : Q b s) : wpAny M A (truthy (.bool b)) Q E s := wpAny_pure h
theorem tt_chain3 {op op' op2 : CmpOp} {o o' o2 : WOp} {a b c d : Expr} {ta tb tc td : WE} {pos} (ho : OpT X G (compareOp op) o) (ho' : OpT X G (compareOp op') o') (ho2 : OpT X G (compareOp op2) o2) (ha : PE X a (LE (bx X) G ta)) (hb : PE X b (LE (bx X) G tb)) (hc : PE X c (LE (bx X) G tc)) (hd : PE X d (LE (bx X) G td))
    (hm : lastMarks [op, op', op2] [b, c, d] = false := by with_unfolding_all rfl) : PT X (.Compare a [op, op', op2] [b, c, d] pos) (LT (bx X) G (wB (wChain3 o o' o2 ta tb tc td))) := by
  refine ⟨fun pins s σ H Q I ⟨ρ, F, Q', R, ht, k⟩ => ?_⟩
  refine isTrue_chain ?_ hm
  refine PE.go ha I R ht fun av sa v H1 ρ1 F1 r I1 rv R1 s1 rr q1 => ?_
  refine test_link (PE.go hb I1 R1 q1 fun bv sb u H2 ρ2 F2 q I2 ru R2 s2 rq ⟨x, y, e1, e2, q2⟩ => ?_)
  refine ho.go I2 R2 (R2.ct (rr.mono s2) e1) (R2.ct rq e2) rv ru q2 fun cv sc w H3 F3 z I3 rw' R3 s3 rz ⟨b1, ez, qz⟩ => ?_
  subst ez
  cases rz
  obtain rfl : cv = Value.bool b1 := rw'
  refine truthy_bl ?_
  cases b1 with
  | false =>
    obtain ⟨b, e, q⟩ := (show ∃ b, res ρ2 (.v (.bl false)) = some (.bl b) ∧ Q' b ρ2 from qz)
    cases e
    exact ⟨H3, I3, k false H3 ρ2 F3 R3 (s1.trans (s2.trans s3)) q⟩
  | true =>
    refine test_link (PE.go hc I3 R3 qz fun cv2 sd w H4 ρ4 F4 p I4 rw4 R4 s4 rp ⟨y', z, e3, e4, q4⟩ => ?_)
    refine ho'.go I4 R4 (R4.ct (rq.mono (s3.trans s4)) e3) (R4.ct rp e4) ru rw4 q4 fun dv se w5 H5 F5 z5 I5 rw5 R5 s5 rz5 ⟨b2, ez, qz⟩ => ?_
    subst ez
    cases rz5
    obtain rfl : dv = Value.bool b2 := rw5
    refine truthy_bl ?_
    cases b2 with
    | false =>
      obtain ⟨b, e, q⟩ := (show ∃ b, res ρ4 (.v (.bl false)) = some (.bl b) ∧ Q' b ρ4 from qz)
      cases e
      exact ⟨H5, I5, k false H5 ρ4 F5 R5 (s1.trans (s2.trans (s3.trans (s4.trans s5)))) q⟩
    | true =>
      refine test_last (PE.go hd I5 R5 qz fun lv sf l H6 ρ6 F6 m I6 rl R6 s6 rm ⟨z', u', e5, e6, q6⟩ => ?_)
      refine ho2.go I6 R6 (R6.ct (rp.mono (s5.trans s6)) e5) (R6.ct rm e6) rw4 rl q6 fun gv sg w7 H7 F7 z7 I7 rw7 R7 s7 rz7 qz => ?_
      obtain ⟨b3, e, q⟩ := (show ∃ b, res ρ6 (.v z7) = some (.bl b) ∧ Q' b ρ6 from qz)
      cases e
      cases rz7
      obtain rfl : gv = Value.bool b3 := rw7
      exact truthy_bl ⟨H7, I7, k b3 H7 ρ6 F7 R7 (s1.trans (s2.trans (s3.trans (s4.trans (s5.trans (s6.trans s7)))))) q⟩
end
end TL
set_option Elab.async false
set_option linter.all false
set_option maxRecDepth 100000
set_option autoImplicit false
/-! TL11: methods of built-in types; index, get; [::-1] -/
namespace TL
open PySem PySem.Spec PyProof.Rows L2
section
variable {X : Cx} {G : Fc}
def mAny (X : Cx) (id : String) : V → List V → Hp → VK → Prop := fun x vs H Q => ∀ (pins : List (Addr × Obj)) (s : Shared) (σ : L2.St) (v : Value) (us : List Value), Inv X pins σ H s → RelV x v → Vals vs us →
  wpAny (model X.prog X.w) X.A (call (.builtin id) (v :: us)) (EP X pins σ Q) X.xe s
theorem mtAny {id : String} : MtR X id (mAny X id) := fun pins s σ H x xs v us Q I r rs h => h pins s σ v us I r rs
theorem mOf {id : String} {r : V → List V → Hp → VK → Prop} (h : MtR X id r) {x : V} {vs : List V} {H : Hp} {Q : VK} (q : r x vs H Q) : mAny X id x vs H Q := fun pins s σ v us I rx rs => h pins s σ H x vs v us Q I rx rs q
/-- the type of what a tree stands for -/
def tyT (n : String) : T → Bool
  | .int _ => n == "int"
  | .str _ => n == "str"
  | .tup _ => n == "tuple"
  | .lst _ => n == "list"
  | .dic _ _ => n == "dict"
  | _ => false
theorem tyR_rd {F H : Hp} {v : V} {t : T} {n : String} (c : Ct (bx X) F H v t) (sub : Sub F H) (e : tyT n t = true) : TyR X n v H := by
  cases t with
  | non => cases e
  | bl b => cases e
  | raw w => cases e
  | int i =>
    obtain rfl := c.int
    obtain rfl : n = "int" := by simpa [tyT] using e
    exact tyR_of rfl
  | str z =>
    obtain rfl := c.str
    obtain rfl : n = "str" := by simpa [tyT] using e
    exact tyR_of rfl
  | lst xs =>
    obtain ⟨p, vs, rfl, hp, rv⟩ := c
    obtain rfl : n = "list" := by simpa [tyT] using e
    exact tyR_lst hp
  | tup xs =>
    obtain ⟨p, vs, rfl, hp, np, rv⟩ := c.tupN
    obtain rfl : n = "tuple" := by simpa [tyT] using e
    intro pins s σ v I r
    obtain rfl : v = Value.ref p := r
    obtain ⟨its, rv', ⟨o, ho, hc, m, hd⟩, hz⟩ := I.tuple (sub.sqT hp)
    refine ⟨⟨o, ho, hc⟩, fun a e => ?_⟩
    cases e
    refine ⟨o, ho, ?_⟩
    rcases sub.noD np with ⟨o', u, e1, e2⟩ | ⟨o', e1, e2⟩
    · obtain ⟨g, _⟩ := I.hok p _ e1
      rw [ho] at g
      cases g
      exact e2
    · have g := I.kIn p o' e1
      rw [ho] at g
      cases g
      exact e2
  | dic m kvs =>
    obtain ⟨p, rfl, dd⟩ := c
    obtain rfl : n = "dict" := by simpa [tyT] using e
    intro pins s σ v I r
    obtain rfl : v = Value.ref p := r
    cases m with
    | flat =>
      obtain ⟨l, e, r⟩ := dd
      obtain ⟨t1, t2, _⟩ := isD_at I (.inl ⟨l, e⟩)
      exact ⟨t1, t2⟩
    | tup =>
      obtain ⟨l, e, r⟩ := dd
      refine ⟨dat_type I sub (m := .tup) ⟨l, e, r⟩, fun a ea => ?_⟩
      cases ea
      obtain ⟨⟨h1, h2, ys, o, es, ep, hp, ho, hx, hd, he, hn⟩, _⟩ := e.ok I.hok
      exact ⟨o, ho, hx.2.1⟩
abbrev WM := T → List T → (T → Prop) → Prop
def OpM (X : Cx) (G : Fc) (id : String) (o : WM) : Prop := ∀ (σ : L2.St) (H : Hp) (ρ : List S) (F : Hp) (v : V) (x : T) (vs : List V) (xs : List T) (Q' : T → Prop) (Q : VK), Rel (bx X) G σ H ρ F → Ct (bx X) F H v x → CtAll (bx X) F H vs xs → o x xs Q' →
  (∀ w H' F' z, Rel (bx X) G σ H' ρ F' → Sub F F' → Rp (bx X) F' w z → Q' z → Q w H') → mAny X id v vs H Q
def wMeth (ty : String) (o : WM) (te : WE) (ta : WR) : WE := fun ρ Q => te ρ fun r ρ1 => (∃ x, res ρ1 r = some x ∧ tyT ty x = true) ∧ ta ρ1 fun rs ρ2 => ∃ x xs, res ρ2 r = some x ∧ ress ρ2 rs = some xs ∧ o x xs fun z => Q (.v z) ρ2
@[simp] theorem wMeth_s (ty : String) (o : WM) (te : WE) (ta : WR) (s_ : S) (r_ : List S) (Q_ : _) : wMeth ty o te ta (s_ :: r_) Q_ = (fun ρ Q => te ρ fun r ρ1 => (∃ x, res ρ1 r = some x ∧ tyT ty x = true) ∧ ta ρ1 fun rs ρ2 => ∃ x xs, res ρ2 r = some x ∧ ress ρ2 rs = some xs ∧ o x xs fun z => Q (.v z) ρ2) (s_ :: r_) Q_ := rfl
theorem liftM {ty id : String} {o : WM} {te : WE} {ta : WR} (ho : OpM X G id o) {σ : L2.St} {H : Hp} {Q : VK} (h : LE (bx X) G (wMeth ty o te ta) σ H Q) : tBMG X ty (mAny X id) (LE (bx X) G te) (LR (bx X) G ta) σ H Q := by
  obtain ⟨ρ, F, Q', R, ht, k⟩ := h
  refine ⟨ρ, F, _, R, ht, fun v H1 ρ1 F1 r R1 s1 rr ⟨⟨x, ex, tx⟩, q1⟩ => ⟨tyR_rd (R1.ct rr ex) R1.subH tx, ρ1, F1, _, R1, q1, fun vs H2 ρ2 F2 rs R2 s2 rrs ⟨x, xs, e1, e2, q2⟩ => ?_⟩⟩
  exact ho σ H2 ρ2 F2 v x vs xs _ Q R2 (R2.ct (rr.mono s2) e1) (R2.cts rrs e2) q2 fun w H' F' z R3 s3 rz qz => k w H' ρ2 F' (.v z) R3 (s1.trans (s2.trans s3)) rz qz
theorem te_meth {ob e : Expr} {es : List Expr} {te : WE} {ta : WR} {name : Str} {apos cpos : Pos} {ty id : String} {o : WM} (pa : PlainAttrs ty) (slot : Slot ty name id) (hty : typeOf (.builtin id) = pure (.type "method_descriptor")) (hm : OpM X G id o) (ho : PE X ob (LE (bx X) G te)) (ha : PA X (e :: es) (LR (bx X) G ta))
    (hbase : attributeBase ob name X.env (eval ob X.env) = eval ob X.env := by rfl)
    (hfew : ((backTo cpos (starEach (e :: es) X.env)).all (fun x => !x.1) && (backToKw cpos (keywordEach [] X.env)).all (fun x => x.1.isSome)
      && decide ((e :: es).length + ([] : List Keyword).length + (if ([] : List Keyword).isEmpty then 0 else 1) < 30)) = true := by rfl)
    (hline : (apos.endLine == cpos.line) = true := by rfl) (hs : starEach (e :: es) X.env = (false, eval e X.env) :: starEach es X.env := by rfl) (hplain : (backTo cpos (starEach es X.env)).any (·.1) = false := by rfl) :
    PE X (.Call (.Attribute ob name apos) (e :: es) [] cpos) (LE (bx X) G (wMeth ty o te ta)) :=
  PE.wk (pe_bmG pa slot hty mtAny ho ha hbase hfew hline hs hplain) fun _ _ _ h => liftM hm h
theorem te_meth0 {ob : Expr} {te : WE} {name : Str} {apos cpos : Pos} {ty id : String} {o : WM} (pa : PlainAttrs ty) (slot : Slot ty name id) (hty : typeOf (.builtin id) = pure (.type "method_descriptor")) (hm : OpM X G id o) (ho : PE X ob (LE (bx X) G te))
    (hbase : attributeBase ob name X.env (eval ob X.env) = eval ob X.env := by rfl) (hline : (apos.endLine == cpos.line) = true := by rfl) :
    PE X (.Call (.Attribute ob name apos) [] [] cpos) (LE (bx X) G (wMeth ty o te wNilR)) :=
  PE.wk (pe_bmG0 pa slot hty mtAny ho hbase hline) fun σ H Q h => by
    obtain ⟨ρ, F, Q', R, ht, k⟩ := liftM hm h
    exact ⟨ρ, F, Q', R, ht, fun v H1 ρ1 F1 r R1 s1 rr q1 => by
      obtain ⟨t1, ρ2, F2, Q2, R2, q2, k2⟩ := k v H1 ρ1 F1 r R1 s1 rr q1
      exact ⟨t1, k2 [] H1 ρ2 F2 [] R2 Sub.refl .nil q2⟩⟩

/-! ### index -/
def findT (ys : List T) (y : T) : Option Nat := ys.findIdx? fun z => eqT z y
@[simp] def oIndexL : WM := fun x xs Q => match x, xs with
  | .lst ys, [y] => ys.all (T.fit 59) = true ∧ T.fit 59 y = true ∧ ∃ j, findT ys y = some j ∧ Q (.int (j : Nat))
  | _, _ => False
@[simp] def oIndexT : WM := fun x xs Q => match x, xs with
  | .tup ys, [y] => ys.all (T.fit 59) = true ∧ T.fit 59 y = true ∧ ∃ j, findT ys y = some j ∧ Q (.int (j : Nat))
  | _, _ => False
theorem toDs_get (ys : List T) (m : Nat) : (ys.map T.toD)[m]? = (ys[m]?).map T.toD := List.getElem?_map
theorem findT_spec {ys : List T} {y : T} {j : Nat} (h : findT ys y = some j) : (∃ z, ys[j]? = some z ∧ eqT z y = true) ∧ ∀ (m : Nat) (z : T), m < j → ys[m]? = some z → eqT z y = false := by
  obtain ⟨hj, he, hn⟩ := List.findIdx?_eq_some_iff_getElem.mp h
  refine ⟨⟨ys[j], List.getElem?_eq_getElem hj, he⟩, fun m z hm e => ?_⟩
  obtain ⟨hm', e'⟩ := List.getElem?_eq_some_iff.mp e
  have := hn m hm
  rw [e'] at this
  simpa using this
theorem om_index_l {k : Nat} (hr : Room k X.A) : OpM X G "list.index" oIndexL := by
  intro σ H ρ F v x vs xs Q' Q R cx cxs q k
  unfold oIndexL at q
  split at q
  · rename_i ys y
    obtain ⟨f1, f2, j, ej, q⟩ := q
    obtain ⟨u, rfl, cy⟩ := cxs.one
    obtain ⟨⟨z, ez, hz⟩, hn⟩ := findT_spec ej
    have cx' := cx
    obtain ⟨p, us, rfl, hp, rv⟩ := cx'
    have d1 := (cx.rp R.subH).dp 60 (by rw [fit_lst]; exact f1)
    have d2 := (cy.rp R.subH).dp 59 f2
    rw [toD_lst] at d1
    have sh1 : SeqAt.shaped (.list (ys.map T.toD)) = true := by
      have := fit_shaped (n := 60) (t := .lst ys) (by rw [fit_lst]; exact f1) (by decide)
      rw [toD_lst] at this
      exact this
    have hu : X.A.units + 65 < cLine := by have := hr.un; omega
    refine mOf (mt_indexD hu) ⟨p, u, y.toD, ys.map T.toD, j, z.toD, rfl, rfl, d1, d2, sh1, fit_shaped f2 (by decide), by rw [toDs_get, ez]; rfl, hz, fun m z' hm e => ?_, k _ H F _ R Sub.refl (.int _) q⟩
    rw [toDs_get] at e
    obtain ⟨z0, e0, rfl⟩ := Option.map_eq_some_iff.mp e
    exact hn m z0 hm e0
  · exact q.elim
theorem om_index_t {k : Nat} (hr : Room k X.A) : OpM X G "tuple.index" oIndexT := by
  intro σ H ρ F v x vs xs Q' Q R cx cxs q k
  unfold oIndexT at q
  split at q
  · rename_i ys y
    obtain ⟨f1, f2, j, ej, q⟩ := q
    obtain ⟨u, rfl, cy⟩ := cxs.one
    obtain ⟨⟨z, ez, hz⟩, hn⟩ := findT_spec ej
    obtain ⟨p, us, rfl, hp, rv⟩ := cx.tup
    have d2 := (cy.rp R.subH).dp 59 f2
    have hu : X.A.units + 65 < cLine := by have := hr.un; omega
    have fin := k (.int ((j : Nat) : Int)) H F _ R Sub.refl (.int _) q
    intro pins s σ' v us' I rx rxs
    obtain rfl : v = Value.ref p := rx
    obtain ⟨uy, rfl, ry⟩ := vals1 rxs
    obtain ⟨its, rv', ⟨⟨cls, dd, data, sls⟩, ho, hc, n, hdt⟩, hz'⟩ := I.tuple (R.subH.sqT hp)
    simp only at hc hdt
    subst hc hdt
    obtain ⟨bs, r1⟩ := Dp.reads I y.toD u uy d2 ry
    obtain ⟨as, h4⟩ := Dp.readsAll I (ys.map T.toD) us its (by rw [← toDs_map]; exact RpAll.dp 59 (rv.mono R.subH) (by rw [fits_all]; exact f1)) rv'
    have hxs : PyData.canLayAll0 (ys.map T.toD) = true := by
      have := (fits_lay 59 ys (by rw [fits_all]; exact f1)).1
      rwa [toDs_map] at this
    have hroom : X.A.units + 1 + min (PyData.depthAll (ys.map T.toD)) y.toD.depth < cLine := room_in_shaped (fit_shaped f2 (by decide)) hu
    have hn1 : its.length = (ys.map T.toD).length := SeqAt.ReadsAll.length _ its as h4
    have hmap : its.map (SeqAt.readOf s.heap) = ys.map T.toD := SeqAt.readsAll_map _ its as hxs h4
    obtain ⟨hjd, _⟩ := List.getElem?_eq_some_iff.mp ez
    have hjl : j < its.length := by rw [hn1, List.length_map]; exact hjd
    have at_ : ∀ (m : Nat) (hm : m < its.toArray.size) (z' : T), ys[m]? = some z' → SeqAt.readOf s.heap its.toArray[m] = z'.toD := by
      intro m hm z' hz'
      have hml : m < its.length := by simpa using hm
      have e0 := toDs_get ys m
      rw [← hmap, List.getElem?_map, List.getElem?_eq_getElem hml, hz'] at e0
      have e1 : SeqAt.readOf s.heap its[m] = z'.toD := Option.some.inj e0
      simpa using e1
    have items := SeqAt.items_eqAt (vs := its.toArray) (show ReadsAll s.heap its.toArray.toList (ys.map T.toD) as from h4) r1 hxs (SeqAt.canLay_of_shaped (fit_shaped f2 (by decide))) hroom
    refine call_meets PySem.F.slot_tuple_index ⟨_, ho, rfl⟩ PySem.F.entry_tuple_index (PySem.F.args_tuple_index_2 _ _)
      (PySem.SeqAt.tuple_index2_found p its.toArray n dd sls uy (fun m => match ys[m]? with | some z' => eqT z' y | none => false) j (by simpa using hjl) (Nat.zero_le _) (by simpa using hjl) ?_ ?_) ⟨ho, fun m hm => ?_, ?_⟩
    · simp only [ez]
      exact hz
    · intro m hm _ hmj
      have hmy : m < ys.length := by omega
      simp only [List.getElem?_eq_getElem hmy]
      exact hn m _ hmj (List.getElem?_eq_getElem hmy)
    · have hmy : m < ys.length := by
        have : m < its.length := by simpa using hm
        rw [hn1, List.length_map] at this
        exact this
      have e2 := items its.toArray[m] (Array.getElem_mem hm)
      rw [at_ m hm _ (List.getElem?_eq_getElem hmy)] at e2
      simp only [List.getElem?_eq_getElem hmy]
      exact e2
    · exact ⟨.int (j : Nat), H, I.tok _, ⟨_, rfl⟩, fin⟩
  · exact q.elim
def wEi (t u : WE) : WE := fun ρ Q => t ρ Q ∨ u ρ Q
@[simp] theorem wEi_s (t u : WE) (s_ : S) (r_ : List S) (Q_ : _) : wEi t u (s_ :: r_) Q_ = (fun ρ Q => t ρ Q ∨ u ρ Q) (s_ :: r_) Q_ := rfl
theorem te_either {e : Expr} {t u : WE} (h : PE X e (LE (bx X) G t)) (h' : PE X e (LE (bx X) G u)) : PE X e (LE (bx X) G (wEi t u)) :=
  PE.wk (PE.or h h') fun σ H Q ⟨ρ, F, Q', R, ht, k⟩ => ht.elim (fun q => .inl ⟨ρ, F, Q', R, q, k⟩) fun q => .inr ⟨ρ, F, Q', R, q, k⟩
def wIndex (te : WE) (ta : WR) : WE := wEi (wMeth "list" oIndexL te ta) (wMeth "tuple" oIndexT te ta)
@[simp] theorem wIndex_s (te : WE) (ta : WR) (s_ : S) (r_ : List S) (Q_ : _) : wIndex te ta (s_ :: r_) Q_ = (wEi (wMeth "list" oIndexL te ta) (wMeth "tuple" oIndexT te ta)) (s_ :: r_) Q_ := rfl
theorem te_index {k : Nat} {ob e : Expr} {te : WE} {ta : WR} {apos cpos : Pos} (hr : Room k X.A) (ho : PE X ob (LE (bx X) G te)) (ha : PA X [e] (LR (bx X) G ta))
    (hbase : attributeBase ob "index" X.env (eval ob X.env) = eval ob X.env := by rfl)
    (hfew : ((backTo cpos (starEach [e] X.env)).all (fun x => !x.1) && (backToKw cpos (keywordEach [] X.env)).all (fun x => x.1.isSome)
      && decide (([e] : List Expr).length + ([] : List Keyword).length + (if ([] : List Keyword).isEmpty then 0 else 1) < 30)) = true := by rfl)
    (hline : (apos.endLine == cpos.line) = true := by rfl) (hs : starEach [e] X.env = (false, eval e X.env) :: starEach [] X.env := by rfl) (hplain : (backTo cpos (starEach [] X.env)).any (·.1) = false := by rfl) :
    PE X (.Call (.Attribute ob "index" apos) [e] [] cpos) (LE (bx X) G (wIndex te ta)) :=
  te_either (te_meth PySem.F.plainAttrs_list PySem.F.slot_list_index PySem.F.type_list_index (om_index_l hr) ho ha hbase hfew hline hs hplain)
    (te_meth PySem.F.plainAttrs_tuple PySem.F.slot_tuple_index PySem.F.type_tuple_index (om_index_t hr) ho ha hbase hfew hline hs hplain)

/-! ### methods whose arguments are kept -/
def OpMA (X : Cx) (G : Fc) (id : String) (o : WM) : Prop := ∀ (σ : L2.St) (H : Hp) (ρ : List S) (F : Hp) (v : V) (x : T) (vs : List V) (xs : List T) (Q' : T → Prop) (Q : VK), Rel (bx X) G σ H ρ F → Ct (bx X) F H v x → RpAll (bx X) F vs xs → o x xs Q' →
  (∀ w H' F' z, Rel (bx X) G σ H' ρ F' → Sub F F' → Rp (bx X) F' w z → Q' z → Q w H') → mAny X id v vs H Q
def wMethA (ty : String) (o : WM) (te : WE) (ta : WA) : WE := fun ρ Q => te ρ fun r ρ1 => (∃ x, res ρ1 r = some x ∧ tyT ty x = true) ∧ ta ρ1 fun xs ρ2 => ∃ x, res ρ2 r = some x ∧ o x xs fun z => Q (.v z) ρ2
@[simp] theorem wMethA_s (ty : String) (o : WM) (te : WE) (ta : WA) (s_ : S) (r_ : List S) (Q_ : _) : wMethA ty o te ta (s_ :: r_) Q_ = (fun ρ Q => te ρ fun r ρ1 => (∃ x, res ρ1 r = some x ∧ tyT ty x = true) ∧ ta ρ1 fun xs ρ2 => ∃ x, res ρ2 r = some x ∧ o x xs fun z => Q (.v z) ρ2) (s_ :: r_) Q_ := rfl
theorem liftMA {ty id : String} {o : WM} {te : WE} {ta : WA} (ho : OpMA X G id o) {σ : L2.St} {H : Hp} {Q : VK} (h : LE (bx X) G (wMethA ty o te ta) σ H Q) : tBMG X ty (mAny X id) (LE (bx X) G te) (LA (bx X) G ta) σ H Q := by
  obtain ⟨ρ, F, Q', R, ht, k⟩ := h
  refine ⟨ρ, F, _, R, ht, fun v H1 ρ1 F1 r R1 s1 rr ⟨⟨x, ex, tx⟩, q1⟩ => ⟨tyR_rd (R1.ct rr ex) R1.subH tx, ρ1, F1, _, R1, q1, fun vs H2 ρ2 F2 xs R2 s2 rrs ⟨x, e1, q2⟩ => ?_⟩⟩
  exact ho σ H2 ρ2 F2 v x vs xs _ Q R2 (R2.ct (rr.mono s2) e1) rrs q2 fun w H' F' z R3 s3 rz qz => k w H' ρ2 F' (.v z) R3 (s1.trans (s2.trans s3)) rz qz
theorem te_methA {ob e : Expr} {es : List Expr} {te : WE} {ta : WA} {name : Str} {apos cpos : Pos} {ty id : String} {o : WM} (pa : PlainAttrs ty) (slot : Slot ty name id) (hty : typeOf (.builtin id) = pure (.type "method_descriptor")) (hm : OpMA X G id o) (ho : PE X ob (LE (bx X) G te)) (ha : PA X (e :: es) (LA (bx X) G ta))
    (hbase : attributeBase ob name X.env (eval ob X.env) = eval ob X.env := by rfl)
    (hfew : ((backTo cpos (starEach (e :: es) X.env)).all (fun x => !x.1) && (backToKw cpos (keywordEach [] X.env)).all (fun x => x.1.isSome)
      && decide ((e :: es).length + ([] : List Keyword).length + (if ([] : List Keyword).isEmpty then 0 else 1) < 30)) = true := by rfl)
    (hline : (apos.endLine == cpos.line) = true := by rfl) (hs : starEach (e :: es) X.env = (false, eval e X.env) :: starEach es X.env := by rfl) (hplain : (backTo cpos (starEach es X.env)).any (·.1) = false := by rfl) :
    PE X (.Call (.Attribute ob name apos) (e :: es) [] cpos) (LE (bx X) G (wMethA ty o te ta)) :=
  PE.wk (pe_bmG pa slot hty mtAny ho ha hbase hfew hline hs hplain) fun _ _ _ h => liftMA hm h

/-! ### d.get(k), d.get(k, x) -/
@[simp] def oGet : WM := fun x xs Q => match x, xs with
  | .dic m kvs, [y] => keyB m y = true ∧ Q ((look kvs y).getD .non)
  | .dic m kvs, [y, z] => keyB m y = true ∧ Q ((look kvs y).getD z)
  | _, _ => False
theorem om_get {k : Nat} (hr : Room k X.A) : OpMA X G "dict.get" oGet := by
  intro σ H ρ F v x vs xs Q' Q R cx cxs q kk
  have hu : X.A.units + 1 < cLine := by have := hr.un; omega
  unfold oGet at q
  split at q
  · rename_i m kvs y
    obtain ⟨ky, q⟩ := q
    obtain ⟨p, rfl, dd⟩ := cx
    obtain ⟨vy, rfl, ry⟩ := cxs.one
    cases m with
    | flat =>
      obtain ⟨l, e, r⟩ := dd
      obtain ⟨k', rfl⟩ := isFlat_key ky
      obtain rfl := kT_rp ry
      intro pins s σ' v us I rx rxs
      obtain rfl : v = Value.ref p := rx
      obtain ⟨uy, rfl, ruy⟩ := vals1 rxs
      rcases look_flat (k := k') r with ⟨a, b⟩ | ⟨w, z, a, b, c⟩
      · rw [b] at q
        exact d_get1 hu I (dgetK (k := k') e) ruy fun w' s' I' rw' => ⟨_, H, I', rw', by rw [a]; exact kk .non H F .non R Sub.refl .non q⟩
      · rw [b] at q
        exact d_get1 hu I (dgetK (k := k') e) ruy fun w' s' I' rw' => ⟨_, H, I', rw', by rw [a]; exact kk w H F z R Sub.refl c q⟩
    | tup =>
      obtain ⟨l, e, r⟩ := dd
      unfold keyB at ky
      simp only [Bool.and_eq_true] at ky
      obtain ⟨⟨k1, k2⟩, k3⟩ := ky
      cases y with
      | tup ys =>
        obtain ⟨b, rfl⟩ : ∃ b, vy = .ref b := by
          cases ry
          exact ⟨_, rfl⟩
        intro pins s σ' v us I rx rxs
        obtain rfl : v = Value.ref p := rx
        obtain ⟨uy, rfl, ruy⟩ := vals1 rxs
        obtain rfl : uy = Value.ref b := ruy
        obtain ⟨h1, h2, zs, he, hd⟩ := dx_of I e (r.mono R.subH)
        refine get_keyed (knd := nestedKind X.prog X.w) (kvs := pairsH zs) (in1_room hr) (key_is I (ry.mono R.subH) k2) h1 ⟨zs, hd, rfl⟩ ?_
        rw [valueAt_pairsH]
        rcases look_tup k2 r he with ⟨a, b⟩ | ⟨a, u, v, z, c, d, e1, e2⟩
        · rw [b] at q
          rw [a]
          exact ⟨.non, H, I.tok _, rfl, kk .non H F .non R Sub.refl .non q⟩
        · rw [d] at q
          rw [c]
          exact ⟨v, H, I.tok _, e1, kk v H F z R Sub.refl e2 q⟩
      | _ => exact absurd (show false = true from k1) Bool.false_ne_true
  · rename_i m kvs y zz
    obtain ⟨ky, q⟩ := q
    obtain ⟨p, rfl, dd⟩ := cx
    obtain ⟨vy, vz, rfl, ry, rz⟩ := cxs.two
    cases m with
    | flat =>
      obtain ⟨l, e, r⟩ := dd
      obtain ⟨k', rfl⟩ := isFlat_key ky
      obtain rfl := kT_rp ry
      intro pins s σ' v us I rx rxs
      obtain rfl : v = Value.ref p := rx
      cases rxs with
      | cons ruy rr =>
        cases rr with
        | cons ruz rr =>
          cases rr
          rcases look_flat (k := k') r with ⟨a, b⟩ | ⟨w, z, a, b, c⟩
          · rw [b] at q
            exact d_get2 hu I (dgetK (k := k') e) ruy ruz fun w' s' I' rw' => ⟨_, H, I', rw', by rw [a]; exact kk vz H F zz R Sub.refl rz q⟩
          · rw [b] at q
            exact d_get2 hu I (dgetK (k := k') e) ruy ruz fun w' s' I' rw' => ⟨_, H, I', rw', by rw [a]; exact kk w H F z R Sub.refl c q⟩
    | tup =>
      obtain ⟨l, e, r⟩ := dd
      unfold keyB at ky
      simp only [Bool.and_eq_true] at ky
      obtain ⟨⟨k1, k2⟩, k3⟩ := ky
      cases y with
      | tup ys =>
        obtain ⟨b, rfl⟩ : ∃ b, vy = .ref b := by
          cases ry
          exact ⟨_, rfl⟩
        intro pins s σ' v us I rx rxs
        obtain rfl : v = Value.ref p := rx
        cases rxs with
        | cons ruy rr =>
          cases rr with
          | cons ruz rr =>
            cases rr
            rename_i uy uz
            obtain rfl : uy = Value.ref b := ruy
            obtain ⟨h1, h2, zs, he, hd⟩ := dx_of I e (r.mono R.subH)
            refine getOr_keyed (knd := nestedKind X.prog X.w) (kvs := pairsH zs) (in1_room hr) (key_is I (ry.mono R.subH) k2) h1 ⟨zs, hd, rfl⟩ ?_
            rw [valueAt_pairsH]
            rcases look_tup k2 r he with ⟨a, b⟩ | ⟨a, u, v, z, c, d, e1, e2⟩
            · rw [b] at q
              rw [a]
              exact ⟨vz, H, I.tok _, ruz, kk vz H F zz R Sub.refl rz q⟩
            · rw [d] at q
              rw [c]
              exact ⟨v, H, I.tok _, e1, kk v H F z R Sub.refl e2 q⟩
      | _ => exact absurd (show false = true from k1) Bool.false_ne_true
  · exact q.elim
theorem te_get {k : Nat} {ob e : Expr} {es : List Expr} {te : WE} {ta : WA} {apos cpos : Pos} (hr : Room k X.A) (ho : PE X ob (LE (bx X) G te)) (ha : PA X (e :: es) (LA (bx X) G ta))
    (hbase : attributeBase ob "get" X.env (eval ob X.env) = eval ob X.env := by rfl)
    (hfew : ((backTo cpos (starEach (e :: es) X.env)).all (fun x => !x.1) && (backToKw cpos (keywordEach [] X.env)).all (fun x => x.1.isSome)
      && decide ((e :: es).length + ([] : List Keyword).length + (if ([] : List Keyword).isEmpty then 0 else 1) < 30)) = true := by rfl)
    (hline : (apos.endLine == cpos.line) = true := by rfl) (hs : starEach (e :: es) X.env = (false, eval e X.env) :: starEach es X.env := by rfl) (hplain : (backTo cpos (starEach es X.env)).any (·.1) = false := by rfl) :
    PE X (.Call (.Attribute ob "get" apos) (e :: es) [] cpos) (LE (bx X) G (wMethA "dict" oGet te ta)) :=
  te_methA PySem.F.plainAttrs_dict PySem.F.slot_dict_get PySem.F.type_dict_get (om_get hr) ho ha hbase hfew hline hs hplain

/-! ### xs[::-1] -/
def wRev (te : WE) : WE := fun ρ Q => te ρ fun r ρ1 => ∃ xs, res ρ1 r = some (.lst xs) ∧ Q (.v (.lst xs.reverse)) ρ1
@[simp] theorem wRev_s (te : WE) (s_ : S) (r_ : List S) (Q_ : _) : wRev te (s_ :: r_) Q_ = (fun ρ Q => te ρ fun r ρ1 => ∃ xs, res ρ1 r = some (.lst xs) ∧ Q (.v (.lst xs.reverse)) ρ1) (s_ :: r_) Q_ := rfl
theorem RpAll.reverse {K : Bx} {F : Hp} : ∀ {vs : List V} {ts : List T}, RpAll K F vs ts → RpAll K F vs.reverse ts.reverse
  | _, _, .nil => .nil
  | _, _, .cons a r => by
    rw [List.reverse_cons, List.reverse_cons]
    exact (RpAll.reverse r).append (.cons a .nil)
theorem te_rev {e : Expr} {te : WE} {k : Nat} {p1 p2 p3 pos : Pos} (he : PE X e (LE (bx X) G te)) : PE X (.Subscript e (.Slice none none (some (.UnaryOp .USub (.Constant (.int 1) k p1) p2)) p3) pos) (LE (bx X) G (wRev te)) := by
  refine PE.wk (pe_revL he) fun σ H Q ⟨ρ, F, Q', R, ht, k⟩ => ⟨ρ, F, _, R, ht, fun v H1 ρ1 F1 r R1 s1 rr ⟨xs, e, q⟩ => ?_⟩
  obtain ⟨p, vs, rfl, hp, rv⟩ := R1.ct rr e
  refine ⟨p, vs, rfl, SqL.of hp, fun l nl => ?_⟩
  obtain ⟨R2, s2⟩ := R1.alloc nl (.lst vs.reverse)
  exact k _ _ ρ1 _ (.v (.lst _)) R2 (s1.trans s2) (Rp.lst upd_same (rv.reverse.mono s2)) q
end
end TL
set_option Elab.async false
set_option linter.all false
set_option maxRecDepth 100000
set_option autoImplicit false
/-! TL12: dicts stored into, displayed, made by comprehensions -/
namespace TL
open PySem PySem.Spec PyProof.Rows L2
section
variable {X : Cx}
/-- d[y] = z by a display or a comprehension, whatever the context -/
def putAny (X : Cx) (D : Addr) (y z : V) (H : Hp) (Nx : Hp → Prop) : Prop := ∀ (X' : Cx) (pins : List (Addr × Obj)) (s : Shared) (σ : L2.St) (ku vu : Value) (E : Value → Shared → Prop), X'.prog = X.prog → X'.w = X.w → X'.K = X.K → X'.A = X.A → Inv X' pins σ H s → RelV y ku → RelV z vu →
  wpAny (model X.prog X.w) X.A (dictSet D ku vu) (fun _ s' => ∃ H', Inv X' pins σ H' s' ∧ Nx H') E s
/-- what an empty dict may be told as -/
def Emp (X : Cx) (o0 : Addr → HO) : Prop := ∀ h : Heap, sysModules < h.objs.size → ∀ H' : Hp, ObjOk X.prog X.w H' (h.push { cls := .type "dict", data := .dict #[] }) h.objs.size (o0 h.objs.size)
def tDcG (X : Cx) (wi : TI) (g : TG) (tt : TT) (tk tv : TE) (vs : List Nat) : TE := fun σ H Q => wi σ H fun J H1 => ∃ o0, Emp X o0 ∧ ∀ D, H1 D = none → ∃ W : Nat → Nat → Hp → Prop, (∃ m, W 0 m (upd H1 D (o0 D))) ∧ ∀ i m H, W i m H →
  (J.stop i H ∧ Q (.ref D) H) ∨ (J.go i H ∧ ∃ Nx : Hp → Prop, (∀ H', Nx H' → ∃ m', m' < m ∧ W (i + 1) m' H') ∧ ∀ x H', J.yld i H x H' → g x (wipe σ vs) H' fun σ2 H2 => wipe σ2 vs = wipe σ vs ∧ tt σ2 H2 fun b H3 =>
    if b = true then tk σ2 H3 fun y H4 => tv σ2 H4 fun z H5 => putAny X D y z H5 Nx else Nx H3)
theorem dcG_core {pins : List (Addr × Obj)} {s : Shared} {σ : L2.St} {H : Hp} {Q : VK} {kx vx tg iter : Expr} {ifs : List Expr} {scope : Scope} {own : List (Str × Nat)} {pos pos' : Pos} {wi : TI} {g : TG} {tt : TT} {tk tv : TE} {use : Option (Value → Sem Unit)} {Qf : Value → Shared → Prop}
    (hc : X.calm = true) (hN : X.N.Nodup) (I : Inv X pins σ H s) (hi : PI X tg iter wi) (ok : BlkOk X.N X.env.scope scope own)
    (hg : ∀ (s : Shared) (H : Hp) (C : Addr) (cl : List (Str × Addr)) (fp : List Addr), PG (X.blk s H scope (compEnvC scope cl C X.env) fp) tg g) (ht : ∀ (s : Shared) (H : Hp) (C : Addr) (cl : List (Str × Addr)) (fp : List Addr), PTs (X.blk s H scope (compEnvC scope cl C X.env) fp) ifs tt)
    (hk : ∀ (s : Shared) (H : Hp) (C : Addr) (cl : List (Str × Addr)) (fp : List Addr), PE (X.blk s H scope (compEnvC scope cl C X.env) fp) kx tk)
    (he : ∀ (s : Shared) (H : Hp) (C : Addr) (cl : List (Str × Addr)) (fp : List Addr), PE (X.blk s H scope (compEnvC scope cl C X.env) fp) vx tv) (hs : ∀ x, foldedSetIterable iter X.env x = pure x)
    (h : tDcG X wi g tt tk tv (own.map (·.2)) σ H Q)
    (hRR : ∀ D C s' m H', Inv X pins σ H' s' → Q (.ref D) H' → s'.heap.Ns C m → FpOk X pins H' C → compPost (model X.prog X.w) X.A X.xe use Qf (.ref D) C (.ok .next) s') :
    wpAny (model X.prog X.w) X.A (comprehension (.DictComp kx vx [⟨tg, iter, ifs, 0⟩] scope pos) scope X.env pos' newDict false (eval iter X.env) use) Qf X.xe s := by
  have hfree : ∀ y ∈ scope.names, y.2 = .free → ∃ c, X.env.cells.lookup y.1 = some c := fun y hy e => by
    rcases ok.free y hy e with k | k
    · exact I.ok.has _ (.inl k)
    · exact I.ok.has _ (.inr k)
  refine wpAny_comprehension_free (use := use) rfl hs (closure_ok hfree) ok.kind (fun y hy e => by rw [ok.uniq y hy, e])
    (thn (hi.run pins s σ H _ I h) fun xv s1 hx => thn hx fun itv s2 h2 => ?_)
  obtain ⟨it, fp, tn, J, H2, e, I2, T, st2, f2, q⟩ := h2
  subst e
  refine wpAny_newObj_type (newEnv_comp ?_)
  generalize hD : s2.heap.objs.size = D
  have hDn : H2 D = none := I2.hok.fresh (Nat.le_of_eq hD)
  obtain ⟨o0, hem, q⟩ := q
  obtain ⟨W, ⟨m0, w0⟩, turn⟩ := q D hDn
  -- the new list
  generalize hs3 : ({ s2 with heap := s2.heap.push { cls := .type "dict", data := .dict #[] } } : Shared) = s3
  have I3 : Inv X pins σ (upd H2 D (o0 D)) s3 := by
    rw [← hs3]
    refine I2.laid (t' := s2.toks) (fun b o e => Heap.get?_push_of_some _ e) (Nat.le_of_eq hD) ?_
    rw [← hD]
    exact hem s2.heap I2.big _
  have h3 : s3.heap = s2.heap.push { cls := .type "dict", data := .dict #[] } := by rw [← hs3]
  have sz : ∀ b ∈ fp, b < s2.heap.objs.size := fun b hb => by
    obtain ⟨o, e, _⟩ := T.obj _ _ st2 b hb
    exact Heap.lt_size e
  have f3 : ∀ b ∈ fp, FpOk X pins (upd H2 D (o0 D)) b ∧ b < s3.heap.objs.size := fun b hb => by
    have hlt := sz b hb
    refine ⟨⟨?_, (f2 b hb).2⟩, by rw [h3, Heap.size_push]; exact Nat.lt_succ_of_lt hlt⟩
    rw [upd_ne (by rw [← hD]; exact Nat.ne_of_lt hlt)]
    exact (f2 b hb).1
  have st3 : tn 0 s3.heap := T.keep _ _ _ st2 fun b _ o e => by rw [h3]; exact Heap.get?_push_of_some _ e
  have I4 := block_start I3 ok hN f3
  have pg := hg s3 (upd H2 D (o0 D)) s3.heap.objs.size (cellsFrom (s3.heap.objs.size + 1) scope.names (cloFrom X.env.cells scope.names [])) fp
  have pt := ht s3 (upd H2 D (o0 D)) s3.heap.objs.size (cellsFrom (s3.heap.objs.size + 1) scope.names (cloFrom X.env.cells scope.names [])) fp
  have pk := hk s3 (upd H2 D (o0 D)) s3.heap.objs.size (cellsFrom (s3.heap.objs.size + 1) scope.names (cloFrom X.env.cells scope.names [])) fp
  have pe := he s3 (upd H2 D (o0 D)) s3.heap.objs.size (cellsFrom (s3.heap.objs.size + 1) scope.names (cloFrom X.env.cells scope.names [])) fp
  show codeAny _ _ (.compStart (.DictComp kx vx [⟨tg, iter, ifs, 0⟩] scope pos) 0 (.ref it) (.ref D) (compEnvC scope (cellsFrom (s3.heap.objs.size + 1) scope.names (cloFrom X.env.cells scope.names [])) s3.heap.objs.size X.env)) (compPost (model X.prog X.w) X.A X.xe use Qf (.ref D) s3.heap.objs.size) { s3 with heap := pushCells (s3.heap.push { cls := .type "dict", data := .dict #[] }) scope.names }
  have nfp : ∀ b ∈ fp, (upd H2 D (o0 D)) b = none := fun b hb => (f3 b hb).1.1
  generalize hce : compEnvC scope (cellsFrom (s3.heap.objs.size + 1) scope.names (cloFrom X.env.cells scope.names [])) s3.heap.objs.size X.env = ce at I4 pg pt pk pe ⊢
  have cL : ce.locals = s3.heap.objs.size := by subst hce; rfl
  generalize hH3 : upd H2 D (o0 D) = H3 at I3 I4 pg pt pk pe w0 nfp f3
  generalize hs4 : ({ s3 with heap := pushCells (s3.heap.push { cls := .type "dict", data := .dict #[] }) scope.names } : Shared) = s4 at I4 ⊢
  have st4 : tn 0 s4.heap := T.keep _ _ _ st3 fun b _ o e => by rw [← hs4]; exact pushCells_keeps _ _ _ _ (Heap.get?_push_of_some _ e)
  have stat : ∀ {σ' : L2.St} {H' : Hp} {s' : Shared}, Inv (X.blk s3 H3 scope ce fp) [] σ' H' s' → (∀ b ∈ fp, H' b = none) → ∀ b ∈ fp, FpOk (X.blk s3 H3 scope ce fp) [] H' b := fun {σ' H' s'} I' hn b hb =>
    ⟨hn b hb, (I'.ok.exf b hb).1, I'.ok.exfs b hb, .inl hb, fun x c e => (I'.ok.exf b hb).2 x c e, fun p hp => absurd (show p ∈ ([] : List (Addr × Obj)) ++ [] from hp) (by simp)⟩
  have loop : codeAny (model X.prog X.w) X.A (.compLoop (.DictComp kx vx [⟨tg, iter, ifs, 0⟩] scope pos) 0 (.ref it) (.ref D) ce) (compPost (model X.prog X.w) X.A X.xe use Qf (.ref D) s3.heap.objs.size) s4 := by
    refine compLoop_anyD (fun n s' => ∃ i H', Inv (X.blk s3 H3 scope ce fp) [] (wipe σ (own.map (·.2))) H' s' ∧ tn i s'.heap ∧ (∀ b ∈ fp, H' b = none) ∧ W i n H') ?_ m0 ⟨0, H3, I4, st4, nfp, w0⟩
    rintro n s5 ⟨i, H5, I5, st5, n5, w5⟩
    rcases turn i n H5 w5 with ⟨stop, qq⟩ | ⟨go, Nx, hNx, step⟩
    · have td := T.done (X.blk s3 H3 scope ce fp) rfl rfl rfl hc i [] s5 _ H5 (fun _ _ => False) I5 (stat I5 n5) st5 stop
      refine thnF td fun r s6 ⟨hr, I6⟩ => ?_
      subst hr
      -- back in the def's context
      have I7 : Inv X pins σ H5 s6 := I3.call' (ch := fp) I6.os I6.base I6.hok I6.bare fun b hb => ⟨(f3 b hb).1.2.2.2.1, (f3 b hb).1.2.1, (f3 b hb).1.2.2.2.2.1, (f3 b hb).1.2.2.2.2.2⟩
      have nC : H5 s3.heap.objs.size = none := by
        have z : H5 ce.locals = none := I6.free
        rw [cL] at z
        exact z
      obtain ⟨m, hn, _⟩ := I6.loc
      have hn : s6.heap.Ns ce.locals m := hn
      rw [cL] at hn
      exact hRR D s3.heap.objs.size s6 m H5 I7 qq hn (I3.fpOk (Nat.le_refl _) nC)
    · have ti := T.item (X.blk s3 H3 scope ce fp) rfl rfl rfl hc i [] s5 _ H5 (fun _ _ => False) I5 (stat I5 n5) st5 go
      refine thnF ti fun r s6 ⟨u, hr, h6⟩ => ?_
      subst hr
      refine thnF h6 fun _ s7 ⟨x, H7, I7, r7, y7, st7, n7⟩ => ?_
      have I7' := I7.pinned (stat I7 n7) (T.obj _ _ st7)
      refine thnF (pg.run _ s7 _ H7 x u _ I7' r7 (step x H7 y7)) fun _ s8 ⟨σ8, H8, I8, hw8, q8⟩ => ?_
      refine thnF (pt.run _ s8 σ8 H8 _ I8 q8) fun b s9 ⟨H9, I9, q9⟩ => ?_
      -- the turn's end
      have fin : ∀ {s' : Shared} {H' : Hp}, Inv (X.blk s3 H3 scope ce fp) ([] ++ pinsAt fp s7.heap) σ8 H' s' → Nx H' → ∃ m, m < n ∧ ∃ i H', Inv (X.blk s3 H3 scope ce fp) [] (wipe σ (own.map (·.2))) H' s' ∧ tn i s'.heap ∧ (∀ b ∈ fp, H' b = none) ∧ W i m H' := fun {s' H'} I' nx => by
        obtain ⟨m', hm, w'⟩ := hNx H' nx
        have pin' : ∀ b ∈ fp, ∀ o, s7.heap.get? b = some o → s'.heap.get? b = some o ∧ H' b = none := fun b hb o e =>
          let z := I'.pin (b, o) (List.mem_append_right _ (List.mem_append_right _ (mem_pinsAt hb e)))
          ⟨z.1, z.2.1⟩
        have hl : (wipe σ (own.map (·.2))).length = σ8.length := by rw [← hw8, wipe_length]
        refine ⟨m', hm, i + 1, H', (I'.unpinned (pins := [])).weak hl (fun j v e => ?_), T.keep _ _ _ st7 fun b hb o e => (pin' b hb o e).1, fun b hb => ?_, w'⟩
        · rw [← hw8] at e
          exact (wipe_some e).1
        · obtain ⟨o, e, _⟩ := T.obj _ _ st7 b hb
          exact (pin' b hb o e).2
      cases b with
      | false =>
        simp only [Bool.false_eq_true, if_false] at q9 ⊢
        exact fin I9 q9
      | true =>
        simp only [if_true] at q9 ⊢
        refine thnF (pk.run _ s9 σ8 H9 _ I9 q9) fun z s10 ⟨yk, H10, I10, r10, q10⟩ => ?_
        refine thnF (pe.run _ s10 σ8 H10 _ I10 q10) fun z2 s11 ⟨yv, H11, I11, r11, put⟩ => ?_
        exact thnF (put (X.blk s3 H3 scope ce fp) _ s11 σ8 _ _ _ rfl rfl rfl rfl I11 r10 r11) fun _ s12 ⟨H12, I12, nx⟩ => fin I12 nx
  exact codeAny_compStart_dict loop (T.self X.A 0 _ _ _ st4 loop)
/-- as a value -/
theorem pe_dcG {kx vx tg iter : Expr} {ifs : List Expr} {scope : Scope} {own : List (Str × Nat)} {pos : Pos} {wi : TI} {g : TG} {tt : TT} {tk tv : TE} (hc : X.calm = true) (hN : X.N.Nodup) (hi : PI X tg iter wi) (ok : BlkOk X.N X.env.scope scope own)
    (hg : ∀ (s : Shared) (H : Hp) (C : Addr) (cl : List (Str × Addr)) (fp : List Addr), PG (X.blk s H scope (compEnvC scope cl C X.env) fp) tg g) (ht : ∀ (s : Shared) (H : Hp) (C : Addr) (cl : List (Str × Addr)) (fp : List Addr), PTs (X.blk s H scope (compEnvC scope cl C X.env) fp) ifs tt)
    (hk : ∀ (s : Shared) (H : Hp) (C : Addr) (cl : List (Str × Addr)) (fp : List Addr), PE (X.blk s H scope (compEnvC scope cl C X.env) fp) kx tk)
    (he : ∀ (s : Shared) (H : Hp) (C : Addr) (cl : List (Str × Addr)) (fp : List Addr), PE (X.blk s H scope (compEnvC scope cl C X.env) fp) vx tv) (hs : ∀ x, foldedSetIterable iter X.env x = pure x := by intro _; rfl) :
    PE X (.DictComp kx vx [⟨tg, iter, ifs, 0⟩] scope pos) (tDcG X wi g tt tk tv (own.map (·.2))) := by
  refine ⟨fun pins s σ H Q I h => ?_⟩
  rw [arm_eval_DictComp]
  refine dcG_core hc hN I hi ok hg ht hk he hs h fun D C s' m H' I' q hn f => ⟨m, hn, fun h'' sb => ?_⟩
  obtain ⟨f0, f1, f2, f3, f4, f5⟩ := f
  exact ⟨.ref D, H', I'.turned (t' := s'.toks) (fun b o hb e => (sb.2 b hb).trans e) f0 f1 f3 f4 f5, rfl, q⟩
end
end TL
set_option Elab.async false
set_option linter.all false
set_option maxRecDepth 100000
set_option autoImplicit false
/-! TL13: dicts over trees: stores, displays, comprehensions -/
namespace TL
open PySem PySem.Spec PyProof.Rows L2
section
variable {X : Cx} {G : Fc}
/-! ### x[k] = v -/
def tSetAny (X : Cx) : TSet := fun o i v H Q => ∀ (pins : List (Addr × Obj)) (s : Shared) (σ : L2.St) (ov iv u : Value), Inv X pins σ H s → RelV o ov → RelV i iv → RelV v u → wpAny (model X.prog X.w) X.A (setItem ov iv u) (fun _ s' => ∃ H', Inv X pins σ H' s' ∧ Q H') X.xe s
theorem psAny : PSet X (tSetAny X) := fun pins s σ H o i v ov iv u Q I ro ri rv h => h pins s σ ov iv u I ro ri rv
def wPut (i : Nat) (tk te : WE) : WS := fun D ρ => te ρ fun r ρ1 => frz r ρ1 fun v ρ2 => (∃ s, ρ2[i]? = some s ∧ s.isOwn = true) ∧ tk ρ2 fun rk ρ3 => frz rk ρ3 fun kx ρ4 => match ρ4[i]? with
  | some (.od m kvs) => keyB m kx = true ∧ kvs.length < sizeLine ∧ D.nx (ρ4.set i (.od m (putT kvs kx v)))
  | some (.ol xs) => ∃ (n : Int) (j : Nat), kx = .int n ∧ ixN xs.length n = some j ∧ D.nx (ρ4.set i (.ol (xs.set j v)))
  | _ => False
@[simp] theorem wPut_s (i : Nat) (tk te : WE) (D_ : ED) (s_ : S) (r_ : List S) : wPut i tk te D_ (s_ :: r_) = (fun D ρ => te ρ fun r ρ1 => frz r ρ1 fun v ρ2 => (∃ s, ρ2[i]? = some s ∧ s.isOwn = true) ∧ tk ρ2 fun rk ρ3 => frz rk ρ3 fun kx ρ4 => match ρ4[i]? with
  | some (.od m kvs) => keyB m kx = true ∧ kvs.length < sizeLine ∧ D.nx (ρ4.set i (.od m (putT kvs kx v)))
  | some (.ol xs) => ∃ (n : Int) (j : Nat), kx = .int n ∧ ixN xs.length n = some j ∧ D.nx (ρ4.set i (.ol (xs.set j v)))
  | _ => False) D_ (s_ :: r_) := rfl
theorem SlotOk.ref {K : Bx} {F H : Hp} {o : Option (Option V)} {s : S} (h : SlotOk K G F H o s) (w : s.isOwn = true) : ∃ p, o = some (some (.ref p)) := by
  cases s with
  | no => cases w
  | gh k => cases w
  | d t => cases w
  | ol xs =>
    obtain ⟨p, vs, e, _⟩ := h
    exact ⟨p, e⟩
  | od m kvs =>
    obtain ⟨p, e, _⟩ := h
    exact ⟨p, e⟩
theorem ts_put {k i : Nat} {x : Str} {e ix : Expr} {tk te : WE} {px spos pos : Pos} (hr : Room k X.A) (hN : X.N[i]? = some x) (hv : Vis X.env.scope x) (he : PE X e (LE (bx X) G te)) (hk : PE X ix (LE (bx X) G tk)) (hd : (x == ("__debug__" : Str)) = false := by decide) (hcd : (x == ("__classdict__" : Str)) = false := by decide)
    (ha : ∀ v, assign (.Subscript (.Name x px) ix spos) X.env v = (do
      let ov ← holding [v] (eval (.Name x px) X.env)
      let iv ← holding [v, ov] (eval ix X.env)
      standAt spos
      holding [v, ov, iv] (setItem ov iv v)
      release [v, ov, iv] []) := by intro _; rfl)
    (hs : swapsWithSole [.Subscript (.Name x px) ix spos] e pos.line X.env = pure false := by rfl) (hw : swappedStores [.Subscript (.Name x px) ix spos] e X.env = pure none := by rfl)
    (h1 : (assignEach [.Subscript (.Name x px) ix spos] X.env).map (·.2) = [assign (.Subscript (.Name x px) ix spos) X.env] := by rfl) :
    PS X (.Assign [.Subscript (.Name x px) ix spos] e pos) (LS (bx X) G (wPut i tk te)) := by
  refine PS.wk (ps_asg he (pg_sub (pe_var hN hv hd hcd) hk psAny ha) hs hw h1) fun D σ H ⟨ρ, F, D', R, ht, k1, _⟩ => ?_
  refine ⟨ρ, F, _, R, ht, fun v H1 ρ1 F1 r R1 s1 rr q1 => ?_⟩
  obtain ⟨ρ2, F2, xv, R2, s2, rv, ⟨s0, es0, ow0⟩, q2⟩ := R1.frzOk rr q1
  obtain ⟨p, ep⟩ := (R2.slot i s0 es0).ref ow0
  refine ⟨.ref p, ep, ρ2, F2, _, R2, q2, fun kv H3 ρ3 F3 rk R3 s3 rrk q3 => ?_⟩
  obtain ⟨ρ4, F4, kx, R4, s4, rkx, q4⟩ := R3.frzOk rrk q3
  intro pins s σ' ov iv u I ro ri ru
  obtain rfl : ov = Value.ref p := ro
  cases es : ρ4[i]? with
  | none =>
    simp only [es] at q4
  | some sl =>
    have z := R4.slot i sl es
    simp only [es] at q4
    cases sl with
    | no => exact q4.elim
    | gh k => exact q4.elim
    | d t => exact q4.elim
    | ol xs =>
      obtain ⟨n, j, rfl, ej, q5⟩ := q4
      obtain ⟨p', vs, e', ow, hp, rvs⟩ := z
      rw [ep] at e'
      cases e'
      cases rkx
      have ok : SlotOk (bx X) G F4 (upd H3 p (.lst (vs.set j v))) σ[i]? (.ol (xs.set j xv)) := ⟨p, _, ep, ⟨ow.f, ow.h0, ow.w⟩, upd_same, rvs.set (rv.mono (s3.trans s4)) j⟩
      exact set_list pins s σ' H3 (.ref p) (.int n) v (.ref p) iv u _ I rfl ri ru ⟨p, vs, n, j, rfl, rfl, hp, by rw [rvs.length]; exact ej, k1 σ _ _ F4 (R4.mut es rfl ep rfl ok) (s1.trans (s2.trans (s3.trans s4))) q5⟩
    | od m kvs =>
      obtain ⟨ky, hl, q5⟩ := q4
      obtain ⟨p', e', ow, dd⟩ := z
      rw [ep] at e'
      cases e'
      refine dat_put hr I R4.subH dd ky hl rkx (rv.mono (s3.trans s4)) ri ru ow.f fun o s' I' dd' => ⟨_, I', ?_⟩
      have ok : SlotOk (bx X) G F4 (upd H3 p o) σ[i]? (.od m (putT kvs kx xv)) := ⟨p, ep, ⟨ow.f, ow.h0, ow.w⟩, dd'⟩
      exact k1 σ _ _ F4 (R4.mut es rfl ep rfl ok) (s1.trans (s2.trans (s3.trans s4))) q5

/-! ### a new dict under way -/
def emO (P : Program) (w : World) (m : DK) (p : Addr) : HO := match m with
  | .flat => .dK []
  | .tup => DxO P w p []
theorem emp_of (m : DK) : Emp X (emO X.prog X.w m) := fun h hs H' => by
  cases m with
  | flat => exact dk_empty h hs
  | tup => exact dx_empty _ _ h hs H'
theorem emO_at {F H : Hp} {p : Addr} (m : DK) (e : H p = some (emO X.prog X.w m p)) : DAt (bx X) F H p m [] := by
  cases m with
  | flat => exact ⟨[], e, .nil⟩
  | tup => exact ⟨[], e, .nil⟩
theorem dat_set {k : Nat} (hr : Room k X.A) {X' : Cx} (hp : X'.prog = X.prog) (hw : X'.w = X.w) (hK : X'.K = X.K) (hA : X'.A = X.A) {pins : List (Addr × Obj)} {s : Shared} {σ : L2.St} {H F : Hp} (I : Inv X' pins σ H s) (sub : Sub F H) {p : Addr} {m : DK} {kvs : List (T × T)} {y x : T} {v w : V} {u uw : Value} (h : DAt (bx X) F H p m kvs) (ky : keyB m y = true) (hl : kvs.length < sizeLine) (ry : Rp (bx X) F v y) (rx : Rp (bx X) F w x) (ru : RelV v u) (rw' : RelV w uw)
    {Q : Unit → Shared → Prop} {E : Value → Shared → Prop} (q : ∀ o s', Inv X' pins σ (upd H p o) s' → DAt (bx X) F (upd H p o) p m (putT kvs y x) → Q () s') : wpAny (model X.prog X.w) X.A (dictSet p u uw) Q E s := by
  obtain ⟨P, w0, K0, mg, base, A0, N, s0, H0, env, outer, stack, ex, fn, calm, pn, xe⟩ := X'
  simp only at hp hw hK hA
  subst hp hw hK hA
  cases m with
  | flat =>
    obtain ⟨l, e, r⟩ := h
    obtain ⟨k', rfl⟩ := isFlat_key ky
    obtain rfl := kT_rp ry
    have el : l.length = kvs.length := by have := r.length; rw [List.length_map] at this; exact this
    exact d_dictSet (X := ⟨X.prog, X.w, X.K, mg, base, X.A, N, s0, H0, env, outer, stack, ex, fn, calm, pn, xe⟩) I e (by omega) ru rw' fun s' I' => q _ s' I' ⟨_, upd_same, r.put rx⟩
  | tup =>
    obtain ⟨l, e, r⟩ := h
    unfold keyB at ky
    simp only [Bool.and_eq_true] at ky
    obtain ⟨⟨k1, k2⟩, k3⟩ := ky
    cases y with
    | tup ys =>
      obtain ⟨b, rfl⟩ : ∃ b, v = .ref b := by
        cases ry
        exact ⟨_, rfl⟩
      obtain rfl : u = Value.ref b := ru
      have e' : H p = some (DxO X.prog X.w p l) := e
      obtain ⟨h1, h2, zs, he, hd⟩ := dx_of I (.inl e') (r.mono sub)
      have ez : zs.length = l.length := (Paired.length he).symm
      have el := r.length
      have el2 := putT_length kvs (.tup ys) x
      have er := (r.put k1 k2 ry rx).length
      have hroom : X.A.units + 8 < cLine := by have := hr.un; omega
      refine wpAny_dictSet_heap (knd := nestedKind X.prog X.w) (hsz := by omega) hroom (key_is I (ry.mono sub) k2) hd fun h' dd' hs => ?_
      obtain ⟨o, es, ep, ho, hx, hdt, hes, _, hn⟩ := dd'
      have new : ∀ H' : Hp, ObjOk X.prog X.w H' h' p (DxO X.prog X.w p (putX l (nk (.tup ys)) b w)) := fun H' => by
        refine ⟨⟨h1, by omega, _, o, es, ep, he.put rw', ho, hx, hdt, hes, hn⟩, ⟨o, ho⟩, fun ha hb hf hk => ?_⟩
        obtain ⟨f1, f2, ys', o', es', ep', g1, g2, g3⟩ := hf
        exact ⟨f1, f2, ys', o', es', ep', g1, hk _ g2, g3⟩
      exact q _ _ (d_write I (by rw [e']; exact True.intro) hs ⟨o, ho⟩ (new _)) ⟨_, upd_same, r.put k1 k2 ry rx⟩
    | _ => exact absurd (show false = true from k1) Bool.false_ne_true
/-- a dict that is pinned, its object some -/
def PinD (K : Bx) (G : Fc) (σ : L2.St) (H : Hp) (ρ : List S) (F : Hp) (D : Addr) (m : DK) (kvs : List (T × T)) : Prop := ∃ o, Rel K (G.pin ((D, o) :: G.pins)) σ H ρ F ∧ DAt K F H D m kvs

/-! ### {k: v for ..} -/
def wDc (t : WI) (g : WG) (tt : WT) (tk tv : WE) (vs : List Nat) : WN := fun ρ Q => t ρ fun L ρ1 => noOwn ρ1 vs ∧ ∃ (m : DK) (P : Nat → List (T × T) → Prop), P 0 [] ∧
  (∀ i x acc, L[i]? = some x → P i acc → g x (wipeS ρ1 vs) fun ρ2 => tt ρ2 fun b ρ3 => if b = true then tk ρ3 fun rk ρ4 => frz rk ρ4 fun y ρ5 => tv ρ5 fun rv ρ6 => frz rv ρ6 fun z ρ7 =>
    (keyB m y = true ∧ acc.length < sizeLine ∧ P (i + 1) (putT acc y z)) ∧ wk ρ7 (wipeS ρ1 vs) else P (i + 1) acc ∧ wk ρ3 (wipeS ρ1 vs)) ∧
  ∀ acc, P L.length acc → Q (.od m acc) ρ1
theorem liftDc {k : Nat} (hr : Room k X.A) {t : WI} {g : WG} {tt : WT} {tk tv : WE} {vs is : List Nat} (his : ∀ i ∈ is, i ∈ vs) {σ : L2.St} {H : Hp} {Q : VK} (h : LN (bx X) G (wDc t g tt tk tv vs) σ H Q) :
    tDcG X (LI (bx X) G t) (xG (bx X) G is g) (xT (bx X) G tt) (xE (bx X) G tk) (xE (bx X) G tv) vs σ H Q := by
  obtain ⟨ρ, F, Q', R, ht, kq⟩ := h
  refine ⟨ρ, F, _, R, ht, fun J H1 ρ1 F1 L R1 s1 ok ⟨no, m, P, p0, step, fin⟩ => ⟨emO X.prog X.w m, emp_of m, fun D nD => ?_⟩⟩
  have pne : ∀ q ∈ G.pins, q.1 ≠ D := fun q hq => ne_of_none (R1.pin q hq).1 nD
  refine ⟨fun i n H2 => ∃ F2 acc o, Rel (bx X) (G.pin ((D, o) :: G.pins)) (wipe σ vs) H2 (wipeS ρ1 vs) F2 ∧ Sub F1 F2 ∧ DAt (bx X) F2 H2 D m acc ∧ n = L.length - i ∧ i ≤ L.length ∧ P i acc,
    ⟨L.length, F1, [], _, (R1.wipe vs).pinned nD _, Sub.refl, emO_at m upd_same, rfl, Nat.zero_le _, p0⟩, fun i n H2 ⟨F2, acc, o, R2, s2, dd, em, hi, pi⟩ => ?_⟩
  obtain ⟨o1, o2, o3⟩ := ok i H2 F2 s2 R2.subH
  by_cases hlt : i < L.length
  · refine .inr ⟨o1 hlt, fun H' => ∃ F2 acc o, Rel (bx X) (G.pin ((D, o) :: G.pins)) (wipe σ vs) H' (wipeS ρ1 vs) F2 ∧ Sub F1 F2 ∧ DAt (bx X) F2 H' D m acc ∧ P (i + 1) acc,
      fun H' ⟨F3, acc', o', R3, s3, dd3, p3⟩ => ⟨L.length - (i + 1), by omega, F3, acc', o', R3, s3, dd3, rfl, hlt, p3⟩, fun x H3 y => ?_⟩
    have et := List.getElem?_eq_getElem hlt
    obtain ⟨F3, R3, s3, rx⟩ := o3 x H3 _ et y _ _ _ R2
    refine ⟨_, wipeS ρ1 vs, F3, _, _, R3, rx, step i _ acc et pi, fun σ4 H4 ρ4 F4 R4 s4 ag q4 => ⟨?_, ?_⟩⟩
    · have e := ag vs his
      rw [e, wipe_idem]
    have back : ∀ {H5 : Hp} {F5 : Hp} {ρ5 : List S} {o5 : HO}, Rel (bx X) (G.pin ((D, o5) :: G.pins)) σ4 H5 ρ5 F5 → wk ρ5 (wipeS ρ1 vs) → Rel (bx X) (G.pin ((D, o5) :: G.pins)) (wipe σ vs) H5 (wipeS ρ1 vs) F5 := fun {H5 F5 ρ5 o5} R5 w5 => by
      have ew : wipe σ4 vs = wipe σ vs := by
        rw [ag vs his, wipe_idem]
      have R6 := (R5.wk w5).wipe vs
      rw [ew] at R6
      rw [wipeS_idem] at R6
      exact R6
    obtain ⟨hD2, _, _⟩ := R2.pin (D, o) List.mem_cons_self
    refine ⟨_, ρ4, F4, _, R4, q4, fun b H5 ρ5 F5 R5 s5 q5 => ?_⟩
    have stay : ∀ {H6 F6 : Hp} {ρ6 : List S}, Rel (bx X) (G.pin ((D, o) :: G.pins)) σ4 H6 ρ6 F6 → Sub F2 F6 → DAt (bx X) F6 H6 D m acc := fun {H6 F6 ρ6} R6 s6 => by
      obtain ⟨hD6, _, _⟩ := R6.pin (D, o) List.mem_cons_self
      exact dd.keep s6 (hD6.trans hD2.symm)
    cases b with
    | false =>
      have s25 := s3.trans (s4.trans s5)
      exact ⟨F5, acc, o, back R5 q5.2, s2.trans s25, stay R5 s25, q5.1⟩
    | true =>
      refine ⟨_, ρ5, F5, _, R5, q5, fun y H6 ρ6 F6 r R6 s6 rr q6 => ?_⟩
      obtain ⟨ρ7, F7, zk, R7, s7, rk, q7⟩ := R6.frzOk rr q6
      refine ⟨_, ρ7, F7, _, R7, q7, fun z H8 ρ8 F8 r8 R8 s8 rr8 q8 => ?_⟩
      obtain ⟨ρ9, F9, zv, R9, s9, rv, ⟨ky, hl, pz⟩, wz⟩ := R8.frzOk rr8 q8
      have s29 := s3.trans (s4.trans (s5.trans (s6.trans (s7.trans (s8.trans s9)))))
      intro X' pins s σ' ku vu E e1 e2 e3 e4 I rku rvu
      exact dat_set hr e1 e2 e3 e4 I R9.subH (stay R9 s29) ky hl (rk.mono (s8.trans s9)) rv rku rvu fun o' s' I' dd' => ⟨_, I', F9, putT acc zk zv, o', (back R9 wz).repin pne, s2.trans s29, dd', pz⟩
  · have e : i = L.length := by omega
    subst e
    refine .inl ⟨o2 rfl, ?_⟩
    obtain ⟨h1, h2, h3⟩ := R2.pin (D, o) List.mem_cons_self
    have R3 : Rel (bx X) G (wipe σ vs) H2 (wipeS ρ1 vs) F2 := R2.unpin
    have R4 := R1.unwipe R3 s2 no
    refine kq (.ref D) H2 ρ1 F2 (.od m acc) R4 (s1.trans s2) ⟨⟨D, rfl, ⟨h2.f, h2.h0, h2.w⟩, dd⟩, rfl, fun j t e o' z => ?_, fun q hq z => ?_⟩ (fin acc pi)
    · have hj : j ∉ vs := fun z => by
        have := S.isX_own (no j z t e)
        rw [o'] at this
        cases this
      exact h3 j t (by rw [wipeS_get, if_neg fun z => hj z.2]; exact e) o' (by rw [wipe_out' hj]; exact z)
    · exact pne q hq (V.ref.inj z).symm
theorem tn_dc {k : Nat} (hr : Room k X.A) {kx vx tg iter : Expr} {ifs : List Expr} {scope : Scope} {own : List (Str × Nat)} {pos : Pos} {t : WI} {is : List Nat} {g : WG} {tt : WT} {tk tv : WE} (hc : X.calm = true) (hN : X.N.Nodup) (hi : PI X tg iter (LI (bx X) G t)) (ok : BlkOk X.N X.env.scope scope own) (his : ∀ i ∈ is, i ∈ own.map (·.2))
    (hg : ∀ (l : List (Addr × HO)) (s : Shared) (H : Hp) (C : Addr) (cl : List (Str × Addr)) (fp : List Addr), PG (X.blk s H scope (compEnvC scope cl C X.env) fp) tg (LG (bx X) (G.pin l) is g)) (ht : ∀ (l : List (Addr × HO)) (s : Shared) (H : Hp) (C : Addr) (cl : List (Str × Addr)) (fp : List Addr), PTs (X.blk s H scope (compEnvC scope cl C X.env) fp) ifs (LT (bx X) (G.pin l) tt))
    (hk : ∀ (l : List (Addr × HO)) (s : Shared) (H : Hp) (C : Addr) (cl : List (Str × Addr)) (fp : List Addr), PE (X.blk s H scope (compEnvC scope cl C X.env) fp) kx (LE (bx X) (G.pin l) tk))
    (he : ∀ (l : List (Addr × HO)) (s : Shared) (H : Hp) (C : Addr) (cl : List (Str × Addr)) (fp : List Addr), PE (X.blk s H scope (compEnvC scope cl C X.env) fp) vx (LE (bx X) (G.pin l) tv)) (hs : ∀ x, foldedSetIterable iter X.env x = pure x := by intro _; rfl) :
    PE X (.DictComp kx vx [⟨tg, iter, ifs, 0⟩] scope pos) (LN (bx X) G (wDc t g tt tk tv (own.map (·.2)))) :=
  PE.wk (pe_dcG (g := xG (bx X) G is g) (tt := xT (bx X) G tt) (tk := xE (bx X) G tk) (tv := xE (bx X) G tv) hc hN hi ok (fun s H C cl fp => ⟨fun pins s σ H v u Q I r ⟨l, q⟩ => (hg l _ _ _ _ _).run pins s σ H v u Q I r q⟩) (fun s H C cl fp => ⟨fun pins s σ H Q I ⟨l, q⟩ => (ht l _ _ _ _ _).run pins s σ H Q I q⟩)
    (fun s H C cl fp => ⟨fun pins s σ H Q I ⟨l, q⟩ => (hk l _ _ _ _ _).run pins s σ H Q I q⟩) (fun s H C cl fp => ⟨fun pins s σ H Q I ⟨l, q⟩ => (he l _ _ _ _ _).run pins s σ H Q I q⟩) hs) fun _ _ _ h => liftDc hr his h
end
end TL
set_option Elab.async false
set_option linter.all false
set_option maxRecDepth 100000
set_option autoImplicit false
/-! TL14: dict displays; constants; == of texts -/
namespace TL
open PySem PySem.Spec PyProof.Rows L2
section
variable {X : Cx} {G : Fc}
structure PPT (X : Cx) (pos : Pos) (keys : List (Option Expr)) (values : List Expr) (t : L2.St → Hp → (List (V × V) → Hp → Prop) → Prop) : Prop where
  run : ∀ (pins : List (Addr × Obj)) (s : Shared) (σ : L2.St) (H : Hp) (Q : List (V × V) → Hp → Prop), Inv X pins σ H s → t σ H Q →
    wpAny (model X.prog X.w) X.A (evalPairs (pairTrees keys values X.env pos)) (fun vs s' => ∃ ps H', Inv X pins σ H' s' ∧ VV ps vs ∧ Q ps H') X.xe s
inductive RpPs (K : Bx) (F : Hp) : List (V × V) → List (T × T) → Prop
  | nil : RpPs K F [] []
  | cons {a b : V} {x y : T} {ps : List (V × V)} {xs : List (T × T)} : Rp K F a x → Rp K F b y → RpPs K F ps xs → RpPs K F ((a, b) :: ps) ((x, y) :: xs)
theorem RpPs.mono {K : Bx} {F F' : Hp} (s : Sub F F') : ∀ {ps : List (V × V)} {xs : List (T × T)}, RpPs K F ps xs → RpPs K F' ps xs
  | _, _, .nil => .nil
  | _, _, .cons a b r => .cons (a.mono s) (b.mono s) (RpPs.mono s r)
abbrev WPs := List S → (List (T × T) → List S → Prop) → Prop
def LPs (K : Bx) (G : Fc) (t : WPs) : L2.St → Hp → (List (V × V) → Hp → Prop) → Prop := fun σ H Q => ∃ ρ F Q', Rel K G σ H ρ F ∧ t ρ Q' ∧
  ∀ ps H' ρ' F' xs, Rel K G σ H' ρ' F' → Sub F F' → RpPs K F' ps xs → Q' xs ρ' → Q ps H'
def wPNil : WPs := fun ρ Q => Q [] ρ
@[simp] theorem wPNil_s (s_ : S) (r_ : List S) (Q_ : _) : wPNil (s_ :: r_) Q_ = (fun ρ Q => Q [] ρ) (s_ :: r_) Q_ := rfl
def wPCons (tk tv : WE) (u : WPs) : WPs := fun ρ Q => tk ρ fun rk ρ1 => frz rk ρ1 fun x ρ2 => tv ρ2 fun rv ρ3 => frz rv ρ3 fun y ρ4 => u ρ4 fun xs ρ5 => Q ((x, y) :: xs) ρ5
@[simp] theorem wPCons_s (tk tv : WE) (u : WPs) (s_ : S) (r_ : List S) (Q_ : _) : wPCons tk tv u (s_ :: r_) Q_ = (fun ρ Q => tk ρ fun rk ρ1 => frz rk ρ1 fun x ρ2 => tv ρ2 fun rv ρ3 => frz rv ρ3 fun y ρ4 => u ρ4 fun xs ρ5 => Q ((x, y) :: xs) ρ5) (s_ :: r_) Q_ := rfl
theorem tp_nil {pos : Pos} : PPT X pos [] [] (LPs (bx X) G wPNil) := ⟨fun pins s σ H Q I ⟨ρ, F, Q', R, ht, k⟩ => pairTrees_nil_walk ⟨[], H, I, .nil, k [] H ρ F [] R Sub.refl .nil ht⟩⟩
theorem tp_cons {pos : Pos} {ke v : Expr} {ks : List (Option Expr)} {vs : List Expr} {tk tv : WE} {u : WPs} (hk : PE X ke (LE (bx X) G tk)) (hv : PE X v (LE (bx X) G tv)) (hr : PPT X pos ks vs (LPs (bx X) G u)) :
    PPT X pos (some ke :: ks) (v :: vs) (LPs (bx X) G (wPCons tk tv u)) := ⟨fun pins s σ H Q I ⟨ρ, F, Q', R, ht, k⟩ => by
  refine pairTrees_cons_walk (PE.go hk I R ht fun av s1 w H1 ρ1 F1 r I1 rw1 R1 s1' rr q1 => ?_)
  obtain ⟨ρ2, F2, x, R2, s2, rx, q2⟩ := R1.frzOk rr q1
  refine PE.go hv I1 R2 q2 fun bv s3 w2 H3 ρ3 F3 r3 I3 rw3 R3 s3' rr3 q3 => ?_
  obtain ⟨ρ4, F4, y, R4, s4, ry, q4⟩ := R3.frzOk rr3 q3
  refine thn (hr.run pins s3 σ H3 (fun ps H' => ∃ ρ' F' xs, Rel (bx X) G σ H' ρ' F' ∧ Sub F4 F' ∧ RpPs (bx X) F' ps xs ∧ Q' ((x, y) :: xs) ρ') I3 ⟨ρ4, F4, _, R4, q4, fun ps H' ρ' F' xs R' s' rp q => ⟨ρ', F', xs, R', s', rp, q⟩⟩) fun ws s5 ⟨ps, H5, I5, rel, ρ5, F5, xs, R5, s5', rp, q5⟩ => ?_
  exact ⟨(w, w2) :: ps, H5, I5, .cons ⟨rw1, rw3⟩ rel, k _ H5 ρ5 F5 _ R5 (s1'.trans (s2.trans (s3'.trans (s4.trans s5')))) (.cons (rx.mono (s3'.trans (s4.trans s5'))) (ry.mono s5') rp) q5⟩⟩
def putsT (acc : List (T × T)) (xs : List (T × T)) : List (T × T) := xs.foldl (fun a p => putT a p.1 p.2) acc
theorem store_all {k : Nat} (hr : Room k X.A) {D : Addr} {m : DK} {pins : List (Addr × Obj)} {σ : L2.St} {ρ : List S} {F : Hp} (pne : ∀ q ∈ G.pins, q.1 ≠ D) : ∀ (xs : List (T × T)) (ps : List (V × V)) (vs : List (Value × Value)) (acc : List (T × T)) (s : Shared) (H : Hp) (o : HO) (Q : PUnit → Shared → Prop) (E : Value → Shared → Prop),
    Inv X pins σ H s → Rel (bx X) (G.pin ((D, o) :: G.pins)) σ H ρ F → DAt (bx X) F H D m acc → RpPs (bx X) F ps xs → VV ps vs → (xs.all fun p => keyB m p.1) = true → acc.length + xs.length ≤ sizeLine →
    (∀ s' H' o', Inv X pins σ H' s' → Rel (bx X) (G.pin ((D, o') :: G.pins)) σ H' ρ F → DAt (bx X) F H' D m (putsT acc xs) → Q PUnit.unit s') → wpAny (model X.prog X.w) X.A (storeAll D vs) Q E s
  | _, _, _, acc, s, H, o, Q, E, I, R, dd, .nil, .nil, _, _, k => by
    unfold storeAll
    rw [List.forIn_nil]
    exact wpAny_pure (k s H o I R dd)
  | _, _, _, acc, s, H, o, Q, E, I, R, dd, .cons (x := x) (y := y) (xs := xs) a b r, .cons (l₂ := vs) c d, hk, hl, k => by
    rw [List.all_cons, Bool.and_eq_true] at hk
    rw [List.length_cons] at hl
    unfold storeAll
    rw [List.forIn_cons]
    refine wpAny_bind (wpAny_bind (dat_set hr rfl rfl rfl rfl I R.subH dd hk.1 (by omega) a b c.1 c.2 fun o' s' I' dd' => wpAny_pure ?_))
    have e : G.pin ((D, o) :: G.pins) = G.pin ((D, o) :: G.pins) := rfl
    have hl2 := putT_length acc x y
    exact store_all hr pne xs _ vs (putT acc x y) s' _ o' Q E I' (R.repin pne) dd' r d hk.2 (by omega) k
def wDisp (t : WPs) : WN := fun ρ Q => t ρ fun xs ρ1 => ∃ m, (xs.all fun p => keyB m p.1) = true ∧ xs.length ≤ 15 ∧ Q (.od m (putsT [] xs)) ρ1
@[simp] theorem wDisp_s (t : WPs) (s_ : S) (r_ : List S) (Q_ : _) : wDisp t (s_ :: r_) Q_ = (fun ρ Q => t ρ fun xs ρ1 => ∃ m, (xs.all fun p => keyB m p.1) = true ∧ xs.length ≤ 15 ∧ Q (.od m (putsT [] xs)) ρ1) (s_ :: r_) Q_ := rfl
theorem tn_disp {k : Nat} (hr : Room k X.A) {m : DK} {pos : Pos} {keys : List (Option Expr)} {values : List Expr} {t : WPs} (h : ∀ l : List (Addr × HO), PPT X pos keys values (LPs (bx X) (G.pin l) t)) (hall : keys.all (·.isSome) = true := by rfl) (hl : keys.length = values.length := by rfl) (h0 : keys ≠ [] := by exact List.cons_ne_nil _ _)
    (h15 : keys.length ≤ 15 := by decide) : PE X (.Dict keys values pos) (LN (bx X) G (fun ρ Q => t ρ fun xs ρ1 => (xs.all fun p => keyB m p.1) = true ∧ xs.length ≤ 15 ∧ Q (.od m (putsT [] xs)) ρ1)) := by
  refine ⟨fun pins s σ H Q I ⟨ρ, F, Q', R, ht, kq⟩ => ?_⟩
  have nD := I.hok.fresh (Nat.le_refl s.heap.objs.size)
  have I1 := I.laid (a := s.heap.objs.size) (o := emO X.prog X.w m s.heap.objs.size) (h' := s.heap.push { cls := .type "dict", data := .dict #[] }) (t' := s.toks) (fun _ _ q => Heap.get?_push_of_some _ q) (Nat.le_refl _) (emp_of m s.heap I.big _)
  generalize hD : s.heap.objs.size = D at nD I1
  have pne : ∀ q ∈ G.pins, q.1 ≠ D := fun q hq => ne_of_none (R.pin q hq).1 nD
  have R1 := R.pinned nD (emO X.prog X.w m D)
  refine wpAny_Dict_any hall hl h0 h15 ?_
  rw [hD]
  refine thn ((h _).run pins _ σ _ (fun ps H' => ∃ ρ' F' xs, Rel (bx X) (G.pin ((D, emO X.prog X.w m D) :: G.pins)) σ H' ρ' F' ∧ Sub F F' ∧ RpPs (bx X) F' ps xs ∧ ((xs.all fun p => keyB m p.1) = true ∧ xs.length ≤ 15 ∧ Q' (.od m (putsT [] xs)) ρ')) I1
    ⟨ρ, F, _, R1, ht, fun ps H' ρ' F' xs R' s' rp q => ⟨ρ', F', xs, R', s', rp, q⟩⟩) fun ws s2 ⟨ps, H2, I2, rel, ρ2, F2, xs, R2, s2', rp, hk, hlx, q2⟩ => ?_
  obtain ⟨hD2, _, _⟩ := R2.pin (D, _) List.mem_cons_self
  have hsl := sizeLine_eq
  refine store_all hr pne xs ps ws [] s2 H2 _ _ _ I2 R2 (emO_at m hD2) rp rel hk (by rw [List.length_nil]; omega) fun s3 H3 o3 I3 R3 dd => ?_
  obtain ⟨h1, h2, h3⟩ := R3.pin (D, o3) List.mem_cons_self
  exact ⟨.ref D, H3, I3, rfl, kq (.ref D) H3 ρ2 F2 (.od m _) R3.unpin s2' ⟨⟨D, rfl, ⟨h2.f, h2.h0, h2.w⟩, dd⟩, rfl, fun j t e o' z => h3 j t e o' z, fun q hq z => pne q hq (V.ref.inj z).symm⟩ q2⟩
/-- {}: which kind of keys is the reading's choice -/
def wNi (t u : WN) : WN := fun ρ Q => t ρ Q ∨ u ρ Q
@[simp] theorem wNi_s (t u : WN) (s_ : S) (r_ : List S) (Q_ : _) : wNi t u (s_ :: r_) Q_ = (fun ρ Q => t ρ Q ∨ u ρ Q) (s_ :: r_) Q_ := rfl
theorem tn_either {e : Expr} {t u : WN} (h : PE X e (LN (bx X) G t)) (h' : PE X e (LN (bx X) G u)) : PE X e (LN (bx X) G (wNi t u)) :=
  PE.wk (PE.or h h') fun σ H Q ⟨ρ, F, Q', R, ht, k⟩ => ht.elim (fun q => .inl ⟨ρ, F, Q', R, q, k⟩) fun q => .inr ⟨ρ, F, Q', R, q, k⟩
def wDicE : WN := fun ρ Q => ∃ m, Q (.od m []) ρ
@[simp] theorem wDicE_s (s_ : S) (r_ : List S) (Q_ : _) : wDicE (s_ :: r_) Q_ = (fun ρ Q => ∃ m, Q (.od m []) ρ) (s_ :: r_) Q_ := rfl
theorem tn_dicE {pos} : PE X (.Dict [] [] pos) (LN (bx X) G wDicE) := PE.wk (tn_either tn_dic0 tn_dic0T) fun σ H Q ⟨ρ, F, Q', R, ⟨m, q⟩, k⟩ => by
  cases m with
  | flat => exact ⟨ρ, F, Q', R, .inl q, k⟩
  | tup => exact ⟨ρ, F, Q', R, .inr q, k⟩
theorem tn_dispE {k : Nat} (hr : Room k X.A) {pos : Pos} {keys : List (Option Expr)} {values : List Expr} {t : WPs} (h : ∀ l : List (Addr × HO), PPT X pos keys values (LPs (bx X) (G.pin l) t)) (hall : keys.all (·.isSome) = true := by rfl) (hl : keys.length = values.length := by rfl) (h0 : keys ≠ [] := by exact List.cons_ne_nil _ _)
    (h15 : keys.length ≤ 15 := by decide) : PE X (.Dict keys values pos) (LN (bx X) G (fun ρ Q => ∃ m, t ρ fun xs ρ1 => (xs.all fun p => keyB m p.1) = true ∧ xs.length ≤ 15 ∧ Q (.od m (putsT [] xs)) ρ1)) :=
  PE.wk (tn_either (tn_disp (m := .flat) hr h hall hl h0 h15) (tn_disp (m := .tup) hr h hall hl h0 h15)) fun σ H Q ⟨ρ, F, Q', R, ⟨m, q⟩, k⟩ => by
    cases m with
    | flat => exact ⟨ρ, F, Q', R, .inl q, k⟩
    | tup => exact ⟨ρ, F, Q', R, .inr q, k⟩

/-! ### names of the module, built-in names -/
theorem te_gint {x : Str} {i : Int} {t : Tok} {pos : Pos} (hg : Gl X x) (hm : X.mg x = some (.int i t)) (hd : (x == ("__debug__" : Str)) = false := by decide) : PE X (.Name x pos) (LE (bx X) G (wC (.int i))) := te_c (pe_glob (v := .int i) hg hm ⟨t, rfl⟩ hd) fun _ => .int i
theorem te_gstr {x z : Str} {t : Tok} {pos : Pos} (hg : Gl X x) (hm : X.mg x = some (.str z t)) (hd : (x == ("__debug__" : Str)) = false := by decide) : PE X (.Name x pos) (LE (bx X) G (wC (.str z))) := te_c (pe_glob (v := .str z) hg hm ⟨t, rfl⟩ hd) fun _ => .str z
theorem te_bty {x : Str} {n : String} {pos : Pos} (hg : Gl X x) (hm : X.mg x = none) (hv : bootBuiltins x = some (.type n)) (hn : x ≠ "__name__" := by decide) (hd : (x == ("__debug__" : Str)) = false := by decide) : PE X (.Name x pos) (LE (bx X) G (wC (.raw (.ty n)))) := te_c (pe_bltn (v := .ty n) hg hm hv rfl hn hd) fun _ => .raw _

/-! ### == where one side or both may be any text -/
@[simp] def oEqS : WOp := fun x y Q => match x, y with
  | .str a, .str b => Q (.bl (a == b))
  | x, y => T.fit 60 x = true ∧ T.fit 60 y = true ∧ Q (.bl (eqT x y))
@[simp] def oNeS : WOp := fun x y Q => match x, y with
  | .str a, .str b => Q (.bl (!(a == b)))
  | x, y => T.fit 60 x = true ∧ T.fit 60 y = true ∧ Q (.bl (!eqT x y))
end
end TL
set_option Elab.async false
set_option linter.all false
set_option maxRecDepth 100000
set_option autoImplicit false
/-! TL15: defs with defaults, what a generated text names -/
namespace TL
open PySem PySem.Spec PyProof.Rows L2
/-! ### promises by arity -/
abbrev sp0 (f : (T → Prop) → Prop) : TSp := fun xs Q => xs = [] ∧ f Q
abbrev sp1 (f : T → (T → Prop) → Prop) : TSp := fun xs Q => ∃ a, xs = [a] ∧ f a Q
abbrev sp2 (f : T → T → (T → Prop) → Prop) : TSp := fun xs Q => ∃ a b, xs = [a, b] ∧ f a b Q
abbrev sp3 (f : T → T → T → (T → Prop) → Prop) : TSp := fun xs Q => ∃ a b c, xs = [a, b, c] ∧ f a b c Q
abbrev sp4 (f : T → T → T → T → (T → Prop) → Prop) : TSp := fun xs Q => ∃ a b c d, xs = [a, b, c, d] ∧ f a b c d Q
abbrev sp5 (f : T → T → T → T → T → (T → Prop) → Prop) : TSp := fun xs Q => ∃ a b c d e, xs = [a, b, c, d, e] ∧ f a b c d e Q
theorem ar0 {f : (T → Prop) → Prop} : ∀ xs Q, sp0 f xs Q → xs.length = 0 := fun xs Q ⟨e, _⟩ => by rw [e]; rfl
theorem ar1 {f : T → (T → Prop) → Prop} : ∀ xs Q, sp1 f xs Q → xs.length = 1 := fun xs Q ⟨a, e, _⟩ => by rw [e]; rfl
theorem ar2 {f : T → T → (T → Prop) → Prop} : ∀ xs Q, sp2 f xs Q → xs.length = 2 := fun xs Q ⟨a, b, e, _⟩ => by rw [e]; rfl
theorem ar3 {f : T → T → T → (T → Prop) → Prop} : ∀ xs Q, sp3 f xs Q → xs.length = 3 := fun xs Q ⟨a, b, c, e, _⟩ => by rw [e]; rfl
theorem ar4 {f : T → T → T → T → (T → Prop) → Prop} : ∀ xs Q, sp4 f xs Q → xs.length = 4 := fun xs Q ⟨a, b, c, d, e, _⟩ => by rw [e]; rfl
theorem ar5 {f : T → T → T → T → T → (T → Prop) → Prop} : ∀ xs Q, sp5 f xs Q → xs.length = 5 := fun xs Q ⟨a, b, c, d, e', e, _⟩ => by rw [e]; rfl
section
variable {P : Program} {w : World} {K : PySem.W.Frag} {mg : Str → Option Value} {base : Heap}
/-- a def as it stands behind the top -/
abbrev FD (K : PySem.W.Frag) (x : Str) (st : Stmt) (dvs : List V) (f : Addr) (fd : FuncData) : Prop := FunD K x x (defArgs st) (defBody st) (defScope st) dvs [] f fd
/-- what a caller knows of a def -/
structure Cal (P : Program) (w : World) (K : PySem.W.Frag) (mg : Str → Option Value) (base : Heap) (W : Wd) (k : Nat) (x : Str) (f : Addr) (fd : FuncData) (ps : List Str) (sp : TSp) : Prop where
  m : mg x = some (.ref f)
  kp : PySem.W.keepIn K (.ref f) = true
  ok : FnG P w K mg base CX0 k f fd ps (liftSp ⟨P, w, K⟩ W sp)
theorem Cal.at {W : Wd} {k j : Nat} {x : Str} {f : Addr} {fd : FuncData} {ps : List Str} {sp : TSp} (C : Cal P w K mg base W k x f fd ps sp) (h : k ≤ j) : FnG P w K mg base CX0 j f fd ps (liftSp ⟨P, w, K⟩ W sp) := C.ok.mono h
theorem okD {W : Wd} {x : Str} {st : Stmt} {dvs : List V} {f : Addr} {fd : FuncData} {N ps : List Str} {k : Nat} {sp : TSp} {t : WS} (F : FD K x st dvs f fd) (sc : FnScope N ps (defScope st)) (hps : ps.length ≤ N.length)
    (len : ∀ xs Q, sp xs Q → xs.length = ps.length)
    (body : ∀ (cdv : Value) (A : Around) (outer : List Env) (s : Shared) (H F : Hp) (E : XK), Rm k (A.deeper (envOfC x (defScope st) s.heap.objs.size f cdv)) →
      ∀ hz : ∀ a, W.own a = true → H a ≠ none, PSs (cxOf CX0 P w K mg base N x (defScope st) f cdv A outer s H E).nox (defBody st) (LS ⟨P, w, K⟩ ⟨W.fz H hz, H, F, []⟩ t))
    (read : ∀ xs Q, sp xs Q → t { nx := fun _ => Q .non, rt := Q } (startS N.length xs)) : FnG P w K mg base CX0 (k + 1) f fd ps (liftSp ⟨P, w, K⟩ W sp) := by
  obtain ⟨oc, od, dV, kV, doc, pm, an, cdv, ct, osl, rfl, lk, hcd, _, _⟩ := F.ex
  refine fnG_of lk hcd sc (fun vs H Q E ⟨F, xs, Q', _, _, r, h, _⟩ => by rw [r.length]; exact len xs Q' h) fun A outer s H vs Q E hr ⟨F, xs, Q', sF, iw, r, h, fin⟩ => ?_
  refine ⟨_, (body cdv A outer s H F E hr iw).nox, startS N.length xs, F, _, rel_start (W := W.fz H iw) sF (fun _ _ => rfl) r (by rw [len xs Q' h]; exact hps), read xs Q' h, ?_, ?_, fun _ _ _ _ _ _ z => z.elim, fun _ _ _ _ _ _ z => z.elim⟩
  · exact fun σ' H' ρ' F' R s' q => fin .non H' F' .non s' R.sub R.base R.fresh R.inv .non q
  · exact fun v σ' H' ρ' F' t R s' rv q => fin v H' F' t s' R.sub R.base R.fresh R.inv rv q
end
section
variable {X : Cx} {G : Fc}
theorem te_never {e : Expr} : PE X e (LE (bx X) G fun _ _ => False) := ⟨fun pins s σ H Q I ⟨_, _, _, _, h, _⟩ => h.elim⟩
theorem tn_never {e : Expr} : PE X e (LN (bx X) G fun _ _ => False) := ⟨fun pins s σ H Q I ⟨_, _, _, _, h, _⟩ => h.elim⟩
theorem tt_never {e : Expr} : PT X e (LT (bx X) G fun _ _ => False) := ⟨fun pins s σ H Q I ⟨_, _, _, _, h, _⟩ => h.elim⟩
theorem OpT.or {f : Value → Value → Sem Value} {o o' : WOp} (h : OpT X G f o) (h' : OpT X G f o') : OpT X G f (fun x y Q => o x y Q ∨ o' x y Q) := fun σ H ρ F v u x y Q' Q R cx cy q k =>
  q.elim (fun q => h σ H ρ F v u x y Q' Q R cx cy q k) fun q => h' σ H ρ F v u x y Q' Q R cx cy q k
@[simp] def oStrs (g : Str → Str → Bool) : WOp := fun x y Q => ∃ a b, x = .str a ∧ y = .str b ∧ Q (.bl (g a b))
theorem dec_str {a b : Str} : decide (V.str a = V.str b) = (a == b) := by
  rw [Bool.eq_iff_iff]
  simp
theorem ot_eqStr : OpT X G (compareOp .Eq) (oStrs fun a b => a == b) := opScal fun v u x y F H Q' cx cy q => by
  obtain ⟨a, b, rfl, rfl, q⟩ := q
  obtain rfl := cx.str
  obtain rfl := cy.str
  exact ⟨.bl (a == b), .bl (a == b), fun _ => .bl _, q, fun Q z => anyOf op_eq ⟨rfl, by rw [dec_str]; exact z⟩⟩
theorem ot_neStr : OpT X G (compareOp .NotEq) (oStrs fun a b => !(a == b)) := opScal fun v u x y F H Q' cx cy q => by
  obtain ⟨a, b, rfl, rfl, q⟩ := q
  obtain rfl := cx.str
  obtain rfl := cy.str
  exact ⟨.bl (!(a == b)), .bl (!(a == b)), fun _ => .bl _, q, fun Q z => anyOf op_ne ⟨rfl, by rw [dec_str]; exact z⟩⟩
@[simp] def oEqA : WOp := fun x y Q => oStrs (fun a b => a == b) x y Q ∨ oEq x y Q
@[simp] def oNeA : WOp := fun x y Q => oStrs (fun a b => !(a == b)) x y Q ∨ oNe x y Q
@[simp] def oLtA : WOp := fun x y Q => oI (fun i j => decide (i < j)) x y Q ∨ oLtD x y Q
theorem ot_eqA {k : Nat} (hr : Rm k X.A) : OpT X G (compareOp .Eq) oEqA := .or ot_eqStr (ot_eq (by have := hr.room.un; omega))
theorem ot_neA {k : Nat} (hr : Rm k X.A) : OpT X G (compareOp .NotEq) oNeA := .or ot_neStr (ot_ne (by have := hr.room.un; omega))
theorem ot_ltA {k : Nat} (hr : Rm k X.A) : OpT X G (compareOp .Lt) oLtA := .or ot_lt (ot_ltD hr)
/-- x += e -/
def wAug (i : Nat) (o : WOp) (te : WE) : WS := fun D ρ => ∃ x, ρ[i]? = some (.d x) ∧ te ρ fun r ρ1 => ∃ y, res ρ1 r = some y ∧ o x y fun z => D.nx (ρ1.set i (.d z))
@[simp] theorem wAug_s (i : Nat) (o : WOp) (te : WE) (D_ : ED) (s_ : S) (r_ : List S) : wAug i o te D_ (s_ :: r_) = (fun D ρ => ∃ x, ρ[i]? = some (.d x) ∧ te ρ fun r ρ1 => ∃ y, res ρ1 r = some y ∧ o x y fun z => D.nx (ρ1.set i (.d z))) D_ (s_ :: r_) := rfl
end
end TL
set_option Elab.async false
set_option linter.all false
set_option maxRecDepth 100000
set_option autoImplicit false
/-! TL16: built-in names -/
namespace TL
open PySem PySem.Spec PyProof.Rows L2
theorem bt_len : bootBuiltins "len" = some (.builtin "len") := by decide +kernel
theorem bt_abs : bootBuiltins "abs" = some (.builtin "abs") := by decide +kernel
theorem bt_max : bootBuiltins "max" = some (.builtin "max") := by decide +kernel
theorem bt_min : bootBuiltins "min" = some (.builtin "min") := by decide +kernel
theorem bt_sum : bootBuiltins "sum" = some (.builtin "sum") := by decide +kernel
theorem bt_all : bootBuiltins "all" = some (.builtin "all") := by decide +kernel
theorem bt_any : bootBuiltins "any" = some (.builtin "any") := by decide +kernel
theorem bt_isinstance : bootBuiltins "isinstance" = some (.builtin "isinstance") := by decide +kernel
theorem bt_repr : bootBuiltins "repr" = some (.builtin "repr") := by decide +kernel
theorem bt_sorted : bootBuiltins "sorted" = some (.builtin "sorted") := by decide +kernel
theorem bt_int : bootBuiltins "int" = some (.type "int") := by decide +kernel
theorem bt_bool : bootBuiltins "bool" = some (.type "bool") := by decide +kernel
theorem bt_str : bootBuiltins "str" = some (.type "str") := by decide +kernel
theorem bt_tuple : bootBuiltins "tuple" = some (.type "tuple") := by decide +kernel
theorem bt_list : bootBuiltins "list" = some (.type "list") := by decide +kernel
theorem bt_dict : bootBuiltins "dict" = some (.type "dict") := by decide +kernel
def wDispE (t : WPs) : WN := fun ρ Q => ∃ m, t ρ fun xs ρ1 => (xs.all fun p => keyB m p.1) = true ∧ xs.length ≤ 15 ∧ Q (.od m (putsT [] xs)) ρ1
@[simp] theorem wDispE_s (t : WPs) (s_ : S) (r_ : List S) (Q_ : _) : wDispE t (s_ :: r_) Q_ = (fun ρ Q => ∃ m, t ρ fun xs ρ1 => (xs.all fun p => keyB m p.1) = true ∧ xs.length ≤ 15 ∧ Q (.od m (putsT [] xs)) ρ1) (s_ :: r_) Q_ := rfl
end TL
set_option Elab.async false
set_option linter.all false
set_option maxRecDepth 100000
set_option autoImplicit false
/-! TL17: how calls bind -/
namespace TL
open PySem PySem.Spec PyProof.Rows L2
def sel {α : Type} (is : List Nat) (l : List α) : List α := is.filterMap (l[·]?)
theorem sel_vals : ∀ (is : List Nat) {xs : List V} {us : List Value}, Vals xs us → Vals (sel is xs) (sel is us)
  | [], _, _, _ => .nil
  | i :: is, xs, us, r => by
    unfold sel
    rw [List.filterMap_cons, List.filterMap_cons]
    cases e : xs[i]? with
    | none =>
      rw [r.none_of e]
      exact sel_vals is r
    | some x =>
      obtain ⟨u, eu, ru⟩ := r.get e
      rw [eu]
      exact .cons ru (sel_vals is r)
theorem sel_rp {K : Bx} {F : Hp} : ∀ (is : List Nat) {vs : List V} {xs : List T}, RpAll K F vs xs → RpAll K F (sel is vs) (sel is xs)
  | [], _, _, _ => .nil
  | i :: is, vs, xs, r => by
    unfold sel
    rw [List.filterMap_cons, List.filterMap_cons]
    cases e : xs[i]? with
    | none =>
      have l := r.length
      have e2 : vs[i]? = none := List.getElem?_eq_none (by have := List.getElem?_eq_none_iff.mp e; omega)
      rw [e2]
      exact sel_rp is r
    | some x =>
      obtain ⟨u, eu, ru⟩ := r.get e
      rw [eu]
      exact .cons ru (sel_rp is r)
theorem kg_sel {K : Bx} {dvs : List V} {dts : List T} (is : List Nat) (hd : ∀ F, RpAll K F dvs dts) : KG K (fun vs zs => sel is (vs ++ zs ++ dvs)) (fun xs ys => sel is (xs ++ ys ++ dts)) :=
  ⟨fun F vs zs xs ys r1 r2 => sel_rp is ((r1.append r2).append (hd F))⟩
section
variable {K : PySem.W.Frag} {x qual : Str} {params : Arguments} {body : List Stmt} {scope : Scope} {dvs : List V} {f : Addr} {fd : FuncData} {ps ks : List Str}
theorem kb0 (F : FunD K x qual params body scope [] [] f fd) (n : Nat) (is : List Nat)
    (h : ∀ (kV doc pm : Value) (an : Option Addr) (cdv ct : Value) (us ws : List Value), us.length = n → ws.length = ks.length → bindArgs (PySem.W.fnOf x qual params body scope .none kV doc pm an cdv ct) ⟨us, ks.zip ws⟩ = pure (ps.zip (sel is (us ++ ws)))) :
    KBn K fd ps n ks (fun us ws => sel is (us ++ ws ++ [])) (fun vs zs => sel is (vs ++ zs ++ [])) := by
  obtain ⟨oc, od, dV, kV, doc, pm, an, cdv, ct, osl, rfl, lk, hcd, hD, hK⟩ := F.ex
  rcases hD with ⟨_, rfl⟩ | ⟨e, _⟩
  · exact ⟨fun s us ws X l1 l2 => by rw [List.append_nil]; exact .of_eq (h kV doc pm an cdv ct us ws l1 l2), fun r1 r2 => sel_vals is ((r1.append r2).append .nil)⟩
  · exact absurd rfl e
theorem kb1 (F : FunD K x qual params body scope dvs [] f fd) (n : Nat) (is : List Nat) (hd : dvs ≠ [])
    (h : ∀ (T : Addr) (kV doc pm : Value) (an : Option Addr) (cdv ct : Value) (us ws its : List Value), us.length = n → ws.length = ks.length → its.length = dvs.length →
      ∃ k, bindArgs (PySem.W.fnOf x qual params body scope (.ref T) kV doc pm an cdv ct) ⟨us, ks.zip ws⟩ = seqItems? (.ref T) >>= k ∧ k (some its.toArray) = pure (ps.zip (sel is (us ++ ws ++ its)))) :
    ∃ its : List Value, KBn K fd ps n ks (fun us ws => sel is (us ++ ws ++ its)) (fun vs zs => sel is (vs ++ zs ++ dvs)) := by
  obtain ⟨oc, od, dV, kV, doc, pm, an, cdv, ct, osl, rfl, lk, hcd, hD, hK⟩ := F.ex
  rcases hD with ⟨e, _⟩ | ⟨_, T, o, its, m, rfl, lT, oT, rT⟩
  · exact absurd e hd
  · refine ⟨its, fun s us ws X l1 l2 => ?_, fun r1 r2 => sel_vals is ((r1.append r2).append rT)⟩
    obtain ⟨k, e1, e2⟩ := h T kV doc pm an cdv ct us ws its l1 l2 rT.length.symm
    refine BindsTo.of_looks fun M => ?_
    rw [e1]
    exact looks_items X lT oT (.of_pure e2)
end
end TL
set_option Elab.async false
set_option linter.all false
set_option maxRecDepth 100000
set_option autoImplicit false
/-! TL18: reading what a text does -/
namespace TL
open PySem PySem.Spec PyProof.Rows L2
@[simp] theorem noOwn_nil (ρ : List S) : noOwn ρ [] = True := by simp [noOwn]
@[simp] theorem noOwn_cons (ρ : List S) (v : Nat) (vs : List Nat) : noOwn ρ (v :: vs) = ((∀ s, ρ[v]? = some s → s.isX = false) ∧ noOwn ρ vs) := by simp [noOwn]
@[simp] theorem own_no : S.isOwn .no = false := rfl
@[simp] theorem own_d (t : T) : S.isOwn (.d t) = false := rfl
@[simp] theorem own_ol (t : List T) : S.isOwn (.ol t) = true := rfl
@[simp] theorem own_od (m : DK) (t : List (T × T)) : S.isOwn (.od m t) = true := rfl
@[simp] theorem wipeS_n (ρ : List S) : wipeS ρ [] = ρ := rfl
@[simp] theorem wipeS_c (ρ : List S) (v : Nat) (vs : List Nat) : wipeS ρ (v :: vs) = (wipeS ρ vs).set v .no := rfl
theorem wk_self (ρ : List S) : wk ρ ρ := wk_refl ρ
/-- a comprehension whose parts only read: what stays, what comes of each -/
theorem lc_pure {t : WI} {g : WG} {tt : WT} {te : WE} {vs : List Nat} {ρ ρ1 : List S} {Q : S → List S → Prop} (L : List T) (c : T → Bool) (f : T → T)
    (it : ∀ Q' : List T → List S → Prop, Q' L ρ1 → t ρ Q') (no : noOwn ρ1 vs) (hl : L.length ≤ sizeLine)
    (step : ∀ x ∈ L, ∀ (KT : T → Prop) (KF : Prop), (c x = true → KT (f x)) → (c x = false → KF) → g x (wipeS ρ1 vs) fun ρ2 => tt ρ2 fun b ρ3 => if b = true then te ρ3 fun r ρ4 => frz r ρ4 fun y ρ5 => KT y ∧ wk ρ5 (wipeS ρ1 vs) else KF ∧ wk ρ3 (wipeS ρ1 vs))
    (h : Q (.ol ((L.filter c).map f)) ρ1) : wLc t g tt te vs ρ Q := by
  refine it _ ⟨no, fun i acc => acc = ((L.take i).filter c).map f, by simp, fun i x acc hx hp => ?_, fun acc hp => ?_⟩
  · obtain ⟨hi, ex⟩ := List.getElem?_eq_some_iff.mp hx
    have hm : x ∈ L := by rw [← ex]; exact List.getElem_mem hi
    have e : L.take (i + 1) = L.take i ++ [x] := by rw [List.take_add_one, hx]; rfl
    have hal : acc.length < sizeLine := by
      rw [hp, List.length_map]
      have h1 := List.length_filter_le c (L.take i)
      rw [List.length_take] at h1
      omega
    refine step x hm _ _ (fun hc => ⟨hal, ?_⟩) fun hc => ?_
    · show acc ++ [f x] = ((L.take (i + 1)).filter c).map f
      rw [e, List.filter_append, List.map_append, hp]
      simp [hc]
    · show acc = ((L.take (i + 1)).filter c).map f
      rw [e, List.filter_append, List.map_append, hp]
      simp [hc]
  · rw [hp, List.take_length]
    exact h
theorem filter_tt {α : Type} (l : List α) : l.filter (fun _ => true) = l := by
  induction l with
  | nil => rfl
  | cons x l ih => simp
theorem lc_map {t : WI} {g : WG} {te : WE} {vs : List Nat} {ρ ρ1 : List S} {Q : S → List S → Prop} (L : List T) (f : T → T)
    (it : ∀ Q' : List T → List S → Prop, Q' L ρ1 → t ρ Q') (no : noOwn ρ1 vs) (hl : L.length ≤ sizeLine)
    (step : ∀ x ∈ L, ∀ KT : T → Prop, KT (f x) → g x (wipeS ρ1 vs) fun ρ2 => te ρ2 fun r ρ4 => frz r ρ4 fun y ρ5 => KT y ∧ wk ρ5 (wipeS ρ1 vs))
    (h : Q (.ol (L.map f)) ρ1) : wLc t g wYes te vs ρ Q := by
  refine lc_pure L (fun _ => true) f it no hl (fun x hx KT KF h1 _ => ?_) (by rw [filter_tt]; exact h)
  exact step x hx KT (h1 rfl)
theorem allB {α : Type} {l : List α} {b : α → Bool} {Q : T → Prop} (h : Q (.bl (l.all b))) : ∃ bs : List Bool, (l.map fun x => T.bl (b x)) = bs.map T.bl ∧ Q (.bl (bs.all id)) := ⟨l.map b, by simp, by simpa using h⟩
theorem anyB {α : Type} {l : List α} {b : α → Bool} {Q : T → Prop} (h : Q (.bl (l.any b))) : ∃ bs : List Bool, (l.map fun x => T.bl (b x)) = bs.map T.bl ∧ Q (.bl (bs.any id)) := ⟨l.map b, by simp, by simpa using h⟩
theorem dc_pure {t : WI} {g : WG} {tt : WT} {tk tv : WE} {vs : List Nat} {ρ ρ1 : List S} {Q : S → List S → Prop} (m : DK) (L : List T) (c : T → Bool) (f v : T → T)
    (it : ∀ Q' : List T → List S → Prop, Q' L ρ1 → t ρ Q') (no : noOwn ρ1 vs) (hl : L.length ≤ sizeLine) (hk : ∀ x ∈ L, c x = true → keyB m (f x) = true)
    (step : ∀ x ∈ L, ∀ (KT : T → T → Prop) (KF : Prop), (c x = true → KT (f x) (v x)) → (c x = false → KF) → g x (wipeS ρ1 vs) fun ρ2 => tt ρ2 fun b ρ3 => if b = true then tk ρ3 fun r ρ4 => frz r ρ4 fun y ρ5 => tv ρ5 fun r2 ρ6 => frz r2 ρ6 fun z ρ7 => KT y z ∧ wk ρ7 (wipeS ρ1 vs) else KF ∧ wk ρ3 (wipeS ρ1 vs))
    (h : Q (.od m (putsT [] (((L.filter c).map fun x => (f x, v x))))) ρ1) : wDc t g tt tk tv vs ρ Q := by
  have hlen : ∀ (ps acc : List (T × T)), (putsT acc ps).length ≤ acc.length + ps.length := by
    intro ps
    induction ps with
    | nil => intro acc; exact Nat.le_refl _
    | cons p ps ih =>
      intro acc
      have h1 := ih (putT acc p.1 p.2)
      have h2 := putT_length acc p.1 p.2
      show (putsT (putT acc p.1 p.2) ps).length ≤ _
      rw [List.length_cons]
      omega
  refine it _ ⟨no, m, fun i acc => acc = putsT [] (((L.take i).filter c).map fun x => (f x, v x)), by simp [putsT], fun i x acc hx hp => ?_, fun acc hp => ?_⟩
  · obtain ⟨hi, ex⟩ := List.getElem?_eq_some_iff.mp hx
    have hm : x ∈ L := by rw [← ex]; exact List.getElem_mem hi
    have e : L.take (i + 1) = L.take i ++ [x] := by rw [List.take_add_one, hx]; rfl
    have hal : acc.length < sizeLine := by
      rw [hp]
      have h0 := hlen (((L.take i).filter c).map fun x => (f x, v x)) []
      rw [List.length_map, List.length_nil] at h0
      have h1 := List.length_filter_le c (L.take i)
      rw [List.length_take] at h1
      omega
    refine step x hm _ _ (fun hc => ⟨hk x hm hc, hal, ?_⟩) fun hc => ?_
    · show putT acc (f x) (v x) = putsT [] (((L.take (i + 1)).filter c).map fun x => (f x, v x))
      rw [e, List.filter_append, List.map_append, hp]
      simp [hc, putsT]
    · show acc = putsT [] (((L.take (i + 1)).filter c).map fun x => (f x, v x))
      rw [e, List.filter_append, List.map_append, hp]
      simp [hc]
  · rw [hp, List.take_length]
    exact h
/-! ### over typed things -/
section
variable {α : Type}
theorem lc_ty {t : WI} {g : WG} {tt : WT} {te : WE} {vs : List Nat} {ρ ρ1 : List S} {Q : S → List S → Prop} (xs : List α) (enc : α → T) (c : α → Bool) (f : α → T)
    (it : ∀ Q' : List T → List S → Prop, Q' (xs.map enc) ρ1 → t ρ Q') (no : noOwn ρ1 vs) (hl : xs.length ≤ sizeLine)
    (step : ∀ x ∈ xs, ∀ (KT : T → Prop) (KF : Prop), (c x = true → KT (f x)) → (c x = false → KF) → g (enc x) (wipeS ρ1 vs) fun ρ2 => tt ρ2 fun b ρ3 => if b = true then te ρ3 fun r ρ4 => frz r ρ4 fun y ρ5 => KT y ∧ wk ρ5 (wipeS ρ1 vs) else KF ∧ wk ρ3 (wipeS ρ1 vs))
    (h : Q (.ol ((xs.filter c).map f)) ρ1) : wLc t g tt te vs ρ Q := by
  refine it _ ⟨no, fun i acc => acc = ((xs.take i).filter c).map f, by simp, fun i y acc hy hp => ?_, fun acc hp => ?_⟩
  · rw [List.getElem?_map] at hy
    obtain ⟨x, hx, rfl⟩ := Option.map_eq_some_iff.mp hy
    have hm : x ∈ xs := List.mem_of_getElem? hx
    obtain ⟨hi, _⟩ := List.getElem?_eq_some_iff.mp hx
    have e : xs.take (i + 1) = xs.take i ++ [x] := by rw [List.take_add_one, hx]; rfl
    have hal : acc.length < sizeLine := by
      rw [hp, List.length_map]
      have h1 := List.length_filter_le c (xs.take i)
      rw [List.length_take] at h1
      omega
    refine step x hm _ _ (fun hc => ⟨hal, ?_⟩) fun hc => ?_
    · show acc ++ [f x] = ((xs.take (i + 1)).filter c).map f
      rw [e, List.filter_append, List.map_append, hp]
      simp [hc]
    · show acc = ((xs.take (i + 1)).filter c).map f
      rw [e, List.filter_append, List.map_append, hp]
      simp [hc]
  · have hp' : acc = ((xs.take (xs.map enc).length).filter c).map f := hp
    rw [hp', List.length_map, List.take_length]
    exact h
theorem lm_ty {t : WI} {g : WG} {te : WE} {vs : List Nat} {ρ ρ1 : List S} {Q : S → List S → Prop} (xs : List α) (enc : α → T) (f : α → T)
    (it : ∀ Q' : List T → List S → Prop, Q' (xs.map enc) ρ1 → t ρ Q') (no : noOwn ρ1 vs) (hl : xs.length ≤ sizeLine)
    (step : ∀ x ∈ xs, ∀ KT : T → Prop, KT (f x) → g (enc x) (wipeS ρ1 vs) fun ρ2 => te ρ2 fun r ρ4 => frz r ρ4 fun y ρ5 => KT y ∧ wk ρ5 (wipeS ρ1 vs))
    (h : Q (.ol (xs.map f)) ρ1) : wLc t g wYes te vs ρ Q := by
  refine lc_ty xs enc (fun _ => true) f it no hl (fun x hx KT KF h1 _ => ?_) (by rw [filter_tt]; exact h)
  exact step x hx KT (h1 rfl)
theorem dc_ty {t : WI} {g : WG} {tt : WT} {tk tv : WE} {vs : List Nat} {ρ ρ1 : List S} {Q : S → List S → Prop} (m : DK) (xs : List α) (enc : α → T) (c : α → Bool) (f v : α → T)
    (it : ∀ Q' : List T → List S → Prop, Q' (xs.map enc) ρ1 → t ρ Q') (no : noOwn ρ1 vs) (hl : xs.length ≤ sizeLine) (hk : ∀ x ∈ xs, c x = true → keyB m (f x) = true)
    (step : ∀ x ∈ xs, ∀ (KT : T → T → Prop) (KF : Prop), (c x = true → KT (f x) (v x)) → (c x = false → KF) → g (enc x) (wipeS ρ1 vs) fun ρ2 => tt ρ2 fun b ρ3 => if b = true then tk ρ3 fun r ρ4 => frz r ρ4 fun y ρ5 => tv ρ5 fun r2 ρ6 => frz r2 ρ6 fun z ρ7 => KT y z ∧ wk ρ7 (wipeS ρ1 vs) else KF ∧ wk ρ3 (wipeS ρ1 vs))
    (h : Q (.od m (putsT [] (((xs.filter c).map fun x => (f x, v x))))) ρ1) : wDc t g tt tk tv vs ρ Q := by
  have hlen : ∀ (ps acc : List (T × T)), (putsT acc ps).length ≤ acc.length + ps.length := by
    intro ps
    induction ps with
    | nil => intro acc; exact Nat.le_refl _
    | cons p ps ih =>
      intro acc
      have h1 := ih (putT acc p.1 p.2)
      have h2 := putT_length acc p.1 p.2
      show (putsT (putT acc p.1 p.2) ps).length ≤ _
      rw [List.length_cons]
      omega
  refine it _ ⟨no, m, fun i acc => acc = putsT [] (((xs.take i).filter c).map fun x => (f x, v x)), by simp [putsT], fun i y acc hy hp => ?_, fun acc hp => ?_⟩
  · rw [List.getElem?_map] at hy
    obtain ⟨x, hx, rfl⟩ := Option.map_eq_some_iff.mp hy
    have hm : x ∈ xs := List.mem_of_getElem? hx
    obtain ⟨hi, _⟩ := List.getElem?_eq_some_iff.mp hx
    have e : xs.take (i + 1) = xs.take i ++ [x] := by rw [List.take_add_one, hx]; rfl
    have hal : acc.length < sizeLine := by
      rw [hp]
      have h0 := hlen (((xs.take i).filter c).map fun x => (f x, v x)) []
      rw [List.length_map, List.length_nil] at h0
      have h1 := List.length_filter_le c (xs.take i)
      rw [List.length_take] at h1
      omega
    refine step x hm _ _ (fun hc => ⟨hk x hm hc, hal, ?_⟩) fun hc => ?_
    · show putT acc (f x) (v x) = putsT [] (((xs.take (i + 1)).filter c).map fun x => (f x, v x))
      rw [e, List.filter_append, List.map_append, hp]
      simp [hc, putsT]
    · show acc = putsT [] (((xs.take (i + 1)).filter c).map fun x => (f x, v x))
      rw [e, List.filter_append, List.map_append, hp]
      simp [hc]
  · have hp' : acc = putsT [] (((xs.take (xs.map enc).length).filter c).map fun x => (f x, v x)) := hp
    rw [hp', List.length_map, List.take_length]
    exact h
theorem for_ty {t : WI} {g : WG} {tb : WS} {D : ED} {ρ ρ1 : List S} (xs : List α) (enc : α → T) (P : Nat → List S → Prop) (it : ∀ Q' : List T → List S → Prop, Q' (xs.map enc) ρ1 → t ρ Q') (h0 : ∃ ρ', P 0 ρ' ∧ wk ρ1 ρ')
    (step : ∀ (i : Nat) (x : α) (ρ2 : List S), xs[i]? = some x → P i ρ2 → ∀ N : List S → Prop, (∀ ρ4 ρ', P (i + 1) ρ' → wk ρ4 ρ' → N ρ4) → g (enc x) ρ2 fun ρ3 => tb ⟨N, D.rt, D.nx, N⟩ ρ3)
    (fin : ∀ ρ2, P xs.length ρ2 → D.nx ρ2) : wFor t g tb D ρ :=
  it _ ⟨P, h0, fun i y ρ2 hy hp => by
    rw [List.getElem?_map] at hy
    obtain ⟨x, hx, rfl⟩ := Option.map_eq_some_iff.mp hy
    exact step i x ρ2 hx hp _ fun ρ4 ρ' p w => ⟨ρ', p, w⟩, fun ρ2 hp => fin ρ2 (by rw [List.length_map] at hp; exact hp)⟩
/-- a loop that goes through all, its state told by a fold -/
theorem for_fold {β : Type} {t : WI} {g : WG} {tb : WS} {D : ED} {ρ ρ1 : List S} (xs : List α) (enc : α → T) (st : β → List S) (F : β → α → β) (b0 : β) (it : ∀ Q' : List T → List S → Prop, Q' (xs.map enc) ρ1 → t ρ Q') (h0 : wk ρ1 (st b0)) (Iv : β → Prop) (i0 : Iv b0)
    (step : ∀ (i : Nat) (x : α) (b : β), xs[i]? = some x → b = (xs.take i).foldl F b0 → Iv b → ∀ N : List S → Prop, (∀ ρ4, Iv (F b x) → wk ρ4 (st (F b x)) → N ρ4) → g (enc x) (st b) fun ρ3 => tb ⟨N, D.rt, D.nx, N⟩ ρ3)
    (fin : ∀ b, b = xs.foldl F b0 → Iv b → D.nx (st b)) : wFor t g tb D ρ := by
  refine for_ty xs enc (fun i ρ => Iv ((xs.take i).foldl F b0) ∧ ρ = st ((xs.take i).foldl F b0)) it ⟨_, ⟨by simpa using i0, rfl⟩, by simpa using h0⟩ (fun i x ρ2 hx ⟨iv, hp⟩ N hN => ?_) fun ρ2 ⟨iv, hp⟩ => ?_
  · subst hp
    refine step i x _ hx rfl iv N fun ρ4 iv2 w => hN ρ4 (st (F ((xs.take i).foldl F b0) x)) ?_ w
    have e : xs.take (i + 1) = xs.take i ++ [x] := by rw [List.take_add_one, hx]; rfl
    rw [e, List.foldl_append]
    exact ⟨iv2, rfl⟩
  · rw [hp]
    rw [List.take_length] at iv ⊢
    exact fin _ rfl iv
end
theorem for_pure {t : WI} {g : WG} {tb : WS} {D : ED} {ρ ρ1 : List S} (L : List T) (P : Nat → List S → Prop) (it : ∀ Q' : List T → List S → Prop, Q' L ρ1 → t ρ Q') (h0 : P 0 ρ1)
    (step : ∀ (i : Nat) (x : T) (ρ2 : List S), L[i]? = some x → P i ρ2 → ∀ N : List S → Prop, (∀ ρ4 ρ', P (i + 1) ρ' → wk ρ4 ρ' → N ρ4) → g x ρ2 fun ρ3 => tb ⟨N, D.rt, D.nx, N⟩ ρ3)
    (fin : ∀ ρ2, P L.length ρ2 → D.nx ρ2) : wFor t g tb D ρ :=
  it _ ⟨P, ⟨ρ1, h0, wk_refl _⟩, fun i x ρ2 hx hp => step i x ρ2 hx hp _ fun ρ4 ρ' p w => ⟨ρ', p, w⟩, fin⟩
end TL
set_option Elab.async false
set_option linter.all false
set_option maxRecDepth 100000
set_option autoImplicit false
/-! TL19: dicts over typed things; ranges; cuts -/
namespace TL
open PySem PySem.Spec PyProof.Rows L2
section
variable {κ β : Type} [DecidableEq κ]
def putD (kvs : List (κ × β)) (k : κ) (v : β) : List (κ × β) := if (kvs.any fun p => p.1 == k) = true then kvs.map (fun p => if (p.1 == k) = true then (p.1, v) else p) else kvs ++ [(k, v)]
def lookD (kvs : List (κ × β)) (k : κ) : Option β := (kvs.find? fun p => p.1 == k).map (·.2)
def putsD (acc : List (κ × β)) (xs : List (κ × β)) : List (κ × β) := xs.foldl (fun a p => putD a p.1 p.2) acc
theorem lookD_put (kvs : List (κ × β)) (k y : κ) (v : β) : lookD (putD kvs k v) y = if k = y then some v else lookD kvs y := by
  unfold putD
  split
  · rename_i h
    unfold lookD
    induction kvs with
    | nil => simp at h
    | cons p kvs ih =>
      rw [List.map_cons]
      by_cases hp : p.1 = k
      · by_cases hy : k = y
        · subst hp; subst hy
          simp [List.find?_cons]
        · have h1 : p.1 ≠ y := fun e => hy (hp.symm.trans e)
          simp only [hp, beq_self_eq_true, if_true]
          rw [List.find?_cons, List.find?_cons]
          have e1 : (k == y) = false := beq_eq_false_iff_ne.mpr hy
          have e2 : (p.1 == y) = false := beq_eq_false_iff_ne.mpr h1
          simp only [e1, e2]
          rw [if_neg hy]
          by_cases hh : (kvs.any fun p => p.1 == k) = true
          · have := ih hh
            rw [if_neg hy] at this
            exact this
          · have e3 : kvs.map (fun p => if (p.1 == k) = true then (p.1, v) else p) = kvs := by
              refine (List.map_congr_left fun q hq => ?_).trans (List.map_id kvs)
              have : ¬ (q.1 == k) = true := fun z => hh (List.any_eq_true.mpr ⟨q, hq, z⟩)
              rw [if_neg this]
              rfl
            rw [e3]
      · have e1 : (p.1 == k) = false := beq_eq_false_iff_ne.mpr hp
        have hh : (kvs.any fun p => p.1 == k) = true := by
          rw [List.any_cons, e1, Bool.false_or] at h
          exact h
        simp only [e1, Bool.false_eq_true, if_false]
        rw [List.find?_cons, List.find?_cons]
        by_cases hy : p.1 = y
        · subst hy
          have h2 : ¬ k = p.1 := fun e => hp e.symm
          simp [h2]
        · have e2 : (p.1 == y) = false := beq_eq_false_iff_ne.mpr hy
          simp only [e2]
          exact ih hh
  · rename_i h
    unfold lookD
    rw [List.find?_append]
    by_cases hy : k = y
    · subst hy
      have e : kvs.find? (fun p => p.1 == k) = none := by
        rw [List.find?_eq_none]
        intro p hp z
        exact h (List.any_eq_true.mpr ⟨p, hp, z⟩)
      rw [e]
      simp [List.find?_cons]
    · have e1 : (k == y) = false := beq_eq_false_iff_ne.mpr hy
      rw [if_neg hy]
      cases hf : kvs.find? (fun p => p.1 == y) with
      | some p => simp
      | none => simp [List.find?_cons, e1]
variable (ek : κ → T) (ev : β → T) (he : ∀ a b, eqT (ek a) (ek b) = (a == b))
theorem putT_ty (kvs : List (κ × β)) (k : κ) (v : β) (he : ∀ a b, eqT (ek a) (ek b) = (a == b)) : putT (kvs.map fun p => (ek p.1, ev p.2)) (ek k) (ev v) = (putD kvs k v).map fun p => (ek p.1, ev p.2) := by
  unfold putT putD
  have e : ((kvs.map fun p => (ek p.1, ev p.2)).any fun p => eqT p.1 (ek k)) = kvs.any fun p => p.1 == k := by
    rw [List.any_map]
    congr 1
    funext p
    exact he _ _
  rw [e]
  split
  · rw [List.map_map, List.map_map]
    apply List.map_congr_left
    intro p _
    simp only [Function.comp, he]
    split <;> rfl
  · simp
theorem putsT_ty (xs : List (κ × β)) (he : ∀ a b, eqT (ek a) (ek b) = (a == b)) : ∀ acc : List (κ × β), putsT (acc.map fun p => (ek p.1, ev p.2)) (xs.map fun p => (ek p.1, ev p.2)) = (putsD acc xs).map fun p => (ek p.1, ev p.2) := by
  induction xs with
  | nil => intro acc; rfl
  | cons p xs ih =>
    intro acc
    show putsT (putT (acc.map fun p => (ek p.1, ev p.2)) (ek p.1) (ev p.2)) (xs.map fun p => (ek p.1, ev p.2)) = _
    rw [putT_ty ek ev acc p.1 p.2 he, ih]
    rfl
theorem look_ty (kvs : List (κ × β)) (k : κ) (he : ∀ a b, eqT (ek a) (ek b) = (a == b)) : look (kvs.map fun p => (ek p.1, ev p.2)) (ek k) = (lookD kvs k).map ev := by
  unfold look lookD
  rw [List.find?_map]
  have e : ((fun p : T × T => eqT p.1 (ek k)) ∘ fun p : κ × β => (ek p.1, ev p.2)) = fun p => p.1 == k := by
    funext p
    exact he _ _
  rw [e]
  cases kvs.find? fun p => p.1 == k <;> rfl
theorem lookD_puts (xs : List (κ × β)) (y : κ) : ∀ acc : List (κ × β), lookD (putsD acc xs) y = match (xs.reverse.find? fun p => p.1 == y) with | some p => some p.2 | none => lookD acc y := by
  induction xs with
  | nil => intro acc; rfl
  | cons p xs ih =>
    intro acc
    show lookD (putsD (putD acc p.1 p.2) xs) y = _
    rw [ih, List.reverse_cons, List.find?_append]
    cases xs.reverse.find? fun p => p.1 == y with
    | some q => rfl
    | none =>
      rw [lookD_put]
      by_cases h : p.1 = y
      · simp [List.find?_cons, h]
      · have e : (p.1 == y) = false := beq_eq_false_iff_ne.mpr h
        simp [List.find?_cons, h, e]
/-- {x: v for x in xs}: what is there -/
theorem lookD_keys (xs : List κ) (v : β) (y : κ) : lookD (putsD [] (xs.map fun x => (x, v))) y = if y ∈ xs then some v else none := by
  rw [lookD_puts]
  by_cases h : y ∈ xs
  · rw [if_pos h]
    have : ∃ p, (xs.map fun x => (x, v)).reverse.find? (fun p => p.1 == y) = some p := by
      rw [← Option.isSome_iff_exists, List.find?_isSome]
      exact ⟨(y, v), by simp [h], by simp⟩
    obtain ⟨p, hp⟩ := this
    rw [hp]
    have hm := List.mem_of_find?_eq_some hp
    rw [List.mem_reverse, List.mem_map] at hm
    obtain ⟨x, _, rfl⟩ := hm
    rfl
  · rw [if_neg h]
    have : (xs.map fun x => (x, v)).reverse.find? (fun p => p.1 == y) = none := by
      rw [List.find?_eq_none]
      intro p hp
      rw [List.mem_reverse, List.mem_map] at hp
      obtain ⟨x, hx, rfl⟩ := hp
      simp
      rintro rfl
      exact h hx
    rw [this]
    rfl
end
abbrev nT (k : Nat) : T := .int (k : Int)
abbrev pT (p : Nat × Nat) : T := .tup [nT p.1, nT p.2]
abbrev lT (l : List Nat) : T := .tup (l.map nT)
theorem range_n (n : Nat) : rangeTs 0 n = (List.range n).map nT := by
  unfold rangeTs
  apply List.map_congr_left
  intro i _
  rw [Int.zero_add]
theorem range_ab (a n : Nat) : rangeTs (a : Int) n = (List.range' a n).map nT := by
  unfold rangeTs
  rw [List.range'_eq_map_range, List.map_map]
  apply List.map_congr_left
  intro i _
  show T.int ((a : Int) + (i : Int)) = T.int ((a + i : Nat) : Int)
  rw [Int.natCast_add]
theorem eqT_n (a b : Nat) : eqT (nT a) (nT b) = (a == b) := by
  rw [eqT_int, Bool.eq_iff_iff]
  simp
  omega
theorem eqT_p (p q : Nat × Nat) : eqT (pT p) (pT q) = (p == q) := by
  obtain ⟨a, b⟩ := p
  obtain ⟨c, d⟩ := q
  rw [Bool.eq_iff_iff]
  simp [pT]
  omega
theorem eqTs_l : ∀ (l m : List Nat), eqTs (l.map nT) (m.map nT) = (l == m)
  | [], [] => rfl
  | [], y :: m => by rw [List.map_cons]; simp
  | x :: l, [] => by rw [List.map_cons]; simp
  | x :: l, y :: m => by
    rw [List.map_cons, List.map_cons, eqTs_cons, eqT_n, eqTs_l l m]
    rfl
theorem eqT_l (l m : List Nat) : eqT (lT l) (lT m) = (l == m) := by rw [eqT_tup, eqTs_l]
theorem eqD_n (a b : Nat) : eqT (nT a) (nT b) = @BEq.beq Nat instBEqOfDecidableEq a b := eqT_n a b
theorem eqD_p (a b : Nat × Nat) : eqT (pT a) (pT b) = @BEq.beq (Nat × Nat) instBEqOfDecidableEq a b := by
  rw [eqT_p, Bool.eq_iff_iff]
  simp
theorem eqD_l (a b : List Nat) : eqT (lT a) (lT b) = @BEq.beq (List Nat) instBEqOfDecidableEq a b := by
  rw [eqT_l, Bool.eq_iff_iff]
  simp
theorem cut_from (xs : List T) (i : Nat) : cutT xs (some (i : Int)) none = xs.drop i := by
  unfold cutT
  rw [HT.sIx_nat, HT.sIx_none]
  rcases Nat.le_total i xs.length with h | h
  · rw [Nat.min_eq_left h]
    exact List.take_of_length_le (by rw [List.length_drop]; exact Nat.le_refl _)
  · rw [Nat.min_eq_right h, List.drop_of_length_le (Nat.le_refl _), List.drop_of_length_le h]
    simp
theorem cut_from' (xs : List T) (i : Nat) : cutT xs (some (OfNat.ofNat i)) none = xs.drop i := cut_from xs i
theorem cut_to (xs : List T) (i : Nat) : cutT xs none (some (i : Int)) = xs.take i := by
  unfold cutT
  rw [HT.sIx_nat, HT.sIx_none, Nat.sub_zero, List.drop_zero]
  rcases Nat.le_total i xs.length with h | h
  · rw [Nat.min_eq_left h]
  · rw [Nat.min_eq_right h, List.take_of_length_le h, List.take_of_length_le (Nat.le_refl _)]
theorem mem_p (p : Nat × Nat) (ts : List (Nat × Nat)) : memT (pT p) (ts.map pT) = ts.contains p := by
  unfold memT
  rw [List.any_map, List.contains_eq_any_beq]
  congr 1
  funext q
  show eqT (pT q) (pT p) = (p == q)
  rw [eqT_p, Bool.eq_iff_iff]
  simp
  exact eq_comm
theorem mem_n (k : Nat) (l : List Nat) : memT (nT k) (l.map nT) = l.contains k := by
  unfold memT
  rw [List.any_map, List.contains_eq_any_beq]
  congr 1
  funext q
  show eqT (nT q) (nT k) = (k == q)
  rw [eqT_n, Bool.eq_iff_iff]
  simp
  exact eq_comm
end TL
set_option Elab.async false
set_option linter.all false
set_option maxRecDepth 100000
set_option autoImplicit false
/-! O1: orders as trees; their judging -/
namespace TL
open PySem PySem.Spec PyProof.Rows L2
/-! ### whole numbers -/
def wholeB : T → Bool
  | .int _ => true
  | _ => false
def sp_is_whole : TSp := sp1 fun t Q => isRaw t = false ∧ Q (.bl (wholeB t))
@[simp] theorem whole_eq (t : T) (Q : T → Prop) : sp_is_whole [t] Q ↔ isRaw t = false ∧ Q (.bl (wholeB t)) := by simp [sp_is_whole, sp1]
/-- slots: thing -/
def t_is_whole : WS :=
  (wRet (wAndV (wCB oIsi (wConsR (wVar 0) (wConsR (wC (.raw (.ty "int"))) wNilR))) (wNotV (wCB oIsi (wConsR (wVar 0) (wConsR (wC (.raw (.ty "bool"))) wNilR))))))
theorem read_is_whole : ∀ xs Q, sp_is_whole xs Q → t_is_whole { nx := fun _ => Q .non, rt := Q } (startS 1 xs) := by
  rintro xs Q ⟨t, rfl, hr, q⟩
  cases t <;> first | (cases hr; done) | (simp [t_is_whole, startS, wholeB, isRaw, tyKnown, tyIs, tyOf] at q ⊢; exact q)
def belowB (t : T) (m : Int) : Bool := match t with
  | .int i => decide (0 ≤ i) && decide (i < m)
  | _ => false
def sp_is_below : TSp := sp2 fun t m Q => isRaw t = false ∧ ∃ k : Int, m = .int k ∧ Q (.bl (belowB t k))
@[simp] theorem below_eq (t : T) (k : Int) (Q : T → Prop) : sp_is_below [t, .int k] Q ↔ isRaw t = false ∧ Q (.bl (belowB t k)) := by
  constructor
  · rintro ⟨a, b, e, h, k', rfl, q⟩
    cases e
    exact ⟨h, q⟩
  · rintro ⟨h, q⟩
    exact ⟨t, _, rfl, h, k, rfl, q⟩
/-- slots: thing, many -/
def t_is_below : WS :=
  (wRet (wAndV (wCall (fun xs => sp_is_whole (xs ++ [])) (wCons (wVar 0) wNil)) (wChain (oI fun i j => decide (i ≤ j)) oLtA (wC (.int 0)) (wVar 0) (wVar 1))))
theorem read_is_below : ∀ xs Q, sp_is_below xs Q → t_is_below { nx := fun _ => Q .non, rt := Q } (startS 2 xs) := by
  rintro xs Q ⟨t, m, rfl, hr, k, rfl, q⟩
  cases t <;> first | (cases hr; done) | (simp [t_is_below, startS, wholeB, belowB, isRaw] at q ⊢; first | exact q | skip)
  split
  · simp_all
  · simp_all
/-! ### orders -/
abbrev oT (n : Nat) (ts : List (Nat × Nat)) : T := .tup [.str "order", nT n, .tup (ts.map pT)]
theorem sl1 : (1 : Nat) ≤ sizeLine := by decide
theorem sl2 : (2 : Nat) ≤ sizeLine := by decide
theorem sl3 : (3 : Nat) ≤ sizeLine := by decide
/-! ### pairs -/
def sp_are_pairs : TSp := sp2 fun t m Q => ∃ (ts : List (Nat × Nat)) (k : Int), t = .tup (ts.map pT) ∧ m = .int k ∧ ts.length ≤ sizeLine ∧ (ts.length : Int) ≤ k ∧ Q (.bl true)
theorem call_are_pairs {ts : List (Nat × Nat)} {k : Int} {Q : T → Prop} (hl : ts.length ≤ sizeLine) (hk : (ts.length : Int) ≤ k) (q : Q (.bl true)) : sp_are_pairs [.tup (ts.map pT), .int k] Q := ⟨_, _, rfl, ts, k, rfl, rfl, hl, hk, q⟩
/-- slots: thing, most, one -/
def t_are_pairs : WS :=
  (wSeq (wIfS (wOrT (wNotT (wB (wCB oIsi (wConsR (wVar 0) (wConsR (wC (.raw (.ty "tuple"))) wNilR))))) (wB (wOp (oI fun i j => decide (j < i)) (wCB oLen (wConsR (wVar 0) wNilR)) (wVar 1)))) (wRet (wC (.bl false))) wNext)
  (wRet (wCB oAll (wConsR (wFz (wLc (wSq (wVar 0)) (gSet 2) wYes (wAndV (wCB oIsi (wConsR (wVar 2) (wConsR (wC (.raw (.ty "tuple"))) wNilR))) (wOp oEqA (wCB oLen (wConsR (wVar 2) wNilR)) (wC (.int 2)))) [2])) wNilR))))
theorem read_are_pairs : ∀ xs Q, sp_are_pairs xs Q → t_are_pairs { nx := fun _ => Q .non, rt := Q } (startS 3 xs) := by
  rintro xs Q ⟨t, m, rfl, ts, k, rfl, rfl, hl, hk, q⟩
  simp [t_are_pairs, startS]
  refine .inl ⟨hk, ?_⟩
  refine lc_map (ρ1 := [.d (.tup (ts.map pT)), .d (.int k), .no]) (ts.map pT) (fun _ => .bl true) (fun Q' h => by simpa using h) (by simp) (by simpa using hl) (fun x hx KT h1 => ?_) ?_
  · obtain ⟨p, hp, rfl⟩ := List.mem_map.mp hx
    simp [pT]
    exact h1
  · simp
    refine ⟨ts.map fun _ => true, by simp, ?_⟩
    rw [show (ts.map fun _ => true).all id = true by simp]
    exact q
/-! ### rising -/
def ltP (p q : Nat × Nat) : Bool := decide (p.1 < q.1) || (p.1 == q.1 && decide (p.2 < q.2))
theorem pT_ints (p : Nat × Nat) : pT p = .tup ([(p.1 : Int), (p.2 : Int)].map T.int) := rfl
@[simp] theorem ltT_p (p q : Nat × Nat) : ltT (pT p) (pT q) = ltP p q := by
  rw [pT_ints, pT_ints, ltT_ints]
  unfold ltP
  rw [Bool.eq_iff_iff]
  simp [List.cons_lt_cons_iff]
  omega
@[simp] theorem alikeT_p (p q : Nat × Nat) : alikeT (pT p) (pT q) = true := by rw [pT_ints, pT_ints, alikeT_ints]
def risingB (ts : List (Nat × Nat)) : Bool := (List.zipWith ltP ts (ts.drop 1)).all id
theorem zip_mem {ts us : List (Nat × Nat)} {x : T} (h : x ∈ zipTs (ts.map pT) (us.map pT)) : ∃ p q, x = .tup [pT p, pT q] := by
  unfold zipTs at h
  rw [List.zipWith_map] at h
  obtain ⟨i, hi, e⟩ := List.getElem_of_mem h
  rw [List.getElem_zipWith] at e
  exact ⟨_, _, e.symm⟩
def sp_are_rising : TSp := sp1 fun t Q => ∃ ts : List (Nat × Nat), t = .tup (ts.map pT) ∧ ts.length ≤ sizeLine ∧ Q (.bl (risingB ts))
theorem call_are_rising {ts : List (Nat × Nat)} {Q : T → Prop} (hl : ts.length ≤ sizeLine) (q : Q (.bl (risingB ts))) : sp_are_rising [.tup (ts.map pT)] Q := ⟨_, rfl, ts, rfl, hl, q⟩
/-- slots: things, one, other -/
def t_are_rising : WS :=
  (wRet (wCB oAll (wConsR (wFz (wLc (wZip (wCons (wVar 0) (wCons (wSl (wVar 0) (wPart (wC (.int 1))) wPart0) wNil))) (gTupT 2 (gConsT (gSet 1) (gConsT (gSet 2) gNilT))) wYes (wOp oLtA (wVar 1) (wVar 2)) [1, 2])) wNilR)))
theorem read_are_rising : ∀ xs Q, sp_are_rising xs Q → t_are_rising { nx := fun _ => Q .non, rt := Q } (startS 3 xs) := by
  rintro xs Q ⟨t, rfl, ts, rfl, hl, q⟩
  simp [t_are_rising, startS]
  refine lc_map (ρ1 := [.d (.tup (ts.map pT)), .no, .no]) (zipTs (ts.map pT) ((ts.drop 1).map pT)) (fun x => match x with | .tup [a, b] => .bl (ltT a b) | _ => .non) (fun Q' h => ?_) (by simp) ?_ (fun x hx KT h1 => ?_) ?_
  · simp
    rw [cut_from' _ 1]
    simpa using h
  · simp [zipTs]
    omega
  · obtain ⟨p, q', rfl⟩ := zip_mem hx
    simp at h1 ⊢
    exact h1
  · simp
    refine ⟨List.zipWith ltP ts (ts.drop 1), ?_, q⟩
    unfold zipTs
    rw [← List.map_tail, ← List.drop_one, List.zipWith_map, List.map_zipWith, List.map_zipWith]
    congr 1
    funext p q'
    simp
/-! ### counts, ties -/
def sp_is_count : TSp := sp1 fun t Q => ∃ n : Nat, t = nT n ∧ Q (.bl (decide (1 ≤ n) && decide (n ≤ 6)))
theorem call_is_count {n : Nat} {Q : T → Prop} (q : Q (.bl (decide (1 ≤ n) && decide (n ≤ 6)))) : sp_is_count [nT n] Q := ⟨_, rfl, n, rfl, q⟩
/-- slots: thing -/
def t_is_count : WS :=
  (wRet (wAndV (wCall (fun xs => sp_is_below (xs ++ [])) (wCons (wVar 0) (wCons (wOp oAdd (wC (.int 6)) (wC (.int 1))) wNil))) (wOp (oI fun i j => decide (j < i)) (wVar 0) (wC (.int 0)))))
theorem read_is_count : ∀ xs Q, sp_is_count xs Q → t_is_count { nx := fun _ => Q .non, rt := Q } (startS 1 xs) := by
  rintro xs Q ⟨t, rfl, n, rfl, q⟩
  simp [t_is_count, startS, belowB]
  by_cases h : n < 7
  · refine .inr ⟨by omega, ?_⟩
    have e : decide (0 < n) = (decide (1 ≤ n) && decide (n ≤ 6)) := by rw [Bool.eq_iff_iff]; simp; omega
    rw [e]
    exact q
  · refine .inl ⟨by omega, ?_⟩
    have e : false = (decide (1 ≤ n) && decide (n ≤ 6)) := by symm; rw [← Bool.not_eq_true]; simp; omega
    rw [e]
    exact q
def belowAll (n : Nat) (ts : List (Nat × Nat)) : Prop := ∀ p ∈ ts, p.1 < p.2 ∧ p.2 < n
def sp_are_ties : TSp := sp3 fun m t k Q => ∃ (n : Nat) (ts : List (Nat × Nat)) (l : Int), m = nT n ∧ t = .tup (ts.map pT) ∧ k = .int l ∧ ts.length ≤ sizeLine ∧ (ts.length : Int) ≤ l ∧ belowAll n ts ∧ risingB ts = true ∧ Q (.bl true)
theorem call_are_ties {n : Nat} {ts : List (Nat × Nat)} {l : Int} {Q : T → Prop} (hl : ts.length ≤ sizeLine) (hk : (ts.length : Int) ≤ l) (hb : belowAll n ts) (hr : risingB ts = true) (q : Q (.bl true)) : sp_are_ties [nT n, .tup (ts.map pT), .int l] Q := ⟨_, _, _, rfl, n, ts, l, rfl, rfl, rfl, hl, hk, hb, hr, q⟩
/-- slots: many, thing, most, one, other -/
def t_are_ties : WS :=
  (wSeq (wIfS (wNotT (wB (wCall (fun xs => sp_are_pairs (xs ++ [])) (wCons (wVar 1) (wCons (wVar 2) wNil))))) (wRet (wC (.bl false))) wNext)
  (wSeq (wIfS (wNotT (wB (wCB oAll (wConsR (wFz (wLc (wSq (wVar 1)) (gTupT 2 (gConsT (gSet 3) (gConsT (gSet 4) gNilT))) wYes (wAndV (wCall (fun xs => sp_is_below (xs ++ [])) (wCons (wVar 3) (wCons (wVar 0) wNil))) (wAndV (wCall (fun xs => sp_is_below (xs ++ [])) (wCons (wVar 4) (wCons (wVar 0) wNil))) (wOp oLtA (wVar 3) (wVar 4)))) [3, 4])) wNilR)))) (wRet (wC (.bl false))) wNext)
  (wRet (wCall (fun xs => sp_are_rising (xs ++ [])) (wCons (wVar 1) wNil)))))
theorem read_are_ties : ∀ xs Q, sp_are_ties xs Q → t_are_ties { nx := fun _ => Q .non, rt := Q } (startS 5 xs) := by
  rintro xs Q ⟨m, t, k, rfl, n, ts, l, rfl, rfl, rfl, hl, hk, hb, hr, q⟩
  simp [t_are_ties, startS]
  refine call_are_pairs hl hk ?_
  simp
  refine lc_map (ρ1 := [.d (nT n), .d (.tup (ts.map pT)), .d (.int l), .no, .no]) (ts.map pT) (fun _ => .bl true) (fun Q' h => by simpa using h) (by simp) (by simpa using hl) (fun x hx KT h1 => ?_) ?_
  · obtain ⟨p, hp, rfl⟩ := List.mem_map.mp hx
    obtain ⟨h2, h3⟩ := hb p hp
    have e1 : belowB (nT p.1) n = true := by simp [belowB]; omega
    have e2 : belowB (nT p.2) n = true := by simp [belowB]; omega
    have e3 : decide (p.1 < p.2) = true := decide_eq_true h2
    simp [e1, e2, h2]
    exact h1
  · simp
    refine ⟨ts.map fun _ => true, by simp, ?_⟩
    simp
    exact call_are_rising hl (by rw [hr]; exact q)
def closedB (ts : List (Nat × Nat)) : Bool := ts.all fun p => (ts.filter fun q => q.1 == p.2).all fun q => ts.contains (p.1, q.2)
def sp_is_closed : TSp := sp1 fun t Q => ∃ ts : List (Nat × Nat), t = .tup (ts.map pT) ∧ ts.length ≤ sizeLine ∧ closedB ts = true ∧ Q (.bl true)
/-- slots: ties, known, tie, one, middle, own, other -/
def t_is_closed : WS :=
  (wSeq (wSet 1 (wFz (wDc (wSq (wVar 0)) (gSet 2) wYes (wVar 2) (wC (.bl true)) [2])))
  (wSeq (wFor (wSq (wVar 0)) (gTupT 2 (gConsT (gSet 3) (gConsT (gSet 4) gNilT))) (wIfS (wNotT (wB (wCB oAll (wConsR (wFz (wLc (wSq (wVar 0)) (gTupT 2 (gConsT (gSet 5) (gConsT (gSet 6) gNilT))) (wB (wOp oEqA (wVar 5) (wVar 4))) (wOp oIn (wTup (wCons (wVar 3) (wCons (wVar 6) wNil))) (wVar 1)) [5, 6])) wNilR)))) (wRet (wC (.bl false))) wNext))
  (wRet (wC (.bl true)))))
theorem read_is_closed : ∀ xs Q, sp_is_closed xs Q → t_is_closed { nx := fun _ => Q .non, rt := Q } (startS 7 xs) := by
  rintro xs Q ⟨t, rfl, ts, rfl, hl, hc, q⟩
  simp [t_is_closed, startS]
  refine dc_ty (ρ1 := [.d (.tup (ts.map pT)), .no, .no, .no, .no, .no, .no]) .tup ts pT (fun _ => true) pT (fun _ => .bl true) (fun Q' h => by simpa using h) (by simp) hl (fun p hp _ => by simp [keyB, isTupT, nkOk, nksOk]) (fun p hp KT KF h1 _ => ?_) ?_
  · simp
    exact h1 rfl
  rw [filter_tt]
  have ek : putsT [] (ts.map fun x => (pT x, T.bl true)) = (putsD [] (ts.map fun x => (x, true))).map fun p => (pT p.1, T.bl p.2) := by
    rw [← putsT_ty pT T.bl _ eqD_p [], List.map_map]
    rfl
  rw [ek]
  generalize hkn : putsD [] (ts.map fun x => (x, true)) = kn
  have lk : ∀ y, (lookD kn y).isSome = ts.contains y := fun y => by
    rw [← hkn, lookD_keys]
    by_cases h : y ∈ ts <;> simp [h]
  simp
  refine for_ty (ρ1 := [.d (.tup (ts.map pT)), .d (.dic .tup (kn.map fun p => (pT p.1, T.bl p.2))), .no, .no, .no, .no, .no]) ts pT (fun i ρ => ∃ s3 s4 : S, ρ = [.d (.tup (ts.map pT)), .d (.dic .tup (kn.map fun p => (pT p.1, T.bl p.2))), .no, s3, s4, .no, .no] ∧ s3.isOwn = false ∧ s4.isOwn = false) (fun Q' h => by simpa using h) ⟨_, ⟨.no, .no, rfl, rfl, rfl⟩, wk_refl _⟩ (fun i p ρ hp => ?_) ?_
  · rintro ⟨s3, s4, rfl, o3, o4⟩ N hN
    have hm : p ∈ ts := List.mem_of_getElem? hp
    simp
    refine lc_ty (ρ1 := [.d (.tup (ts.map pT)), .d (.dic .tup (kn.map fun p => (pT p.1, T.bl p.2))), .no, .d (nT p.1), .d (nT p.2), .no, .no]) ts pT (fun q' => q'.1 == p.2) (fun q' => .bl (ts.contains (p.1, q'.2))) (fun Q' h => by simpa using h) (by simp) hl (fun q' hq' KT KF h1 h2 => ?_) ?_
    · have e := look_ty pT T.bl kn (p.1, q'.2) eqD_p
      simp [eqT_n] at h1 h2 ⊢
      by_cases h : q'.1 = p.2
      · refine .inr ⟨by omega, sl2, by simp [keyB, isTupT, nkOk, nksOk], ?_⟩
        rw [e, Option.isSome_map, lk]
        simpa using h1 h
      · exact .inl ⟨by omega, h2 h⟩
    · simp
      refine ⟨(ts.filter fun q' => q'.1 == p.2).map fun q' => decide ((p.1, q'.2) ∈ ts), by simp, ?_⟩
      have hf : false ∉ (ts.filter fun q' => q'.1 == p.2).map fun q' => decide ((p.1, q'.2) ∈ ts) := by
        intro hf
        obtain ⟨q', hq', e⟩ := List.mem_map.mp hf
        have hc' := List.all_eq_true.mp (List.all_eq_true.mp hc p hm) q' hq'
        have e2 := of_decide_eq_false e
        exact e2 (by simpa using hc')
      simp [hf]
      exact hN _ _ ⟨_, _, rfl, rfl, rfl⟩ (wk_refl _)
  · rintro ρ ⟨s3, s4, rfl, o3, o4⟩
    simp
    exact q
/-! ### orders judged -/
/-- what is an order, as this program judges it -/
structure Ord (n : Nat) (ts : List (Nat × Nat)) : Prop where
  pos : 1 ≤ n
  six : n ≤ 6
  len : ts.length ≤ 15
  below : belowAll n ts
  rising : risingB ts = true
  closed : closedB ts = true
theorem fif {k : Nat} (h : k ≤ 15) : k ≤ sizeLine := Nat.le_trans h (by decide)
theorem call_is_closed {ts : List (Nat × Nat)} {Q : T → Prop} (hl : ts.length ≤ sizeLine) (hc : closedB ts = true) (q : Q (.bl true)) : sp_is_closed [.tup (ts.map pT)] Q := ⟨_, rfl, ts, rfl, hl, hc, q⟩
def sp_is_order : TSp := sp1 fun t Q => ∃ (n : Nat) (ts : List (Nat × Nat)), t = oT n ts ∧ Ord n ts ∧ Q (.bl true)
theorem call_is_order {n : Nat} {ts : List (Nat × Nat)} {Q : T → Prop} (h : Ord n ts) (q : Q (.bl true)) : sp_is_order [oT n ts] Q := ⟨_, rfl, n, ts, rfl, h, q⟩
/-- slots: thing -/
def t_is_order : WS :=
  (wSeq (wIfS (wOrT (wNotT (wB (wCB oIsi (wConsR (wVar 0) (wConsR (wC (.raw (.ty "tuple"))) wNilR))))) (wOrT (wB (wOp oNeA (wCB oLen (wConsR (wVar 0) wNilR)) (wC (.int 3)))) (wOrT (wNotT (wB (wCB oIsi (wConsR (wOp oIx (wVar 0) (wC (.int 0))) (wConsR (wC (.raw (.ty "str"))) wNilR))))) (wB (wOp oNeA (wOp oIx (wVar 0) (wC (.int 0))) (wC (.str "order"))))))) (wRet (wC (.bl false))) wNext)
  (wRet (wAndV (wCall (fun xs => sp_is_count (xs ++ [])) (wCons (wOp oIx (wVar 0) (wC (.int 1))) wNil)) (wAndV (wCall (fun xs => sp_are_ties (xs ++ [(.int 15)])) (wCons (wOp oIx (wVar 0) (wC (.int 1))) (wCons (wOp oIx (wVar 0) (wC (.int 2))) wNil))) (wCall (fun xs => sp_is_closed (xs ++ [])) (wCons (wOp oIx (wVar 0) (wC (.int 2))) wNil))))))
theorem atI_0 (xs : List T) (x : T) : atI (x :: xs) 0 = some x := atI_nat (j := 0) rfl
theorem atI_1 (xs : List T) (x y : T) : atI (x :: y :: xs) 1 = some y := atI_nat (j := 1) rfl
theorem atI_2 (xs : List T) (x y z : T) : atI (x :: y :: z :: xs) 2 = some z := atI_nat (j := 2) rfl
theorem read_is_order : ∀ xs Q, sp_is_order xs Q → t_is_order { nx := fun _ => Q .non, rt := Q } (startS 1 xs) := by
  rintro xs Q ⟨t, rfl, n, ts, rfl, h, q⟩
  simp [t_is_order, startS, atI_0, atI_1, atI_2]
  refine .inl (call_is_count ?_)
  have e : (decide (1 ≤ n) && decide (n ≤ 6)) = true := by simp [h.pos, h.six]
  rw [e]
  simp
  refine call_are_ties (fif h.len) (by have := h.len; omega) h.below h.rising ?_
  simp
  exact call_is_closed (fif h.len) h.closed q
def sp_need_order : TSp := sp1 fun t Q => ∃ (n : Nat) (ts : List (Nat × Nat)), t = oT n ts ∧ Ord n ts ∧ Q .non
theorem call_need_order {n : Nat} {ts : List (Nat × Nat)} {Q : T → Prop} (h : Ord n ts) (q : Q .non) : sp_need_order [oT n ts] Q := ⟨_, rfl, n, ts, rfl, h, q⟩
/-- slots: order -/
def t_need_order : WS :=
  (wIfS (wNotT (wB (wCall (fun xs => sp_is_order (xs ++ [])) (wCons (wVar 0) wNil)))) wNever wNext)
theorem read_need_order : ∀ xs Q, sp_need_order xs Q → t_need_order { nx := fun _ => Q .non, rt := Q } (startS 1 xs) := by
  rintro xs Q ⟨t, rfl, n, ts, rfl, h, q⟩
  simp [t_need_order, startS]
  exact call_is_order h (by simpa using q)
end TL
set_option Elab.async false
set_option linter.all false
set_option maxRecDepth 100000
set_option autoImplicit false
/-! O2: lines of an order -/
namespace TL
open PySem PySem.Spec PyProof.Rows L2
def okAt (ts : List (Nat × Nat)) (line : List Nat) (p : Nat) : Bool := !(line.contains p) && ((ts.filter fun q => q.2 == p).all fun q => line.contains q.1)
def lnIn (ts : List (Nat × Nat)) (line : List Nat) (later : List (List Nat)) (p : Nat) : List (List Nat) := if okAt ts line p = true then later ++ [line ++ [p]] else later
def lnMid (n : Nat) (ts : List (Nat × Nat)) (later : List (List Nat)) (line : List Nat) : List (List Nat) := (List.range n).foldl (lnIn ts line) later
def lnOut (n : Nat) (ts : List (Nat × Nat)) (found : List (List Nat)) (_lap : Nat) : List (List Nat) := found.foldl (lnMid n ts) []
def linesU (n : Nat) (ts : List (Nat × Nat)) : List (List Nat) := (List.range n).foldl (lnOut n ts) [[]]
def leL (a b : List Nat) : Bool := leT (lT a) (lT b)
def sortL (ls : List (List Nat)) : List (List Nat) := ls.mergeSort leL
def lines (n : Nat) (ts : List (Nat × Nat)) : List (List Nat) := sortL (linesU n ts)
theorem lnIn_len (ts : List (Nat × Nat)) (line : List Nat) : ∀ (ps : List Nat) (later : List (List Nat)), (ps.foldl (lnIn ts line) later).length ≤ later.length + ps.length
  | [], later => Nat.le_refl _
  | p :: ps, later => by
    have h := lnIn_len ts line ps (lnIn ts line later p)
    have h2 : (lnIn ts line later p).length ≤ later.length + 1 := by
      unfold lnIn
      split
      · simp
      · omega
    show (ps.foldl (lnIn ts line) (lnIn ts line later p)).length ≤ _
    rw [List.length_cons]
    omega
theorem lnMid_len (n : Nat) (ts : List (Nat × Nat)) : ∀ (ls later : List (List Nat)), (ls.foldl (lnMid n ts) later).length ≤ later.length + ls.length * n
  | [], later => by simp
  | l :: ls, later => by
    have h := lnMid_len n ts ls (lnMid n ts later l)
    have h2 := lnIn_len ts l (List.range n) later
    rw [List.length_range] at h2
    show (ls.foldl (lnMid n ts) (lnMid n ts later l)).length ≤ _
    rw [List.length_cons, Nat.add_mul, Nat.one_mul]
    have h3 : (lnMid n ts later l).length ≤ later.length + n := h2
    omega
theorem lnOut_len (n : Nat) (ts : List (Nat × Nat)) : ∀ (ks : List Nat) (f : List (List Nat)), (ks.foldl (lnOut n ts) f).length ≤ f.length * n ^ ks.length
  | [], f => by simp
  | k :: ks, f => by
    have h := lnOut_len n ts ks (lnOut n ts f k)
    have h2 := lnMid_len n ts f []
    rw [List.length_nil, Nat.zero_add] at h2
    show (ks.foldl (lnOut n ts) (lnOut n ts f k)).length ≤ _
    have h3 : (lnOut n ts f k).length ≤ f.length * n := h2
    calc _ ≤ (lnOut n ts f k).length * n ^ ks.length := h
      _ ≤ (f.length * n) * n ^ ks.length := Nat.mul_le_mul_right _ h3
      _ = f.length * n ^ (k :: ks).length := by rw [List.length_cons, Nat.pow_succ, Nat.mul_assoc, Nat.mul_comm n]
theorem six_pow {n k : Nat} (hn : n ≤ 6) (hk : k ≤ 6) : n ^ k ≤ 46656 := by
  calc n ^ k ≤ 6 ^ k := Nat.pow_le_pow_left hn k
    _ ≤ 6 ^ 6 := Nat.pow_le_pow_right (by decide) hk
    _ = 46656 := by decide
theorem found_len {n : Nat} (hn : n ≤ 6) (ts : List (Nat × Nat)) {i : Nat} (hi : i ≤ n) : (((List.range n).take i).foldl (lnOut n ts) [[]]).length ≤ 46656 := by
  have h := lnOut_len n ts ((List.range n).take i) [[]]
  rw [List.length_take, List.length_range, Nat.min_eq_left hi] at h
  simp only [List.length_cons, List.length_nil, Nat.zero_add, Nat.one_mul] at h
  exact Nat.le_trans h (six_pow hn (Nat.le_trans hi hn))
theorem sortL_eq (ls : List (List Nat)) : (ls.map lT).mergeSort leT = (sortL ls).map lT := by
  unfold sortL
  rw [List.map_mergeSort]
  intro a _ b _
  rfl
/-- the rows that are made are not empty -/
theorem mem_lnIn (ts : List (Nat × Nat)) (line : List Nat) : ∀ (ps : List Nat) (later : List (List Nat)) (x : List Nat), x ∈ ps.foldl (lnIn ts line) later → x ∈ later ∨ x ≠ []
  | [], later, x, h => .inl h
  | p :: ps, later, x, h => by
    rcases mem_lnIn ts line ps (lnIn ts line later p) x h with h | h
    · unfold lnIn at h
      split at h
      · rcases List.mem_append.mp h with h | h
        · exact .inl h
        · rw [List.mem_singleton.mp h]
          exact .inr (by simp)
      · exact .inl h
    · exact .inr h
theorem mem_lnMid (n : Nat) (ts : List (Nat × Nat)) : ∀ (ls later : List (List Nat)) (x : List Nat), x ∈ ls.foldl (lnMid n ts) later → x ∈ later ∨ x ≠ []
  | [], later, x, h => .inl h
  | l :: ls, later, x, h => by
    rcases mem_lnMid n ts ls (lnMid n ts later l) x h with h | h
    · exact mem_lnIn ts l (List.range n) later x h
    · exact .inr h
theorem linesU_ne {n : Nat} (hn : 1 ≤ n) (ts : List (Nat × Nat)) : ∀ x ∈ linesU n ts, x ≠ [] := by
  intro x hx
  unfold linesU at hx
  obtain ⟨m, rfl⟩ : ∃ m, n = m + 1 := ⟨n - 1, by omega⟩
  rw [List.range_succ, List.foldl_append] at hx
  rcases mem_lnMid _ ts _ [] x hx with h | h
  · cases h
  · exact h
theorem len_lnIn (ts : List (Nat × Nat)) (line : List Nat) : ∀ (ps : List Nat) (later : List (List Nat)) (x : List Nat), x ∈ ps.foldl (lnIn ts line) later → x ∈ later ∨ x.length = line.length + 1
  | [], later, x, h => .inl h
  | p :: ps, later, x, h => by
    rcases len_lnIn ts line ps (lnIn ts line later p) x h with h | h
    · unfold lnIn at h
      split at h
      · rcases List.mem_append.mp h with h | h
        · exact .inl h
        · rw [List.mem_singleton.mp h]
          exact .inr (by simp)
      · exact .inl h
    · exact .inr h
theorem len_lnMid (n : Nat) (ts : List (Nat × Nat)) (m : Nat) : ∀ (ls later : List (List Nat)) (x : List Nat), (∀ l ∈ ls, l.length = m) → x ∈ ls.foldl (lnMid n ts) later → x ∈ later ∨ x.length = m + 1
  | [], later, x, _, h => .inl h
  | l :: ls, later, x, hl, h => by
    rcases len_lnMid n ts m ls (lnMid n ts later l) x (fun y hy => hl y (List.mem_cons_of_mem _ hy)) h with h | h
    · rcases len_lnIn ts l (List.range n) later x h with h | h
      · exact .inl h
      · rw [hl l List.mem_cons_self] at h
        exact .inr h
    · exact .inr h
theorem len_lnOut (n : Nat) (ts : List (Nat × Nat)) : ∀ (ks : List Nat) (f : List (List Nat)) (m : Nat), (∀ l ∈ f, l.length = m) → ∀ x ∈ ks.foldl (lnOut n ts) f, x.length = m + ks.length
  | [], f, m, hf, x, h => hf x h
  | k :: ks, f, m, hf, x, h => by
    have := len_lnOut n ts ks (lnOut n ts f k) (m + 1) (fun l hl => by
      rcases len_lnMid n ts m f [] l hf hl with z | z
      · cases z
      · exact z) x h
    rw [List.length_cons]
    omega
theorem found_mem {n : Nat} {ts : List (Nat × Nat)} {i : Nat} {found : List (List Nat)} (hb : found = ((List.range n).take i).foldl (lnOut n ts) [[]]) : ∀ l ∈ found, l.length ≤ i := by
  intro l hl
  rw [hb] at hl
  have := len_lnOut n ts _ [[]] 0 (fun l hl => by rw [List.mem_singleton.mp hl]; rfl) l hl
  rw [List.length_take] at this
  omega
theorem lT_ints (l : List Nat) : lT l = .tup ((l.map fun k : Nat => (k : Int)).map T.int) := by
  rw [List.map_map]
  rfl
theorem srt_lines {ls : List (List Nat)} (h : ∀ l ∈ ls, l ≠ []) : Srt (ls.map lT) := by
  have e : ls.map lT = (ls.map fun l => l.map fun k : Nat => (k : Int)).map fun l => T.tup (l.map T.int) := by
    rw [List.map_map]
    apply List.map_congr_left
    intro l _
    exact lT_ints l
  rw [e]
  apply Srt.rows
  intro l hl
  obtain ⟨m, hm, rfl⟩ := List.mem_map.mp hl
  intro z
  exact h m hm (List.map_eq_nil_iff.mp z)
abbrev okN (n : Nat) : Prop := -(2 ^ 62) ≤ (n : Int) ∧ (n : Int) < 2 ^ 62
theorem okN6 {n : Nat} (h : n ≤ 6) : (n : Int) < 4611686018427387904 := by omega
def sp_all_lines : TSp := sp1 fun t Q => ∃ (n : Nat) (ts : List (Nat × Nat)), t = oT n ts ∧ 1 ≤ n ∧ n ≤ 6 ∧ ts.length ≤ 15 ∧ Q (.lst ((lines n ts).map lT))
/-- slots: order, found, lap, later, line, place, one, other -/
def t_all_lines : WS :=
  (wSeq (wSet 1 (wLst (wCons (wTup wNil) wNil)))
  (wSeq (wFor (wRng1 (wCons (wOp oIx (wVar 0) (wC (.int 1))) wNil)) (gSet 2) (wSeq (wSetN 3 (wLstN wNil))
  (wSeq (wFor (wSq (wVar 1)) (gSet 4) (wFor (wRng1 (wCons (wOp oIx (wVar 0) (wC (.int 1))) wNil)) (gSet 5) (wIfS (wAndT (wB (wOp oNotIn (wVar 5) (wVar 4))) (wB (wCB oAll (wConsR (wFz (wLc (wSq (wOp oIx (wVar 0) (wC (.int 2)))) (gTupT 2 (gConsT (gSet 6) (gConsT (gSet 7) gNilT))) (wB (wOp oEqA (wVar 7) (wVar 5))) (wOp oIn (wVar 6) (wVar 4)) [6, 7])) wNilR)))) (wDrop (wApp 3 (wCons (wOp oAdd (wVar 4) (wTup (wCons (wVar 5) wNil))) wNil))) wNext)))
  (wSet 1 (wVar 3)))))
  (wRet (wFz (wCBN oSortN (wConsR (wVar 1) wNilR))))))
theorem read_all_lines : ∀ xs Q, sp_all_lines xs Q → t_all_lines { nx := fun _ => Q .non, rt := Q } (startS 8 xs) := by
  rintro xs Q ⟨t, rfl, n, ts, rfl, hn1, hn, hl, q⟩
  simp [t_all_lines, startS]
  refine ⟨sl1, ?_⟩
  refine for_fold (ρ1 := [.d (oT n ts), .d (.lst [lT []]), .no, .no, .no, .no, .no, .no]) (List.range n) nT (fun found => [.d (oT n ts), .d (.lst (found.map lT)), .no, .no, .no, .no, .no, .no]) (lnOut n ts) [[]] (fun Q' h => ?_) (wk_refl _) (fun _ => True) trivial (fun i lap found hi hb _ N hN => ?_) (fun found hb _ => ?_)
  · simp [atI_1]
    refine ⟨okN6 hn, ?_⟩
    rw [range_n]
    exact h
  · have hlen : found.length ≤ 46656 := by
      rw [hb]
      refine found_len hn ts ?_
      have := (List.getElem?_eq_some_iff.mp hi).1
      rw [List.length_range] at this
      omega
    simp
    refine for_fold (ρ1 := [.d (oT n ts), .d (.lst (found.map lT)), .d (nT lap), .ol [], .no, .no, .no, .no]) found lT (fun later => [.d (oT n ts), .d (.lst (found.map lT)), .d (nT lap), .ol (later.map lT), .no, .no, .no, .no]) (lnMid n ts) [] (fun Q' h => by simpa using h) (wk_refl _) (fun _ => True) trivial (fun j line later hj hb2 _ N2 hN2 => ?_) (fun later hb2 _ => ?_)
    · have hlen2 : later.length ≤ 46656 * 6 := by
        have h1 := lnMid_len n ts (found.take j) []
        rw [← hb2, List.length_nil, Nat.zero_add, List.length_take] at h1
        calc later.length ≤ min j found.length * n := h1
          _ ≤ 46656 * 6 := Nat.mul_le_mul (Nat.le_trans (Nat.min_le_right _ _) hlen) hn
      simp
      refine for_fold (ρ1 := [.d (oT n ts), .d (.lst (found.map lT)), .d (nT lap), .ol (later.map lT), .d (lT line), .no, .no, .no]) (List.range n) nT (fun later => [.d (oT n ts), .d (.lst (found.map lT)), .d (nT lap), .ol (later.map lT), .d (lT line), .no, .no, .no]) (lnIn ts line) later (fun Q' h => ?_) (wk_refl _) (fun _ => True) trivial (fun k p later3 hk hb3 _ N3 hN3 => ?_) (fun later3 hb3 _ => ?_)
      · simp [atI_1]
        refine ⟨okN6 hn, ?_⟩
        rw [range_n]
        exact h
      · have hlen3 : later3.length < sizeLine := by
          have h1 := lnIn_len ts line ((List.range n).take k) later
          rw [← hb3, List.length_take, List.length_range] at h1
          rw [sizeLine_eq]
          omega
        simp [mem_n]
        by_cases hp : p ∈ line
        · refine .inl ⟨hp, hN3 _ trivial ?_⟩
          simp [lnIn, okAt, hp]
        · refine .inr ⟨hp, ?_⟩
          refine lc_ty (ρ1 := [.d (oT n ts), .d (.lst (found.map lT)), .d (nT lap), .ol (later3.map lT), .d (lT line), .d (nT p), .no, .no]) ts pT (fun q' => q'.2 == p) (fun q' => .bl (decide (q'.1 ∈ line))) (fun Q' h => by simpa [atI_2] using h) (by simp) (fif hl) (fun q' hq' KT KF h1 h2 => ?_) ?_
          · simp [mem_n] at h1 h2 ⊢
            by_cases h : q'.2 = p
            · exact .inr ⟨by omega, h1 h⟩
            · exact .inl ⟨by omega, h2 h⟩
          · simp
            refine ⟨(ts.filter fun q' => q'.2 == p).map fun q' => decide (q'.1 ∈ line), by simp, ?_⟩
            by_cases hf : false ∈ (ts.filter fun q' => q'.2 == p).map fun q' => decide (q'.1 ∈ line)
            · refine .inl ⟨hf, hN3 _ trivial ?_⟩
              obtain ⟨q', hq', e⟩ := List.mem_map.mp hf
              have e1 : okAt ts line p = false := by
                unfold okAt
                rw [Bool.and_eq_false_iff]
                right
                rw [List.all_eq_false]
                exact ⟨q', hq', by simpa using of_decide_eq_false e⟩
              simp [lnIn, e1]
            · refine .inr ⟨hf, sl1, ?_, hlen3, hN3 _ trivial ?_⟩
              · have := found_mem hb line (List.mem_of_getElem? hj)
                rw [sizeLine_eq]
                have hi2 := (List.getElem?_eq_some_iff.mp hi).1
                rw [List.length_range] at hi2
                omega
              have e1 : okAt ts line p = true := by
                unfold okAt
                rw [Bool.and_eq_true]
                refine ⟨by simpa using hp, List.all_eq_true.mpr fun q' hq' => ?_⟩
                by_cases hm : q'.1 ∈ line
                · simpa using hm
                · exact absurd (List.mem_map.mpr ⟨q', hq', decide_eq_false hm⟩) hf
              simp [lnIn, e1]
      · simp
        exact hN2 _ trivial (by rw [hb3]; simp; rfl)
    · simp
      exact hN _ trivial (by rw [hb2]; simp; rfl)
  · simp
    refine ⟨srt_lines ?_, ?_⟩
    · rw [hb]
      exact linesU_ne hn1 ts
    · rw [sortL_eq, hb]
      exact q
end TL
set_option Elab.async false
set_option linter.all false
set_option maxRecDepth 100000
set_option autoImplicit false
/-! O3: how many lines have one place ahead of another; balanced places -/
namespace TL
open PySem PySem.Spec PyProof.Rows L2
theorem nodup_len : ∀ (l m : List Nat), l.Nodup → (∀ x ∈ l, x ∈ m) → l.length ≤ m.length
  | [], m, _, _ => Nat.zero_le _
  | x :: l, m, hn, hs => by
    have hx := hs x List.mem_cons_self
    have h := nodup_len l (m.erase x) (List.nodup_cons.mp hn).2 fun y hy => by
      have hne : y ≠ x := fun e => (List.nodup_cons.mp hn).1 (e ▸ hy)
      exact (List.mem_erase_of_ne hne).mpr (hs y (List.mem_cons_of_mem _ hy))
    rw [List.length_erase_of_mem hx] at h
    have : 0 < m.length := List.length_pos_of_mem hx
    rw [List.length_cons]
    omega
/-- a row of places under way: places below n, each once -/
structure Row (n : Nat) (l : List Nat) : Prop where
  lt : ∀ x ∈ l, x < n
  nd : l.Nodup
theorem row_lnIn {n : Nat} (ts : List (Nat × Nat)) {line : List Nat} (hr : Row n line) : ∀ (ps : List Nat) (later : List (List Nat)), (∀ p ∈ ps, p < n) → (∀ l ∈ later, Row n l) → ∀ l ∈ ps.foldl (lnIn ts line) later, Row n l
  | [], later, _, h => h
  | p :: ps, later, hp, h => by
    refine row_lnIn ts hr ps (lnIn ts line later p) (fun q hq => hp q (List.mem_cons_of_mem _ hq)) fun l hl => ?_
    unfold lnIn at hl
    split at hl
    · rename_i ok
      rcases List.mem_append.mp hl with z | z
      · exact h l z
      · rw [List.mem_singleton.mp z]
        unfold okAt at ok
        rw [Bool.and_eq_true] at ok
        have hn : p ∉ line := by simpa using ok.1
        refine ⟨fun x hx => ?_, ?_⟩
        · rcases List.mem_append.mp hx with y | y
          · exact hr.lt x y
          · rw [List.mem_singleton.mp y]
            exact hp p List.mem_cons_self
        · rw [List.nodup_append]
          refine ⟨hr.nd, by simp, fun a ha b hb e => ?_⟩
          rw [List.mem_singleton.mp hb] at e
          exact hn (e ▸ ha)
    · exact h l hl
theorem row_lnMid {n : Nat} (ts : List (Nat × Nat)) : ∀ (ls later : List (List Nat)), (∀ l ∈ ls, Row n l) → (∀ l ∈ later, Row n l) → ∀ l ∈ ls.foldl (lnMid n ts) later, Row n l
  | [], later, _, h => h
  | l :: ls, later, hl, h => row_lnMid ts ls (lnMid n ts later l) (fun y hy => hl y (List.mem_cons_of_mem _ hy)) (row_lnIn ts (hl l List.mem_cons_self) (List.range n) later (fun p hp => List.mem_range.mp hp) h)
theorem row_lnOut {n : Nat} (ts : List (Nat × Nat)) : ∀ (ks : List Nat) (f : List (List Nat)), (∀ l ∈ f, Row n l) → ∀ l ∈ ks.foldl (lnOut n ts) f, Row n l
  | [], f, h => h
  | k :: ks, f, h => row_lnOut ts ks (lnOut n ts f k) (row_lnMid ts f [] h fun l hl => by cases hl)
theorem mem_lines {n : Nat} {ts : List (Nat × Nat)} {l : List Nat} : l ∈ lines n ts ↔ l ∈ linesU n ts := by
  unfold lines sortL
  exact List.mem_mergeSort
theorem lines_row {n : Nat} {ts : List (Nat × Nat)} {l : List Nat} (h : l ∈ lines n ts) : Row n l ∧ l.length = n ∧ ∀ i, i < n → i ∈ l := by
  rw [mem_lines] at h
  have h1 : Row n l := row_lnOut ts (List.range n) [[]] (fun l hl => by rw [List.mem_singleton.mp hl]; exact ⟨fun x hx => (by cases hx), List.nodup_nil⟩) l h
  have h2 := len_lnOut n ts (List.range n) [[]] 0 (fun l hl => by rw [List.mem_singleton.mp hl]; rfl) l h
  rw [List.length_range, Nat.zero_add] at h2
  refine ⟨h1, h2, fun i hi => ?_⟩
  by_cases hm : i ∈ l
  · exact hm
  · have h3 := nodup_len (i :: l) (List.range n) (List.nodup_cons.mpr ⟨hm, h1.nd⟩) fun x hx => by
      rcases List.mem_cons.mp hx with e | e
      · rw [e]; exact List.mem_range.mpr hi
      · exact List.mem_range.mpr (h1.lt x e)
    rw [List.length_cons, List.length_range] at h3
    omega
theorem lines_len {n : Nat} (hn : n ≤ 6) (ts : List (Nat × Nat)) : (lines n ts).length ≤ 46656 := by
  unfold lines sortL
  rw [List.length_mergeSort]
  have h := lnOut_len n ts (List.range n) [[]]
  rw [List.length_range] at h
  simp only [List.length_cons, List.length_nil, Nat.zero_add, Nat.one_mul] at h
  exact Nat.le_trans h (six_pow hn hn)
def aheadN (ls : List (List Nat)) (i j : Nat) : Nat := (ls.filter fun l => decide (l.idxOf i < l.idxOf j)).length
theorem findT_n {l : List Nat} {i : Nat} (h : i ∈ l) : findT (l.map nT) (nT i) = some (l.idxOf i) := by
  unfold findT
  rw [List.findIdx?_map]
  have e : (fun z => eqT z (nT i)) ∘ nT = fun z => z == i := by
    funext z
    exact eqT_n z i
  rw [e, List.findIdx?_eq_some_iff_findIdx_eq]
  exact ⟨List.findIdx_lt_length_of_exists ⟨i, h, by simp⟩, rfl⟩
def sp_ahead_by : TSp := sp3 fun s a b Q => ∃ (ls : List (List Nat)) (i j : Nat), s = .lst (ls.map lT) ∧ a = nT i ∧ b = nT j ∧ ls.length ≤ sizeLine ∧ (∀ l ∈ ls, i ∈ l ∧ j ∈ l) ∧ Q (nT (aheadN ls i j))
theorem call_ahead_by {ls : List (List Nat)} {i j : Nat} {Q : T → Prop} (hl : ls.length ≤ sizeLine) (hm : ∀ l ∈ ls, i ∈ l ∧ j ∈ l) (q : Q (nT (aheadN ls i j))) : sp_ahead_by [.lst (ls.map lT), nT i, nT j] Q := ⟨_, _, _, rfl, ls, i, j, rfl, rfl, rfl, hl, hm, q⟩
/-- slots: some, one, other, line -/
def t_ahead_by : WS :=
  (wRet (wCB oLen (wConsR (wFz (wLc (wSq (wVar 0)) (gSet 3) (wB (wOp oLtA (wIndex (wVar 3) (wConsR (wVar 1) wNilR)) (wIndex (wVar 3) (wConsR (wVar 2) wNilR)))) (wVar 3) [3])) wNilR)))
theorem read_ahead_by : ∀ xs Q, sp_ahead_by xs Q → t_ahead_by { nx := fun _ => Q .non, rt := Q } (startS 4 xs) := by
  rintro xs Q ⟨s, a, b, rfl, ls, i, j, rfl, rfl, rfl, hl, hm, q⟩
  simp [t_ahead_by, startS]
  refine lc_ty (ρ1 := [.d (.lst (ls.map lT)), .d (nT i), .d (nT j), .no]) ls lT (fun l => decide (l.idxOf i < l.idxOf j)) lT (fun Q' h => by simpa using h) (by simp) hl (fun l hl KT KF h1 h2 => ?_) ?_
  · obtain ⟨m1, m2⟩ := hm l hl
    simp [tyT, findT_n m1, findT_n m2] at h1 h2 ⊢
    by_cases h : l.idxOf i < l.idxOf j
    · exact .inr ⟨h, h1 h⟩
    · exact .inl ⟨by omega, h2 (by omega)⟩
  · simp
    exact q
end TL
set_option Elab.async false
set_option linter.all false
set_option maxRecDepth 100000
set_option autoImplicit false
/-! O4: ahead_many, balanced -/
namespace TL
open PySem PySem.Spec PyProof.Rows L2
theorem call_all_lines {n : Nat} {ts : List (Nat × Nat)} {Q : T → Prop} (h : Ord n ts) (q : Q (.lst ((lines n ts).map lT))) : sp_all_lines [oT n ts] Q := ⟨_, rfl, n, ts, rfl, h.pos, h.six, h.len, q⟩
theorem lines_sl {n : Nat} {ts : List (Nat × Nat)} (h : Ord n ts) : (lines n ts).length ≤ sizeLine := Nat.le_trans (lines_len h.six ts) (by decide)
theorem belowB_n {i n : Nat} (h : i < n) : belowB (nT i) (n : Int) = true := by simp [belowB]; omega
def sp_ahead_many : TSp := sp3 fun t a b Q => ∃ (n : Nat) (ts : List (Nat × Nat)) (i j : Nat), t = oT n ts ∧ a = nT i ∧ b = nT j ∧ Ord n ts ∧ i < n ∧ j < n ∧ i ≠ j ∧ Q (nT (aheadN (lines n ts) i j))
theorem call_ahead_many {n : Nat} {ts : List (Nat × Nat)} {i j : Nat} {Q : T → Prop} (h : Ord n ts) (hi : i < n) (hj : j < n) (hij : i ≠ j) (q : Q (nT (aheadN (lines n ts) i j))) : sp_ahead_many [oT n ts, nT i, nT j] Q := ⟨_, _, _, rfl, n, ts, i, j, rfl, rfl, rfl, h, hi, hj, hij, q⟩
/-- slots: order, one, other -/
def t_ahead_many : WS :=
  (wSeq (wDrop (wCall (fun xs => sp_need_order (xs ++ [])) (wCons (wVar 0) wNil)))
  (wSeq (wIfS (wOrT (wNotT (wB (wCall (fun xs => sp_is_below (xs ++ [])) (wCons (wVar 1) (wCons (wOp oIx (wVar 0) (wC (.int 1))) wNil))))) (wOrT (wNotT (wB (wCall (fun xs => sp_is_below (xs ++ [])) (wCons (wVar 2) (wCons (wOp oIx (wVar 0) (wC (.int 1))) wNil))))) (wB (wOp oEqA (wVar 1) (wVar 2))))) wNever wNext)
  (wRet (wCall (fun xs => sp_ahead_by (xs ++ [])) (wCons (wCall (fun xs => sp_all_lines (xs ++ [])) (wCons (wVar 0) wNil)) (wCons (wVar 1) (wCons (wVar 2) wNil)))))))
theorem read_ahead_many : ∀ xs Q, sp_ahead_many xs Q → t_ahead_many { nx := fun _ => Q .non, rt := Q } (startS 3 xs) := by
  rintro xs Q ⟨t, a, b, rfl, n, ts, i, j, rfl, rfl, rfl, h, hi, hj, hij, q⟩
  simp [t_ahead_many, startS]
  refine call_need_order h ?_
  have hne : ¬ (i : Int) = j := by omega
  simp only [atI_1, Option.some.injEq, exists_eq_left', below_eq, belowB_n hi, belowB_n hj, hne, isRaw, not_false_eq_true, true_and]
  refine call_all_lines h ?_
  exact call_ahead_by (lines_sl h) (fun l hl => ⟨(lines_row hl).2.2 i hi, (lines_row hl).2.2 j hj⟩) q
/-- the pairs of places, as they are gone through -/
def goodB (n : Nat) (ts : List (Nat × Nat)) (i j : Nat) : Bool := !(ts.contains (i, j)) && (decide ((lines n ts).length ≤ 3 * aheadN (lines n ts) i j) && decide (3 * aheadN (lines n ts) i j ≤ 2 * (lines n ts).length))
def balRow (n : Nat) (ts : List (Nat × Nat)) (i : Nat) : Option Nat := (List.range' (i + 1) (n - (i + 1))).find? fun j => goodB n ts i j
def balM (n : Nat) (ts : List (Nat × Nat)) : Option (Nat × Nat × Nat) := (List.range n).findSome? fun i => (balRow n ts i).map fun j => (i, j, aheadN (lines n ts) i j)
def balT : Option (Nat × Nat × Nat) → T
  | none => .non
  | some (i, j, m) => .tup [nT i, nT j, nT m]
def sp_balanced : TSp := sp1 fun t Q => ∃ (n : Nat) (ts : List (Nat × Nat)), t = oT n ts ∧ Ord n ts ∧ Q (balT (balM n ts))
theorem call_balanced {n : Nat} {ts : List (Nat × Nat)} {Q : T → Prop} (h : Ord n ts) (q : Q (balT (balM n ts))) : sp_balanced [oT n ts] Q := ⟨_, rfl, n, ts, rfl, h, q⟩
/-- slots: order, some, one, other, many -/
def t_balanced : WS :=
  (wSeq (wDrop (wCall (fun xs => sp_need_order (xs ++ [])) (wCons (wVar 0) wNil)))
  (wSeq (wSet 1 (wCall (fun xs => sp_all_lines (xs ++ [])) (wCons (wVar 0) wNil)))
  (wSeq (wFor (wRng1 (wCons (wOp oIx (wVar 0) (wC (.int 1))) wNil)) (gSet 2) (wFor (wRng2 (wCons (wOp oAdd (wVar 2) (wC (.int 1))) (wCons (wOp oIx (wVar 0) (wC (.int 1))) wNil))) (gSet 3) (wSeq (wSet 4 (wCall (fun xs => sp_ahead_by (xs ++ [])) (wCons (wVar 1) (wCons (wVar 2) (wCons (wVar 3) wNil)))))
  (wIfS (wAndT (wB (wOp oNotIn (wTup (wCons (wVar 2) (wCons (wVar 3) wNil))) (wOp oIx (wVar 0) (wC (.int 2))))) (wB (wChain (oI fun i j => decide (i ≤ j)) (oI fun i j => decide (i ≤ j)) (wCB oLen (wConsR (wVar 1) wNilR)) (wOp oMul (wC (.int 3)) (wVar 4)) (wOp oMul (wC (.int 2)) (wCB oLen (wConsR (wVar 1) wNilR)))))) (wRet (wTup (wCons (wVar 2) (wCons (wVar 3) (wCons (wVar 4) wNil))))) wNext))))
  (wRet (wC .non)))))
theorem take_ext {α : Type} {l : List α} {i : Nat} {x : α} (h : l[i]? = some x) : l.take (i + 1) = l.take i ++ [x] := by rw [List.take_add_one, h]; rfl
theorem range_at {n i x : Nat} (h : (List.range n)[i]? = some x) : x = i ∧ i < n := by
  obtain ⟨hi, e⟩ := List.getElem?_eq_some_iff.mp h
  rw [List.getElem_range] at e
  rw [List.length_range] at hi
  exact ⟨e.symm, hi⟩
theorem range'_at {a n i x : Nat} (h : (List.range' a n)[i]? = some x) : x = a + i ∧ i < n := by
  obtain ⟨hi, e⟩ := List.getElem?_eq_some_iff.mp h
  rw [List.getElem_range'] at e
  rw [List.length_range'] at hi
  exact ⟨by omega, hi⟩
theorem read_balanced : ∀ xs Q, sp_balanced xs Q → t_balanced { nx := fun _ => Q .non, rt := Q } (startS 5 xs) := by
  rintro xs Q ⟨t, rfl, n, ts, rfl, h, q⟩
  have hn := h.six
  simp [t_balanced, startS]
  refine call_need_order h ?_
  refine call_all_lines h ?_
  refine for_ty (ρ1 := [.d (oT n ts), .d (.lst ((lines n ts).map lT)), .no, .no, .no]) (List.range n) nT (fun i ρ => (∀ k, k < i → balRow n ts k = none) ∧ ρ = [.d (oT n ts), .d (.lst ((lines n ts).map lT)), .no, .no, .no]) (fun Q' z => ?_) ⟨_, ⟨fun k hk => absurd hk (Nat.not_lt_zero k), rfl⟩, wk_refl _⟩ (fun i x ρ hi => ?_) ?_
  · simp [atI_1]
    refine ⟨okN6 hn, ?_⟩
    rw [range_n]
    exact z
  · rintro ⟨hk, rfl⟩ N hN
    obtain ⟨rfl, hin⟩ := range_at hi
    simp
    refine for_ty (ρ1 := [.d (oT n ts), .d (.lst ((lines n ts).map lT)), .d (nT x), .no, .no]) (List.range' (x + 1) (n - (x + 1))) nT (fun j ρ => (∀ k, k < j → goodB n ts x (x + 1 + k) = false) ∧ ρ = [.d (oT n ts), .d (.lst ((lines n ts).map lT)), .d (nT x), .no, .no]) (fun Q' z => ?_) ⟨_, ⟨fun k hk => absurd hk (Nat.not_lt_zero k), rfl⟩, wk_refl _⟩ (fun j y ρ hj => ?_) ?_
    · simp [atI_1]
      refine ⟨by omega, ?_⟩
      have e : rangeTs ((x : Int) + 1) (n - (x + 1)) = (List.range' (x + 1) (n - (x + 1))).map nT := range_ab (x + 1) _
      have e2 : ((n : Int) - ((x : Int) + 1)).toNat = n - (x + 1) := by omega
      rw [e2, e]
      exact z
    · rintro ⟨hk2, rfl⟩ N2 hN2
      obtain ⟨rfl, hjn⟩ := range'_at hj
      simp
      refine call_ahead_by (lines_sl h) (fun l hl => ⟨(lines_row hl).2.2 x hin, (lines_row hl).2.2 _ (by omega)⟩) ?_
      simp [atI_2]
      have em : memT (T.tup [nT x, nT (x + 1 + j)]) (ts.map pT) = ts.contains (x, x + 1 + j) := mem_p (x, x + 1 + j) ts
      have hL := lines_len hn ts
      have hA : aheadN (lines n ts) x (x + 1 + j) ≤ (lines n ts).length := List.length_filter_le _ _
      generalize hm : aheadN (lines n ts) x (x + 1 + j) = m at hA ⊢
      generalize hl : (lines n ts).length = l at hL hA ⊢
      have go : goodB n ts x (x + 1 + j) = false → N2 [S.d (oT n ts), S.d (T.lst ((lines n ts).map lT)), S.d (nT x), S.d (nT (x + 1 + j)), S.d (nT m)] := fun hg => by
        refine hN2 _ _ ⟨fun k hk => ?_, rfl⟩ (by simp)
        rcases Nat.lt_succ_iff_lt_or_eq.mp hk with z | z
        · exact hk2 k z
        · rw [z]
          exact hg
      refine ⟨sl2, fun y a b _ e => by rw [← e]; simp [pT], ?_⟩
      rw [em]
      by_cases hc : ts.contains (x, x + 1 + j) = true
      · refine .inl ⟨hc, go ?_⟩
        unfold goodB
        rw [hc]
        rfl
      · have hc' : ts.contains (x, x + 1 + j) = false := by simpa using hc
        refine .inr ⟨hc', .inl ⟨by omega, by omega⟩, ?_⟩
        · by_cases h1 : l ≤ 3 * m
          · rw [if_pos (by omega)]
            refine ⟨.inl ⟨by omega, by omega⟩, ?_⟩
            · by_cases h2 : 3 * m ≤ 2 * l
              · refine .inr ⟨by omega, sl3, ?_⟩
                have hg : goodB n ts x (x + 1 + j) = true := by
                  unfold goodB
                  rw [hc', hm, hl]
                  simp [h1, h2]
                have e1 : balRow n ts x = some (x + 1 + j) := by
                  unfold balRow
                  rw [List.find?_eq_some_iff_getElem]
                  refine ⟨hg, j, by rw [List.length_range']; exact hjn, by rw [List.getElem_range']; omega, fun k hk => ?_⟩
                  rw [List.getElem_range']
                  have := hk2 k hk
                  simp at this ⊢
                  exact this
                have e2 : balM n ts = some (x, x + 1 + j, m) := by
                  unfold balM
                  rw [List.findSome?_eq_some_iff]
                  refine ⟨(List.range n).take x, x, (List.range n).drop (x + 1), ?_, ?_, fun y hy => ?_⟩
                  · have e0 : x < (List.range n).length := by rw [List.length_range]; exact hin
                    have e3 := (List.drop_eq_getElem_cons e0).symm
                    rw [List.getElem_range] at e3
                    rw [e3, List.take_append_drop]
                  · rw [e1, ← hm]
                    rfl
                  · have hy2 := List.mem_take_iff_getElem.mp hy
                    obtain ⟨k, hk5, e⟩ := hy2
                    rw [List.getElem_range] at e
                    subst e
                    rw [hk k (by omega)]
                    rfl
                rw [e2] at q
                exact q
              · refine .inl ⟨by omega, go ?_⟩
                unfold goodB
                rw [hc', hm, hl]
                simp [h2]
          · rw [if_neg (by omega)]
            refine go ?_
            unfold goodB
            rw [hc', hm, hl]
            simp [h1]
    · rintro ρ ⟨hk2, rfl⟩
      refine hN _ _ ⟨fun k hk3 => ?_, rfl⟩ (by simp)
      rcases Nat.lt_succ_iff_lt_or_eq.mp hk3 with z | z
      · exact hk k z
      · subst z
        unfold balRow
        rw [List.find?_eq_none]
        intro y hy
        obtain ⟨k, hk4, e⟩ := List.getElem_of_mem hy
        rw [List.getElem_range'] at e
        rw [List.length_range'] at hk4
        have := hk2 k (by rw [List.length_range']; exact hk4)
        rw [← e]
        simp at this ⊢
        exact this
  · rintro ρ ⟨hk, rfl⟩
    simp
    have e : balM n ts = none := by
      unfold balM
      rw [List.findSome?_eq_none_iff]
      intro i hi
      rw [hk i (by simpa using hi)]
      rfl
    rw [e] at q
    exact q
end TL
set_option Elab.async false
set_option linter.all false
set_option maxRecDepth 100000
set_option autoImplicit false
/-! O5: lines counted by lots -/
namespace TL
open PySem PySem.Spec PyProof.Rows L2
def sortN (l : List Nat) : List Nat := l.mergeSort fun a b => decide (a ≤ b)
theorem sortN_eq (l : List Nat) : (l.map nT).mergeSort leT = (sortN l).map nT := by
  unfold sortN
  rw [List.map_mergeSort]
  intro a _ b _
  simp [leT]
  by_cases h : a ≤ b
  · simp [h, Nat.not_lt.mpr h]
  · simp [h, Nat.lt_of_not_le h]
theorem srt_n (l : List Nat) : Srt (l.map nT) := by
  have e : l.map nT = (l.map fun k : Nat => (k : Int)).map T.int := by
    rw [List.map_map]
    rfl
  rw [e]
  exact Srt.ints _
theorem nksOk_n : ∀ (k : Nat) (l : List Nat), nksOk k (l.map nT) = true
  | k, [] => by simp [nksOk]
  | k, x :: l => by
    rw [List.map_cons, nksOk, nksOk_n k l]
    cases k <;> simp [nkOk]
theorem keyB_l (l : List Nat) : keyB .tup (lT l) = true := by
  unfold keyB
  rw [Bool.and_eq_true, Bool.and_eq_true]
  exact ⟨⟨rfl, by rw [nkOk]; exact nksOk_n 7 l⟩, by simp⟩
abbrev DL := List (List Nat × Nat)
abbrev dT (d : DL) : List (T × T) := d.map fun p => (lT p.1, nT p.2)
def getN (d : DL) (k : List Nat) : Nat := (lookD d k).getD 0
def cnIn (ts : List (Nat × Nat)) (found : DL) (lot : List Nat) (later : DL) (p : Nat) : DL := if okAt ts lot p = true then putD later (sortN (lot ++ [p])) (getN later (sortN (lot ++ [p])) + getN found lot) else later
def cnMid (n : Nat) (ts : List (Nat × Nat)) (found : DL) (later : DL) (lot : List Nat) : DL := (List.range n).foldl (cnIn ts found lot) later
def cnOut (n : Nat) (ts : List (Nat × Nat)) (found : DL) (_lap : Nat) : DL := (found.map (·.1)).foldl (cnMid n ts found) []
def countsD (n : Nat) (ts : List (Nat × Nat)) : DL := (List.range n).foldl (cnOut n ts) [([], 1)]
theorem putD_len (d : DL) (k : List Nat) (v : Nat) : (putD d k v).length ≤ d.length + 1 := by
  unfold putD
  split
  · rw [List.length_map]
    omega
  · simp
theorem cnIn_len (ts : List (Nat × Nat)) (found : DL) (lot : List Nat) : ∀ (ps : List Nat) (later : DL), (ps.foldl (cnIn ts found lot) later).length ≤ later.length + ps.length
  | [], later => Nat.le_refl _
  | p :: ps, later => by
    have h := cnIn_len ts found lot ps (cnIn ts found lot later p)
    have h2 : (cnIn ts found lot later p).length ≤ later.length + 1 := by
      unfold cnIn
      split
      · exact putD_len _ _ _
      · omega
    show (ps.foldl (cnIn ts found lot) (cnIn ts found lot later p)).length ≤ _
    rw [List.length_cons]
    omega
theorem cnMid_len (n : Nat) (ts : List (Nat × Nat)) (found : DL) : ∀ (ls : List (List Nat)) (later : DL), (ls.foldl (cnMid n ts found) later).length ≤ later.length + ls.length * n
  | [], later => by simp
  | l :: ls, later => by
    have h := cnMid_len n ts found ls (cnMid n ts found later l)
    have h2 := cnIn_len ts found l (List.range n) later
    rw [List.length_range] at h2
    show (ls.foldl (cnMid n ts found) (cnMid n ts found later l)).length ≤ _
    rw [List.length_cons, Nat.add_mul, Nat.one_mul]
    have h3 : (cnMid n ts found later l).length ≤ later.length + n := h2
    omega
theorem cnOut_len (n : Nat) (ts : List (Nat × Nat)) : ∀ (ks : List Nat) (f : DL), (ks.foldl (cnOut n ts) f).length ≤ f.length * n ^ ks.length
  | [], f => by simp
  | k :: ks, f => by
    have h := cnOut_len n ts ks (cnOut n ts f k)
    have h2 := cnMid_len n ts f (f.map (·.1)) []
    rw [List.length_nil, Nat.zero_add, List.length_map] at h2
    show (ks.foldl (cnOut n ts) (cnOut n ts f k)).length ≤ _
    have h3 : (cnOut n ts f k).length ≤ f.length * n := h2
    calc _ ≤ (cnOut n ts f k).length * n ^ ks.length := h
      _ ≤ (f.length * n) * n ^ ks.length := Nat.mul_le_mul_right _ h3
      _ = f.length * n ^ (k :: ks).length := by rw [List.length_cons, Nat.pow_succ, Nat.mul_assoc, Nat.mul_comm n]
theorem cfound_len {n : Nat} (hn : n ≤ 6) (ts : List (Nat × Nat)) {i : Nat} (hi : i ≤ n) : (((List.range n).take i).foldl (cnOut n ts) [([], 1)]).length ≤ 46656 := by
  have h := cnOut_len n ts ((List.range n).take i) [([], 1)]
  rw [List.length_take, List.length_range, Nat.min_eq_left hi] at h
  simp only [List.length_cons, List.length_nil, Nat.zero_add, Nat.one_mul] at h
  exact Nat.le_trans h (six_pow hn (Nat.le_trans hi hn))
theorem lookD_key {d : DL} {k : List Nat} (h : k ∈ d.map (·.1)) : ∃ v, lookD d k = some v := by
  obtain ⟨p, hp, rfl⟩ := List.mem_map.mp h
  cases e : lookD d p.1 with
  | some v => exact ⟨v, rfl⟩
  | none =>
    unfold lookD at e
    rw [Option.map_eq_none_iff, List.find?_eq_none] at e
    exact absurd (by simp) (e p hp)
theorem key_len_put {d : DL} {k : List Nat} {v m : Nat} (h : ∀ p ∈ d, p.1.length ≤ m) (hk : k.length ≤ m) : ∀ p ∈ putD d k v, p.1.length ≤ m := by
  intro p hp
  unfold putD at hp
  split at hp
  · obtain ⟨q, hq, rfl⟩ := List.mem_map.mp hp
    split
    · exact h q hq
    · exact h q hq
  · rcases List.mem_append.mp hp with z | z
    · exact h p z
    · rw [List.mem_singleton.mp z]
      exact hk
theorem key_len_in (ts : List (Nat × Nat)) (found : DL) (lot : List Nat) (m : Nat) (hl : lot.length ≤ m) : ∀ (ps : List Nat) (later : DL), (∀ p ∈ later, p.1.length ≤ m + 1) → ∀ p ∈ ps.foldl (cnIn ts found lot) later, p.1.length ≤ m + 1
  | [], later, h => h
  | q :: ps, later, h => by
    refine key_len_in ts found lot m hl ps (cnIn ts found lot later q) ?_
    unfold cnIn
    split
    · refine key_len_put h ?_
      unfold sortN
      rw [List.length_mergeSort, List.length_append, List.length_singleton]
      omega
    · exact h
theorem key_len_mid (n : Nat) (ts : List (Nat × Nat)) (found : DL) (m : Nat) : ∀ (ls : List (List Nat)) (later : DL), (∀ l ∈ ls, l.length ≤ m) → (∀ p ∈ later, p.1.length ≤ m + 1) → ∀ p ∈ ls.foldl (cnMid n ts found) later, p.1.length ≤ m + 1
  | [], later, _, h => h
  | l :: ls, later, hl, h => key_len_mid n ts found m ls (cnMid n ts found later l) (fun y hy => hl y (List.mem_cons_of_mem _ hy)) (key_len_in ts found l m (hl l List.mem_cons_self) (List.range n) later h)
theorem key_len_out (n : Nat) (ts : List (Nat × Nat)) : ∀ (ks : List Nat) (f : DL) (m : Nat), (∀ p ∈ f, p.1.length ≤ m) → ∀ p ∈ ks.foldl (cnOut n ts) f, p.1.length ≤ m + ks.length
  | [], f, m, h => h
  | k :: ks, f, m, h => by
    intro p hp
    have h1 : ∀ p ∈ cnOut n ts f k, p.1.length ≤ m + 1 := by
      unfold cnOut
      refine key_len_mid n ts f m (f.map fun x => x.1) [] (fun l hl => ?_) (fun p hp => by cases hp)
      obtain ⟨q, hq, rfl⟩ := List.mem_map.mp hl
      exact h q hq
    have := key_len_out n ts ks (cnOut n ts f k) (m + 1) h1 p hp
    rw [List.length_cons]
    omega
def sp_counts_by : TSp := sp1 fun t Q => ∃ (n : Nat) (ts : List (Nat × Nat)), t = oT n ts ∧ Ord n ts ∧ Q (.dic .tup (dT (countsD n ts)))
theorem call_counts_by {n : Nat} {ts : List (Nat × Nat)} {Q : T → Prop} (h : Ord n ts) (q : Q (.dic .tup (dT (countsD n ts)))) : sp_counts_by [oT n ts] Q := ⟨_, rfl, n, ts, rfl, h, q⟩
/-- slots: order, found, lap, later, lot, place, one, other, more -/
def t_counts_by : WS :=
  (wSeq (wSet 1 (wFz (wDispE (wPCons (wTup wNil) (wC (.int 1)) wPNil))))
  (wSeq (wFor (wRng1 (wCons (wOp oIx (wVar 0) (wC (.int 1))) wNil)) (gSet 2) (wSeq (wSetN 3 wDicE)
  (wSeq (wFor (wSq (wVar 1)) (gSet 4) (wFor (wRng1 (wCons (wOp oIx (wVar 0) (wC (.int 1))) wNil)) (gSet 5) (wIfS (wAndT (wB (wOp oNotIn (wVar 5) (wVar 4))) (wB (wCB oAll (wConsR (wFz (wLc (wSq (wOp oIx (wVar 0) (wC (.int 2)))) (gTupT 2 (gConsT (gSet 6) (gConsT (gSet 7) gNilT))) (wB (wOp oEqA (wVar 7) (wVar 5))) (wOp oIn (wVar 6) (wVar 4)) [6, 7])) wNilR)))) (wSeq (wSet 8 (wCB oTupC (wConsR (wFz (wCBN oSortN (wConsR (wOp oAdd (wVar 4) (wTup (wCons (wVar 5) wNil))) wNilR))) wNilR)))
  (wPut 3 (wVar 8) (wOp oAdd (wMethA "dict" oGet (wVar 3) (wCons (wVar 8) (wCons (wC (.int 0)) wNil))) (wOp oIx (wVar 1) (wVar 4))))) wNext)))
  (wSet 1 (wVar 3)))))
  (wRet (wVar 1))))
theorem read_counts_by : ∀ xs Q, sp_counts_by xs Q → t_counts_by { nx := fun _ => Q .non, rt := Q } (startS 9 xs) := by
  rintro xs Q ⟨t, rfl, n, ts, rfl, h, q⟩
  have hn := h.six
  have hl := h.len
  simp [t_counts_by, startS]
  refine ⟨.tup, by simp [keyB, isTupT, nkOk, nksOk], ?_⟩
  refine for_fold (ρ1 := [.d (oT n ts), .d (.dic .tup (dT [([], 1)])), .no, .no, .no, .no, .no, .no, .no]) (List.range n) nT (fun found => [.d (oT n ts), .d (.dic .tup (dT found)), .no, .no, .no, .no, .no, .no, .no]) (cnOut n ts) [([], 1)] (fun Q' z => ?_) (wk_refl _) (fun _ => True) trivial (fun i lap found hi hb _ N hN => ?_) (fun found hb _ => ?_)
  · simp [atI_1]
    refine ⟨okN6 hn, ?_⟩
    rw [range_n]
    exact z
  · obtain ⟨rfl, hin⟩ := range_at hi
    have hlen : found.length ≤ 46656 := by
      rw [hb]
      exact cfound_len hn ts (by omega)
    have hkl : ∀ p ∈ found, p.1.length ≤ lap := by
      intro p hp
      rw [hb] at hp
      have := key_len_out n ts _ [([], 1)] 0 (fun p hp => by rw [List.mem_singleton.mp hp]; exact Nat.le_refl _) p hp
      rw [List.length_take] at this
      omega
    simp
    refine ⟨.tup, ?_⟩
    refine for_fold (ρ1 := [.d (oT n ts), .d (.dic .tup (dT found)), .d (nT lap), .od .tup [], .no, .no, .no, .no, .no]) (found.map (·.1)) lT (fun later => [.d (oT n ts), .d (.dic .tup (dT found)), .d (nT lap), .od .tup (dT later), .no, .no, .no, .no, .no]) (cnMid n ts found) [] (fun Q' z => by
      simp
      rw [List.map_map] at z
      exact z) (wk_refl _) (fun _ => True) trivial (fun j lot later hj hb2 _ N2 hN2 => ?_) (fun later hb2 _ => ?_)
    · have hlen2 : later.length ≤ 46656 * 6 := by
        have h1 := cnMid_len n ts found ((found.map (·.1)).take j) []
        rw [← hb2, List.length_nil, Nat.zero_add, List.length_take, List.length_map] at h1
        calc later.length ≤ min j found.length * n := h1
          _ ≤ 46656 * 6 := Nat.mul_le_mul (Nat.le_trans (Nat.min_le_right _ _) hlen) hn
      have hlot : lot ∈ found.map (·.1) := List.mem_of_getElem? hj
      obtain ⟨fv, hfv⟩ := lookD_key hlot
      have hlotl : lot.length ≤ lap := by
        obtain ⟨p, hp, e⟩ := List.mem_map.mp hlot
        rw [← e]
        exact hkl p hp
      simp
      refine for_fold (ρ1 := [.d (oT n ts), .d (.dic .tup (dT found)), .d (nT lap), .od .tup (dT later), .d (lT lot), .no, .no, .no, .no]) (List.range n) nT (fun later => [.d (oT n ts), .d (.dic .tup (dT found)), .d (nT lap), .od .tup (dT later), .d (lT lot), .no, .no, .no, .no]) (cnIn ts found lot) later (fun Q' z => ?_) (wk_refl _) (fun _ => True) trivial (fun k p later3 hk hb3 _ N3 hN3 => ?_) (fun later3 hb3 _ => ?_)
      · simp [atI_1]
        refine ⟨okN6 hn, ?_⟩
        rw [range_n]
        exact z
      · have hlen3 : later3.length < sizeLine := by
          have h1 := cnIn_len ts found lot ((List.range n).take k) later
          rw [← hb3, List.length_take, List.length_range] at h1
          rw [sizeLine_eq]
          omega
        simp [mem_n]
        by_cases hp : p ∈ lot
        · refine .inl ⟨hp, hN3 _ trivial ?_⟩
          simp [cnIn, okAt, hp]
        · refine .inr ⟨hp, ?_⟩
          refine lc_ty (ρ1 := [.d (oT n ts), .d (.dic .tup (dT found)), .d (nT lap), .od .tup (dT later3), .d (lT lot), .d (nT p), .no, .no, .no]) ts pT (fun q' => q'.2 == p) (fun q' => .bl (decide (q'.1 ∈ lot))) (fun Q' h => by simpa [atI_2] using h) (by simp) (fif hl) (fun q' hq' KT KF h1 h2 => ?_) ?_
          · simp [mem_n] at h1 h2 ⊢
            by_cases h : q'.2 = p
            · exact .inr ⟨by omega, h1 h⟩
            · exact .inl ⟨by omega, h2 h⟩
          · simp
            refine ⟨(ts.filter fun q' => q'.2 == p).map fun q' => decide (q'.1 ∈ lot), by simp, ?_⟩
            by_cases hf : false ∈ (ts.filter fun q' => q'.2 == p).map fun q' => decide (q'.1 ∈ lot)
            · refine .inl ⟨hf, hN3 _ trivial ?_⟩
              obtain ⟨q', hq', e⟩ := List.mem_map.mp hf
              have e1 : okAt ts lot p = false := by
                unfold okAt
                rw [Bool.and_eq_false_iff]
                right
                rw [List.all_eq_false]
                exact ⟨q', hq', by simpa using of_decide_eq_false e⟩
              simp [cnIn, e1]
            · refine .inr ⟨hf, ?_⟩
              have e1 : okAt ts lot p = true := by
                unfold okAt
                rw [Bool.and_eq_true]
                refine ⟨by simpa using hp, List.all_eq_true.mpr fun q' hq' => ?_⟩
                by_cases hm : q'.1 ∈ lot
                · simpa using hm
                · exact absurd (List.mem_map.mpr ⟨q', hq', decide_eq_false hm⟩) hf
              have em : (lot.map nT ++ [nT p]).mergeSort leT = (sortN (lot ++ [p])).map nT := by rw [← sortN_eq]; simp
              have es : Srt (lot.map nT ++ [nT p]) := by
                have := srt_n (lot ++ [p])
                simpa using this
              have ef : look (dT found) (lT lot) = some (nT fv) := by rw [look_ty lT nT found lot eqD_l, hfv]; rfl
              have eg : (look (dT later3) (lT (sortN (lot ++ [p])))).getD (T.int 0) = nT (getN later3 (sortN (lot ++ [p]))) := by
                rw [look_ty lT nT later3 _ eqD_l]
                unfold getN
                cases lookD later3 (sortN (lot ++ [p])) <;> rfl
              have ep := putT_ty lT nT later3 (sortN (lot ++ [p])) (getN later3 (sortN (lot ++ [p])) + fv) eqD_l
              rw [em]
              refine ⟨sl1, by rw [sizeLine_eq]; omega, es, rfl, keyB_l _, keyB_l _, nT fv, ef, ?_⟩
              rw [eg]
              refine ⟨keyB_l _, hlen3, hN3 _ trivial ?_⟩
              have e2 : cnIn ts found lot later3 p = putD later3 (sortN (lot ++ [p])) (getN later3 (sortN (lot ++ [p])) + fv) := by
                unfold cnIn
                rw [if_pos e1]
                unfold getN
                rw [hfv]
                rfl
              rw [e2]
              simp
              exact ep
      · simp
        exact hN2 _ trivial (by rw [hb3]; simp; rfl)
    · simp
      exact hN _ trivial (by rw [hb2]; simp; rfl)
  · simp
    rw [hb]
    exact q
def sp_count_lines : TSp := sp1 fun t Q => ∃ (n : Nat) (ts : List (Nat × Nat)) (v : Nat), t = oT n ts ∧ Ord n ts ∧ lookD (countsD n ts) (List.range n) = some v ∧ Q (nT v)
theorem call_count_lines {n : Nat} {ts : List (Nat × Nat)} {v : Nat} {Q : T → Prop} (h : Ord n ts) (hv : lookD (countsD n ts) (List.range n) = some v) (q : Q (nT v)) : sp_count_lines [oT n ts] Q := ⟨_, rfl, n, ts, v, rfl, h, hv, q⟩
/-- slots: order -/
def t_count_lines : WS :=
  (wSeq (wDrop (wCall (fun xs => sp_need_order (xs ++ [])) (wCons (wVar 0) wNil)))
  (wRet (wOp oIx (wCall (fun xs => sp_counts_by (xs ++ [])) (wCons (wVar 0) wNil)) (wTrg (wRg1 (wOp oIx (wVar 0) (wC (.int 1))))))))
theorem read_count_lines : ∀ xs Q, sp_count_lines xs Q → t_count_lines { nx := fun _ => Q .non, rt := Q } (startS 1 xs) := by
  rintro xs Q ⟨t, rfl, n, ts, v, rfl, h, hv, q⟩
  simp [t_count_lines, startS]
  refine call_need_order h ?_
  refine call_counts_by h ?_
  simp [atI_1]
  refine ⟨?_, ?_⟩
  · have := h.six
    unfold RgOk
    omega
  · have e : T.tup (rangeTs 0 n) = lT (List.range n) := by rw [range_n]
    rw [e]
    refine ⟨keyB_l _, nT v, ?_, q⟩
    rw [look_ty lT nT _ _ eqD_l, hv]
    rfl
end TL
set_option Elab.async false
set_option linter.all false
set_option maxRecDepth 100000
set_option autoImplicit false
/-! O6: one tie more, closed -/
namespace TL
open PySem PySem.Spec PyProof.Rows L2
def leP (p q : Nat × Nat) : Bool := !ltP q p
def sortP (ts : List (Nat × Nat)) : List (Nat × Nat) := ts.mergeSort leP
theorem sortP_eq (ts : List (Nat × Nat)) : (ts.map pT).mergeSort leT = (sortP ts).map pT := by
  unfold sortP
  rw [List.map_mergeSort]
  intro a _ b _
  unfold leT leP
  rw [ltT_p]
theorem srt_p (ts : List (Nat × Nat)) : Srt (ts.map pT) := by
  have e : ts.map pT = (ts.map fun p => [(p.1 : Int), (p.2 : Int)]).map fun l => T.tup (l.map T.int) := by
    rw [List.map_map]
    rfl
  rw [e]
  apply Srt.rows
  intro l hl
  obtain ⟨p, _, rfl⟩ := List.mem_map.mp hl
  simp
def underM (n : Nat) (ts : List (Nat × Nat)) (i : Nat) : List Nat := (List.range n).filter fun k => k == i || ts.contains (k, i)
def overM (n : Nat) (ts : List (Nat × Nat)) (j : Nat) : List Nat := (List.range n).filter fun k => k == j || ts.contains (j, k)
def tieIn (over : List Nat) (ties : List (Nat × Nat)) (low : Nat) : List (Nat × Nat) := ties ++ (over.filter fun high => !(ties.contains (low, high))).map fun high => (low, high)
def tiesM (n : Nat) (ts : List (Nat × Nat)) (i j : Nat) : List (Nat × Nat) := (underM n ts i).foldl (tieIn (overM n ts j)) ts
def tiedM (n : Nat) (ts : List (Nat × Nat)) (i j : Nat) : List (Nat × Nat) := sortP (tiesM n ts i j)
theorem tieIn_len (over : List Nat) : ∀ (us : List Nat) (ts : List (Nat × Nat)), (us.foldl (tieIn over) ts).length ≤ ts.length + us.length * over.length
  | [], ts => by simp
  | u :: us, ts => by
    have h := tieIn_len over us (tieIn over ts u)
    have h2 : (tieIn over ts u).length ≤ ts.length + over.length := by
      unfold tieIn
      rw [List.length_append, List.length_map]
      have := List.length_filter_le (fun high => !(ts.contains (u, high))) over
      omega
    show (us.foldl (tieIn over) (tieIn over ts u)).length ≤ _
    rw [List.length_cons, Nat.add_mul, Nat.one_mul]
    omega
theorem fitP (ts : List (Nat × Nat)) : ∀ (x : T) (a b : Nat), (a, b) ∈ ts → pT (a, b) = x → T.fit 59 x = true := by
  rintro _ a b _ rfl
  simp
def sp__law_tied : TSp := sp3 fun t a b Q => ∃ (n : Nat) (ts : List (Nat × Nat)) (i j : Nat), t = oT n ts ∧ a = nT i ∧ b = nT j ∧ n ≤ 6 ∧ ts.length ≤ 15 ∧ Q (oT n (tiedM n ts i j))
theorem call_tied {n : Nat} {ts : List (Nat × Nat)} {i j : Nat} {Q : T → Prop} (hn : n ≤ 6) (hl : ts.length ≤ 15) (q : Q (oT n (tiedM n ts i j))) : sp__law_tied [oT n ts, nT i, nT j] Q := ⟨_, _, _, rfl, n, ts, i, j, rfl, rfl, rfl, hn, hl, q⟩
/-- slots: order, i, j, under, k, over, ties, low, high -/
def t__law_tied : WS :=
  (wSeq (wSetZ 3 (wLc (wRng1 (wCons (wOp oIx (wVar 0) (wC (.int 1))) wNil)) (gSet 4) (wOrT (wB (wOp oEqA (wVar 4) (wVar 1))) (wB (wOp oIn (wTup (wCons (wVar 4) (wCons (wVar 1) wNil))) (wOp oIx (wVar 0) (wC (.int 2)))))) (wVar 4) [4]))
  (wSeq (wSetZ 5 (wLc (wRng1 (wCons (wOp oIx (wVar 0) (wC (.int 1))) wNil)) (gSet 4) (wOrT (wB (wOp oEqA (wVar 4) (wVar 2))) (wB (wOp oIn (wTup (wCons (wVar 2) (wCons (wVar 4) wNil))) (wOp oIx (wVar 0) (wC (.int 2)))))) (wVar 4) [4]))
  (wSeq (wSet 6 (wFz (wCBN oListN (wConsR (wOp oIx (wVar 0) (wC (.int 2))) wNilR))))
  (wSeq (wFor (wSq (wVar 3)) (gSet 7) (wSet 6 (wOp oAdd (wVar 6) (wFz (wLc (wSq (wVar 5)) (gSet 8) (wB (wOp oNotIn (wTup (wCons (wVar 7) (wCons (wVar 8) wNil))) (wVar 6))) (wTup (wCons (wVar 7) (wCons (wVar 8) wNil))) [8])))))
  (wRet (wTup (wCons (wC (.str "order")) (wCons (wOp oIx (wVar 0) (wC (.int 1))) (wCons (wCB oTupC (wConsR (wFz (wCBN oSortN (wConsR (wVar 6) wNilR))) wNilR)) wNil)))))))))
theorem read__law_tied : ∀ xs Q, sp__law_tied xs Q → t__law_tied { nx := fun _ => Q .non, rt := Q } (startS 9 xs) := by
  rintro xs Q ⟨t, a, b, rfl, n, ts, i, j, rfl, rfl, rfl, hn, hl, q⟩
  have hU : (underM n ts i).length ≤ 6 := Nat.le_trans (List.length_filter_le _ _) (by rw [List.length_range]; exact hn)
  have hO : (overM n ts j).length ≤ 6 := Nat.le_trans (List.length_filter_le _ _) (by rw [List.length_range]; exact hn)
  simp [t__law_tied, startS]
  refine lc_ty (ρ1 := [.d (oT n ts), .d (nT i), .d (nT j), .no, .no, .no, .no, .no, .no]) (List.range n) nT (fun k => k == i || ts.contains (k, i)) nT (fun Q' z => ?_) (by simp) (by rw [List.length_range, sizeLine_eq]; omega) (fun k hk KT KF h1 h2 => ?_) ?_
  · simp [atI_1]
    refine ⟨okN6 hn, ?_⟩
    rw [range_n]
    exact z
  · have em : memT (T.tup [nT k, nT i]) (ts.map pT) = ts.contains (k, i) := mem_p (k, i) ts
    simp [atI_2] at h1 h2 ⊢
    by_cases h : k = i
    · exact .inr ⟨by omega, h1 (.inl h)⟩
    · refine .inl ⟨by omega, sl2, fitP ts, ?_⟩
      rw [em]
      by_cases hm : (k, i) ∈ ts
      · exact .inr ⟨by simpa using hm, h1 (.inr hm)⟩
      · exact .inl ⟨by simpa using hm, h2 h hm⟩
  show wSeq _ _ _ [.d (oT n ts), .d (nT i), .d (nT j), .d (.lst ((underM n ts i).map nT)), .no, .no, .no, .no, .no]
  simp
  refine lc_ty (ρ1 := [.d (oT n ts), .d (nT i), .d (nT j), .d (.lst ((underM n ts i).map nT)), .no, .no, .no, .no, .no]) (List.range n) nT (fun k => k == j || ts.contains (j, k)) nT (fun Q' z => ?_) (by simp) (by rw [List.length_range, sizeLine_eq]; omega) (fun k hk KT KF h1 h2 => ?_) ?_
  · simp [atI_1]
    refine ⟨okN6 hn, ?_⟩
    rw [range_n]
    exact z
  · have em : memT (T.tup [nT j, nT k]) (ts.map pT) = ts.contains (j, k) := mem_p (j, k) ts
    simp [atI_2] at h1 h2 ⊢
    by_cases h : k = j
    · exact .inr ⟨by omega, h1 (.inl h)⟩
    · refine .inl ⟨by omega, sl2, fitP ts, ?_⟩
      rw [em]
      by_cases hm : (j, k) ∈ ts
      · exact .inr ⟨by simpa using hm, h1 (.inr hm)⟩
      · exact .inl ⟨by simpa using hm, h2 h hm⟩
  show wSeq _ _ _ [.d (oT n ts), .d (nT i), .d (nT j), .d (.lst ((underM n ts i).map nT)), .no, .d (.lst ((overM n ts j).map nT)), .no, .no, .no]
  simp [atI_2]
  have hOl : (overM n ts j).length ≤ sizeLine := by rw [sizeLine_eq]; omega
  refine for_fold (ρ1 := [.d (oT n ts), .d (nT i), .d (nT j), .d (.lst ((underM n ts i).map nT)), .no, .d (.lst ((overM n ts j).map nT)), .d (.lst (ts.map pT)), .no, .no]) (underM n ts i) nT (fun ties => [.d (oT n ts), .d (nT i), .d (nT j), .d (.lst ((underM n ts i).map nT)), .no, .d (.lst ((overM n ts j).map nT)), .d (.lst (ties.map pT)), .no, .no]) (tieIn (overM n ts j)) ts (fun Q' z => by simpa using z) (wk_refl _) (fun _ => True) trivial (fun k low ties hk hb _ N hN => ?_) (fun ties hb _ => ?_)
  · have hlen : ties.length ≤ 15 + 6 * 6 := by
      have h1 := tieIn_len (overM n ts j) ((underM n ts i).take k) ts
      rw [← hb, List.length_take] at h1
      have h2 : min k (underM n ts i).length * (overM n ts j).length ≤ 6 * 6 := Nat.mul_le_mul (Nat.le_trans (Nat.min_le_right _ _) hU) hO
      omega
    simp
    refine lc_ty (ρ1 := [.d (oT n ts), .d (nT i), .d (nT j), .d (.lst ((underM n ts i).map nT)), .no, .d (.lst ((overM n ts j).map nT)), .d (.lst (ties.map pT)), .d (nT low), .no]) (overM n ts j) nT (fun high => !(ties.contains (low, high))) (fun high => pT (low, high)) (fun Q' z => by simpa using z) (by simp) hOl (fun high hh KT KF h1 h2 => ?_) ?_
    · have em : memT (T.tup [nT low, nT high]) (ties.map pT) = ties.contains (low, high) := mem_p (low, high) ties
      simp at h1 h2 ⊢
      refine ⟨sl2, fitP ties, ?_⟩
      rw [em]
      by_cases hm : (low, high) ∈ ties
      · exact .inl ⟨by simpa using hm, h2 hm⟩
      · exact .inr ⟨by simpa using hm, sl2, h1 hm⟩
    · simp
      refine ⟨?_, hN _ trivial ?_⟩
      · have h3 := List.length_filter_le (fun high => !decide ((low, high) ∈ ties)) (overM n ts j)
        rw [sizeLine_eq]
        omega
      · simp [tieIn]
  · simp
    refine ⟨nT n, atI_1 _ _ _, srt_p ties, sl3, ?_⟩
    rw [sortP_eq, hb]
    exact q
end TL
set_option Elab.async false
set_option linter.all false
set_option maxRecDepth 100000
set_option autoImplicit false
set_option maxHeartbeats 2000000
/-! O8: the law's own lines -/
namespace TL
open PySem PySem.Spec PyProof.Rows L2
def duOk (ts : List (Nat × Nat)) (place : Nat) (line : List Nat) (at' : Nat) : Bool := ((line.drop at').filter fun one => ts.contains (one, place)) == []
def duIn (ts : List (Nat × Nat)) (place : Nat) (line : List Nat) (later : List (List Nat)) (at' : Nat) : List (List Nat) := if duOk ts place line at' = true then later ++ [line.take at' ++ [place] ++ line.drop at'] else later
def duMid (ts : List (Nat × Nat)) (place : Nat) (later : List (List Nat)) (line : List Nat) : List (List Nat) := (List.range (line.length + 1)).foldl (duIn ts place line) later
def duOut (ts : List (Nat × Nat)) (found : List (List Nat)) (place : Nat) : List (List Nat) := found.foldl (duMid ts place) []
def dueU (n : Nat) (ts : List (Nat × Nat)) : List (List Nat) := (List.range n).foldl (duOut ts) [[]]
def due (n : Nat) (ts : List (Nat × Nat)) : List (List Nat) := sortL (dueU n ts)
theorem duIn_len (ts : List (Nat × Nat)) (place : Nat) (line : List Nat) : ∀ (ps : List Nat) (later : List (List Nat)), (ps.foldl (duIn ts place line) later).length ≤ later.length + ps.length
  | [], later => Nat.le_refl _
  | p :: ps, later => by
    have h := duIn_len ts place line ps (duIn ts place line later p)
    have h2 : (duIn ts place line later p).length ≤ later.length + 1 := by
      unfold duIn
      split
      · simp
      · omega
    show (ps.foldl (duIn ts place line) (duIn ts place line later p)).length ≤ _
    rw [List.length_cons]
    omega
theorem duIn_mem (ts : List (Nat × Nat)) (place : Nat) (line : List Nat) : ∀ (ps : List Nat) (later : List (List Nat)) (x : List Nat), x ∈ ps.foldl (duIn ts place line) later → x ∈ later ∨ x.length = line.length + 1
  | [], later, x, h => .inl h
  | p :: ps, later, x, h => by
    rcases duIn_mem ts place line ps (duIn ts place line later p) x h with h | h
    · unfold duIn at h
      split at h
      · rcases List.mem_append.mp h with h | h
        · exact .inl h
        · rw [List.mem_singleton.mp h]
          right
          rw [List.length_append, List.length_append, List.length_singleton, List.length_take, List.length_drop]
          omega
      · exact .inl h
    · exact .inr h
theorem duMid_mem (ts : List (Nat × Nat)) (place m : Nat) : ∀ (ls later : List (List Nat)) (x : List Nat), (∀ l ∈ ls, l.length = m) → x ∈ ls.foldl (duMid ts place) later → x ∈ later ∨ x.length = m + 1
  | [], later, x, _, h => .inl h
  | l :: ls, later, x, hl, h => by
    rcases duMid_mem ts place m ls (duMid ts place later l) x (fun y hy => hl y (List.mem_cons_of_mem _ hy)) h with h | h
    · rcases duIn_mem ts place l (List.range (l.length + 1)) later x h with h | h
      · exact .inl h
      · rw [hl l List.mem_cons_self] at h
        exact .inr h
    · exact .inr h
theorem duMid_len (ts : List (Nat × Nat)) (place m : Nat) : ∀ (ls later : List (List Nat)), (∀ l ∈ ls, l.length = m) → (ls.foldl (duMid ts place) later).length ≤ later.length + ls.length * (m + 1)
  | [], later, _ => by simp
  | l :: ls, later, hl => by
    have h := duMid_len ts place m ls (duMid ts place later l) fun y hy => hl y (List.mem_cons_of_mem _ hy)
    have h2 := duIn_len ts place l (List.range (l.length + 1)) later
    rw [List.length_range, hl l List.mem_cons_self] at h2
    show (ls.foldl (duMid ts place) (duMid ts place later l)).length ≤ _
    rw [List.length_cons, Nat.add_mul, Nat.one_mul]
    have h3 : (duMid ts place later l).length ≤ later.length + (m + 1) := by
      unfold duMid
      rw [hl l List.mem_cons_self]
      exact h2
    omega
theorem duOut_mem (ts : List (Nat × Nat)) : ∀ (ks : List Nat) (f : List (List Nat)) (m : Nat), (∀ l ∈ f, l.length = m) → ∀ x ∈ ks.foldl (duOut ts) f, x.length = m + ks.length
  | [], f, m, hf, x, h => hf x h
  | k :: ks, f, m, hf, x, h => by
    have := duOut_mem ts ks (duOut ts f k) (m + 1) (fun l hl => by
      rcases duMid_mem ts k m f [] l hf hl with z | z
      · cases z
      · exact z) x h
    rw [List.length_cons]
    omega
theorem duOut_len (ts : List (Nat × Nat)) (c : Nat) : ∀ (ks : List Nat) (f : List (List Nat)) (m : Nat), (∀ l ∈ f, l.length = m) → m + ks.length ≤ c → (ks.foldl (duOut ts) f).length ≤ f.length * c ^ ks.length
  | [], f, m, _, _ => by simp
  | k :: ks, f, m, hf, hc => by
    rw [List.length_cons] at hc
    have h := duOut_len ts c ks (duOut ts f k) (m + 1) (fun l hl => by
      rcases duMid_mem ts k m f [] l hf hl with z | z
      · cases z
      · exact z) (by omega)
    have h2 := duMid_len ts k m f [] hf
    rw [List.length_nil, Nat.zero_add] at h2
    have h3 : (duOut ts f k).length ≤ f.length * c := Nat.le_trans h2 (Nat.mul_le_mul_left _ (by omega))
    show (ks.foldl (duOut ts) (duOut ts f k)).length ≤ _
    calc _ ≤ (duOut ts f k).length * c ^ ks.length := h
      _ ≤ (f.length * c) * c ^ ks.length := Nat.mul_le_mul_right _ h3
      _ = f.length * c ^ (k :: ks).length := by rw [List.length_cons, Nat.pow_succ, Nat.mul_assoc, Nat.mul_comm c]
theorem one_nil : ∀ l ∈ ([[]] : List (List Nat)), l.length = 0 := fun l hl => by rw [List.mem_singleton.mp hl]; rfl
theorem dfound_mem {n : Nat} {ts : List (Nat × Nat)} {i : Nat} {found : List (List Nat)} (hi : i ≤ n) (hb : found = ((List.range n).take i).foldl (duOut ts) [[]]) : ∀ l ∈ found, l.length = i := by
  intro l hl
  rw [hb] at hl
  have := duOut_mem ts _ [[]] 0 one_nil l hl
  rw [List.length_take, List.length_range] at this
  omega
theorem dfound_len {n : Nat} (hn : n ≤ 6) {ts : List (Nat × Nat)} {i : Nat} {found : List (List Nat)} (hi : i ≤ n) (hb : found = ((List.range n).take i).foldl (duOut ts) [[]]) : found.length ≤ 46656 := by
  have h := duOut_len ts 6 ((List.range n).take i) [[]] 0 one_nil (by rw [List.length_take, List.length_range]; omega)
  rw [← hb, List.length_take, List.length_range, Nat.min_eq_left hi] at h
  simp only [List.length_cons, List.length_nil, Nat.zero_add, Nat.one_mul] at h
  exact Nat.le_trans h (six_pow (Nat.le_refl 6) (Nat.le_trans hi hn))
def sp__law_all_lines : TSp := sp1 fun t Q => ∃ (n : Nat) (ts : List (Nat × Nat)), t = oT n ts ∧ 1 ≤ n ∧ n ≤ 6 ∧ Q (.lst ((due n ts).map lT))
theorem call_due {n : Nat} {ts : List (Nat × Nat)} {Q : T → Prop} (h : Ord n ts) (q : Q (.lst ((due n ts).map lT))) : sp__law_all_lines [oT n ts] Q := ⟨_, rfl, n, ts, rfl, h.pos, h.six, q⟩
/-- slots: order, found, place, later, line, at, one -/
def t__law_all_lines : WS :=
  (wSeq (wSet 1 (wLst (wCons (wTup wNil) wNil)))
  (wSeq (wFor (wRng1 (wCons (wOp oIx (wVar 0) (wC (.int 1))) wNil)) (gSet 2) (wSeq (wSetN 3 (wLstN wNil))
  (wSeq (wFor (wSq (wVar 1)) (gSet 4) (wFor (wRng1 (wCons (wOp oAdd (wCB oLen (wConsR (wVar 4) wNilR)) (wC (.int 1))) wNil)) (gSet 5) (wIfS (wB (wOp oEqA (wFz (wLc (wSq (wSl (wVar 4) (wPart (wVar 5)) wPart0)) (gSet 6) (wB (wOp oIn (wTup (wCons (wVar 6) (wCons (wVar 2) wNil))) (wOp oIx (wVar 0) (wC (.int 2))))) (wVar 6) [6])) (wLst wNil))) (wDrop (wApp 3 (wCons (wOp oAdd (wOp oAdd (wSl (wVar 4) wPart0 (wPart (wVar 5))) (wTup (wCons (wVar 2) wNil))) (wSl (wVar 4) (wPart (wVar 5)) wPart0)) wNil))) wNext)))
  (wSet 1 (wVar 3)))))
  (wRet (wFz (wCBN oSortN (wConsR (wVar 1) wNilR))))))
theorem read__law_all_lines : ∀ xs Q, sp__law_all_lines xs Q → t__law_all_lines { nx := fun _ => Q .non, rt := Q } (startS 7 xs) := by
  rintro xs Q ⟨t, rfl, n, ts, rfl, hn1, hn, q⟩
  simp [t__law_all_lines, startS]
  refine ⟨sl1, ?_⟩
  refine for_fold (ρ1 := [.d (oT n ts), .d (.lst [lT []]), .no, .no, .no, .no, .no]) (List.range n) nT (fun found => [.d (oT n ts), .d (.lst (found.map lT)), .no, .no, .no, .no, .no]) (duOut ts) [[]] (fun Q' z => ?_) (wk_refl _) (fun _ => True) trivial (fun i place found hi hb _ N hN => ?_) (fun found hb _ => ?_)
  · simp [atI_1]
    refine ⟨okN6 hn, ?_⟩
    rw [range_n]
    exact z
  · obtain ⟨rfl, hin⟩ := range_at hi
    have hlen := dfound_len hn (Nat.le_of_lt hin) hb
    have hmem := dfound_mem (Nat.le_of_lt hin) hb
    simp
    refine for_fold (ρ1 := [.d (oT n ts), .d (.lst (found.map lT)), .d (nT place), .ol [], .no, .no, .no]) found lT (fun later => [.d (oT n ts), .d (.lst (found.map lT)), .d (nT place), .ol (later.map lT), .no, .no, .no]) (duMid ts place) [] (fun Q' z => by simpa using z) (wk_refl _) (fun _ => True) trivial (fun j line later hj hb2 _ N2 hN2 => ?_) (fun later hb2 _ => ?_)
    · have hll := hmem line (List.mem_of_getElem? hj)
      have hlen2 : later.length ≤ 46656 * 6 := by
        have h1 := duMid_len ts place place (found.take j) [] fun l hl => hmem l (List.mem_of_mem_take hl)
        rw [← hb2, List.length_nil, Nat.zero_add, List.length_take] at h1
        calc later.length ≤ min j found.length * (place + 1) := h1
          _ ≤ 46656 * 6 := Nat.mul_le_mul (Nat.le_trans (Nat.min_le_right _ _) hlen) (by omega)
      simp
      refine for_fold (ρ1 := [.d (oT n ts), .d (.lst (found.map lT)), .d (nT place), .ol (later.map lT), .d (lT line), .no, .no]) (List.range (line.length + 1)) nT (fun later => [.d (oT n ts), .d (.lst (found.map lT)), .d (nT place), .ol (later.map lT), .d (lT line), .no, .no]) (duIn ts place line) later (fun Q' z => ?_) (wk_refl _) (fun _ => True) trivial (fun k at' later3 hk hb3 _ N3 hN3 => ?_) (fun later3 hb3 _ => ?_)
      · simp
        refine ⟨by omega, ?_⟩
        rw [range_n]
        exact z
      · have hlen3 : later3.length < sizeLine := by
          have h1 := duIn_len ts place line ((List.range (line.length + 1)).take k) later
          rw [← hb3, List.length_take, List.length_range] at h1
          rw [sizeLine_eq]
          omega
        simp [cut_from, cut_to]
        refine lc_ty (ρ1 := [.d (oT n ts), .d (.lst (found.map lT)), .d (nT place), .ol (later3.map lT), .d (lT line), .d (nT at'), .no]) (line.drop at') nT (fun one => ts.contains (one, place)) nT (fun Q' z => by simpa [cut_from] using z) (by simp) (by rw [List.length_drop, sizeLine_eq]; omega) (fun one ho KT KF h1 h2 => ?_) ?_
        · have em : memT (T.tup [nT one, nT place]) (ts.map pT) = ts.contains (one, place) := mem_p (one, place) ts
          simp [atI_2] at h1 h2 ⊢
          refine ⟨sl2, fitP ts, ?_⟩
          rw [em]
          by_cases hm : (one, place) ∈ ts
          · exact .inr ⟨by simpa using hm, h1 hm⟩
          · exact .inl ⟨by simpa using hm, h2 hm⟩
        · have e : eqTs (List.map nT (List.filter (fun one => decide ((one, place) ∈ ts)) (List.drop at' line))) [] = duOk ts place line at' := by
            rw [show ([] : List T) = List.map nT [] from rfl, eqTs_l]
            unfold duOk
            simp
          rw [sizeLine_eq] at hlen3
          simp
          rw [e, cut_from, cut_to, ← List.map_take, ← List.map_drop, List.length_map, List.length_map, List.length_take, List.length_drop, sizeLine_eq]
          cases hd : duOk ts place line at' with
          | false =>
            refine .inl ⟨rfl, hN3 _ trivial ?_⟩
            rw [duIn, hd]
            simp
          | true =>
            refine .inr ⟨rfl, by omega, by omega, by omega, hlen3, hN3 _ trivial ?_⟩
            have e2 : T.tup (List.map nT (List.take at' line) ++ nT place :: List.map nT (List.drop at' line)) = lT (List.take at' line ++ [place] ++ List.drop at' line) := by
              show _ = T.tup _
              rw [List.map_append, List.map_append, List.append_assoc]
              rfl
            rw [e2, duIn, hd, if_pos rfl, List.map_append]
            simp only [wk, List.map_singleton]
            simp
      · simp
        exact hN2 _ trivial (by rw [hb3]; simp; rfl)
    · simp
      exact hN _ trivial (by rw [hb2]; simp; rfl)
  · simp
    refine ⟨srt_lines ?_, ?_⟩
    · intro l hl e
      have := dfound_mem (Nat.le_refl n) (by rw [hb, List.take_of_length_le (by rw [List.length_range]; exact Nat.le_refl _)]) l hl
      rw [e] at this
      simp at this
      omega
    · rw [sortL_eq, hb]
      exact q
end TL
set_option Elab.async false
set_option linter.all false
set_option maxRecDepth 100000
set_option autoImplicit false
/-! TL20: small plain trees: equal to themselves, their text short -/
namespace TL
open PySem PySem.Spec PyProof.Rows L2
mutual
theorem eqT_self : ∀ t : T, eqT t t = true
  | .non => by simp
  | .bl b => by simp
  | .int i => by simp
  | .str x => by simp
  | .tup xs => by rw [eqT_tup]; exact eqTs_selfA xs
  | .lst xs => by rw [eqT_lst]; exact eqTs_selfA xs
  | .dic _ _ => by simp [eqT, T.toD, PyData.eqv]
  | .raw _ => by simp [eqT, T.toD, PyData.eqv]
theorem eqTs_selfA : ∀ xs : List T, eqTs xs xs = true
  | [] => eqTs_nil
  | x :: xs => by rw [eqTs_cons, eqT_self x, eqTs_selfA xs]; rfl
end
mutual
def T.bd : T → Bool
  | .int i => decide (i.natAbs < 1000000000000)
  | .tup xs => T.bdAll xs
  | .lst xs => T.bdAll xs
  | _ => true
def T.bdAll : List T → Bool
  | [] => true
  | x :: xs => T.bd x && T.bdAll xs
end
theorem bdAll_all : ∀ xs : List T, T.bdAll xs = xs.all T.bd
  | [] => by rw [T.bdAll]; rfl
  | x :: xs => by rw [T.bdAll, List.all_cons, bdAll_all xs]
theorem bd_log {i : Int} (h : i.natAbs < 1000000000000) : i.natAbs.log2 < 1920 := by
  by_cases z : i.natAbs = 0
  · rw [z]; decide
  · exact (Nat.log2_lt z).mpr (Nat.lt_trans h (Nat.lt_of_lt_of_le (by decide : 1000000000000 < 2 ^ 40) (Nat.pow_le_pow_right (by decide) (by decide))))
mutual
theorem bd_nums : ∀ t : T, T.bd t = true → T.nums t = true
  | .non, _ => by rw [T.nums] <;> simp
  | .bl _, _ => by rw [T.nums] <;> simp
  | .str _, _ => by rw [T.nums] <;> simp
  | .dic _ _, _ => by rw [T.nums] <;> simp
  | .raw _, _ => by rw [T.nums] <;> simp
  | .int i, h => by
    rw [T.bd] at h
    rw [T.nums]
    exact decide_eq_true (bd_log (of_decide_eq_true h))
  | .tup xs, h => by
    rw [T.bd] at h
    rw [T.nums]
    exact bd_numsAll xs h
  | .lst xs, h => by
    rw [T.bd] at h
    rw [T.nums]
    exact bd_numsAll xs h
theorem bd_numsAll : ∀ xs : List T, T.bdAll xs = true → T.numsAll xs = true
  | [], _ => by rw [T.numsAll]
  | x :: xs, h => by
    rw [T.bdAll, Bool.and_eq_true] at h
    rw [T.numsAll, bd_nums x h.1, bd_numsAll xs h.2]
    rfl
end
mutual
theorem bd_short : ∀ t : T, T.bd t = true → PyData.intsShort 13 t.toD = true
  | .non, _ => by rw [T.toD]; rfl
  | .bl _, _ => by rw [T.toD]; rfl
  | .str _, _ => by rw [T.toD]; rfl
  | .dic _ _, _ => by rw [T.toD]; rfl
  | .raw _, _ => by rw [T.toD]; rfl
  | .int i, h => by
    rw [T.bd] at h
    rw [T.toD, PyData.intsShort, PyData.shown_int]
    refine decide_eq_true ?_
    have h2 := int_text_length_le10 (a := i) (k := 12) (by decide) (Nat.lt_of_lt_of_le (of_decide_eq_true h) (by decide))
    have e : ((toString i : String) : Str).length = (toString i).length := PySem.ofString_length _
    rw [e]
    exact h2
  | .tup xs, h => by
    rw [T.bd] at h
    rw [T.toD, PyData.intsShort]
    exact bd_shorts xs h
  | .lst xs, h => by
    rw [T.bd] at h
    rw [T.toD, PyData.intsShort]
    exact bd_shorts xs h
theorem bd_shorts : ∀ xs : List T, T.bdAll xs = true → PyData.intsShortAll 13 (T.toDs xs) = true
  | [], _ => by rw [T.toDs]; rfl
  | x :: xs, h => by
    rw [T.bdAll, Bool.and_eq_true] at h
    rw [T.toDs, PyData.intsShortAll, bd_short x h.1, bd_shorts xs h.2]
    rfl
end
/-- plain trees of a depth: what `_law_plain` says yes to -/
def plB : Nat → T → Bool
  | 0, _ => false
  | n + 1, t => match t with
    | .non => true
    | .bl _ => true
    | .int _ => true
    | .str _ => true
    | .tup xs => decide (xs.length ≤ sizeLine) && xs.all (plB n)
    | .lst xs => decide (xs.length ≤ sizeLine) && xs.all (plB n)
    | _ => false
structure Small (d b : Nat) (t : T) : Prop where
  fit : T.fit d t = true
  bd : T.bd t = true
  wt : t.toD.weight ≤ b
  pl : plB (d + 1) t = true
theorem pl_mono : ∀ {n : Nat} {t : T}, plB n t = true → plB (n + 1) t = true
  | 0, t, h => by cases h
  | n + 1, t, h => by
    cases t with
    | tup xs =>
      simp only [plB, Bool.and_eq_true, List.all_eq_true] at h ⊢
      exact ⟨h.1, fun x hx => by have := pl_mono (h.2 x hx); simpa only [plB] using this⟩
    | lst xs =>
      simp only [plB, Bool.and_eq_true, List.all_eq_true] at h ⊢
      exact ⟨h.1, fun x hx => by have := pl_mono (h.2 x hx); simpa only [plB] using this⟩
    | _ => simp only [plB] at h ⊢ <;> first | rfl | exact h
theorem pl_le {n m : Nat} {t : T} (h : plB n t = true) (hm : n ≤ m) : plB m t = true := by
  induction hm with
  | refl => exact h
  | step _ ih => exact pl_mono ih
theorem fit_up : ∀ {n : Nat} {t : T}, T.fit n t = true → T.fit (n + 1) t = true
  | 0, t, h => by
    cases t with
    | tup xs => rw [T.fit] at h; cases h
    | lst xs => rw [T.fit] at h; cases h
    | dic m xs => rw [T.fit] at h; cases h
    | raw v => rw [T.fit] at h; cases h
    | str x => rw [fit_str] at h ⊢; exact h
    | _ => simp
  | n + 1, t, h => by
    cases t with
    | tup xs =>
      rw [fit_tup, List.all_eq_true] at h ⊢
      exact fun x hx => fit_up (h x hx)
    | lst xs =>
      rw [fit_lst, List.all_eq_true] at h ⊢
      exact fun x hx => fit_up (h x hx)
    | dic m xs => rw [T.fit] at h; cases h
    | raw v => rw [T.fit] at h; cases h
    | str x => rw [fit_str] at h ⊢; exact h
    | _ => simp
theorem fit_mono {n m : Nat} {t : T} (h : T.fit n t = true) (hm : n ≤ m) : T.fit m t = true := by
  induction hm with
  | refl => exact h
  | step _ ih => exact fit_up ih
theorem small_non : Small 0 0 .non := ⟨by simp, by rw [T.bd] <;> simp, by rw [T.toD]; exact Nat.le_refl _, rfl⟩
theorem small_bl (b : Bool) : Small 0 0 (.bl b) := ⟨by simp, by rw [T.bd] <;> simp, by rw [T.toD]; exact Nat.le_refl _, rfl⟩
theorem small_int {i : Int} (h : i.natAbs < 1000000000000) : Small 0 40 (.int i) := ⟨by simp, by rw [T.bd]; exact decide_eq_true h, by
  rw [T.toD, PyData.weight]
  split
  · omega
  · rename_i z
    have hz : i.natAbs ≠ 0 := fun e => z (by simpa using e)
    have := (Nat.log2_lt hz).mpr (Nat.lt_of_lt_of_le h (by decide : 1000000000000 ≤ 2 ^ 40))
    omega, rfl⟩
theorem small_n {n : Nat} (h : n < 1000000000000) : Small 0 40 (nT n) := small_int (by simpa using h)
theorem wtAll_le {b : Nat} : ∀ xs : List PyData, (∀ x ∈ xs, x.weight ≤ b) → PyData.weightAll xs ≤ xs.length * (b + 1)
  | [], _ => by rw [PyData.weightAll]; exact Nat.zero_le _
  | x :: xs, h => by
    have h1 := h x List.mem_cons_self
    have h2 := wtAll_le xs fun y hy => h y (List.mem_cons_of_mem _ hy)
    rw [PyData.weightAll, List.length_cons, Nat.add_mul, Nat.one_mul]
    omega
theorem Small.mono {d b d' b' : Nat} {t : T} (S : Small d b t) (hd : d ≤ d') (hb : b ≤ b') : Small d' b' t := ⟨fit_mono S.fit hd, S.bd, Nat.le_trans S.wt hb, pl_le S.pl (by omega)⟩
theorem small_all {d b m : Nat} {xs : List T} (h : ∀ x ∈ xs, Small d b x) (hm : xs.length ≤ m) (hz : m ≤ sizeLine) : xs.all (T.fit d) = true ∧ T.bdAll xs = true ∧ PyData.weightAll (T.toDs xs) ≤ m * (b + 1) ∧ (decide (xs.length ≤ sizeLine) && xs.all (plB (d + 1))) = true := by
  refine ⟨List.all_eq_true.mpr fun x hx => (h x hx).fit, by rw [bdAll_all]; exact List.all_eq_true.mpr fun x hx => (h x hx).bd, ?_, ?_⟩
  · rw [toDs_map]
    refine Nat.le_trans (wtAll_le _ fun y hy => ?_) (by rw [List.length_map]; exact Nat.mul_le_mul_right _ hm)
    obtain ⟨x, hx, rfl⟩ := List.mem_map.mp hy
    exact (h x hx).wt
  · rw [Bool.and_eq_true]
    exact ⟨decide_eq_true (Nat.le_trans hm hz), List.all_eq_true.mpr fun x hx => (h x hx).pl⟩
theorem small_tup {d b m : Nat} {xs : List T} (h : ∀ x ∈ xs, Small d b x) (hm : xs.length ≤ m) (hz : m ≤ sizeLine) : Small (d + 1) (m * (b + 1)) (.tup xs) := by
  obtain ⟨h1, h2, h3, h4⟩ := small_all h hm hz
  exact ⟨by rw [fit_tup]; exact h1, by rw [T.bd]; exact h2, by rw [T.toD, PyData.weight]; exact h3, by rw [plB]; exact h4⟩
theorem small_lst {d b m : Nat} {xs : List T} (h : ∀ x ∈ xs, Small d b x) (hm : xs.length ≤ m) (hz : m ≤ sizeLine) : Small (d + 1) (m * (b + 1)) (.lst xs) := by
  obtain ⟨h1, h2, h3, h4⟩ := small_all h hm hz
  exact ⟨by rw [fit_lst]; exact h1, by rw [T.bd]; exact h2, by rw [T.toD, PyData.weight]; exact h3, by rw [plB]; exact h4⟩
theorem Small.shown {d b : Nat} {t : T} (S : Small d b t) (hd : d ≤ 60) (hb : b ≤ 2 ^ 20) : (shownT t).length ≤ sizeLine := by
  obtain ⟨h1, h2⟩ := fit_lay d t S.fit
  exact PyData.shown_fits (B := 13) (by decide) (by decide) (PyData.leavesShort_of_canLay0 13 _ h1 (bd_short t S.bd)) (Nat.le_trans S.wt hb)
end TL
set_option Elab.async false
set_option linter.all false
set_option maxRecDepth 100000
set_option autoImplicit false
set_option maxHeartbeats 2000000
/-! O9: plain values, and being the same in value and text -/
namespace TL
open PySem PySem.Spec PyProof.Rows L2
def sp_plain (k : Nat) : TSp := sp1 fun t Q => plB k t = true ∧ Q (.bl true)
/-- slots: value, one -/
def t__law_plain (sp__law_plain : TSp) : WS :=
  (wSeq (wIfS (wB (wCB oIsi (wConsR (wVar 0) (wConsR (wTup (wCons (wC (.raw (.ty "list"))) (wCons (wC (.raw (.ty "tuple"))) wNil))) wNilR)))) (wRet (wOp oEqA (wFz (wLc (wSq (wVar 0)) (gSet 1) (wNotT (wB (wCall (fun xs => sp__law_plain (xs ++ [])) (wCons (wVar 1) wNil)))) (wC (.int 1)) [1])) (wLst wNil))) wNext)
  (wSeq (wIfS (wB (wCB oIsi (wConsR (wVar 0) (wConsR (wC (.raw (.ty "dict"))) wNilR)))) (wRet (wCall (fun xs => sp__law_plain (xs ++ [])) (wCons (wFz (wCBN oListN (wConsR (fun _ _ => False) wNilR))) wNil))) wNext)
  (wRet (wOrV (wOp oIsN (wVar 0) (wC .non)) (wCB oIsi (wConsR (wVar 0) (wConsR (wTup (wCons (wC (.raw (.ty "int"))) (wCons (wC (.raw (.ty "str"))) wNil))) wNilR)))))))
theorem nofilt {α : Type} (l : List α) : l.filter (fun _ => false) = [] := List.filter_eq_nil_iff.mpr fun _ _ h => by cases h
theorem read_plain (k : Nat) : ∀ xs Q, sp_plain (k + 1) xs Q → t__law_plain (sp_plain k) { nx := fun _ => Q .non, rt := Q } (startS 2 xs) := by
  rintro xs Q ⟨t, rfl, h, q⟩
  have hl : ∀ ts : List T, (decide (ts.length ≤ sizeLine) && ts.all (plB k)) = true → ts.length ≤ sizeLine ∧ ∀ t ∈ ts, plB k t = true := fun ts h => by
    rw [Bool.and_eq_true, List.all_eq_true] at h
    exact ⟨of_decide_eq_true h.1, h.2⟩
  have cal : ∀ t, plB k t = true → ∀ Q : T → Prop, Q (.bl true) → sp_plain k [t] Q := fun t ht Q q => ⟨t, rfl, ht, q⟩
  cases t with
  | tup ts =>
    obtain ⟨h1, h2⟩ := hl ts h
    simp [t__law_plain, startS, tyKnown, tyIs, tyOf]
    refine ⟨sl2, ?_⟩
    refine lc_pure (ρ1 := [.d (.tup ts), .no]) ts (fun _ => false) (fun _ => .non) (fun Q' z => by simpa using z) (by simp) h1 (fun x hx KT KF _ k2 => ?_) ?_
    · simp
      exact cal x (h2 x hx) _ (by simpa using k2 rfl)
    · rw [nofilt]
      simpa using q
  | lst ts =>
    obtain ⟨h1, h2⟩ := hl ts h
    simp [t__law_plain, startS, tyKnown, tyIs, tyOf]
    refine ⟨sl2, ?_⟩
    refine lc_pure (ρ1 := [.d (.lst ts), .no]) ts (fun _ => false) (fun _ => .non) (fun Q' z => by simpa using z) (by simp) h1 (fun x hx KT KF _ k2 => ?_) ?_
    · simp
      exact cal x (h2 x hx) _ (by simpa using k2 rfl)
    · rw [nofilt]
      simpa using q
  | dic m kvs => cases h
  | raw v => cases h
  | _ =>
    simp [t__law_plain, startS, tyKnown, tyIs, tyOf]
    exact ⟨sl2, by first | exact q | exact ⟨sl2, q⟩⟩
def sp__law_plain : TSp := sp_plain 9
def sp__law_is : TSp := sp2 fun a b Q => a = b ∧ (∃ d w, Small d w a ∧ d ≤ 8 ∧ w ≤ 2 ^ 20) ∧ Q (.bl true)
theorem call_is {d w : Nat} {a : T} {Q : T → Prop} (h : Small d w a) (hd : d ≤ 8) (hw : w ≤ 2 ^ 20) (q : Q (.bl true)) : sp__law_is [a, a] Q := ⟨_, _, rfl, rfl, ⟨d, w, h, hd, hw⟩, q⟩
theorem call_plain {d w : Nat} {a : T} {Q : T → Prop} (h : Small d w a) (hd : d ≤ 8) (q : Q (.bl true)) : sp__law_plain [a] Q := ⟨_, rfl, pl_le h.pl (by omega), q⟩
/-- slots: found, due -/
def t__law_is : WS :=
  (wRet (wAndV (wCall (fun xs => sp__law_plain (xs ++ [])) (wCons (wVar 0) wNil)) (wAndV (wOp oEqA (wVar 0) (wVar 1)) (wAndV (wOp oEqA (wVar 1) (wVar 0)) (wOp oEqA (wCB oRepr (wConsR (wVar 0) wNilR)) (wCB oRepr (wConsR (wVar 1) wNilR)))))))
theorem read__law_is : ∀ xs Q, sp__law_is xs Q → t__law_is { nx := fun _ => Q .non, rt := Q } (startS 2 xs) := by
  rintro xs Q ⟨a, _, rfl, rfl, ⟨d, w, S, hd, hw⟩, q⟩
  have f : T.fit 60 a = true := fit_mono S.fit (by omega)
  simp [t__law_is, startS]
  refine call_plain S hd ?_
  simp [f, eqT_self]
  have n := bd_nums a S.bd
  have s := S.shown (by omega) hw
  exact .inr (.inr ⟨n, s, n, s, .inl q⟩)
end TL
set_option Elab.async false
set_option linter.all false
set_option maxRecDepth 100000
set_option autoImplicit false
/-! TL21: defs that draw from the world -/
namespace TL
open PySem PySem.Spec PyProof.Rows L2
/-- a world that is drawn from, as it stands after t turns -/
structure Fam where
  own : Addr → Bool
  sa : Addr
  ok : Nat → Hp → Prop
  st : ∀ (H H' : Hp) (t : Nat), (∀ a, own a = true → H' a = H a) → ok t H → ok t H'
  tr : ∀ (H : Hp) (t : Nat), ok t H → ∀ a, own a = true → H a ≠ none
def Fam.W (M : Fam) (cap : Nat) : Wd where
  own := M.own
  inv := fun H => ∃ t, M.ok t H ∧ t ≤ cap
  st := fun H H' h ⟨t, h1, h2⟩ => ⟨t, M.st H H' t h h1, h2⟩
  tr := fun H ⟨t, h1, _⟩ => M.tr H t h1
  sa := M.sa
  bud := fun k H => ∃ t, M.ok t H ∧ t + k ≤ cap
  sb := fun H H' k h ⟨t, h1, h2⟩ => ⟨t, M.st H H' t h h1, h2⟩
/-- no more turns than these -/
def turns : Nat := 1073741824
/-- a promise of a def that draws: what it may draw, arguments, what is wanted of the value -/
abbrev SSp := Nat → List T → (T → Prop) → Prop
def liftS (K : Bx) (M : Fam) (sp : SSp) : Sp := fun vs H Q _ => ∃ (F : Hp) (t c : Nat) (vs' : List V) (xs : List T) (Q' : T → Prop), vs = .ref M.sa :: vs' ∧ Sub F (off (M.W 0) H) ∧ M.ok t H ∧ t + c ≤ turns ∧ RpAll K F vs' xs ∧ sp c xs Q' ∧
  ∀ v H' F' y t', Sub F F' → Sub F' (off (M.W 0) H') → Keep F (off (M.W 0) H) (off (M.W 0) H') → (∀ a, F' a ≠ none → F a ≠ none ∨ H a = none) → M.ok t' H' → t' ≤ t + c → Rp K F' v y → Q' y → Q v H'
theorem rel_startS {K : Bx} {M : Fam} {cap c t : Nat} {H F : Hp} {n : Str} {N : List Str} {vs : List V} {xs : List T} (sF : Sub F (off (M.W 0) H)) (ok : M.ok t H) (hc : t + c ≤ cap) (r : RpAll K F vs xs) (hl : xs.length ≤ N.length) : Rel K ⟨M.W cap, H, F, []⟩ (L2.start (n :: N) (.ref M.sa :: vs)) H (.gh c :: startS N.length xs) F := by
  have e0 : L2.start (n :: N) (.ref M.sa :: vs) = some (.ref M.sa) :: L2.start N vs := by
    unfold L2.start
    rw [List.map_cons, List.length_cons, List.length_cons, Nat.add_sub_add_right]
    rfl
  have iw : (M.W cap).inv H := ⟨t, ok, by omega⟩
  rw [e0]
  refine ⟨sF, Keep.refl, Sub.refl, fun a h => .inl h, iw, iw, ?_, fun q hq => (by cases hq), fun i s e => ?_, fun i j s t p e1 e2 o1 o2 f1 f2 => ?_⟩
  · simp [startS, L2.start, r.length]
  · cases i with
    | zero =>
      cases e
      exact ⟨rfl, t, ok, hc⟩
    | succ i =>
      rw [List.getElem?_cons_succ] at e ⊢
      rcases start_get r e with z | ⟨t, v, z, ev, rv⟩
      · subst z
        trivial
      · subst z
        exact ⟨v, ev, rv⟩
  · exfalso
    cases i with
    | zero =>
      cases e1
      cases o1
    | succ i =>
      rw [List.getElem?_cons_succ] at e1
      rcases start_get r e1 with z | ⟨t, v, z, ev, rv⟩
      · subst z
        cases o1
      · subst z
        cases o1
section
variable {P : Program} {w : World} {K : PySem.W.Frag} {mg : Str → Option Value} {base : Heap}
/-- THE RULE for a def that draws; its first parameter is what is drawn from -/
theorem okS {M : Fam} {x n : Str} {st : Stmt} {dvs : List V} {f : Addr} {fd : FuncData} {N ps : List Str} {k : Nat} {sp : SSp} {t : WS} (F : FD K x st dvs f fd) (sc : FnScope (n :: N) ps (defScope st)) (hps : ps.length ≤ N.length + 1)
    (len : ∀ c xs Q, sp c xs Q → xs.length + 1 = ps.length)
    (body : ∀ (cap : Nat) (cdv : Value) (A : Around) (outer : List Env) (s : Shared) (H F : Hp) (E : XK), cap ≤ turns → Rm k (A.deeper (envOfC x (defScope st) s.heap.objs.size f cdv)) →
      PSs (cxOf CX0 P w K mg base (n :: N) x (defScope st) f cdv A outer s H E).nox (defBody st) (LS ⟨P, w, K⟩ ⟨M.W cap, H, F, []⟩ t))
    (read : ∀ c xs Q, sp c xs Q → t { nx := fun _ => Q .non, rt := Q } (.gh c :: startS N.length xs)) : FnG P w K mg base CX0 (k + 1) f fd ps (liftS ⟨P, w, K⟩ M sp) := by
  obtain ⟨oc, od, dV, kV, doc, pm, an, cdv, ct, osl, rfl, lk, hcd, _, _⟩ := F.ex
  refine fnG_of lk hcd sc (fun vs H Q E ⟨F, t, c, vs', xs, Q', e, _, _, _, r, h, _⟩ => by rw [e, List.length_cons, r.length]; exact len c xs Q' h) fun A outer s H vs Q E hr ⟨F, t0, c, vs', xs, Q', e, sF, ok, hc, r, h, fin⟩ => ?_
  subst e
  refine ⟨_, (body (t0 + c) cdv A outer s H F E hc hr).nox, .gh c :: startS N.length xs, F, _, rel_startS sF ok (Nat.le_refl _) r (by have := len c xs Q' h; omega), read c xs Q' h, ?_, ?_, fun _ _ _ _ _ _ z => z.elim, fun _ _ _ _ _ _ z => z.elim⟩
  · exact fun σ' H' ρ' F' R s' q => let ⟨t', o1, o2⟩ := R.inv; fin .non H' F' .non t' s' R.sub R.base R.fresh o1 o2 .non q
  · exact fun v σ' H' ρ' F' t R s' rv q => let ⟨t', o1, o2⟩ := R.inv; fin v H' F' t t' s' R.sub R.base R.fresh o1 o2 rv q
end
/-! ### calls of them -/
def dropG : S → S
  | .gh _ => .no
  | s => s
@[simp] theorem dropG_no : dropG .no = .no := rfl
@[simp] theorem dropG_d (t : T) : dropG (.d t) = .d t := rfl
@[simp] theorem dropG_ol (t : List T) : dropG (.ol t) = .ol t := rfl
@[simp] theorem dropG_od (m : DK) (t : List (T × T)) : dropG (.od m t) = .od m t := rfl
@[simp] theorem dropG_gh (k : Nat) : dropG (.gh k) = .no := rfl
theorem wk_drop : ∀ ρ : List S, wk ρ (ρ.map dropG)
  | [] => by simp
  | s :: ρ => by
    rw [List.map_cons, wk_cons]
    refine ⟨?_, wk_drop ρ⟩
    cases s with
    | gh k => exact .inl rfl
    | _ => exact .inr rfl
section
variable {K : Bx} {G : Fc} {σ : L2.St} {H H' : Hp} {ρ : List S} {F F' : Hp}
theorem SlotOk.keepN {o : Option (Option V)} {s : S} (h : SlotOk K G F H o s) (hg : ∀ k, s ≠ .gh k) (hF : Sub F F') (hn : ∀ p, s.isOwn = true → o = some (some (.ref p)) → H' p = H p ∧ F' p = none) : SlotOk K G F' H' o s := by
  cases s with
  | no => trivial
  | d t =>
    obtain ⟨v, e, r⟩ := h
    exact ⟨v, e, r.mono hF⟩
  | ol xs =>
    obtain ⟨p, vs, e, w, hp, r⟩ := h
    obtain ⟨h1, h2⟩ := hn p rfl e
    exact ⟨p, vs, e, ⟨h2, w.h0, w.w⟩, by rw [h1]; exact hp, r.mono hF⟩
  | od k kvs =>
    obtain ⟨p, e, w, q⟩ := h
    obtain ⟨h1, h2⟩ := hn p rfl e
    exact ⟨p, e, ⟨h2, w.h0, w.w⟩, q.keep hF h1⟩
  | gh k => exact absurd rfl (hg k)
theorem Rel.afterN (R : Rel K G σ H ρ F) (ng : ∀ (i k : Nat), ρ[i]? ≠ some (.gh k)) (s1 : Sub F F') (s2 : Sub F' (off G.W H')) (s3 : Keep F (off G.W H) (off G.W H')) (fr : ∀ a, F' a ≠ none → F a ≠ none ∨ H a = none) (iv : G.W.inv H') : Rel K G σ H' ρ F' := by
  have stay : ∀ p u, H p = some u → Own G F H p → H' p = H p ∧ F' p = none := fun p u e ow => by
    have q : H' p = some u := by
      rcases s3 p u (by rw [off_ne ow.w]; exact e) with q | ⟨q, _⟩
      · exact (off_some q).2
      · exact absurd ow.f q
    refine ⟨by rw [e]; exact q, ?_⟩
    cases z : F' p with
    | none => rfl
    | some o =>
      rcases fr p (by rw [z]; exact fun c => nomatch c) with c | c
      · exact absurd ow.f c
      · rw [e] at c; cases c
  refine ⟨s2, R.base.trans s3 R.fresh', R.old.trans s1, fun a h => ?_, iv, R.inv0, R.len, fun q hq => ?_, fun i s e => ?_, R.sep⟩
  · rcases fr a h with c | c
    · exact R.fresh a c
    · exact .inr (R.free0 c)
  · obtain ⟨h1, h2, h3⟩ := R.pin q hq
    obtain ⟨g1, g2⟩ := stay q.1 _ h1 h2
    exact ⟨g1.trans h1, ⟨g2, h2.h0, h2.w⟩, h3⟩
  · refine (R.slot i s e).keepN (fun k z => ng i k (by rw [e, z])) s1 fun p w ep => ?_
    obtain ⟨⟨u, hu⟩, ow⟩ := (R.slot i s e).there w ep
    exact stay p u hu ow
theorem Rel.setG (R : Rel K G σ H ρ F) {i k : Nat} (e : σ[i]? = some (some (.ref G.W.sa))) (b : G.W.bud k H) : Rel K G σ H (ρ.set i (.gh k)) F := by
  have old : ∀ (j : Nat) (s : S), (ρ.set i (.gh k))[j]? = some s → s.isOwn = true → ρ[j]? = some s := fun j s es w => by
    by_cases hj : i = j
    · subst hj
      rw [List.getElem?_set_self'] at es
      cases z : ρ[i]? with
      | none =>
        rw [z] at es
        cases es
      | some u =>
        rw [z] at es
        cases es
        cases w
    · rw [List.getElem?_set_ne hj] at es
      exact es
  refine ⟨R.sub, R.base, R.old, R.fresh, R.inv, R.inv0, by rw [List.length_set]; exact R.len, fun q hq => ?_, fun j s es => ?_, fun j l s t p e1 e2 o1 o2 => R.sep j l s t p (old j s e1 o1) (old l t e2 o2) o1 o2⟩
  · obtain ⟨h1, h2, h3⟩ := R.pin q hq
    exact ⟨h1, h2, fun j s es w => h3 j s (old j s es w) w⟩
  · by_cases hj : i = j
    · subst hj
      rw [List.getElem?_set_self'] at es
      cases z : ρ[i]? with
      | none =>
        rw [z] at es
        cases es
      | some u =>
        rw [z] at es
        cases es
        exact ⟨e, b⟩
    · rw [List.getElem?_set_ne hj] at es
      exact R.slot j s es
end
end TL
set_option Elab.async false
set_option linter.all false
set_option maxRecDepth 100000
set_option autoImplicit false
/-! TL22: calls of defs that draw -/
namespace TL
open PySem PySem.Spec PyProof.Rows L2
section
variable {X : Cx} {G : Fc}
/-- what is drawn from, handed on -/
def wSt (i : Nat) (sa : Addr) : WE := fun ρ Q => (∃ k, ρ[i]? = some (.gh k)) ∧ Q (.v (.raw (.ref sa))) ρ
@[simp] theorem wSt_s (i : Nat) (sa : Addr) (s_ : S) (r_ : List S) (Q_ : _) : wSt i sa (s_ :: r_) Q_ = (fun ρ Q => (∃ k, ρ[i]? = some (.gh k)) ∧ Q (.v (.raw (.ref sa))) ρ) (s_ :: r_) Q_ := rfl
theorem te_st {i : Nat} {sa : Addr} {x : Str} {pos : Pos} (hs : G.W.sa = sa) (hN : X.N[i]? = some x) (hv : Vis X.env.scope x) (hd : (x == ("__debug__" : Str)) = false := by decide) (hcd : (x == ("__classdict__" : Str)) = false := by decide) : PE X (.Name x pos) (LE (bx X) G (wSt i sa)) := by
  refine PE.wk (pe_var hN hv hd hcd) fun σ H Q ⟨ρ, F, Q', R, ⟨⟨k0, es⟩, ht⟩, k⟩ => ?_
  have z := R.slot i _ es
  refine ⟨_, z.1, ?_⟩
  rw [hs]
  exact k _ H ρ F (.v (.raw (.ref sa))) R Sub.refl (Rp.raw _) ht
/-- the call of a def that draws: slot i -/
def wCallS (i : Nat) (sa : Addr) (sp : SSp) (t : WA) : WE := fun ρ Q => t ρ fun xs ρ1 => ∃ k c ys, xs = .raw (.ref sa) :: ys ∧ ρ1[i]? = some (.gh k) ∧ c ≤ k ∧ sp c ys fun y => Q (.v y) ((ρ1.map dropG).set i (.gh (k - c)))
@[simp] theorem wCallS_s (i : Nat) (sa : Addr) (sp : SSp) (t : WA) (s_ : S) (r_ : List S) (Q_ : _) : wCallS i sa sp t (s_ :: r_) Q_ = (fun ρ Q => t ρ fun xs ρ1 => ∃ k c ys, xs = .raw (.ref sa) :: ys ∧ ρ1[i]? = some (.gh k) ∧ c ≤ k ∧ sp c ys fun y => Q (.v y) ((ρ1.map dropG).set i (.gh (k - c)))) (s_ :: r_) Q_ := rfl
theorem wCallS_of {M : Fam} {cap i : Nat} {sp : SSp} {t : WA} {E : XK} (hW : G.W = M.W cap) (hc : cap ≤ turns) {σ : L2.St} {H : Hp} {Q : VK} (h : LE (bx X) G (wCallS i M.sa sp t) σ H Q) : tCall (liftS (bx X) M sp) [] E (LA (bx X) G t) σ H Q := by
  have ho : ∀ H, off G.W H = off (M.W 0) H := fun H => by rw [hW]; rfl
  obtain ⟨ρ, F, Q', R, ht, k⟩ := h
  refine ⟨ρ, F, _, R, ht, fun vs H1 ρ1 F1 xs R1 s1 rs ⟨k0, c, ys, ex, eg, hk, q⟩ => ?_⟩
  subst ex
  cases rs with
  | cons r1 rs' =>
    cases r1
    rw [List.append_nil]
    have sl := R1.slot i _ eg
    obtain ⟨e0, b0⟩ := sl
    rw [hW] at b0
    obtain ⟨t0, ok0, ht0⟩ := b0
    refine ⟨F1, t0, c, _, ys, _, rfl, by rw [← ho]; exact R1.sub, ok0, by omega, rs', q, fun v H' F' y t' a1 a2 a3 a4 ok' ht' ry qy => ?_⟩
    rw [← ho] at a2 a3
    rw [← ho] at a3
    have R2 := R1.wk (wk_drop ρ1)
    have R3 := R2.afterN (fun j k' z => by
      rw [List.getElem?_map] at z
      obtain ⟨s, _, es⟩ := Option.map_eq_some_iff.mp z
      cases s <;> cases es) a1 a2 a3 a4 (by rw [hW]; exact ⟨t', ok', by omega⟩)
    have R4 := R3.setG (i := i) (k := k0 - c) e0 (by rw [hW]; exact ⟨t', ok', by omega⟩)
    exact k v H' _ F' (.v y) R4 (s1.trans a1) ry qy
theorem te_callS {f : Addr} {fd : FuncData} {x : Str} {p pos : Pos} {e : Expr} {es : List Expr} {k cap i : Nat} {ps : List Str} {M : Fam} {sp : SSp} {t : WA} (FO : FnG X.prog X.w X.K X.mg X.base CX0 k f fd ps (liftS (bx X) M sp)) (hr : Rm k X.A) (hg : Gl X x) (hm : X.mg x = some (.ref f)) (hk : PySem.W.keepIn X.K (.ref f) = true) (hb : Binds X.K fd ps []) (hx : Passes CX0 X (fun _ _ _ => False))
    (hW : G.W = M.W cap) (hc : cap ≤ turns) (ha : PA X (e :: es) (LA (bx X) G t))
    (hs : starEach (e :: es) X.env = (false, eval e X.env) :: starEach es X.env := by rfl) (hplain : (backTo pos (starEach es X.env)).any (·.1) = false := by rfl) (hdb : (x == ("__debug__" : Str)) = false := by decide) :
    PE X (.Call (.Name x p) (e :: es) [] pos) (LE (bx X) G (wCallS i M.sa sp t)) :=
  PE.wk (pe_callG FO hr hg hm hk hb .nil hx ha hdb hs hplain) fun _ _ _ h => wCallS_of hW hc h
end
/-! ### their promises -/
def ss0 (f : Nat → (T → Prop) → Prop) : SSp := fun c xs Q => xs = [] ∧ f c Q
def ss1 (f : Nat → T → (T → Prop) → Prop) : SSp := fun c xs Q => ∃ a, xs = [a] ∧ f c a Q
def ss2 (f : Nat → T → T → (T → Prop) → Prop) : SSp := fun c xs Q => ∃ a b, xs = [a, b] ∧ f c a b Q
def ss3 (f : Nat → T → T → T → (T → Prop) → Prop) : SSp := fun c xs Q => ∃ a b d, xs = [a, b, d] ∧ f c a b d Q
theorem as1 {f : Nat → (T → Prop) → Prop} : ∀ c xs Q, ss0 f c xs Q → xs.length + 1 = 1 := fun c xs Q ⟨e, _⟩ => by rw [e]; rfl
theorem as2 {f : Nat → T → (T → Prop) → Prop} : ∀ c xs Q, ss1 f c xs Q → xs.length + 1 = 2 := fun c xs Q ⟨a, e, _⟩ => by rw [e]; rfl
theorem as3 {f : Nat → T → T → (T → Prop) → Prop} : ∀ c xs Q, ss2 f c xs Q → xs.length + 1 = 3 := fun c xs Q ⟨a, b, e, _⟩ => by rw [e]; rfl
theorem as4 {f : Nat → T → T → T → (T → Prop) → Prop} : ∀ c xs Q, ss3 f c xs Q → xs.length + 1 = 4 := fun c xs Q ⟨a, b, d, e, _⟩ => by rw [e]; rfl
structure CalS (P : Program) (w : World) (K : PySem.W.Frag) (mg : Str → Option Value) (base : Heap) (M : Fam) (k : Nat) (x : Str) (f : Addr) (fd : FuncData) (ps : List Str) (sp : SSp) : Prop where
  m : mg x = some (.ref f)
  kp : PySem.W.keepIn K (.ref f) = true
  ok : FnG P w K mg base CX0 k f fd ps (liftS ⟨P, w, K⟩ M sp)
theorem CalS.at {P : Program} {w : World} {K : PySem.W.Frag} {mg : Str → Option Value} {base : Heap} {M : Fam} {k j : Nat} {x : Str} {f : Addr} {fd : FuncData} {ps : List Str} {sp : SSp} (C : CalS P w K mg base M k x f fd ps sp) (h : k ≤ j) : FnG P w K mg base CX0 j f fd ps (liftS ⟨P, w, K⟩ M sp) := C.ok.mono h
end TL
set_option Elab.async false
set_option linter.all false
set_option maxRecDepth 100000
set_option autoImplicit false
/-! O10: one tie more keeps an order an order -/
namespace TL
open PySem PySem.Spec PyProof.Rows L2
theorem ltP_trans {p q r : Nat × Nat} (h : ltP p q = true) (h2 : ltP q r = true) : ltP p r = true := by
  unfold ltP at *
  simp at *
  omega
theorem ltP_irr (p : Nat × Nat) : ltP p p = false := by
  unfold ltP
  simp
theorem ltP_tri {p q : Nat × Nat} (h : ltP p q = false) (h2 : ltP q p = false) : p = q := by
  unfold ltP at *
  simp at *
  exact Prod.ext (by omega) (by omega)
theorem rising_iff : ∀ ts : List (Nat × Nat), risingB ts = true ↔ ts.Pairwise fun p q => ltP p q = true
  | [] => by simp [risingB]
  | [p] => by simp [risingB]
  | p :: q :: ts => by
    have ih := rising_iff (q :: ts)
    have e : risingB (p :: q :: ts) = (ltP p q && risingB (q :: ts)) := by
      simp [risingB]
    rw [e, Bool.and_eq_true, ih, List.pairwise_cons (a := p)]
    constructor
    · rintro ⟨h1, h2⟩
      refine ⟨fun r hr => ?_, h2⟩
      rcases List.mem_cons.mp hr with z | z
      · rw [z]
        exact h1
      · exact ltP_trans h1 ((List.pairwise_cons.mp h2).1 r z)
    · rintro ⟨h1, h2⟩
      exact ⟨h1 q List.mem_cons_self, h2⟩
theorem rising_nodup {ts : List (Nat × Nat)} (h : risingB ts = true) : ts.Nodup := by
  refine ((rising_iff ts).mp h).imp fun {p q} h e => ?_
  rw [e, ltP_irr] at h
  cases h
theorem mem_tieIn {over : List Nat} {ts : List (Nat × Nat)} {u : Nat} {p : Nat × Nat} : p ∈ tieIn over ts u ↔ p ∈ ts ∨ (p.1 = u ∧ p.2 ∈ over) := by
  unfold tieIn
  rw [List.mem_append, List.mem_map]
  constructor
  · rintro (h | ⟨b, hb, rfl⟩)
    · exact .inl h
    · exact .inr ⟨rfl, (List.mem_filter.mp hb).1⟩
  · rintro (h | ⟨rfl, h⟩)
    · exact .inl h
    · by_cases z : p ∈ ts
      · exact .inl z
      · exact .inr ⟨p.2, List.mem_filter.mpr ⟨h, by simpa using z⟩, rfl⟩
theorem nodup_tieIn {over : List Nat} {ts : List (Nat × Nat)} {u : Nat} (ho : over.Nodup) (h : ts.Nodup) : (tieIn over ts u).Nodup := by
  unfold tieIn
  rw [List.nodup_append]
  refine ⟨h, ?_, ?_⟩
  · exact List.Pairwise.map (fun high => (u, high)) (fun a b hab e => hab (Prod.mk.inj e).2) (ho.filter _)
  · rintro a ha b hb e
    subst e
    obtain ⟨c, hc, rfl⟩ := List.mem_map.mp hb
    have := (List.mem_filter.mp hc).2
    simp at this
    exact this ha
theorem mem_ties (over : List Nat) : ∀ (us : List Nat) (ts : List (Nat × Nat)) (p : Nat × Nat), p ∈ us.foldl (tieIn over) ts ↔ p ∈ ts ∨ (p.1 ∈ us ∧ p.2 ∈ over)
  | [], ts, p => by simp
  | u :: us, ts, p => by
    rw [List.foldl_cons, mem_ties over us, mem_tieIn, List.mem_cons]
    constructor
    · rintro ((h | ⟨h, h2⟩) | ⟨h, h2⟩)
      · exact .inl h
      · exact .inr ⟨.inl h, h2⟩
      · exact .inr ⟨.inr h, h2⟩
    · rintro (h | ⟨h | h, h2⟩)
      · exact .inl (.inl h)
      · exact .inl (.inr ⟨h, h2⟩)
      · exact .inr ⟨h, h2⟩
theorem nodup_ties {over : List Nat} (ho : over.Nodup) : ∀ (us : List Nat) (ts : List (Nat × Nat)), ts.Nodup → (us.foldl (tieIn over) ts).Nodup
  | [], _, h => h
  | u :: us, ts, h => nodup_ties ho us _ (nodup_tieIn ho h)
theorem leP_total (a b : Nat × Nat) : (leP a b || leP b a) = true := by
  unfold leP ltP
  simp
  omega
theorem leP_trans (a b c : Nat × Nat) (h : leP a b = true) (h2 : leP b c = true) : leP a c = true := by
  unfold leP ltP at *
  simp at *
  omega
theorem sortP_rising {ts : List (Nat × Nat)} (h : ts.Nodup) : risingB (sortP ts) = true := by
  rw [rising_iff]
  have h1 : (sortP ts).Pairwise fun a b => leP a b = true := List.pairwise_mergeSort (fun a b c => leP_trans a b c) (fun a b => leP_total a b) ts
  have h2 : (sortP ts).Nodup := (List.mergeSort_perm ts leP).nodup_iff.mpr h
  refine (h1.and h2).imp fun {a b} ⟨h3, h4⟩ => ?_
  cases z : ltP a b with
  | true => rfl
  | false =>
    unfold leP at h3
    exact absurd (ltP_tri z (by simpa using h3)) h4
theorem len_le_of {α : Type} [DecidableEq α] : ∀ (us ts : List α), ts.Nodup → (∀ x ∈ ts, x ∈ us) → ts.length ≤ us.length
  | [], ts, _, h => by
    cases ts with
    | nil => exact Nat.le_refl _
    | cons x ts => exact absurd (h x List.mem_cons_self) (by simp)
  | u :: us, ts, nd, h => by
    have h2 := len_le_of us (ts.erase u) (nd.erase u) fun x hx => by
      rw [nd.mem_erase_iff] at hx
      rcases List.mem_cons.mp (h x hx.2) with z | z
      · exact absurd z hx.1
      · exact z
    rw [List.length_erase] at h2
    rw [List.length_cons]
    split at h2 <;> omega
def allP : List (Nat × Nat) := [(0, 1), (0, 2), (0, 3), (0, 4), (0, 5), (1, 2), (1, 3), (1, 4), (1, 5), (2, 3), (2, 4), (2, 5), (3, 4), (3, 5), (4, 5)]
theorem all_allP : ∀ b : Fin 6, ∀ a : Fin 6, a.val < b.val → (a.val, b.val) ∈ allP := by decide
theorem mem_allP {n : Nat} (hn : n ≤ 6) {p : Nat × Nat} (h : p.1 < p.2) (h2 : p.2 < n) : p ∈ allP :=
  all_allP ⟨p.2, by omega⟩ ⟨p.1, by omega⟩ h
theorem closed_iff {ts : List (Nat × Nat)} : closedB ts = true ↔ ∀ a b c : Nat, (a, b) ∈ ts → (b, c) ∈ ts → (a, c) ∈ ts := by
  unfold closedB
  simp only [List.all_eq_true, List.mem_filter]
  constructor
  · intro h a b c h1 h2
    have := h (a, b) h1 (b, c) ⟨h2, by simp⟩
    simpa using this
  · rintro h ⟨a, b⟩ h1 ⟨b', c⟩ ⟨h2, h3⟩
    have e : b' = b := by simpa using h3
    subst e
    simpa using h a b' c h1 h2
theorem ord_nil {n : Nat} (h1 : 1 ≤ n) (h2 : n ≤ 6) : Ord n [] := ⟨h1, h2, by simp, fun p hp => (by cases hp), by decide, by decide⟩
theorem ord_tied {n : Nat} {ts : List (Nat × Nat)} (O : Ord n ts) {i j : Nat} (hij : i < j) (hj : j < n) : Ord n (tiedM n ts i j) := by
  have hc := closed_iff.mp O.closed
  have mU : ∀ a, a ∈ underM n ts i ↔ a < n ∧ (a = i ∨ (a, i) ∈ ts) := fun a => by
    unfold underM
    rw [List.mem_filter, List.mem_range]
    simp
  have mO : ∀ a, a ∈ overM n ts j ↔ a < n ∧ (a = j ∨ (j, a) ∈ ts) := fun a => by
    unfold overM
    rw [List.mem_filter, List.mem_range]
    simp
  have mT : ∀ p : Nat × Nat, p ∈ tiedM n ts i j ↔ p ∈ ts ∨ ((p.1 < n ∧ (p.1 = i ∨ (p.1, i) ∈ ts)) ∧ (p.2 < n ∧ (p.2 = j ∨ (j, p.2) ∈ ts))) := fun p => by
    unfold tiedM sortP tiesM
    rw [List.mem_mergeSort, mem_ties, mU, mO]
  have nd : (tiesM n ts i j).Nodup := nodup_ties (List.nodup_range.filter _) _ _ (rising_nodup O.rising)
  have bel : belowAll n (tiedM n ts i j) := fun p hp => by
    rcases (mT p).mp hp with h | ⟨⟨h1, h2⟩, h3, h4⟩
    · exact O.below p h
    · have e1 : p.1 ≤ i := by
        rcases h2 with z | z
        · omega
        · exact Nat.le_of_lt (O.below _ z).1
      have e2 : j ≤ p.2 := by
        rcases h4 with z | z
        · omega
        · exact Nat.le_of_lt (O.below _ z).1
      exact ⟨by omega, h3⟩
  refine ⟨O.pos, O.six, ?_, bel, sortP_rising nd, closed_iff.mpr fun a b c h1 h2 => ?_⟩
  · refine len_le_of allP _ ((List.mergeSort_perm _ _).nodup_iff.mpr nd) fun p hp => ?_
    obtain ⟨b1, b2⟩ := bel p hp
    exact mem_allP O.six b1 b2
  · have hab := bel _ h1
    have hbc := bel _ h2
    rw [mT] at h1 h2 ⊢
    rcases h1 with h1 | ⟨⟨h1, h1'⟩, h1a, h1b⟩ <;> rcases h2 with h2 | ⟨⟨h2, h2'⟩, h2a, h2b⟩
    · exact .inl (hc a b c h1 h2)
    · refine .inr ⟨⟨by have := O.below _ h1; simp at *; omega, .inr ?_⟩, h2a, h2b⟩
      rcases h2' with z | z
      · simp at z
        rw [← z]
        exact h1
      · exact hc _ _ _ h1 z
    · refine .inr ⟨⟨h1, h1'⟩, by simp at *; omega, .inr ?_⟩
      rcases h1b with z | z
      · simp at z
        rw [← z]
        exact h2
      · exact hc _ _ _ z h2
    · exfalso
      have e1 : b ≤ i := by
        rcases h2' with z | z
        · simp at z; omega
        · exact Nat.le_of_lt (O.below _ z).1
      have e2 : j ≤ b := by
        rcases h1b with z | z
        · simp at z; omega
        · exact Nat.le_of_lt (O.below _ z).1
      omega
end TL
set_option Elab.async false
set_option linter.all false
set_option maxRecDepth 100000
set_option autoImplicit false
set_option maxHeartbeats 2000000
/-! O11: orders closed, drawn -/
namespace TL
open PySem PySem.Spec PyProof.Rows L2
def stepM (n : Nat) (os : List (Nat × Nat)) (p : Nat × Nat) : List (Nat × Nat) := if os.contains p = true then os else tiedM n os p.1 p.2
def closedM (n : Nat) (ts : List (Nat × Nat)) : List (Nat × Nat) := (sortP ts).foldl (stepM n) []
theorem ord_step {n : Nat} {os : List (Nat × Nat)} {p : Nat × Nat} (O : Ord n os) (h : p.1 < p.2) (h2 : p.2 < n) : Ord n (stepM n os p) := by
  unfold stepM
  split
  · exact O
  · exact ord_tied O h h2
def sp__law_closed : TSp := sp2 fun a b Q => ∃ (n : Nat) (ts : List (Nat × Nat)), a = nT n ∧ b = .lst (ts.map pT) ∧ 1 ≤ n ∧ n ≤ 6 ∧ ts.length ≤ 100 ∧ belowAll n ts ∧ Q (oT n (closedM n ts))
/-- slots: many, pairs, found, i, j -/
def t__law_closed : WS :=
  (wSeq (wSet 2 (wTup (wCons (wC (.str "order")) (wCons (wVar 0) (wCons (wTup wNil) wNil)))))
  (wSeq (wFor (wSq (wFz (wCBN oSortN (wConsR (wVar 1) wNilR)))) (gTupT 2 (gConsT (gSet 3) (gConsT (gSet 4) gNilT))) (wIfS (wB (wOp oNotIn (wTup (wCons (wVar 3) (wCons (wVar 4) wNil))) (wOp oIx (wVar 2) (wC (.int 2))))) (wSet 2 (wCall (fun xs => sp__law_tied (xs ++ [])) (wCons (wVar 2) (wCons (wVar 3) (wCons (wVar 4) wNil))))) wNext))
  (wRet (wVar 2))))
theorem read__law_closed : ∀ xs Q, sp__law_closed xs Q → t__law_closed { nx := fun _ => Q .non, rt := Q } (startS 5 xs) := by
  rintro xs Q ⟨a, b, rfl, n, ts, rfl, rfl, hn1, hn, hl, hb, q⟩
  simp [t__law_closed, startS]
  refine ⟨sl3, ?_⟩
  refine for_fold (ρ1 := [.d (nT n), .d (.lst (ts.map pT)), .d (oT n []), .no, .no]) (sortP ts) pT (fun os => [.d (nT n), .d (.lst (ts.map pT)), .d (oT n os), .no, .no]) (stepM n) [] (fun Q' z => ?_) (wk_refl _) (fun os => Ord n os) (ord_nil hn1 hn) (fun k p os hk _ O N hN => ?_) (fun os hb2 _ => ?_)
  · simp
    refine ⟨srt_p ts, ?_⟩
    rw [sortP_eq]
    exact z
  · have hp := hb p ((List.mem_mergeSort).mp (List.mem_of_getElem? hk))
    have em : memT (T.tup [nT p.1, nT p.2]) (os.map pT) = os.contains p := mem_p p os
    simp [pT, atI_2]
    refine ⟨sl2, fitP os, ?_⟩
    rw [em]
    have hs := fun ρ4 => hN ρ4 (ord_step O hp.1 hp.2)
    cases hc : os.contains p with
    | true =>
      refine .inl ⟨rfl, hs _ ?_⟩
      rw [stepM, if_pos hc]
      simp
    | false =>
      refine .inr ⟨rfl, call_tied hn O.len (hs _ ?_)⟩
      rw [stepM, if_neg (by rw [hc]; decide)]
      simp
  · simp
    rw [hb2]
    exact q
end TL
set_option Elab.async false
set_option linter.all false
set_option maxRecDepth 100000
set_option autoImplicit false
set_option maxHeartbeats 2000000
/-! O12: orders drawn -/
namespace TL
open PySem PySem.Spec PyProof.Rows L2
def sp__law_draw : SSp := ss1 fun c a Q => c = 1 ∧ ∃ r : Nat, a = nT r ∧ 0 < r ∧ r < 1073741824 ∧ ∀ k : Nat, k < r → Q (nT k)
theorem call_draw {r : Nat} {Q : T → Prop} (h : 0 < r) (h2 : r < 1073741824) (q : ∀ k : Nat, k < r → Q (nT k)) : sp__law_draw 1 [nT r] Q := ⟨_, rfl, rfl, r, rfl, h, h2, q⟩
def sp__law_some_order : SSp := ss1 fun c a Q => ∃ n : Nat, a = nT n ∧ 1 ≤ n ∧ n ≤ 6 ∧ 4 * n ≤ c ∧ ∀ ts, Ord n ts → Q (oT n ts)
theorem for_late {t : WI} {g : WG} {tb : WS} {D : ED} {ρ : List S} (h : t ρ fun L ρ1 => wFor (fun _ Q => Q L ρ1) g tb D ρ1) : wFor t g tb D ρ := h
/-- slots: state, many, found, lap, i, j -/
def t__law_some_order (sa : Addr) : WS :=
  (wSeq (wSet 2 (wTup (wCons (wC (.str "order")) (wCons (wVar 1) (wCons (wTup wNil) wNil)))))
  (wSeq (wFor (wRng1 (wCons (wCallS 0 sa sp__law_draw (wCons (wSt 0 sa) (wCons (wOp oMul (wC (.int 2)) (wVar 1)) wNil))) wNil)) (gSet 3) (wSeq (wPar 4 5 (wCons (wCallS 0 sa sp__law_draw (wCons (wSt 0 sa) (wCons (wVar 1) wNil))) (wCons (wCallS 0 sa sp__law_draw (wCons (wSt 0 sa) (wCons (wVar 1) wNil))) wNil)))
  (wIfS (wAndT (wB (wOp oLtA (wVar 4) (wVar 5))) (wB (wOp oNotIn (wTup (wCons (wVar 4) (wCons (wVar 5) wNil))) (wOp oIx (wVar 2) (wC (.int 2)))))) (wSet 2 (wCall (fun xs => sp__law_tied (xs ++ [])) (wCons (wVar 2) (wCons (wVar 4) (wCons (wVar 5) wNil))))) wNext)))
  (wRet (wVar 2))))
theorem read__law_some_order (sa : Addr) : ∀ c xs Q, sp__law_some_order c xs Q → t__law_some_order sa { nx := fun _ => Q .non, rt := Q } (.gh c :: startS 5 xs) := by
  rintro c xs Q ⟨a, rfl, n, rfl, hn1, hn, hc, q⟩
  simp [t__law_some_order, startS]
  refine ⟨sl3, for_late ?_⟩
  simp
  refine ⟨.inl ⟨by decide, by decide⟩, 1, by omega, ?_⟩
  rw [show T.int (2 * (n : Int)) = nT (2 * n) by simp]
  refine call_draw (by omega) (by omega) fun m hm => ?_
  simp
  refine ⟨by omega, ?_⟩
  refine for_ty (ρ1 := [.gh (c - 1), .d (nT n), .d (oT n []), .no, .no, .no]) (List.range m) nT (fun i ρ => ∃ os, Ord n os ∧ ρ = [.gh (c - 1 - 2 * i), .d (nT n), .d (oT n os), .no, .no, .no]) (fun Q' z => ?_) ⟨_, ⟨[], ord_nil hn1 hn, rfl⟩, by simp⟩ (fun i x ρ hi => ?_) ?_
  · rw [range_n]
    exact z
  · rintro ⟨os, O, rfl⟩ N hN
    have hb := List.getElem?_eq_some_iff.mp hi
    obtain ⟨hb, _⟩ := hb
    rw [List.length_range] at hb
    simp
    refine ⟨1, by omega, call_draw (by omega) (by omega) fun a ha => ?_⟩
    simp
    refine ⟨1, by omega, call_draw (by omega) (by omega) fun b hb2 => ?_⟩
    simp [atI_2]
    have hc2 : c - 1 - 2 * i - 1 - 1 = c - 1 - 2 * (i + 1) := by omega
    rw [hc2]
    have em : memT (T.tup [nT a, nT b]) (os.map pT) = os.contains (a, b) := mem_p (a, b) os
    rcases Nat.lt_or_ge a b with hab | hab
    · refine .inr ⟨hab, sl2, fitP os, ?_⟩
      rw [em]
      cases hcn : os.contains (a, b) with
      | true => exact .inl ⟨rfl, hN _ _ ⟨os, O, rfl⟩ (by simp)⟩
      | false => exact .inr ⟨rfl, call_tied hn O.len (hN _ _ ⟨_, ord_tied O hab hb2, rfl⟩ (by simp))⟩
    · exact .inl ⟨hab, hN _ _ ⟨os, O, rfl⟩ (by simp)⟩
  · rintro ρ ⟨os, O, rfl⟩
    simp
    exact q os O
def sp__law_any_order : SSp := ss0 fun c Q => 25 ≤ c ∧ ∀ n ts, Ord n ts → Q (oT n ts)
/-- slots: state -/
def t__law_any_order (sa : Addr) : WS :=
  (wRet (wCallS 0 sa sp__law_some_order (wCons (wSt 0 sa) (wCons (wOp oAdd (wC (.int 1)) (wCallS 0 sa sp__law_draw (wCons (wSt 0 sa) (wCons (wC (.int 6)) wNil)))) wNil))))
theorem read__law_any_order (sa : Addr) : ∀ c xs Q, sp__law_any_order c xs Q → t__law_any_order sa { nx := fun _ => Q .non, rt := Q } (.gh c :: startS 0 xs) := by
  rintro c xs Q ⟨rfl, hc, q⟩
  simp [t__law_any_order, startS]
  refine ⟨1, by omega, call_draw (r := 6) (by omega) (by omega) fun k hk => ?_⟩
  simp
  refine ⟨c - 1, by omega, nT (k + 1), by simp; omega, k + 1, rfl, by omega, by omega, by omega, fun ts O => ?_⟩
  exact q _ _ O
end TL
set_option Elab.async false
set_option linter.all false
set_option autoImplicit false
/-! M1: the lines by adding behind, by putting in: the same -/
namespace TL
theorem fold_ext {α β : Type} (g : α → List β) (f : List β → α → List β) (hf : ∀ acc a, f acc a = acc ++ g a) : ∀ (l : List α) (acc : List β), l.foldl f acc = acc ++ l.flatMap g
  | [], acc => by simp
  | a :: l, acc => by rw [List.foldl_cons, fold_ext g f hf l, hf, List.flatMap_cons, List.append_assoc]
def extL (n : Nat) (ts : List (Nat × Nat)) (l : List Nat) : List (List Nat) := (List.range n).flatMap fun p => if okAt ts l p = true then [l ++ [p]] else []
theorem lnOut_eq (n : Nat) (ts : List (Nat × Nat)) (f : List (List Nat)) (k : Nat) : lnOut n ts f k = f.flatMap (extL n ts) := by
  unfold lnOut
  rw [fold_ext (extL n ts), List.nil_append]
  intro acc l
  unfold lnMid extL
  exact fold_ext _ _ (fun acc p => by unfold lnIn; split <;> simp) _ _
def dexL (ts : List (Nat × Nat)) (place : Nat) (l : List Nat) : List (List Nat) := (List.range (l.length + 1)).flatMap fun k => if duOk ts place l k = true then [l.take k ++ [place] ++ l.drop k] else []
theorem duOut_eq (ts : List (Nat × Nat)) (f : List (List Nat)) (place : Nat) : duOut ts f place = f.flatMap (dexL ts place) := by
  unfold duOut
  rw [fold_ext (dexL ts place), List.nil_append]
  intro acc l
  unfold duMid dexL
  exact fold_ext _ _ (fun acc k => by unfold duIn; split <;> simp) _ _
theorem mem_extL {n : Nat} {ts : List (Nat × Nat)} {l x : List Nat} : x ∈ extL n ts l ↔ ∃ p, p < n ∧ okAt ts l p = true ∧ x = l ++ [p] := by
  unfold extL
  rw [List.mem_flatMap]
  constructor
  · rintro ⟨p, hp, hx⟩
    split at hx
    · rename_i h
      exact ⟨p, List.mem_range.mp hp, h, List.mem_singleton.mp hx⟩
    · cases hx
  · rintro ⟨p, hp, h, rfl⟩
    exact ⟨p, List.mem_range.mpr hp, by rw [if_pos h]; exact List.mem_singleton.mpr rfl⟩
theorem mem_dexL {ts : List (Nat × Nat)} {place : Nat} {l x : List Nat} : x ∈ dexL ts place l ↔ ∃ A B, l = A ++ B ∧ (∀ one ∈ B, (one, place) ∉ ts) ∧ x = A ++ place :: B := by
  unfold dexL
  rw [List.mem_flatMap]
  constructor
  · rintro ⟨k, hk, hx⟩
    split at hx
    · rename_i h
      refine ⟨l.take k, l.drop k, (List.take_append_drop k l).symm, fun one ho => ?_, by rw [List.mem_singleton.mp hx, List.append_assoc]; rfl⟩
      unfold duOk at h
      have h2 : (List.filter (fun one => ts.contains (one, place)) (List.drop k l)) = [] := by simpa using h
      have h3 := List.filter_eq_nil_iff.mp h2 one ho
      simpa using h3
    · cases hx
  · rintro ⟨A, B, rfl, h, rfl⟩
    refine ⟨A.length, List.mem_range.mpr (by rw [List.length_append]; omega), ?_⟩
    have e : duOk ts place (A ++ B) A.length = true := by
      unfold duOk
      rw [List.drop_left]
      have : (List.filter (fun one => ts.contains (one, place)) B) = [] := List.filter_eq_nil_iff.mpr fun one ho => by simpa using h one ho
      rw [this]
      rfl
    rw [if_pos e, List.drop_left, List.take_left]
    simp
theorem okAt_iff {ts : List (Nat × Nat)} {l : List Nat} {p : Nat} : okAt ts l p = true ↔ p ∉ l ∧ ∀ a, (a, p) ∈ ts → a ∈ l := by
  unfold okAt
  simp only [Bool.and_eq_true, List.all_eq_true, List.mem_filter]
  constructor
  · rintro ⟨h1, h2⟩
    refine ⟨by simpa using h1, fun a ha => ?_⟩
    have := h2 (a, p) ⟨ha, by simp⟩
    simpa using this
  · rintro ⟨h1, h2⟩
    refine ⟨by simpa using h1, ?_⟩
    rintro ⟨a, q⟩ ⟨h3, h4⟩
    have e : q = p := by simpa using h4
    subst e
    simpa using h2 a h3
/-- no place stands behind one that it is tied ahead of -/
def Pw (ts : List (Nat × Nat)) (l : List Nat) : Prop := l.Pairwise fun x y => (y, x) ∉ ts
/-- rows under way, by adding behind -/
structure Pre (n : Nat) (ts : List (Nat × Nat)) (l : List Nat) : Prop where
  nd : l.Nodup
  lt : ∀ x ∈ l, x < n
  cl : ∀ x ∈ l, ∀ a, (a, x) ∈ ts → a ∈ l
  pw : Pw ts l
theorem mem_steps {n : Nat} {ts : List (Nat × Nat)} (hb : belowAll n ts) : ∀ (k : Nat) (l : List Nat), l ∈ (List.range k).foldl (lnOut n ts) [[]] ↔ Pre n ts l ∧ l.length = k := by
  intro k
  induction k with
  | zero =>
    intro l
    simp only [List.range_zero, List.foldl_nil, List.mem_singleton, List.length_eq_zero_iff]
    constructor
    · rintro rfl
      exact ⟨⟨List.nodup_nil, (fun x h => nomatch h), (fun x h => nomatch h), List.Pairwise.nil⟩, rfl⟩
    · exact fun h => h.2
  | succ k ih =>
    intro l
    rw [List.range_succ, List.foldl_append, List.foldl_cons, List.foldl_nil, lnOut_eq, List.mem_flatMap]
    constructor
    · rintro ⟨m, hm, hx⟩
      obtain ⟨h, hl⟩ := (ih m).mp hm
      obtain ⟨p, hp, ok, rfl⟩ := mem_extL.mp hx
      obtain ⟨o1, o2⟩ := okAt_iff.mp ok
      refine ⟨⟨?_, ?_, ?_, ?_⟩, by simp [hl]⟩
      · rw [List.nodup_append]
        exact ⟨h.nd, by simp, fun a ha b hb e => o1 (by rw [List.mem_singleton] at hb; rw [← hb, ← e]; exact ha)⟩
      · intro x hx
        rcases List.mem_append.mp hx with z | z
        · exact h.lt x z
        · rw [List.mem_singleton.mp z]; exact hp
      · intro x hx a ha
        rcases List.mem_append.mp hx with z | z
        · exact List.mem_append_left _ (h.cl x z a ha)
        · rw [List.mem_singleton.mp z] at ha
          exact List.mem_append_left _ (o2 a ha)
      · unfold Pw
        rw [List.pairwise_append]
        refine ⟨h.pw, List.pairwise_singleton _ _, fun a ha b hb hc => ?_⟩
        rw [List.mem_singleton.mp hb] at hc
        exact o1 (h.cl a ha _ hc)
    · rintro ⟨h, hl⟩
      obtain ⟨m, p, rfl⟩ : ∃ m p, l = m ++ [p] := by
        rcases List.eq_nil_or_concat l with z | ⟨m, p, z⟩
        · rw [z] at hl; simp at hl
        · exact ⟨m, p, by simpa using z⟩
      have hpm : p ∉ m := fun z => by
        have := (List.nodup_append.mp h.nd).2.2 p z p (by simp)
        exact this rfl
      have hpw := List.pairwise_append.mp h.pw
      refine ⟨m, (ih m).mpr ⟨⟨(List.nodup_append.mp h.nd).1, fun x hx => h.lt x (List.mem_append_left _ hx), fun x hx a ha => ?_, hpw.1⟩, by simpa using hl⟩, mem_extL.mpr ⟨p, h.lt p (by simp), okAt_iff.mpr ⟨hpm, fun a ha => ?_⟩, rfl⟩⟩
      · rcases List.mem_append.mp (h.cl x (List.mem_append_left _ hx) a ha) with z | z
        · exact z
        · rw [List.mem_singleton.mp z] at ha
          exact absurd ha (hpw.2.2 x hx p (by simp))
      · rcases List.mem_append.mp (h.cl p (by simp) a ha) with z | z
        · exact z
        · rw [List.mem_singleton.mp z] at ha
          have := (hb _ ha).1
          simp at this
theorem nd_steps {n : Nat} {ts : List (Nat × Nat)} : ∀ (ks : List Nat) (f : List (List Nat)), f.Nodup → (ks.foldl (lnOut n ts) f).Nodup
  | [], _, h => h
  | k :: ks, f, h => by
    rw [List.foldl_cons]
    refine nd_steps ks _ ?_
    rw [lnOut_eq]
    unfold List.Nodup
    rw [List.pairwise_flatMap]
    refine ⟨fun l _ => ?_, h.imp fun {a b} hab x hx y hy e => ?_⟩
    · unfold extL
      rw [List.pairwise_flatMap]
      refine ⟨fun p _ => by split <;> simp, (List.nodup_range (n := n)).imp fun {a b} hab x hx y hy e => ?_⟩
      split at hx
      · split at hy
        · rw [List.mem_singleton.mp hx, List.mem_singleton.mp hy] at e
          exact hab (by simpa using List.append_cancel_left e)
        · cases hy
      · cases hx
    · obtain ⟨p, _, _, rfl⟩ := mem_extL.mp hx
      obtain ⟨q, _, _, rfl⟩ := mem_extL.mp hy
      exact hab (List.append_inj' e rfl).1
/-- a row of all places below k that keeps the ties -/
structure Full (k : Nat) (ts : List (Nat × Nat)) (l : List Nat) : Prop where
  nd : l.Nodup
  mem : ∀ x, x ∈ l ↔ x < k
  pw : Pw ts l
theorem len_le_of' : ∀ (l m : List Nat), l.Nodup → (∀ x ∈ l, x ∈ m) → l.length ≤ m.length
  | [], m, _, _ => Nat.zero_le _
  | x :: l, m, hn, hs => by
    have hx := hs x List.mem_cons_self
    have h := len_le_of' l (m.erase x) (List.nodup_cons.mp hn).2 fun y hy => by
      have hne : y ≠ x := fun e => (List.nodup_cons.mp hn).1 (e ▸ hy)
      exact (List.mem_erase_of_ne hne).mpr (hs y (List.mem_cons_of_mem _ hy))
    rw [List.length_erase_of_mem hx] at h
    have : 0 < m.length := List.length_pos_of_mem hx
    rw [List.length_cons]
    omega
theorem full_len {k : Nat} {ts : List (Nat × Nat)} {l : List Nat} (h : Full k ts l) : l.length = k := by
  have h1 := len_le_of' l (List.range k) h.nd fun x hx => List.mem_range.mpr ((h.mem x).mp hx)
  have h2 := len_le_of' (List.range k) l List.nodup_range fun x hx => (h.mem x).mpr (List.mem_range.mp hx)
  rw [List.length_range] at h1 h2
  omega
theorem mem_linesU {n : Nat} {ts : List (Nat × Nat)} (hb : belowAll n ts) (l : List Nat) : l ∈ linesU n ts ↔ Full n ts l := by
  unfold linesU
  rw [mem_steps hb]
  constructor
  · rintro ⟨h, hl⟩
    refine ⟨h.nd, fun x => ⟨h.lt x, fun hx => ?_⟩, h.pw⟩
    by_cases hm : x ∈ l
    · exact hm
    · have := len_le_of' (x :: l) (List.range n) (List.nodup_cons.mpr ⟨hm, h.nd⟩) fun y hy => by
        rcases List.mem_cons.mp hy with z | z
        · rw [z]; exact List.mem_range.mpr hx
        · exact List.mem_range.mpr (h.lt y z)
      rw [List.length_cons, List.length_range] at this
      omega
  · intro h
    refine ⟨⟨h.nd, fun x hx => (h.mem x).mp hx, fun x hx a ha => ?_, h.pw⟩, full_len h⟩
    have h1 := hb _ ha
    exact (h.mem a).mpr (by have := (h.mem x).mp hx; simp at h1; omega)
theorem mem_dsteps {n : Nat} {ts : List (Nat × Nat)} (hbel : belowAll n ts) : ∀ (k : Nat) (l : List Nat), l ∈ (List.range k).foldl (duOut ts) [[]] ↔ Full k ts l := by
  intro k
  induction k with
  | zero =>
    intro l
    simp only [List.range_zero, List.foldl_nil, List.mem_singleton]
    constructor
    · rintro rfl
      exact ⟨List.nodup_nil, fun x => by simp, List.Pairwise.nil⟩
    · intro h
      cases l with
      | nil => rfl
      | cons x l => exact absurd ((h.mem x).mp List.mem_cons_self) (Nat.not_lt_zero x)
  | succ k ih =>
    intro l
    rw [List.range_succ, List.foldl_append, List.foldl_cons, List.foldl_nil, duOut_eq, List.mem_flatMap]
    constructor
    · rintro ⟨m, hm, hx⟩
      have h := (ih m).mp hm
      obtain ⟨A, B, rfl, o, rfl⟩ := mem_dexL.mp hx
      have hk : k ∉ A ++ B := fun z => by have := (h.mem k).mp z; omega
      have hA : k ∉ A := fun z => hk (List.mem_append_left _ z)
      have hB : k ∉ B := fun z => hk (List.mem_append_right _ z)
      have hnd := List.nodup_append.mp h.nd
      have hpw := List.pairwise_append.mp h.pw
      refine ⟨?_, fun x => ?_, ?_⟩
      · rw [List.nodup_append]
        refine ⟨hnd.1, List.nodup_cons.mpr ⟨hB, hnd.2.1⟩, fun a ha b hb => ?_⟩
        rcases List.mem_cons.mp hb with z | z
        · rw [z]; exact fun e => hA (e ▸ ha)
        · exact hnd.2.2 a ha b z
      · have := h.mem x
        rw [List.mem_append] at this
        rw [List.mem_append, List.mem_cons]
        constructor
        · rintro (z | z | z)
          · have := this.mp (.inl z); omega
          · omega
          · have := this.mp (.inr z); omega
        · intro hx
          by_cases e : x = k
          · exact .inr (.inl e)
          · rcases this.mpr (by omega) with z | z
            · exact .inl z
            · exact .inr (.inr z)
      · unfold Pw
        rw [List.pairwise_append, List.pairwise_cons]
        refine ⟨hpw.1, ⟨fun b hb => o b hb, hpw.2.1⟩, fun a ha b hb => ?_⟩
        rcases List.mem_cons.mp hb with z | z
        · rw [z]
          intro hc
          have h1 := (hbel _ hc).1
          have h2 := (h.mem a).mp (List.mem_append_left _ ha)
          simp at h1
          omega
        · exact hpw.2.2 a ha b z
    · intro h
      obtain ⟨A, B, rfl⟩ := List.append_of_mem ((h.mem k).mpr (Nat.lt_succ_self k))
      have hnd := List.nodup_append.mp h.nd
      have hnc := List.nodup_cons.mp hnd.2.1
      have hpw := List.pairwise_append.mp h.pw
      have hpc := List.pairwise_cons.mp hpw.2.1
      refine ⟨A ++ B, (ih _).mpr ⟨?_, fun x => ?_, ?_⟩, mem_dexL.mpr ⟨A, B, rfl, fun b hb => hpc.1 b hb, rfl⟩⟩
      · rw [List.nodup_append]
        exact ⟨hnd.1, hnc.2, fun a ha b hb => hnd.2.2 a ha b (List.mem_cons_of_mem _ hb)⟩
      · have := h.mem x
        rw [List.mem_append, List.mem_cons] at this
        rw [List.mem_append]
        constructor
        · rintro (z | z)
          · have h1 := this.mp (.inl z)
            have : x ≠ k := hnd.2.2 x z k List.mem_cons_self
            omega
          · have h1 := this.mp (.inr (.inr z))
            have : x ≠ k := fun e => hnc.1 (e ▸ z)
            omega
        · intro hx
          rcases this.mpr (by omega) with z | z | z
          · exact .inl z
          · omega
          · exact .inr z
      · unfold Pw
        rw [List.pairwise_append]
        exact ⟨hpw.1, hpc.2, fun a ha b hb => hpw.2.2 a ha b (List.mem_cons_of_mem _ hb)⟩
theorem nd_dsteps {n : Nat} {ts : List (Nat × Nat)} (hb : belowAll n ts) : ∀ k : Nat, ((List.range k).foldl (duOut ts) [[]]).Nodup
  | 0 => by simp
  | k + 1 => by
    have ih := nd_dsteps hb k
    have hm := mem_dsteps hb k
    rw [List.range_succ, List.foldl_append, List.foldl_cons, List.foldl_nil, duOut_eq]
    have er : ∀ A B : List Nat, k ∉ A → (A ++ k :: B).erase k = A ++ B := fun A B hA => by
      rw [List.erase_append_right _ hA, List.erase_cons_head]
    unfold List.Nodup
    rw [List.pairwise_flatMap]
    refine ⟨fun l hl => ?_, ?_⟩
    · have hf := (hm l).mp hl
      have hk : k ∉ l := fun z => by have := (hf.mem k).mp z; omega
      unfold dexL
      rw [List.pairwise_flatMap]
      refine ⟨fun p _ => by split <;> simp, List.Pairwise.imp_of_mem (fun {a b} ha hb hab x hx y hy e => ?_) (List.nodup_range (n := l.length + 1))⟩
      have ha2 := List.mem_range.mp ha
      have hb2 := List.mem_range.mp hb
      split at hx
      · split at hy
        · rw [List.mem_singleton.mp hx, List.mem_singleton.mp hy] at e
          have e2 := congrArg (List.idxOf k) e
          have go : ∀ c, c ≤ l.length → List.idxOf k (l.take c ++ [k] ++ l.drop c) = c := fun c hc => by
            have hn : k ∉ l.take c := fun z => hk (List.mem_of_mem_take z)
            rw [List.append_assoc, List.idxOf_append, if_neg hn, List.singleton_append, List.idxOf_cons_self, List.length_take]
            omega
          rw [go a (by omega), go b (by omega)] at e2
          exact hab e2
        · cases hy
      · cases hx
    · refine List.Pairwise.imp_of_mem (fun {a b} ha hb hab x hx y hy e => ?_) ih
      have hfa := (hm a).mp ha
      have hfb := (hm b).mp hb
      have hka : k ∉ a := fun z => by have := (hfa.mem k).mp z; omega
      have hkb : k ∉ b := fun z => by have := (hfb.mem k).mp z; omega
      obtain ⟨A, B, rfl, _, rfl⟩ := mem_dexL.mp hx
      obtain ⟨A2, B2, rfl, _, rfl⟩ := mem_dexL.mp hy
      have e2 := congrArg (fun l => List.erase l k) e
      simp only [er A B (fun z => hka (List.mem_append_left _ z)), er A2 B2 (fun z => hkb (List.mem_append_left _ z))] at e2
      exact hab e2
theorem due_perm {n : Nat} {ts : List (Nat × Nat)} (hb : belowAll n ts) : (due n ts).Perm (lines n ts) := by
  unfold due lines sortL
  refine (List.mergeSort_perm _ _).trans (.trans ?_ (List.mergeSort_perm _ _).symm)
  refine (List.perm_ext_iff_of_nodup (nd_dsteps hb n) (nd_steps _ _ (by simp))).mpr fun l => ?_
  exact (mem_dsteps hb n l).trans (mem_linesU hb l).symm
theorem due_ahead {n : Nat} {ts : List (Nat × Nat)} (hb : belowAll n ts) (i j : Nat) : aheadN (due n ts) i j = aheadN (lines n ts) i j := ((due_perm hb).filter _).length_eq
end TL
set_option Elab.async false
set_option linter.all false
set_option autoImplicit false
/-! M3: lines counted by the sets of places that stand ahead -/
namespace TL
abbrev Ly := List (Nat × Nat × Nat)
/-- f x, x worked out first -/
def fN {α : Type} (x : Nat) (f : Nat → α) : α := @Nat.rec (fun _ => α) (f 0) (fun k _ => f (Nat.succ k)) x
theorem fN_eq {α : Type} (x : Nat) (f : Nat → α) : fN x f = f x := by cases x <;> rfl
noncomputable def insL (S c v : Nat) (L : Ly) : Ly := @List.rec (Nat × Nat × Nat) (fun _ => Ly) [(S, c, v)] (fun e L ih => @Prod.rec Nat (Nat × Nat) (fun _ => Ly) (fun s r => @Prod.rec Nat Nat (fun _ => Ly) (fun c' v' => cond (Nat.beq s S) (fN (c' + c) fun c2 => fN (v' + v) fun v2 => (S, c2, v2) :: L) (e :: ih)) r) e) L
theorem insL_cons (S c v : Nat) (e : Nat × Nat × Nat) (L : Ly) : insL S c v (e :: L) = cond (Nat.beq e.1 S) ((S, e.2.1 + c, e.2.2 + v) :: L) (e :: insL S c v L) := by
  obtain ⟨s, c', v'⟩ := e
  show cond (Nat.beq s S) (fN (c' + c) fun c2 => fN (v' + v) fun v2 => (S, c2, v2) :: L) _ = _
  rw [fN_eq, fN_eq]
  rfl
noncomputable def stepL (bi bj S c v : Nat) (ds : List (Nat × Nat)) : Ly → Ly := @List.rec (Nat × Nat) (fun _ => Ly → Ly) (fun acc => acc) (fun q ds ih acc => @Prod.rec Nat Nat (fun _ => Ly) (fun b d => ih (cond (Nat.beq (Nat.land S b) 0) (cond (Nat.beq (Nat.land d S) d) (fN (Nat.lor S b) fun S2 => fN (cond (Nat.beq b bj) (cond (Nat.beq (Nat.land S bi) 0) v (v + c)) v) fun v2 => insL S2 c v2 acc) acc) acc)) q) ds
theorem stepL_cons (bi bj S c v b d : Nat) (ds : List (Nat × Nat)) (acc : Ly) : stepL bi bj S c v ((b, d) :: ds) acc = stepL bi bj S c v ds (cond (Nat.beq (Nat.land S b) 0 && Nat.beq (Nat.land d S) d) (insL (Nat.lor S b) c (cond (Nat.beq b bj && !(Nat.beq (Nat.land S bi) 0)) (v + c) v) acc) acc) := by
  show stepL bi bj S c v ds (cond _ (cond _ (fN _ fun S2 => fN _ fun v2 => insL S2 c v2 acc) acc) acc) = _
  rw [fN_eq, fN_eq]
  congr 1
  cases Nat.beq (Nat.land S b) 0 <;> cases Nat.beq (Nat.land d S) d <;> cases Nat.beq b bj <;> cases Nat.beq (Nat.land S bi) 0 <;> rfl
noncomputable def layL (bi bj : Nat) (ds : List (Nat × Nat)) (L : Ly) : Ly → Ly := @List.rec (Nat × Nat × Nat) (fun _ => Ly → Ly) (fun acc => acc) (fun e L ih acc => ih (@Prod.rec Nat (Nat × Nat) (fun _ => Ly) (fun s r => @Prod.rec Nat Nat (fun _ => Ly) (fun c v => stepL bi bj s c v ds acc) r) e)) L
noncomputable def runL (bi bj : Nat) (ds : List (Nat × Nat)) (k : Nat) : Ly := @Nat.rec (fun _ => Ly) [(0, 1, 0)] (fun k ih => layL bi bj ds ih []) k
def sumC : Ly → Nat
  | [] => 0
  | e :: L => e.2.1 + sumC L
def sumV : Ly → Nat
  | [] => 0
  | e :: L => e.2.2 + sumV L
def ws1 (g : Nat → Nat) : Ly → Nat
  | [] => 0
  | e :: L => g e.1 * e.2.1 + ws1 g L
def ws2 (g : Nat → Nat) : Ly → Nat
  | [] => 0
  | e :: L => g e.1 * e.2.2 + ws2 g L
theorem ws1_ins (g : Nat → Nat) (S c v : Nat) : ∀ L : Ly, ws1 g (insL S c v L) = ws1 g L + g S * c
  | [] => by show ws1 g [(S, c, v)] = _; simp [ws1]
  | e :: L => by
    have ih := ws1_ins g S c v L
    rw [insL_cons]
    cases h : Nat.beq e.1 S with
    | true =>
      have e1 : e.1 = S := Nat.eq_of_beq_eq_true h
      simp only [cond_true, ws1, e1, Nat.mul_add]
      omega
    | false =>
      simp only [cond_false, ws1, ih]
      omega
theorem ws2_ins (g : Nat → Nat) (S c v : Nat) : ∀ L : Ly, ws2 g (insL S c v L) = ws2 g L + g S * v
  | [] => by show ws2 g [(S, c, v)] = _; simp [ws2]
  | e :: L => by
    have ih := ws2_ins g S c v L
    rw [insL_cons]
    cases h : Nat.beq e.1 S with
    | true =>
      have e1 : e.1 = S := Nat.eq_of_beq_eq_true h
      simp only [cond_true, ws2, e1, Nat.mul_add]
      omega
    | false =>
      simp only [cond_false, ws2, ih]
      omega
def okMk (S p d : Nat) : Bool := Nat.beq (Nat.land S (2 ^ p)) 0 && Nat.beq (Nat.land d S) d
def bd (ds : List Nat) (p : Nat) : List (Nat × Nat) := match ds with
  | [] => []
  | d :: ds => (2 ^ p, d) :: bd ds (p + 1)
def hs (g : Nat → Nat) (S : Nat) : List Nat → Nat → Nat
  | [], _ => 0
  | d :: ds, p => (if okMk S p d = true then g (Nat.lor S (2 ^ p)) else 0) + hs g S ds (p + 1)
def hj (g : Nat → Nat) (i j : Nat) (S : Nat) : List Nat → Nat → Nat
  | [], _ => 0
  | d :: ds, p => (if okMk S p d = true ∧ (p = j ∧ S.testBit i = true) then g (Nat.lor S (2 ^ p)) else 0) + hj g i j S ds (p + 1)
theorem ws1_step (g : Nat → Nat) (i j S c v : Nat) : ∀ (ds : List Nat) (p : Nat) (acc : Ly), ws1 g (stepL (2 ^ i) (2 ^ j) S c v (bd ds p) acc) = ws1 g acc + hs g S ds p * c
  | [], p, acc => by show ws1 g acc = _; simp [hs]
  | d :: ds, p, acc => by
    rw [bd, stepL_cons, ws1_step g i j S c v ds (p + 1), hs, Nat.add_mul]
    show ws1 g (cond (okMk S p d) _ _) + _ = _
    cases okMk S p d with
    | true => simp only [cond_true, ws1_ins, if_true]; omega
    | false => simp
theorem testBit_land {S i : Nat} : Nat.beq (Nat.land S (2 ^ i)) 0 = !(S.testBit i) := by
  have h : Nat.land S (2 ^ i) = S &&& 2 ^ i := rfl
  rw [h]
  cases hb : S.testBit i with
  | true =>
    have h1 : (S &&& 2 ^ i) ≠ 0 := fun z => by
      have := congrArg (fun x => Nat.testBit x i) z
      simp [hb] at this
    exact Bool.eq_false_iff.mpr fun z => h1 (Nat.eq_of_beq_eq_true z)
  | false =>
    have h1 : (S &&& 2 ^ i) = 0 := Nat.eq_of_testBit_eq fun k => by
      rw [Nat.testBit_and, Nat.testBit_two_pow, Nat.zero_testBit]
      by_cases e : i = k
      · subst e; rw [hb]; rfl
      · simp [e]
    rw [h1]
    rfl
theorem ws2_step (g : Nat → Nat) (i j S c v : Nat) : ∀ (ds : List Nat) (p : Nat) (acc : Ly), ws2 g (stepL (2 ^ i) (2 ^ j) S c v (bd ds p) acc) = ws2 g acc + hs g S ds p * v + hj g i j S ds p * c
  | [], p, acc => by show ws2 g acc = _; simp [hs, hj]
  | d :: ds, p, acc => by
    rw [bd, stepL_cons, ws2_step g i j S c v ds (p + 1), hs, hj, Nat.add_mul, Nat.add_mul]
    show ws2 g (cond (okMk S p d) _ _) + _ + _ = _
    have e2 : Nat.beq (2 ^ p) (2 ^ j) = decide (p = j) := by
      by_cases e : p = j
      · rw [e, decide_eq_true rfl]; exact Nat.beq_refl _
      · rw [decide_eq_false e]
        exact Bool.eq_false_iff.mpr fun z => e ((Nat.pow_right_inj (Nat.le_refl 2)).mp (Nat.eq_of_beq_eq_true z))
    rw [e2, testBit_land (S := S) (i := i), Bool.not_not]
    cases okMk S p d with
    | true =>
      simp only [cond_true, ws2_ins, if_true, true_and]
      by_cases h : p = j ∧ S.testBit i = true
      · rw [if_pos h, h.1, h.2]
        simp [Nat.mul_add]
        omega
      · rw [if_neg h]
        have : (decide (p = j) && S.testBit i) = false := Bool.eq_false_iff.mpr fun z => h (by simpa using z)
        rw [this, cond_false]
        omega
    | false => simp
theorem ws1_lay (g : Nat → Nat) (i j : Nat) (ds : List Nat) : ∀ (L acc : Ly), ws1 g (layL (2 ^ i) (2 ^ j) (bd ds 0) L acc) = ws1 g acc + ws1 (fun S => hs g S ds 0) L
  | [], acc => by show ws1 g acc = _; simp [ws1]
  | e :: L, acc => by
    obtain ⟨s, c, v⟩ := e
    show ws1 g (layL (2 ^ i) (2 ^ j) (bd ds 0) L (stepL (2 ^ i) (2 ^ j) s c v (bd ds 0) acc)) = _
    rw [ws1_lay g i j ds L, ws1_step g i j s c v ds 0 acc, ws1]
    simp only []
    omega
theorem ws2_lay (g : Nat → Nat) (i j : Nat) (ds : List Nat) : ∀ (L acc : Ly), ws2 g (layL (2 ^ i) (2 ^ j) (bd ds 0) L acc) = ws2 g acc + ws2 (fun S => hs g S ds 0) L + ws1 (fun S => hj g i j S ds 0) L
  | [], acc => by show ws2 g acc = _; simp [ws1, ws2]
  | e :: L, acc => by
    obtain ⟨s, c, v⟩ := e
    show ws2 g (layL (2 ^ i) (2 ^ j) (bd ds 0) L (stepL (2 ^ i) (2 ^ j) s c v (bd ds 0) acc)) = _
    rw [ws2_lay g i j ds L, ws2_step g i j s c v ds 0 acc, ws1, ws2]
    simp only []
    omega
/-! ### the rows -/
def rs (w : List Nat → Nat) : List (List Nat) → Nat
  | [] => 0
  | l :: R => w l + rs w R
theorem rs_append (w : List Nat → Nat) : ∀ R R2 : List (List Nat), rs w (R ++ R2) = rs w R + rs w R2
  | [], R2 => by simp [rs]
  | l :: R, R2 => by rw [List.cons_append, rs, rs, rs_append w R]; omega
theorem rs_flat (w : List Nat → Nat) (f : List Nat → List (List Nat)) : ∀ R : List (List Nat), rs w (R.flatMap f) = rs (fun l => rs w (f l)) R
  | [] => rfl
  | l :: R => by rw [List.flatMap_cons, rs_append, rs_flat w f R, rs]
theorem rs_congr {w w2 : List Nat → Nat} : ∀ {R : List (List Nat)}, (∀ l ∈ R, w l = w2 l) → rs w R = rs w2 R
  | [], _ => rfl
  | l :: R, h => by rw [rs, rs, h l List.mem_cons_self, rs_congr fun m hm => h m (List.mem_cons_of_mem _ hm)]
theorem rs_add (w w2 : List Nat → Nat) : ∀ R : List (List Nat), rs (fun l => w l + w2 l) R = rs w R + rs w2 R
  | [] => rfl
  | l :: R => by rw [rs, rs, rs, rs_add w w2 R]; omega
theorem rs_one : ∀ R : List (List Nat), rs (fun _ => 1) R = R.length
  | [] => rfl
  | l :: R => by rw [rs, rs_one R, List.length_cons]; omega
theorem rs_filter (q : List Nat → Bool) : ∀ R : List (List Nat), rs (fun l => if q l = true then 1 else 0) R = (R.filter q).length
  | [] => rfl
  | l :: R => by
    rw [rs, rs_filter q R, List.filter_cons]
    split
    · rw [List.length_cons]; omega
    · omega
/-- the places of a row as bits -/
def mk (l : List Nat) : Nat := l.foldl (fun s q => Nat.lor s (2 ^ q)) 0
theorem mk_snoc (l : List Nat) (p : Nat) : mk (l ++ [p]) = Nat.lor (mk l) (2 ^ p) := by
  unfold mk
  rw [List.foldl_append]
  rfl
theorem bit_fold (q : Nat) : ∀ (l : List Nat) (s : Nat), (l.foldl (fun s q => Nat.lor s (2 ^ q)) s).testBit q = (s.testBit q || l.contains q)
  | [], s => by simp
  | p :: l, s => by
    rw [List.foldl_cons, bit_fold q l]
    have : Nat.lor s (2 ^ p) = s ||| 2 ^ p := rfl
    rw [this, Nat.testBit_or, Nat.testBit_two_pow, Bool.or_assoc]
    congr 1
    rw [List.contains_cons]
    congr 1
    by_cases e : p = q
    · simp [e]
    · have e' : ¬ q = p := fun z => e z.symm
      simp [e, e']
theorem bit_mk (l : List Nat) (q : Nat) : (mk l).testBit q = l.contains q := by
  unfold mk
  rw [bit_fold, Nat.zero_testBit, Bool.false_or]
def pm (ts : List (Nat × Nat)) (p : Nat) : Nat := mk ((ts.filter fun q => q.2 == p).map (·.1))
theorem bit_pm (ts : List (Nat × Nat)) (p q : Nat) : (pm ts p).testBit q = ts.contains (q, p) := by
  unfold pm
  rw [bit_mk, Bool.eq_iff_iff]
  simp
theorem okMk_row {ts : List (Nat × Nat)} (l : List Nat) (p : Nat) : okMk (mk l) p (pm ts p) = okAt ts l p := by
  rw [Bool.eq_iff_iff, okAt_iff]
  unfold okMk
  rw [Bool.and_eq_true, testBit_land, bit_mk]
  have h : Nat.beq (Nat.land (pm ts p) (mk l)) (pm ts p) = true ↔ ∀ a, (a, p) ∈ ts → a ∈ l := by
    constructor
    · intro z a ha
      have e := congrArg (fun x => Nat.testBit x a) (Nat.eq_of_beq_eq_true z)
      have e2 : (pm ts p &&& mk l).testBit a = (pm ts p).testBit a := e
      rw [Nat.testBit_and, bit_pm, bit_mk] at e2
      have e3 : ts.contains (a, p) = true := by simpa using ha
      rw [e3] at e2
      simpa using e2
    · intro h
      have e : (pm ts p &&& mk l) = pm ts p := Nat.eq_of_testBit_eq fun a => by
        rw [Nat.testBit_and, bit_pm, bit_mk]
        cases z : ts.contains (a, p) with
        | false => rfl
        | true => 
          have := h a (by simpa using z)
          simpa using this
      have e2 : Nat.land (pm ts p) (mk l) = pm ts p := e
      rw [e2]
      exact Nat.beq_refl _
  rw [h]
  simp
theorem hs_row (g : Nat → Nat) (ts : List (Nat × Nat)) (l : List Nat) : ∀ (m p : Nat), hs g (mk l) ((List.range' p m).map (pm ts)) p = rs (fun l => g (mk l)) ((List.range' p m).flatMap fun p => if okAt ts l p = true then [l ++ [p]] else [])
  | 0, p => rfl
  | m + 1, p => by
    rw [List.range'_succ, List.map_cons, List.flatMap_cons, hs, rs_append, hs_row g ts l m (p + 1), okMk_row]
    congr 1
    split
    · rw [rs, rs, mk_snoc]; rfl
    · rfl
def bef (i j : Nat) (l : List Nat) : Nat := if j ∈ l ∧ i ∈ l ∧ l.idxOf i < l.idxOf j then 1 else 0
theorem bef_snoc {i j : Nat} (hij : i ≠ j) {l : List Nat} {p : Nat} (hp : p ∉ l) : bef i j (l ++ [p]) = bef i j l + if p = j ∧ i ∈ l then 1 else 0 := by
  unfold bef
  by_cases hi : i ∈ l
  · by_cases hj : j ∈ l
    · have e : p ≠ j := fun z => hp (z ▸ hj)
      simp [hi, hj, e, List.idxOf_append]
    · by_cases e : p = j
      · subst e
        have : List.idxOf i l < l.length := List.idxOf_lt_length_of_mem hi
        simp [hi, hp, List.idxOf_append]
        omega
      · have e' : ¬ j = p := fun z => e z.symm
        simp [hi, hj, e, e']
  · by_cases hj : j ∈ l
    · have : List.idxOf j l < l.length := List.idxOf_lt_length_of_mem hj
      simp [hi, hj, List.idxOf_append]
      omega
    · have h1 : ¬ (j ∈ l ++ [p] ∧ i ∈ l ++ [p] ∧ List.idxOf i (l ++ [p]) < List.idxOf j (l ++ [p])) := fun ⟨a, b, _⟩ => by
        simp [hi, hj] at a b
        exact hij (b.trans a.symm)
      rw [if_neg h1]
      simp [hi, hj]
theorem hj_row (g : Nat → Nat) (ts : List (Nat × Nat)) {i j : Nat} (hij : i ≠ j) (l : List Nat) : ∀ (m p : Nat), hs g (mk l) ((List.range' p m).map (pm ts)) p * bef i j l + hj g i j (mk l) ((List.range' p m).map (pm ts)) p = rs (fun l => g (mk l) * bef i j l) ((List.range' p m).flatMap fun p => if okAt ts l p = true then [l ++ [p]] else [])
  | 0, p => by simp [hs, hj, rs]
  | m + 1, p => by
    rw [List.range'_succ, List.map_cons, List.flatMap_cons, hs, hj, rs_append, ← hj_row g ts hij l m (p + 1), okMk_row, bit_mk]
    cases ok : okAt ts l p with
    | false => simp [rs]
    | true =>
      have hp := (okAt_iff.mp ok).1
      simp only [if_true, true_and, rs, mk_snoc, bef_snoc hij hp]
      have e : (p = j ∧ l.contains i = true) ↔ (p = j ∧ i ∈ l) := by simp
      by_cases h : p = j ∧ i ∈ l
      · rw [if_pos (e.mpr h), if_pos h]
        simp only [Nat.add_mul, Nat.mul_add]
        omega
      · rw [if_neg (fun z => h (e.mp z)), if_neg h]
        simp only [Nat.add_mul, Nat.mul_add]
        omega
abbrev rowsK (n : Nat) (ts : List (Nat × Nat)) (k : Nat) : List (List Nat) := (List.range k).foldl (lnOut n ts) [[]]
abbrev dsO (n : Nat) (ts : List (Nat × Nat)) : List (Nat × Nat) := bd ((List.range n).map (pm ts)) 0
theorem rowsK_succ (n : Nat) (ts : List (Nat × Nat)) (k : Nat) : rowsK n ts (k + 1) = (rowsK n ts k).flatMap (extL n ts) := by
  unfold rowsK
  rw [List.range_succ, List.foldl_append, List.foldl_cons, List.foldl_nil, lnOut_eq]
theorem run_rows (n : Nat) (ts : List (Nat × Nat)) {i j : Nat} (hij : i ≠ j) : ∀ k : Nat, (∀ g, ws1 g (runL (2 ^ i) (2 ^ j) (dsO n ts) k) = rs (fun l => g (mk l)) (rowsK n ts k)) ∧ (∀ g, ws2 g (runL (2 ^ i) (2 ^ j) (dsO n ts) k) = rs (fun l => g (mk l) * bef i j l) (rowsK n ts k))
  | 0 => ⟨fun g => by show ws1 g [(0, 1, 0)] = _; simp [ws1, rowsK, rs, mk], fun g => by show ws2 g [(0, 1, 0)] = _; simp [ws2, rowsK, rs, mk, bef]⟩
  | k + 1 => by
    obtain ⟨h1, h2⟩ := run_rows n ts hij k
    have er := List.range_eq_range' (n := n)
    refine ⟨fun g => ?_, fun g => ?_⟩
    · show ws1 g (layL (2 ^ i) (2 ^ j) (dsO n ts) (runL (2 ^ i) (2 ^ j) (dsO n ts) k) []) = _
      rw [ws1_lay, h1, rowsK_succ, rs_flat]
      simp only [ws1, Nat.zero_add]
      refine rs_congr fun l _ => ?_
      unfold extL
      rw [er, hs_row]
    · show ws2 g (layL (2 ^ i) (2 ^ j) (dsO n ts) (runL (2 ^ i) (2 ^ j) (dsO n ts) k) []) = _
      rw [ws2_lay, h2, h1, rowsK_succ, rs_flat]
      simp only [ws2, Nat.zero_add]
      rw [← rs_add]
      refine rs_congr fun l _ => ?_
      unfold extL
      rw [er, hj_row g ts hij]
theorem ws1_one : ∀ L : Ly, ws1 (fun _ => 1) L = sumC L
  | [] => rfl
  | e :: L => by rw [ws1, sumC, ws1_one L, Nat.one_mul]
theorem ws2_one : ∀ L : Ly, ws2 (fun _ => 1) L = sumV L
  | [] => rfl
  | e :: L => by rw [ws2, sumV, ws2_one L, Nat.one_mul]
theorem run_len (n : Nat) (ts : List (Nat × Nat)) {i j : Nat} (hij : i ≠ j) : sumC (runL (2 ^ i) (2 ^ j) (dsO n ts) n) = (lines n ts).length := by
  rw [← ws1_one, (run_rows n ts hij n).1, rs_one]
  unfold lines sortL linesU
  rw [List.length_mergeSort]
theorem run_ahead {n : Nat} {ts : List (Nat × Nat)} (hb : belowAll n ts) {i j : Nat} (hij : i ≠ j) (hi : i < n) (hj : j < n) : sumV (runL (2 ^ i) (2 ^ j) (dsO n ts) n) = aheadN (lines n ts) i j := by
  rw [← ws2_one, (run_rows n ts hij n).2]
  unfold aheadN lines sortL
  rw [((List.mergeSort_perm (linesU n ts) leL).filter _).length_eq, ← rs_filter]
  refine rs_congr fun l hl => ?_
  have hf := (mem_linesU hb l).mp hl
  rw [Nat.one_mul]
  unfold bef
  simp [(hf.mem i).mpr hi, (hf.mem j).mpr hj]
/-! ### all orders -/
noncomputable def pairB (ds : List (Nat × Nat)) (n bi bj : Nat) : Bool := @List.rec (Nat × Nat × Nat) (fun _ => Bool) false (fun e L _ => @List.rec (Nat × Nat × Nat) (fun _ => Bool) (Nat.ble e.2.1 (3 * e.2.2) && (Nat.ble (3 * e.2.2) (2 * e.2.1) && Nat.ble 1 e.2.1)) (fun _ _ _ => false) L) (runL bi bj ds n)
noncomputable def anyP (ds : List (Nat × Nat)) (n : Nat) (ps : List (Nat × Nat)) : Bool := @List.rec (Nat × Nat) (fun _ => Bool) false (fun p _ ih => cond (pairB ds n p.1 p.2) true ih) ps
noncomputable def full2 (ds : List (Nat × Nat)) : Bool := @List.rec (Nat × Nat) (fun _ => Bool) true (fun p _ ih => cond (Nat.beq (p.2 + 1) p.1) ih false) ds
noncomputable def clos2 (d : Nat) (ds : List (Nat × Nat)) : Bool := @List.rec (Nat × Nat) (fun _ => Bool) true (fun p _ ih => cond (Nat.beq (Nat.land d p.1) 0) ih (cond (Nat.beq (Nat.land p.2 d) p.2) ih false)) ds
noncomputable def upto (f : Nat → Bool) (b : Nat) : Bool := @Nat.rec (fun _ => Bool) true (fun k ih => cond (f k) ih false) b
noncomputable def leafB (n : Nat) (ps : List (Nat × Nat)) (ds : List (Nat × Nat)) : Bool := cond (full2 ds) true (anyP ds n ps)
noncomputable def allG (leaf : List (Nat × Nat) → Bool) (k : Nat) : List (Nat × Nat) → Nat → Bool := @Nat.rec (fun _ => List (Nat × Nat) → Nat → Bool) (fun ds _ => leaf ds) (fun k ih ds b => upto (fun d => cond (clos2 d ds) (fN (b + b) fun b2 => ih (ds ++ [(b, d)]) b2) true) b) k
theorem upto_mem {f : Nat → Bool} : ∀ {b : Nat}, upto f b = true → ∀ d, d < b → f d = true
  | 0, _, d, h => absurd h (Nat.not_lt_zero d)
  | b + 1, h, d, hd => by
    have h' : cond (f b) (upto f b) false = true := h
    cases e : f b with
    | false => rw [e] at h'; cases h'
    | true =>
      rw [e] at h'
      by_cases q : d = b
      · rw [q]; exact e
      · exact upto_mem h' d (by omega)
/-- what may follow: each place's mask, closed -/
def Fol (ds : List (Nat × Nat)) (b : Nat) : List (Nat × Nat) → Prop
  | [] => True
  | e :: es => e.1 = b ∧ e.2 < b ∧ clos2 e.2 ds = true ∧ Fol (ds ++ [e]) (b + b) es
theorem allG_sound (leaf : List (Nat × Nat) → Bool) : ∀ (es ds : List (Nat × Nat)) (b : Nat), allG leaf es.length ds b = true → Fol ds b es → leaf (ds ++ es) = true
  | [], ds, b, h, _ => by rw [List.append_nil]; exact h
  | e :: es, ds, b, h, hf => by
    obtain ⟨h1, h2, h3, h4⟩ := hf
    have h5 := upto_mem (show upto (fun d => cond (clos2 d ds) (fN (b + b) fun b2 => allG leaf es.length (ds ++ [(b, d)]) b2) true) b = true from h) e.2 h2
    simp only [h3, cond_true, fN_eq] at h5
    have e1 : (b, e.2) = e := by rw [← h1]
    rw [e1] at h5
    have := allG_sound leaf es (ds ++ [e]) (b + b) h5 h4
    rwa [List.append_assoc] at this
theorem anyP_ex {ds : List (Nat × Nat)} {n : Nat} : ∀ {ps : List (Nat × Nat)}, anyP ds n ps = true → ∃ p ∈ ps, pairB ds n p.1 p.2 = true
  | [], h => by cases h
  | p :: ps, h => by
    have h' : cond (pairB ds n p.1 p.2) true (anyP ds n ps) = true := h
    cases e : pairB ds n p.1 p.2 with
    | true => exact ⟨p, List.mem_cons_self, e⟩
    | false =>
      rw [e] at h'
      obtain ⟨q, hq, r⟩ := anyP_ex h'
      exact ⟨q, List.mem_cons_of_mem _ hq, r⟩
theorem pairB_sum {ds : List (Nat × Nat)} {n bi bj : Nat} (h : pairB ds n bi bj = true) : sumC (runL bi bj ds n) ≤ 3 * sumV (runL bi bj ds n) ∧ 3 * sumV (runL bi bj ds n) ≤ 2 * sumC (runL bi bj ds n) ∧ 1 ≤ sumC (runL bi bj ds n) := by
  unfold pairB at h
  generalize runL bi bj ds n = L at h ⊢
  cases L with
  | nil => cases h
  | cons e L =>
    cases L with
    | cons _ _ => cases h
    | nil =>
      simp only [Bool.and_eq_true] at h
      simp only [sumC, sumV]
      exact ⟨Nat.le_of_ble_eq_true h.1, Nat.le_of_ble_eq_true h.2.1, Nat.le_of_ble_eq_true h.2.2⟩
theorem full2_all : ∀ {ds : List (Nat × Nat)}, full2 ds = true → ∀ e ∈ ds, e.2 + 1 = e.1
  | [], _, e, he => by cases he
  | p :: ds, h, e, he => by
    have h' : cond (Nat.beq (p.2 + 1) p.1) (full2 ds) false = true := h
    cases q : Nat.beq (p.2 + 1) p.1 with
    | false => rw [q] at h'; cases h'
    | true =>
      rw [q] at h'
      rcases List.mem_cons.mp he with z | z
      · rw [z]; exact Nat.eq_of_beq_eq_true q
      · exact full2_all h' e z
theorem clos2_all {d : Nat} : ∀ {ds : List (Nat × Nat)}, (∀ e ∈ ds, Nat.beq (Nat.land d e.1) 0 = true ∨ Nat.beq (Nat.land e.2 d) e.2 = true) → clos2 d ds = true
  | [], _ => rfl
  | p :: ds, h => by
    show cond (Nat.beq (Nat.land d p.1) 0) (clos2 d ds) (cond (Nat.beq (Nat.land p.2 d) p.2) (clos2 d ds) false) = true
    rw [clos2_all fun e he => h e (List.mem_cons_of_mem _ he)]
    rcases h p List.mem_cons_self with z | z
    · rw [z]; rfl
    · rw [z]; cases Nat.beq (Nat.land d p.1) 0 <;> rfl
theorem bd_mem : ∀ {ds : List Nat} {p : Nat} {e : Nat × Nat}, e ∈ bd ds p ↔ ∃ k, k < ds.length ∧ e = (2 ^ (p + k), ds.getD k 0)
  | [], p, e => by simp [bd]
  | d :: ds, p, e => by
    rw [bd, List.mem_cons, bd_mem]
    constructor
    · rintro (h | ⟨k, hk, h⟩)
      · exact ⟨0, by simp, by simpa using h⟩
      · exact ⟨k + 1, by simpa using hk, by rw [h, List.getD_cons_succ]; congr 2; omega⟩
    · rintro ⟨k, hk, h⟩
      cases k with
      | zero => exact .inl (by simpa using h)
      | succ k => exact .inr ⟨k, by simpa using hk, by rw [h, List.getD_cons_succ]; congr 2; omega⟩
theorem fol_of {n : Nat} {ts : List (Nat × Nat)} (hb : belowAll n ts) (hc : ∀ a b c : Nat, (a, b) ∈ ts → (b, c) ∈ ts → (a, c) ∈ ts) : ∀ (m p : Nat), Fol (bd ((List.range p).map (pm ts)) 0) (2 ^ p) (bd ((List.range' p m).map (pm ts)) p)
  | 0, p => trivial
  | m + 1, p => by
    rw [List.range'_succ, List.map_cons, bd]
    refine ⟨rfl, ?_, clos2_all fun e he => ?_, ?_⟩
    · refine Nat.lt_pow_two_of_testBit _ fun q hq => ?_
      rw [bit_pm]
      refine Bool.eq_false_iff.mpr fun z => ?_
      have := (hb _ (by simpa using z : (q, p) ∈ ts)).1
      simp at this
      omega
    · obtain ⟨k, hk, rfl⟩ := bd_mem.mp he
      rw [List.length_map, List.length_range] at hk
      simp only [Nat.zero_add]
      rw [testBit_land, bit_pm]
      cases z : ts.contains (k, p) with
      | false => exact .inl rfl
      | true =>
        right
        have e1 : (List.map (pm ts) (List.range p)).getD k 0 = pm ts k := by
          rw [List.getD_eq_getElem?_getD, List.getElem?_map, List.getElem?_range hk]
          rfl
        rw [e1]
        have e2 : (pm ts k &&& pm ts p) = pm ts k := Nat.eq_of_testBit_eq fun a => by
          rw [Nat.testBit_and, bit_pm, bit_pm]
          cases y : ts.contains (a, k) with
          | false => rfl
          | true =>
            have := hc a k p (by simpa using y) (by simpa using z)
            simpa using this
        have e3 : Nat.land (pm ts k) (pm ts p) = pm ts k := e2
        rw [e3]
        exact Nat.beq_refl _
    · have ih := fol_of hb hc m (p + 1)
      have e1 : bd ((List.range (p + 1)).map (pm ts)) 0 = bd ((List.range p).map (pm ts)) 0 ++ [(2 ^ p, pm ts p)] := by
        have go : ∀ (l : List Nat) (q d : Nat), bd (l ++ [d]) q = bd l q ++ [(2 ^ (q + l.length), d)] := by
          intro l
          induction l with
          | nil => intro q d; rfl
          | cons x l ih =>
            intro q d
            rw [List.cons_append, bd, ih, bd, List.cons_append, List.length_cons, Nat.add_right_comm q 1, Nat.add_assoc]
        rw [List.range_succ, List.map_append, List.map_singleton, go, List.length_map, List.length_range, Nat.zero_add]
      rw [e1] at ih
      have e2 : 2 ^ p + 2 ^ p = 2 ^ (p + 1) := by rw [Nat.pow_succ]; omega
      rw [e2]
      exact ih
end TL
set_option Elab.async false
set_option linter.all false
set_option autoImplicit false
/-! M2: lines counted by lots -/
namespace TL
def wd (g : List Nat → Nat) : DL → Nat
  | [] => 0
  | e :: D => g e.1 * e.2 + wd g D
section
variable {κ : Type} [DecidableEq κ]
def Keys (D : List (κ × Nat)) : Prop := (D.map (·.1)).Nodup
theorem lookD_cons (e : κ × Nat) (D : List (κ × Nat)) (k : κ) : lookD (e :: D) k = if e.1 = k then some e.2 else lookD D k := by
  unfold lookD
  rw [List.find?_cons]
  by_cases h : e.1 = k
  · simp [h]
  · have : (e.1 == k) = false := by simpa using h
    rw [this, if_neg h]
theorem lookD_no {D : List (κ × Nat)} {k : κ} (h : k ∉ D.map (·.1)) : lookD D k = none := by
  unfold lookD
  rw [Option.map_eq_none_iff, List.find?_eq_none]
  intro e he z
  exact h (List.mem_map.mpr ⟨e, he, by simpa using z⟩)
theorem map_same {D : List (κ × Nat)} {k : κ} (v : Nat) (h : k ∉ D.map (·.1)) : D.map (fun p => if (p.1 == k) = true then (p.1, v) else p) = D := by
  have : ∀ p ∈ D, (if (p.1 == k) = true then (p.1, v) else p) = p := fun p hp => by
    have hne : ¬ p.1 = k := fun z => h (List.mem_map.mpr ⟨p, hp, z⟩)
    have hb : ¬ (p.1 == k) = true := fun z => hne (by simpa using z)
    rw [if_neg hb]
  rw [List.map_congr_left this, List.map_id']
theorem putD_cons (e : κ × Nat) (D : List (κ × Nat)) (k : κ) (v : Nat) (hk : Keys (e :: D)) : putD (e :: D) k v = if e.1 = k then (k, v) :: D else e :: putD D k v := by
  unfold Keys at hk
  rw [List.map_cons, List.nodup_cons] at hk
  unfold putD
  rw [List.any_cons, List.map_cons]
  by_cases h : e.1 = k
  · subst h
    simp only [beq_self_eq_true, Bool.true_or, if_true]
    rw [map_same v hk.1]
  · have hb : (e.1 == k) = false := by simpa using h
    rw [hb, Bool.false_or, if_neg h]
    split
    · simp
    · simp
theorem keys_put {D : List (κ × Nat)} {k : κ} {v : Nat} (h : Keys D) : Keys (putD D k v) := by
  unfold putD
  split
  · unfold Keys
    rw [List.map_map]
    have : ((fun x : κ × Nat => x.1) ∘ fun p => if (p.1 == k) = true then (p.1, v) else p) = fun p => p.1 := by
      funext p
      simp only [Function.comp]
      split <;> rfl
    rw [this]
    exact h
  · rename_i hn
    unfold Keys
    rw [List.map_append, List.nodup_append]
    refine ⟨h, by simp, fun a ha b hb e => hn ?_⟩
    rw [List.map_singleton, List.mem_singleton] at hb
    obtain ⟨p, hp, ep⟩ := List.mem_map.mp ha
    rw [List.any_eq_true]
    exact ⟨p, hp, by simp [ep, e, hb]⟩
end
theorem wd_put (g : List Nat → Nat) (k : List Nat) (v : Nat) : ∀ D : DL, Keys D → wd g (putD D k (getN D k + v)) = wd g D + g k * v
  | [], _ => by simp [putD, wd, getN, lookD]
  | e :: D, h => by
    rw [putD_cons e D k _ h]
    have h2 : Keys D := by
      unfold Keys at h ⊢
      rw [List.map_cons, List.nodup_cons] at h
      exact h.2
    unfold getN
    rw [lookD_cons]
    by_cases q : e.1 = k
    · rw [if_pos q, if_pos q, wd, wd, Option.getD_some, q, Nat.mul_add]
      simp only []; omega
    · rw [if_neg q, if_neg q, wd, wd]
      have := wd_put g k v D h2
      unfold getN at this
      rw [this]
      omega
/-- what comes of a lot, weighed -/
def hN (n : Nat) (ts : List (Nat × Nat)) (g : List Nat → Nat) (l : List Nat) : Nat := rs (fun m => g (sortN m)) (extL n ts l)
theorem cnIn_sum (ts : List (Nat × Nat)) (found : DL) (lot : List Nat) (g : List Nat → Nat) : ∀ (ps : List Nat) (later : DL), Keys later → Keys (ps.foldl (cnIn ts found lot) later) ∧ wd g (ps.foldl (cnIn ts found lot) later) = wd g later + rs (fun m => g (sortN m)) (ps.flatMap fun p => if okAt ts lot p = true then [lot ++ [p]] else []) * getN found lot
  | [], later, h => ⟨h, by simp [rs]⟩
  | p :: ps, later, h => by
    have h1 : Keys (cnIn ts found lot later p) := by
      unfold cnIn
      split
      · exact keys_put h
      · exact h
    have h2 : wd g (cnIn ts found lot later p) = wd g later + rs (fun m => g (sortN m)) (if okAt ts lot p = true then [lot ++ [p]] else []) * getN found lot := by
      unfold cnIn
      split
      · rw [wd_put g _ _ _ h]
        simp [rs]
      · simp [rs]
    obtain ⟨h3, h4⟩ := cnIn_sum ts found lot g ps _ h1
    refine ⟨h3, ?_⟩
    rw [List.foldl_cons, h4, h2, List.flatMap_cons, rs_append, Nat.add_mul]
    omega
theorem cnMid_sum (n : Nat) (ts : List (Nat × Nat)) (found : DL) (g : List Nat → Nat) : ∀ (ls : List (List Nat)) (later : DL), Keys later → Keys (ls.foldl (cnMid n ts found) later) ∧ wd g (ls.foldl (cnMid n ts found) later) = wd g later + rs (fun l => hN n ts g l * getN found l) ls
  | [], later, h => ⟨h, by simp [rs]⟩
  | l :: ls, later, h => by
    obtain ⟨h1, h2⟩ := cnIn_sum ts found l g (List.range n) later h
    obtain ⟨h3, h4⟩ := cnMid_sum n ts found g ls _ h1
    refine ⟨h3, ?_⟩
    rw [List.foldl_cons]
    refine h4.trans ?_
    have h5 : wd g (cnMid n ts found later l) = wd g later + hN n ts g l * getN found l := h2
    show wd g (cnMid n ts found later l) + _ = _
    rw [h5, rs]
    omega
theorem rs_keys (h : List Nat → Nat) : ∀ D : DL, Keys D → rs (fun l => h l * getN D l) (D.map (·.1)) = wd h D
  | [], _ => rfl
  | e :: D, hk => by
    have hk2 := hk
    unfold Keys at hk2
    rw [List.map_cons, List.nodup_cons] at hk2
    rw [List.map_cons, rs, wd, ← rs_keys h D hk2.2]
    congr 1
    · unfold getN
      rw [lookD_cons, if_pos rfl]
      rfl
    · refine rs_congr fun l hl => ?_
      have : ¬ e.1 = l := fun z => hk2.1 (z ▸ hl)
      unfold getN
      rw [lookD_cons, if_neg this]
theorem sortN_perm (l : List Nat) : (sortN l).Perm l := List.mergeSort_perm _ _
theorem sortN_sorted (l : List Nat) : (sortN l).Pairwise (fun a b => a ≤ b) := by
  have h : (sortN l).Pairwise (fun a b => decide (a ≤ b) = true) := List.pairwise_mergeSort (fun a b c h1 h2 => by simp at *; omega) (fun a b => by simp; omega) l
  exact h.imp fun h => by simpa using h
theorem sortN_congr {l m : List Nat} (h : l.Perm m) : sortN l = sortN m := by
  refine List.Perm.eq_of_pairwise (fun a b _ _ h1 h2 => Nat.le_antisymm h1 h2) (sortN_sorted l) (sortN_sorted m) ?_
  exact (sortN_perm l).trans (h.trans (sortN_perm m).symm)
theorem okAt_congr {ts : List (Nat × Nat)} {l m : List Nat} (h : l.Perm m) (p : Nat) : okAt ts l p = okAt ts m p := by
  rw [Bool.eq_iff_iff, okAt_iff, okAt_iff]
  simp only [h.mem_iff]
theorem hN_sort (n : Nat) (ts : List (Nat × Nat)) (g : List Nat → Nat) (l : List Nat) : hN n ts g (sortN l) = hN n ts g l := by
  unfold hN extL
  have go : ∀ ps : List Nat, rs (fun m => g (sortN m)) (ps.flatMap fun p => if okAt ts (sortN l) p = true then [sortN l ++ [p]] else []) = rs (fun m => g (sortN m)) (ps.flatMap fun p => if okAt ts l p = true then [l ++ [p]] else []) := by
    intro ps
    induction ps with
    | nil => rfl
    | cons p ps ih =>
      rw [List.flatMap_cons, List.flatMap_cons, rs_append, rs_append, ih, okAt_congr (sortN_perm l) p]
      congr 1
      split
      · rw [rs, rs, rs, rs, sortN_congr ((sortN_perm l).append_right [p])]
      · rfl
  exact go _
abbrev dictK (n : Nat) (ts : List (Nat × Nat)) (k : Nat) : DL := (List.range k).foldl (cnOut n ts) [([], 1)]
theorem dict_rows (n : Nat) (ts : List (Nat × Nat)) : ∀ k : Nat, Keys (dictK n ts k) ∧ ∀ g, wd g (dictK n ts k) = rs (fun l => g (sortN l)) (rowsK n ts k)
  | 0 => ⟨by simp [dictK, Keys], fun g => by simp [dictK, wd, rowsK, rs, sortN]⟩
  | k + 1 => by
    obtain ⟨h1, h2⟩ := dict_rows n ts k
    have e : dictK n ts (k + 1) = ((dictK n ts k).map (·.1)).foldl (cnMid n ts (dictK n ts k)) [] := by
      unfold dictK
      rw [List.range_succ, List.foldl_append, List.foldl_cons, List.foldl_nil]
      rfl
    rw [e]
    have k0 : Keys ([] : DL) := List.nodup_nil
    refine ⟨(cnMid_sum n ts _ (fun _ => 0) _ [] k0).1, fun g => ?_⟩
    rw [(cnMid_sum n ts _ g _ [] k0).2, rs_keys _ _ h1, h2, rowsK_succ, rs_flat]
    simp only [wd, Nat.zero_add]
    exact rs_congr fun l _ => hN_sort n ts g l
theorem wd_key (D : DL) (k : List Nat) : Keys D → wd (fun m => if m = k then 1 else 0) D = getN D k := by
  induction D with
  | nil => intro _; simp [wd, getN, lookD]
  | cons e D ih =>
    intro hk
    have hk2 := hk
    unfold Keys at hk2
    rw [List.map_cons, List.nodup_cons] at hk2
    rw [wd, ih hk2.2]
    unfold getN
    rw [lookD_cons]
    by_cases h : e.1 = k
    · rw [if_pos h, if_pos h, lookD_no (h ▸ hk2.1)]
      simp
    · rw [if_neg h, if_neg h]
      simp
theorem lines_pos {n : Nat} {ts : List (Nat × Nat)} (hb : belowAll n ts) : List.range n ∈ linesU n ts := by
  refine (mem_linesU hb _).mpr ⟨List.nodup_range, fun x => List.mem_range, ?_⟩
  unfold Pw
  refine (List.pairwise_lt_range (n := n)).imp fun {a b} hab hc => ?_
  have := (hb _ hc).1
  simp at this
  omega
theorem count_due {n : Nat} {ts : List (Nat × Nat)} (hb : belowAll n ts) : lookD (countsD n ts) (List.range n) = some (lines n ts).length := by
  obtain ⟨h1, h2⟩ := dict_rows n ts n
  have h3 : getN (countsD n ts) (List.range n) = (linesU n ts).length := by
    refine (wd_key (dictK n ts n) _ h1).symm.trans ((h2 _).trans ?_)
    rw [← rs_one]
    refine rs_congr fun l hl => ?_
    have hf := (mem_linesU hb l).mp hl
    rw [if_pos]
    have hp : l.Perm (List.range n) := (List.perm_ext_iff_of_nodup hf.nd List.nodup_range).mpr fun x => (hf.mem x).trans List.mem_range.symm
    rw [sortN_congr hp]
    refine List.Perm.eq_of_pairwise (fun a b _ _ h1 h2 => Nat.le_antisymm h1 h2) (sortN_sorted _) ?_ (sortN_perm _)
    exact (List.pairwise_lt_range (n := n)).imp fun h => Nat.le_of_lt h
  have h4 : 0 < (linesU n ts).length := List.length_pos_of_mem (lines_pos hb)
  have h5 : (lines n ts).length = (linesU n ts).length := by
    unfold lines sortL
    rw [List.length_mergeSort]
  rw [h5]
  unfold getN at h3
  cases e : lookD (countsD n ts) (List.range n) with
  | none => rw [e] at h3; simp at h3; omega
  | some v => rw [e] at h3; simpa using h3
end TL
set_option Elab.async false
set_option linter.all false
set_option autoImplicit false
/-! M4: in each order of up to six places a pair is balanced -/
namespace TL
def ps5 : List (Nat × Nat) := [(8,16),(4,16),(2,16),(1,16),(4,8),(2,8),(1,8),(2,4),(1,4),(1,2)]
def ps6 : List (Nat × Nat) := [(16,32),(8,32),(4,32),(2,32),(1,32),(8,16),(4,16),(2,16),(1,16),(4,8),(2,8),(1,8),(2,4),(1,4),(1,2)]
def ps4 : List (Nat × Nat) := [(4,8),(2,8),(1,8),(2,4),(1,4),(1,2)]
def ps3 : List (Nat × Nat) := [(2,4),(1,4),(1,2)]
def ps2 : List (Nat × Nat) := [(1,2)]
theorem all1 : allG (leafB 1 []) 1 [] 1 = true := by decide +kernel
theorem all2 : allG (leafB 2 ps2) 2 [] 1 = true := by decide +kernel
theorem all3 : allG (leafB 3 ps3) 3 [] 1 = true := by decide +kernel
theorem all4 : allG (leafB 4 ps4) 4 [] 1 = true := by decide +kernel
theorem all5 : allG (leafB 5 ps5) 5 [] 1 = true := by decide +kernel
noncomputable def isIn (P : List (List Nat)) (ds : List (Nat × Nat)) : Bool := P.any fun p => p == ds.map (·.2)
def P4 : List (List Nat) := [[0, 0, 0, 0], [0, 0, 0, 1], [0, 0, 0, 2], [0, 0, 0, 3], [0, 0, 0, 4], [0, 0, 0, 5], [0, 0, 0, 6], [0, 0, 0, 7], [0, 0, 1, 0], [0, 0, 1, 1], [0, 0, 1, 2], [0, 0, 1, 3], [0, 0, 1, 5], [0, 0, 1, 7], [0, 0, 2, 0], [0, 0, 2, 1], [0, 0, 2, 2], [0, 0, 2, 3], [0, 0, 2, 6], [0, 0, 2, 7], [0, 0, 3, 0], [0, 0, 3, 1], [0, 0, 3, 2], [0, 0, 3, 3], [0, 0, 3, 7], [0, 1, 0, 0], [0, 1, 0, 1], [0, 1, 0, 3], [0, 1, 0, 4], [0, 1, 0, 5], [0, 1, 0, 7], [0, 1, 1, 0], [0, 1, 1, 1], [0, 1, 1, 3], [0, 1, 1, 5], [0, 1, 1, 7], [0, 1, 3, 0], [0, 1, 3, 1], [0, 1, 3, 3], [0, 1, 3, 7]]
theorem allP4 : allG (isIn P4) 4 [] 1 = true := by decide +kernel
def w4 (p : List Nat) : List (Nat × Nat) := bd p 0
theorem six0 : allG (leafB 6 ps6) 2 (bd [0, 0, 0, 0] 0) 16 = true := by decide +kernel
theorem six1 : allG (leafB 6 ps6) 2 (bd [0, 0, 0, 1] 0) 16 = true := by decide +kernel
theorem six2 : allG (leafB 6 ps6) 2 (bd [0, 0, 0, 2] 0) 16 = true := by decide +kernel
theorem six3 : allG (leafB 6 ps6) 2 (bd [0, 0, 0, 3] 0) 16 = true := by decide +kernel
theorem six4 : allG (leafB 6 ps6) 2 (bd [0, 0, 0, 4] 0) 16 = true := by decide +kernel
theorem six5 : allG (leafB 6 ps6) 2 (bd [0, 0, 0, 5] 0) 16 = true := by decide +kernel
theorem six6 : allG (leafB 6 ps6) 2 (bd [0, 0, 0, 6] 0) 16 = true := by decide +kernel
theorem six7 : allG (leafB 6 ps6) 2 (bd [0, 0, 0, 7] 0) 16 = true := by decide +kernel
theorem six8 : allG (leafB 6 ps6) 2 (bd [0, 0, 1, 0] 0) 16 = true := by decide +kernel
theorem six9 : allG (leafB 6 ps6) 2 (bd [0, 0, 1, 1] 0) 16 = true := by decide +kernel
theorem six10 : allG (leafB 6 ps6) 2 (bd [0, 0, 1, 2] 0) 16 = true := by decide +kernel
theorem six11 : allG (leafB 6 ps6) 2 (bd [0, 0, 1, 3] 0) 16 = true := by decide +kernel
theorem six12 : allG (leafB 6 ps6) 2 (bd [0, 0, 1, 5] 0) 16 = true := by decide +kernel
theorem six13 : allG (leafB 6 ps6) 2 (bd [0, 0, 1, 7] 0) 16 = true := by decide +kernel
theorem six14 : allG (leafB 6 ps6) 2 (bd [0, 0, 2, 0] 0) 16 = true := by decide +kernel
theorem six15 : allG (leafB 6 ps6) 2 (bd [0, 0, 2, 1] 0) 16 = true := by decide +kernel
theorem six16 : allG (leafB 6 ps6) 2 (bd [0, 0, 2, 2] 0) 16 = true := by decide +kernel
theorem six17 : allG (leafB 6 ps6) 2 (bd [0, 0, 2, 3] 0) 16 = true := by decide +kernel
theorem six18 : allG (leafB 6 ps6) 2 (bd [0, 0, 2, 6] 0) 16 = true := by decide +kernel
theorem six19 : allG (leafB 6 ps6) 2 (bd [0, 0, 2, 7] 0) 16 = true := by decide +kernel
theorem six20 : allG (leafB 6 ps6) 2 (bd [0, 0, 3, 0] 0) 16 = true := by decide +kernel
theorem six21 : allG (leafB 6 ps6) 2 (bd [0, 0, 3, 1] 0) 16 = true := by decide +kernel
theorem six22 : allG (leafB 6 ps6) 2 (bd [0, 0, 3, 2] 0) 16 = true := by decide +kernel
theorem six23 : allG (leafB 6 ps6) 2 (bd [0, 0, 3, 3] 0) 16 = true := by decide +kernel
theorem six24 : allG (leafB 6 ps6) 2 (bd [0, 0, 3, 7] 0) 16 = true := by decide +kernel
theorem six25 : allG (leafB 6 ps6) 2 (bd [0, 1, 0, 0] 0) 16 = true := by decide +kernel
theorem six26 : allG (leafB 6 ps6) 2 (bd [0, 1, 0, 1] 0) 16 = true := by decide +kernel
theorem six27 : allG (leafB 6 ps6) 2 (bd [0, 1, 0, 3] 0) 16 = true := by decide +kernel
theorem six28 : allG (leafB 6 ps6) 2 (bd [0, 1, 0, 4] 0) 16 = true := by decide +kernel
theorem six29 : allG (leafB 6 ps6) 2 (bd [0, 1, 0, 5] 0) 16 = true := by decide +kernel
theorem six30 : allG (leafB 6 ps6) 2 (bd [0, 1, 0, 7] 0) 16 = true := by decide +kernel
theorem six31 : allG (leafB 6 ps6) 2 (bd [0, 1, 1, 0] 0) 16 = true := by decide +kernel
theorem six32 : allG (leafB 6 ps6) 2 (bd [0, 1, 1, 1] 0) 16 = true := by decide +kernel
theorem six33 : allG (leafB 6 ps6) 2 (bd [0, 1, 1, 3] 0) 16 = true := by decide +kernel
theorem six34 : allG (leafB 6 ps6) 2 (bd [0, 1, 1, 5] 0) 16 = true := by decide +kernel
theorem six35 : allG (leafB 6 ps6) 2 (bd [0, 1, 1, 7] 0) 16 = true := by decide +kernel
theorem six36 : allG (leafB 6 ps6) 2 (bd [0, 1, 3, 0] 0) 16 = true := by decide +kernel
theorem six37 : allG (leafB 6 ps6) 2 (bd [0, 1, 3, 1] 0) 16 = true := by decide +kernel
theorem six38 : allG (leafB 6 ps6) 2 (bd [0, 1, 3, 3] 0) 16 = true := by decide +kernel
theorem six39 : allG (leafB 6 ps6) 2 (bd [0, 1, 3, 7] 0) 16 = true := by decide +kernel
theorem all6 : ∀ p ∈ P4, allG (leafB 6 ps6) 2 (bd p 0) 16 = true := by
  unfold P4
  simp only [List.forall_mem_cons]
  exact ⟨six0, six1, six2, six3, six4, six5, six6, six7, six8, six9, six10, six11, six12, six13, six14, six15, six16, six17, six18, six19, six20, six21, six22, six23, six24, six25, six26, six27, six28, six29, six30, six31, six32, six33, six34, six35, six36, six37, six38, six39, fun _ h => nomatch h⟩
end TL
set_option Elab.async false
set_option linter.all false
set_option autoImplicit false
/-! M5: what is told of balanced places -/
namespace TL
theorem bd_len : ∀ (ds : List Nat) (p : Nat), (bd ds p).length = ds.length
  | [], _ => rfl
  | d :: ds, p => by rw [bd, List.length_cons, List.length_cons, bd_len ds]
theorem bd_app : ∀ (l m : List Nat) (q : Nat), bd (l ++ m) q = bd l q ++ bd m (q + l.length)
  | [], m, q => rfl
  | d :: l, m, q => by rw [List.cons_append, bd, bd, bd_app l m, List.cons_append, List.length_cons, Nat.add_right_comm q 1, Nat.add_assoc]
theorem bd_snd : ∀ (ds : List Nat) (p : Nat), (bd ds p).map (·.2) = ds
  | [], _ => rfl
  | d :: ds, p => by rw [bd, List.map_cons, bd_snd ds]
theorem dsO_range' (n : Nat) (ts : List (Nat × Nat)) : dsO n ts = bd ((List.range' 0 n).map (pm ts)) 0 := by
  unfold dsO
  rw [List.range_eq_range']
def twoP (p : Nat × Nat) : Nat × Nat := (2 ^ p.1, 2 ^ p.2)
theorem leaf_of {n : Nat} {ts : List (Nat × Nat)} (O : Ord n ts) : ∃ ps : List (Nat × Nat), (∀ p ∈ ps, p.1 < p.2 ∧ p.2 < n) ∧ leafB n (ps.map twoP) (dsO n ts) = true := by
  have hc := closed_iff.mp O.closed
  have hf : Fol [] 1 (dsO n ts) := by
    rw [dsO_range']
    exact fol_of O.below hc n 0
  have hl : (dsO n ts).length = n := by
    unfold dsO
    rw [bd_len, List.length_map, List.length_range]
  have h1 := O.pos
  have h6 := O.six
  have go : ∀ (qs : List (Nat × Nat)) (ps : List (Nat × Nat)), qs = ps.map twoP → (∀ p ∈ ps, p.1 < p.2 ∧ p.2 < n) → allG (leafB n qs) n [] 1 = true → ∃ ps : List (Nat × Nat), (∀ p ∈ ps, p.1 < p.2 ∧ p.2 < n) ∧ leafB n (ps.map twoP) (dsO n ts) = true := fun qs ps e h ha => by
    refine ⟨ps, h, ?_⟩
    rw [← e]
    exact allG_sound (leafB n qs) (dsO n ts) [] 1 (by rw [hl]; exact ha) hf
  match n, h1, h6, go, hf, hl with
  | 1, _, _, go, _, _ => exact go [] [] rfl (by decide) all1
  | 2, _, _, go, _, _ => exact go ps2 [(0, 1)] (by decide) (by decide) all2
  | 3, _, _, go, _, _ => exact go ps3 [(1, 2), (0, 2), (0, 1)] (by decide) (by decide) all3
  | 4, _, _, go, _, _ => exact go ps4 [(2, 3), (1, 3), (0, 3), (1, 2), (0, 2), (0, 1)] (by decide) (by decide) all4
  | 5, _, _, go, _, _ => exact go ps5 [(3, 4), (2, 4), (1, 4), (0, 4), (2, 3), (1, 3), (0, 3), (1, 2), (0, 2), (0, 1)] (by decide) (by decide) all5
  | 6, _, _, _, hf, _ =>
    have e0 : dsO 6 ts = bd ((List.range' 0 4).map (pm ts)) 0 ++ bd ((List.range' 4 2).map (pm ts)) 4 := by
      rw [dsO_range']
      exact bd_app ((List.range' 0 4).map (pm ts)) ((List.range' 4 2).map (pm ts)) 0
    have hb4 : belowAll 6 ts := O.below
    have f4 : Fol [] 1 (bd ((List.range' 0 4).map (pm ts)) 0) := fol_of hb4 hc 4 0
    have f2 : Fol (bd ((List.range 4).map (pm ts)) 0) 16 (bd ((List.range' 4 2).map (pm ts)) 4) := fol_of hb4 hc 2 4
    have i4 := allG_sound (isIn P4) _ [] 1 (by rw [bd_len]; exact allP4) f4
    rw [List.nil_append] at i4
    unfold isIn at i4
    rw [bd_snd, List.any_eq_true] at i4
    obtain ⟨p, hp, ep⟩ := i4
    have ep2 : p = (List.range' 0 4).map (pm ts) := by simpa using ep
    have a6 := all6 p hp
    rw [ep2] at a6
    refine ⟨[(4, 5), (3, 5), (2, 5), (1, 5), (0, 5), (3, 4), (2, 4), (1, 4), (0, 4), (2, 3), (1, 3), (0, 3), (1, 2), (0, 2), (0, 1)], by decide, ?_⟩
    have e6 : List.map twoP [(4, 5), (3, 5), (2, 5), (1, 5), (0, 5), (3, 4), (2, 4), (1, 4), (0, 4), (2, 3), (1, 3), (0, 3), (1, 2), (0, 2), (0, 1)] = ps6 := by decide
    rw [e6, e0]
    exact allG_sound (leafB 6 ps6) (bd ((List.range' 4 2).map (pm ts)) 4) _ 16 (by rw [bd_len]; exact a6) f2
theorem ahead_tied {n : Nat} {ts : List (Nat × Nat)} (hb : belowAll n ts) {i j : Nat} (h : (i, j) ∈ ts) : aheadN (lines n ts) i j = (lines n ts).length := by
  unfold aheadN
  rw [List.filter_eq_self.mpr]
  intro l hl
  have hl2 : l ∈ linesU n ts := by
    unfold lines sortL at hl
    exact List.mem_mergeSort.mp hl
  have hf := (mem_linesU hb l).mp hl2
  have hij := hb _ h
  simp at hij
  have mi : i ∈ l := (hf.mem i).mpr (by omega)
  have mj : j ∈ l := (hf.mem j).mpr (by omega)
  have li := List.idxOf_lt_length_of_mem mi
  have lj := List.idxOf_lt_length_of_mem mj
  refine decide_eq_true ?_
  rcases Nat.lt_trichotomy (l.idxOf i) (l.idxOf j) with z | z | z
  · exact z
  · have e1 := List.getElem_idxOf li
    have e2 := List.getElem_idxOf lj
    simp only [z] at e1
    omega
  · have := List.pairwise_iff_getElem.mp hf.pw (l.idxOf j) (l.idxOf i) lj li z
    rw [List.getElem_idxOf, List.getElem_idxOf] at this
    exact absurd h this
theorem pair_ex {n : Nat} {ts : List (Nat × Nat)} (O : Ord n ts) : (∀ i j, i < j → j < n → (i, j) ∈ ts) ∨ ∃ i j, i < j ∧ j < n ∧ (i, j) ∉ ts ∧ (lines n ts).length ≤ 3 * aheadN (lines n ts) i j ∧ 3 * aheadN (lines n ts) i j ≤ 2 * (lines n ts).length ∧ 1 ≤ (lines n ts).length := by
  obtain ⟨ps, hps, h⟩ := leaf_of O
  unfold leafB at h
  cases hf : full2 (dsO n ts) with
  | true =>
    left
    intro i j hij hj
    have := full2_all hf (2 ^ j, pm ts j) (bd_mem.mpr ⟨j, by rw [List.length_map, List.length_range]; exact hj, by rw [Nat.zero_add, List.getD_eq_getElem?_getD, List.getElem?_map, List.getElem?_range hj]; rfl⟩)
    simp only [] at this
    have e : pm ts j = 2 ^ j - 1 := by omega
    have b : (pm ts j).testBit i = true := by
      rw [e, Nat.testBit_two_pow_sub_one]
      exact decide_eq_true hij
    rw [bit_pm] at b
    simpa using b
  | false =>
    right
    rw [hf] at h
    obtain ⟨p, hp, r⟩ := anyP_ex (show anyP (dsO n ts) n (ps.map twoP) = true from h)
    obtain ⟨⟨i, j⟩, hq, rfl⟩ := List.mem_map.mp hp
    obtain ⟨hij, hj⟩ := hps _ hq
    simp only at hij hj
    have hne : i ≠ j := by omega
    obtain ⟨r1, r2, r3⟩ := pairB_sum (show pairB (dsO n ts) n (2 ^ i) (2 ^ j) = true from r)
    rw [run_len n ts hne, run_ahead O.below hne (by omega) hj] at r1 r2
    rw [run_len n ts hne] at r3
    refine ⟨i, j, hij, hj, fun z => ?_, r1, r2, r3⟩
    rw [ahead_tied O.below z] at r2
    omega
end TL
set_option Elab.async false
set_option linter.all false
set_option autoImplicit false
/-! M6: the law of balanced places -/
namespace TL
def tri (n : Nat) : Nat := n * (n - 1) / 2
theorem tri_int {n : Nat} (h : 1 ≤ n) (h6 : n ≤ 6) : ((n : Int) * ((n : Int) - 1)) / 2 = (tri n : Nat) := by
  match n, h, h6 with
  | 1, _, _ => decide
  | 2, _, _ => decide
  | 3, _, _ => decide
  | 4, _, _ => decide
  | 5, _, _ => decide
  | 6, _, _ => decide
def allPn (n : Nat) : List (Nat × Nat) := allP.filter fun p => decide (p.2 < n)
theorem allPn_len {n : Nat} (h : 1 ≤ n) (h6 : n ≤ 6) : (allPn n).length = tri n := by
  match n, h, h6 with
  | 1, _, _ => decide
  | 2, _, _ => decide
  | 3, _, _ => decide
  | 4, _, _ => decide
  | 5, _, _ => decide
  | 6, _, _ => decide
theorem allP_nd : allP.Nodup := by decide
theorem allP_lt : ∀ p ∈ allP, p.1 < p.2 := by decide
theorem mem_allPn {n : Nat} (h6 : n ≤ 6) (p : Nat × Nat) : p ∈ allPn n ↔ p.1 < p.2 ∧ p.2 < n := by
  unfold allPn
  rw [List.mem_filter]
  constructor
  · rintro ⟨h1, h2⟩
    exact ⟨allP_lt p h1, of_decide_eq_true h2⟩
  · rintro ⟨h1, h2⟩
    exact ⟨mem_allP h6 h1 h2, decide_eq_true h2⟩
theorem full_line {n : Nat} {ts : List (Nat × Nat)} (hall : ∀ i j, i < j → j < n → (i, j) ∈ ts) {l : List Nat} (h : Full n ts l) : l = List.range n := by
  have hs : l.Pairwise fun x y => x < y := by
    refine List.Pairwise.imp_of_mem (fun {a b} ha hb hab => ?_) (h.pw.and h.nd)
    obtain ⟨h1, h2⟩ := hab
    rcases Nat.lt_trichotomy a b with z | z | z
    · exact z
    · exact absurd z h2
    · exact absurd (hall b a z ((h.mem a).mp ha)) h1
  have hp : l.Perm (List.range n) := (List.perm_ext_iff_of_nodup h.nd List.nodup_range).mpr fun x => (h.mem x).trans List.mem_range.symm
  exact List.Perm.eq_of_pairwise (fun a b _ _ h1 h2 => absurd h1 (Nat.lt_asymm h2)) hs List.pairwise_lt_range hp
theorem one_line {n : Nat} {ts : List (Nat × Nat)} (hb : belowAll n ts) (hall : ∀ i j, i < j → j < n → (i, j) ∈ ts) : (lines n ts).length = 1 := by
  have e : (lines n ts).length = (linesU n ts).length := by
    unfold lines sortL
    rw [List.length_mergeSort]
  rw [e]
  have nd : (linesU n ts).Nodup := nd_steps _ _ (by simp)
  have h1 : ∀ l ∈ linesU n ts, l ∈ [List.range n] := fun l hl => by
    rw [List.mem_singleton]
    exact full_line hall ((mem_linesU hb l).mp hl)
  have h2 := len_le_of [List.range n] (linesU n ts) nd h1
  have h3 : 0 < (linesU n ts).length := List.length_pos_of_mem (lines_pos hb)
  simp at h2
  omega
theorem due_len {n : Nat} {ts : List (Nat × Nat)} (hb : belowAll n ts) : (due n ts).length = (lines n ts).length := (due_perm hb).length_eq
theorem good_iff {n : Nat} {ts : List (Nat × Nat)} {i j : Nat} : goodB n ts i j = true ↔ (i, j) ∉ ts ∧ (lines n ts).length ≤ 3 * aheadN (lines n ts) i j ∧ 3 * aheadN (lines n ts) i j ≤ 2 * (lines n ts).length := by
  unfold goodB
  simp
theorem bal_some {n : Nat} {ts : List (Nat × Nat)} {i j m : Nat} (h : balM n ts = some (i, j, m)) : i < j ∧ j < n ∧ goodB n ts i j = true ∧ m = aheadN (lines n ts) i j := by
  unfold balM at h
  obtain ⟨x, hx, e⟩ := List.exists_of_findSome?_eq_some h
  obtain ⟨y, hy, e2⟩ := Option.map_eq_some_iff.mp e
  injection e2 with e3 e4
  injection e4 with e5 e6
  subst e3 e5
  unfold balRow at hy
  have h1 := List.find?_some hy
  have h2 := List.mem_of_find?_eq_some hy
  rw [List.mem_range'_1] at h2
  have h3 := List.mem_range.mp hx
  exact ⟨by omega, by omega, h1, e6.symm⟩
theorem bal_none {n : Nat} {ts : List (Nat × Nat)} (h : balM n ts = none) {i j : Nat} (hij : i < j) (hj : j < n) : goodB n ts i j = false := by
  unfold balM at h
  have h1 := List.findSome?_eq_none_iff.mp h i (List.mem_range.mpr (by omega))
  rw [Option.map_eq_none_iff] at h1
  unfold balRow at h1
  have h2 := List.find?_eq_none.mp h1 j (by rw [List.mem_range'_1]; omega)
  simpa using h2
/-- the whole law, of an order -/
theorem bal_law {n : Nat} {ts : List (Nat × Nat)} (O : Ord n ts) :
    (balM n ts = none ∧ (due n ts).length = 1 ∧ ts.length = tri n) ∨
    ∃ i j m, balM n ts = some (i, j, m) ∧ (due n ts).length ≠ 1 ∧ ts.length ≠ tri n ∧ i < j ∧ j < n ∧ (i, j) ∉ ts ∧ m = aheadN (due n ts) i j ∧ m = aheadN (lines n ts) i j ∧ (due n ts).length ≤ 3 * m ∧ 3 * m ≤ 2 * (due n ts).length := by
  have nd := rising_nodup O.rising
  have sub : ∀ p ∈ ts, p ∈ allPn n := fun p hp => (mem_allPn O.six p).mpr (O.below p hp)
  rw [due_len O.below]
  rcases pair_ex O with hall | ⟨i, j, hij, hj, hn, h1, h2, h3⟩
  · left
    refine ⟨?_, one_line O.below hall, ?_⟩
    · cases e : balM n ts with
      | none => rfl
      | some x =>
        obtain ⟨i, j, m⟩ := x
        obtain ⟨a, b, c, _⟩ := bal_some e
        exact absurd (hall i j a b) (good_iff.mp c).1
    · rw [← allPn_len O.pos O.six]
      have h1 := len_le_of (allPn n) ts nd sub
      have h2 := len_le_of ts (allPn n) (allP_nd.filter _) fun p hp => hall p.1 p.2 ((mem_allPn O.six p).mp hp).1 ((mem_allPn O.six p).mp hp).2
      omega
  · right
    cases e : balM n ts with
    | none =>
      have := bal_none e hij hj
      rw [good_iff.mpr ⟨hn, h1, h2⟩] at this
      cases this
    | some x =>
      obtain ⟨a, b, m⟩ := x
      obtain ⟨g1, g2, g3, g4⟩ := bal_some e
      obtain ⟨g5, g6, g7⟩ := good_iff.mp g3
      refine ⟨a, b, m, rfl, by omega, ?_, g1, g2, g5, ?_, g4, by rw [g4]; exact g6, by rw [g4]; exact g7⟩
      · rw [← allPn_len O.pos O.six]
        have h5 := len_le_of (allPn n) ((i, j) :: ts) (List.nodup_cons.mpr ⟨hn, nd⟩) fun p hp => by
          rcases List.mem_cons.mp hp with z | z
          · rw [z]; exact (mem_allPn O.six _).mpr ⟨hij, hj⟩
          · exact sub p z
        rw [List.length_cons] at h5
        omega
      · rw [g4, due_ahead O.below]
theorem bal_all {n : Nat} {ts : List (Nat × Nat)} (O : Ord n ts) (h : ts.length = tri n) : balM n ts = none := by
  rcases bal_law O with z | ⟨_, _, _, _, _, z, _⟩
  · exact z.1
  · exact absurd h z
/-! ### the orders that the law names -/
theorem mem_tied {n : Nat} {ts : List (Nat × Nat)} {i j : Nat} (p : Nat × Nat) : p ∈ tiedM n ts i j ↔ p ∈ ts ∨ ((p.1 < n ∧ (p.1 = i ∨ (p.1, i) ∈ ts)) ∧ (p.2 < n ∧ (p.2 = j ∨ (j, p.2) ∈ ts))) := by
  unfold tiedM sortP tiesM
  rw [List.mem_mergeSort, mem_ties]
  unfold underM overM
  rw [List.mem_filter, List.mem_range, List.mem_filter, List.mem_range]
  simp
theorem sortP_two : sortP [(0, 1), (1, 2)] = [(0, 1), (1, 2)] := by
  unfold sortP
  exact List.mergeSort_of_pairwise (by decide)
theorem chain3 : Ord 3 (closedM 3 [(0, 1), (1, 2)]) ∧ (closedM 3 [(0, 1), (1, 2)]).length = 3 := by
  have O1 : Ord 3 (tiedM 3 [] 0 1) := ord_tied (ord_nil (by decide) (by decide)) (by decide) (by decide)
  have m1 : ∀ p, p ∈ tiedM 3 [] 0 1 ↔ p = (0, 1) := fun p => by
    rw [mem_tied]
    obtain ⟨a, b⟩ := p
    simp
    omega
  have n12 : ¬ (tiedM 3 [] 0 1).contains (1, 2) = true := by
    intro z
    have : (1, 2) ∈ tiedM 3 [] 0 1 := by simpa using z
    have := (m1 _).mp this
    cases this
  have O2 : Ord 3 (tiedM 3 (tiedM 3 [] 0 1) 1 2) := ord_tied O1 (by decide) (by decide)
  have e : closedM 3 [(0, 1), (1, 2)] = tiedM 3 (tiedM 3 [] 0 1) 1 2 := by
    unfold closedM
    rw [sortP_two]
    simp only [List.foldl_cons, List.foldl_nil]
    have e1 : stepM 3 [] (0, 1) = tiedM 3 [] 0 1 := if_neg (by decide)
    rw [e1]
    exact if_neg n12
  rw [e]
  refine ⟨O2, ?_⟩
  have nd := rising_nodup O2.rising
  have m2 : ∀ p, p ∈ tiedM 3 (tiedM 3 [] 0 1) 1 2 ↔ p ∈ [(0, 1), (0, 2), (1, 2)] := fun p => by
    rw [mem_tied, m1]
    obtain ⟨a, b⟩ := p
    simp [m1]
    omega
  have h1 := len_le_of [(0, 1), (0, 2), (1, 2)] _ nd fun p hp => (m2 p).mp hp
  have h2 := len_le_of (tiedM 3 (tiedM 3 [] 0 1) 1 2) [(0, 1), (0, 2), (1, 2)] (by decide) fun p hp => (m2 p).mpr hp
  simp at h1 h2
  omega
theorem ord2 : Ord 2 [] := ord_nil (by decide) (by decide)
theorem ord1 : Ord 1 [] := ord_nil (by decide) (by decide)
theorem ordV : Ord 3 [(0, 2)] := ⟨by decide, by decide, by decide, by unfold belowAll; decide, by decide, by decide⟩
theorem len2 : (lines 2 []).length = 2 := by rw [← run_len 2 [] (show 0 ≠ 1 by decide)]; decide +kernel
theorem lenV : (lines 3 [(0, 2)]).length = 3 := by rw [← run_len 3 [(0, 2)] (show 0 ≠ 1 by decide)]; decide +kernel
theorem bal2 : balM 2 [] = some (0, 1, 1) := by
  rcases bal_law ord2 with ⟨_, h, _⟩ | ⟨i, j, m, e, _, _, h1, h2, _, _, _, h3, h4⟩
  · rw [due_len ord2.below, len2] at h; cases h
  · rw [due_len ord2.below, len2] at h3 h4
    have : i = 0 ∧ j = 1 ∧ m = 1 := by omega
    rw [e, this.1, this.2.1, this.2.2]
theorem balV : ∃ i j m, balM 3 [(0, 2)] = some (i, j, m) ∧ (m = 1 ∨ m = 2) := by
  rcases bal_law ordV with ⟨_, h, _⟩ | ⟨i, j, m, e, _, _, h1, h2, _, _, _, h3, h4⟩
  · rw [due_len ordV.below, lenV] at h; cases h
  · rw [due_len ordV.below, lenV] at h3 h4
    exact ⟨i, j, m, e, by omega⟩
theorem bal1 : balM 1 [] = none := bal_all ord1 (by decide)
theorem balC : balM 3 (closedM 3 [(0, 1), (1, 2)]) = none := bal_all chain3.1 chain3.2
end TL
set_option Elab.async false
set_option linter.all false
set_option maxRecDepth 100000
set_option autoImplicit false
set_option maxHeartbeats 2000000
/-! D1: the drawn state by hand -/
namespace TL
open PySem PySem.Spec PyProof.Rows L2
def topS (i : Nat) : Stmt := PySem.Challenge.pw_orderbook_k68_whole_lines_of_orders.main.body.getD i (.Pass ⟨0, 0, 0, 0⟩)
abbrev s__law_mixed : Stmt := topS 36
theorem sc__law_mixed : FnScope ["state", "turn", "found", "prime", "blend", "cell"] ["state"] (defScope s__law_mixed) := ⟨rfl, rfl, rfl, by decide +kernel, rfl, by decide +kernel, by decide +kernel⟩
theorem b__law_mixed {K : PySem.W.Frag} {f : Addr} {fd : FuncData} (F : FD K "_law_mixed" s__law_mixed [] f fd) : Binds K fd ["state"] [] := F.bindsN fun _ _ _ _ _ _ us hl => match us, hl with | [_], _ => rfl
abbrev s__law_draw : Stmt := topS 37
theorem sc__law_draw : FnScope ["state", "room", "found"] ["state", "room"] (defScope s__law_draw) := ⟨rfl, rfl, rfl, by decide +kernel, rfl, by decide +kernel, by decide +kernel⟩
theorem b__law_draw {K : PySem.W.Frag} {f : Addr} {fd : FuncData} (F : FD K "_law_draw" s__law_draw [] f fd) : Binds K fd ["state", "room"] [] := F.bindsN fun _ _ _ _ _ _ us hl => match us, hl with | [_, _], _ => rfl
section
variable {P : Program} {w : World} {K : PySem.W.Frag} {mg : Str → Option Value} {base : Heap}
theorem okH {x : Str} {st : Stmt} {dvs : List V} {f : Addr} {fd : FuncData} {N ps : List Str} {k : Nat} {sp : Sp} (F : FD K x st dvs f fd) (sc : FnScope N ps (defScope st))
    (len : ∀ vs H Q E, sp vs H Q E → vs.length = ps.length)
    (walk : ∀ (cdv : Value) (A : Around) (outer : List Env) (s : Shared) (H : Hp) (vs : List V) (Q : VK) (E : XK), Rm k (A.deeper (envOfC x (defScope st) s.heap.objs.size f cdv)) → sp vs H Q E →
      ∃ t, PSs (cxOf CX0 P w K mg base N x (defScope st) f cdv A outer s H E).nox (defBody st) t ∧ t { nx := fun _ H' => Q .non H', rt := Q } (L2.start N vs) H) : FnG P w K mg base CX0 (k + 1) f fd ps sp := by
  obtain ⟨oc, od, dV, kV, doc, pm, an, cdv, ct, osl, rfl, lk, hcd, _, _⟩ := F.ex
  exact fnG_of lk hcd sc len fun A outer s H vs Q E hr h => let ⟨t, h1, h2⟩ := walk cdv A outer s H vs Q E hr h; ⟨t, h1.nox, h2⟩
abbrev stK (gr ce : Addr) (r t : Int) : List (Key × V) := [(.inr "great", .ref gr), (.inr "cells", .ref ce), (.inr "rest", .int r), (.inr "turn", .int t)]
/-- what stood stands, but for some -/
def But (own : Addr → Bool) (H H' : Hp) : Prop := ∀ a, own a = false → ∀ o, H a = some o → H' a = some o
def sp_mixed : Sp := fun vs H Q _ => ∃ (st gr ce : Addr) (r t : Int) (cs : List Int), vs = [.ref st] ∧ H st = some (.dK (stK gr ce r t)) ∧ H ce = some (.lst (cs.map V.int)) ∧ 0 ≤ t ∧ t < 2147483648 ∧
  ∀ (v : Int) (H' : Hp), But (fun a => a == st) H H' → H' st = some (.dK (stK gr ce r (t + 1))) → Q (.int v) H'
theorem ok_mixed {f : Addr} {fd : FuncData} (F : FD K "_law_mixed" s__law_mixed [] f fd) (z_int : mg "int" = none) : FnG P w K mg base CX0 1 f fd ["state"] sp_mixed := by
  refine okH F sc__law_mixed (fun vs H Q E ⟨_, _, _, _, _, _, e, _⟩ => by rw [e]; rfl) fun cdv A outer s H vs Q E hr ⟨st, gr, ce, r, t, cs, e, h1, h2, t0, t1, q⟩ => ?_
  subst e
  have hu := hu_of hr.room
  have nd := sc__law_mixed.nd
  refine ⟨_, pss_cons (ps_par (i := 1) (j := 2) rfl nd rfl rfl (by decide) rfl rfl (pa_cons (pe_op op_add (pe_dget hu (pv 0) pe_str (fun _ _ => rfl)) pe_int) (pa_cons pe_int pa_nil)) rfl)
    (pss_cons (ps_dput hu (pv 0) pe_str (pv 1) rfl)
    (pss_cons (ps_for PassesOwn.never rfl (pi_list (pe_lst (pa_cons pe_int (pa_cons pe_int (pa_cons pe_int (pa_cons pe_int pa_nil)))))) (pg_name (i := 3) nd rfl (Or.inl rfl))
      (pss_cons (ps_set (i := 4) nd rfl (Or.inl rfl) (pe_op op_add (pe_op op_mul pe_int (pv 1)) (pe_op op_fdiv (pv 3) pe_int)))
      (pss_cons (ps_for PassesOwn.never rfl (pi_list (pe_dget hu (pv 0) pe_str (fun _ _ => rfl))) (pg_name (i := 5) nd rfl (Or.inl rfl))
        (pss_one (ps_set (i := 4) nd rfl (Or.inl rfl) (pe_op op_mod (pe_callTy call_int1 (by rfl) z_int bt_int (pa_cons (pe_op op_add (pe_op op_add (pe_op op_mul (pv 4) pe_int) (pv 5)) (pv 1)) pa_nil)) (pv 3)))))
      (pss_one (ps_set (i := 2) nd rfl (Or.inl rfl) (pe_op op_add (pe_op op_mul (pv 2) pe_int) (pe_op op_mod (pe_callTy call_int1 (by rfl) z_int bt_int (pa_cons (pe_op op_pow (pv 4) pe_int) pa_nil)) (pv 3))))))))
    (pss_one (ps_ret (pv 2))))), ?_⟩
  refine ⟨.ref st, rfl, st, .int t, rfl, DGet.k (k := Sum.inr "turn") h1, _, _, rfl, rfl, _, _, rfl, ?_⟩
  refine ⟨.int (t + 1), rfl, .ref st, rfl, st, _, rfl, DPut.k (k := Sum.inr "turn") h1 (by rw [sizeLine_eq]; show 4 < 16777216; decide), ?_⟩
  have e1 : putK (stK gr ce r t) (Sum.inr "turn") (.int (t + 1)) = stK gr ce r (t + 1) := by
    simp [putK]
    exact ⟨by decide, by decide, fun z => absurd z (by decide)⟩
  rw [e1]
  refine ⟨by rw [sizeLine_eq]; decide, fun p np => ?_⟩
  have hpr : SqL K (upd (upd H st (.dK (stK gr ce r (t + 1)))) p (.lst [.int 2147483629, .int 2147483587, .int 2147483579, .int 2147483563])) p [.int 2147483629, .int 2147483587, .int 2147483579, .int 2147483563] := .inl (.inl upd_same)
  generalize hH2 : upd (upd H st (.dK (stK gr ce r (t + 1)))) p (.lst [.int 2147483629, .int 2147483587, .int 2147483579, .int 2147483563]) = H2 at hpr ⊢
  have hst : H2 st = some (.dK (stK gr ce r (t + 1))) := by
    rw [← hH2, upd_ne (ne_of_none (o := HO.dK (stK gr ce r (t + 1))) upd_same np), upd_same]
  have hbut : But (fun a => a == st) H H2 := fun a ha o e => by
    have hs : a ≠ st := fun z => by simp [z] at ha
    have e2 : upd H st (.dK (stK gr ce r (t + 1))) a = some o := by rw [upd_ne hs]; exact e
    rw [← hH2, upd_ne (ne_of_none e2 np)]
    exact e2
  have hce : H2 ce = some (.lst (cs.map V.int)) := by
    have : ce ≠ st := fun z => by rw [z, h1] at h2; cases h2
    exact hbut ce (by simpa using this) _ h2
  refine ⟨p, rfl, ⟨_, hpr⟩, for_list (xs := [.int 2147483629, .int 2147483587, .int 2147483579, .int 2147483563]) (fun _ σ H' => H' = H2 ∧ ∃ (fv : Int) (y3 y4 y5 : Option V), σ = [some (.ref st), some (.int (t + 1)), some (.int fv), y3, y4, y5]) ⟨rfl, _, _, _, _, rfl⟩ (fun i σ H' _ ⟨e, _⟩ => by rw [e]; exact hpr) (fun i x σ H' hx ⟨e, fv, y3, y4, y5, es⟩ => ?_) (fun σ H' ⟨e, fv, y3, y4, y5, es⟩ => ?_)⟩
  · replace e := e.symm
    subst e es
    have hpv : ∃ pv : Int, x = .int pv ∧ 2147483563 ≤ pv ∧ pv ≤ 2147483629 := by
      match i, hx with
      | 0, hx => cases hx; exact ⟨_, rfl, by decide, by decide⟩
      | 1, hx => cases hx; exact ⟨_, rfl, by decide, by decide⟩
      | 2, hx => cases hx; exact ⟨_, rfl, by decide, by decide⟩
      | 3, hx => cases hx; exact ⟨_, rfl, by decide, by decide⟩
      | i + 4, hx => simp at hx
    obtain ⟨pr, rfl, p1, p2⟩ := hpv
    refine ⟨.int (t + 1), rfl, _, _, rfl, rfl, .inl ⟨by decide, by decide⟩, .int pr, rfl, _, _, rfl, rfl, ⟨by decide, by decide⟩, _, _, rfl, rfl, ?_⟩
    have hb0 : 0 ≤ 69621 * (t + 1) + pr / 41 ∧ 69621 * (t + 1) + pr / 41 < 2 ^ 64 := by omega
    refine ⟨.ref st, rfl, st, .ref ce, rfl, DGet.k (k := Sum.inr "cells") hst, ce, rfl, ⟨_, .inl (.inl hce)⟩, for_list (xs := cs.map V.int) (fun _ σ H' => H' = H2 ∧ ∃ (b : Int) (y5 : Option V), σ = [some (.ref st), some (.int (t + 1)), some (.int fv), some (.int pr), some (.int b), y5] ∧ 0 ≤ b ∧ b < 2 ^ 64) ⟨rfl, _, _, rfl, hb0⟩ (fun i σ H' _ ⟨e, _⟩ => by rw [e]; exact .inl (.inl hce)) (fun i x σ H' hx ⟨e, b, y5, es, b1, b2⟩ => ?_) (fun σ H' ⟨e, b, y5, es, b1, b2⟩ => ?_)⟩
    · replace e := e.symm
      subst e es
      rw [List.getElem?_map] at hx
      obtain ⟨c, _, rfl⟩ := Option.map_eq_some_iff.mp hx
      refine ⟨.int b, rfl, _, _, rfl, rfl, .inr ⟨by decide, by decide⟩, .int c, rfl, _, _, rfl, rfl, .int (t + 1), rfl, _, _, rfl, rfl, .inl ⟨_, rfl, ?_⟩⟩
      refine ⟨.int pr, rfl, _, pr, rfl, rfl, (by show (0 : Int) < pr; omega), ?_⟩
      have hm1 := Int.emod_nonneg (b * 48271 + c + (t + 1)) (show pr ≠ 0 by omega)
      have hm2 := Int.emod_lt_of_pos (b * 48271 + c + (t + 1)) (show 0 < pr by omega)
      exact ⟨rfl, _, _, rfl, hm1, by omega⟩
    · replace e := e.symm
      subst e es
      refine ⟨.int fv, rfl, _, _, rfl, rfl, .inr ⟨by decide, by decide⟩, .int b, rfl, b, 5, rfl, rfl, ⟨by decide, by decide, by omega⟩, .inl ⟨_, rfl, ?_⟩⟩
      refine ⟨.int pr, rfl, _, pr, rfl, rfl, (by show (0 : Int) < pr; omega), _, _, rfl, rfl, ?_⟩
      exact ⟨rfl, _, _, _, _, rfl⟩
  · subst e es
    exact ⟨.int fv, rfl, q fv _ hbut hst⟩
end
end TL
set_option Elab.async false
set_option linter.all false
set_option maxRecDepth 100000
set_option autoImplicit false
set_option maxHeartbeats 2000000
/-! D2: the world that is drawn from; one draw -/
namespace TL
open PySem PySem.Spec PyProof.Rows L2
def ownO (st gr ce : Addr) (a : Addr) : Bool := a == st || a == gr || a == ce
structure OkO (st gr ce : Addr) (t : Nat) (H : Hp) : Prop where
  ex : ∃ (gs cs : List Int) (r : Int) (k : Nat), H st = some (.dK (stK gr ce r k)) ∧ H gr = some (.lst (gs.map V.int)) ∧ H ce = some (.lst (cs.map V.int)) ∧ k ≤ t
theorem ownO_st {st gr ce : Addr} : ownO st gr ce st = true := by simp [ownO]
theorem ownO_gr {st gr ce : Addr} : ownO st gr ce gr = true := by simp [ownO]
theorem ownO_ce {st gr ce : Addr} : ownO st gr ce ce = true := by simp [ownO]
def famO (st gr ce : Addr) : Fam where
  own := ownO st gr ce
  sa := st
  ok := OkO st gr ce
  st := fun H H' t h ⟨gs, cs, r, k, h1, h2, h3, h6⟩ => ⟨gs, cs, r, k, (h _ ownO_st).trans h1, (h _ ownO_gr).trans h2, (h _ ownO_ce).trans h3, h6⟩
  tr := fun H t ⟨gs, cs, r, k, h1, h2, h3, h6⟩ a ha => by
    simp only [ownO, Bool.or_eq_true, beq_iff_eq] at ha
    rcases ha with (ha | ha) | ha
    · rw [ha, h1]; exact fun z => nomatch z
    · rw [ha, h2]; exact fun z => nomatch z
    · rw [ha, h3]; exact fun z => nomatch z
theorem OkO.mono {st gr ce : Addr} {t t' : Nat} {H : Hp} (h : OkO st gr ce t H) (l : t ≤ t') : OkO st gr ce t' H :=
  let ⟨gs, cs, r, k, h1, h2, h3, h6⟩ := h.ex
  ⟨gs, cs, r, k, h1, h2, h3, Nat.le_trans h6 l⟩
/-- what stood outside stands -/
theorem draw_end {K : Bx} {M : Fam} {F H H' : Hp} {t c t' : Nat} {Q' : T → Prop} {Q : VK} {v : V} {y : T} (sF : Sub F (off (M.W 0) H))
    (fin : ∀ v H' F' y t', Sub F F' → Sub F' (off (M.W 0) H') → Keep F (off (M.W 0) H) (off (M.W 0) H') → (∀ a, F' a ≠ none → F a ≠ none ∨ H a = none) → M.ok t' H' → t' ≤ t + c → Rp K F' v y → Q' y → Q v H')
    (hb : But M.own H H') (ok : M.ok t' H') (ht : t' ≤ t + c) (r : Rp K F v y) (q : Q' y) : Q v H' := by
  have ko : ∀ a o, off (M.W 0) H a = some o → off (M.W 0) H' a = some o := fun a o e => by
    obtain ⟨e1, e2⟩ := off_some e
    have := hb a e1 o e2
    rw [off_ne (W := M.W 0) e1]
    exact this
  refine fin v H' F y t' Sub.refl (fun a u e => ?_) (fun a o e => .inl (ko a o e)) (fun a h => .inl h) ok ht r q
  rcases sF a u e with z | ⟨z1, z2, z3⟩
  · exact .inl (ko a u z)
  · exact .inr ⟨z1, z2, ko a _ z3⟩
section
variable {P : Program} {w : World} {K : PySem.W.Frag} {mg : Str → Option Value} {base : Heap}
theorem ints_rp (F : Hp) : ∀ l : List Int, RpAll ⟨P, w, K⟩ F (l.map V.int) (l.map T.int)
  | [] => .nil
  | i :: l => .cons (.int i) (ints_rp F l)
theorem ints_fit (l : List Int) : T.fit 60 (.lst (l.map T.int)) = true := by
  simp
theorem eqTs_ints (l : List Int) : eqTs (l.map T.int) [] = l.isEmpty := by
  cases l <;> simp
theorem ok_draw (st gr ce : Addr) {f fm : Addr} {fd fdm : FuncData} (F : FD K "_law_draw" s__law_draw [] f fd) (Fm : FD K "_law_mixed" s__law_mixed [] fm fdm) (mm : mg "_law_mixed" = some (.ref fm)) (km : PySem.W.keepIn K (.ref fm) = true) (okm : FnG P w K mg base CX0 1 fm fdm ["state"] sp_mixed) (z_int : mg "int" = none) :
    FnG P w K mg base CX0 2 f fd ["state", "room"] (liftS ⟨P, w, K⟩ (famO st gr ce) sp__law_draw) := by
  refine okH F sc__law_draw (fun vs H Q E ⟨_, _, _, _, _, _, e, _, _, _, rs, ⟨a, ea, _⟩, _⟩ => by rw [e, List.length_cons, rs.length, ea]; rfl) fun cdv A outer s H vs Q E hr ⟨F0, t, c, vs', xs, Q', e, sF, ok, ht, rs, hsp, fin⟩ => ?_
  obtain ⟨_, rfl, rfl, r, rfl, r0, r1, q⟩ := hsp
  cases rs with
  | cons r1' rs' =>
  cases rs'
  cases r1'
  subst e
  have hu := hu_of hr.room
  have hu64 : (A.deeper (envOfC "_law_draw" (defScope s__law_draw) s.heap.objs.size f cdv)).units + 64 < cLine := by have := hr.room.un; omega
  have nd := sc__law_draw.nd
  obtain ⟨gs, cs, rest, k, h1, h2, h3, h6⟩ := ok.ex
  have dne : ∀ {a b : Str}, decide (a = b) = false → ¬ a = b := fun h => of_decide_eq_false h
  have hcs : ∀ {x : Addr} {l : List V}, H x = some (.lst l) → x ≠ st := fun e z => by rw [z, h1] at e; cases e
  have tail : ∃ tl, PSs (cxOf CX0 P w K mg base ["state", "room", "found"] "_law_draw" (defScope s__law_draw) f cdv A outer s H E).nox ((defBody s__law_draw).drop 1) tl ∧
      ∀ (H1 : Hp) (gs1 cs1 : List Int) (rest1 : Int) (k1 : Nat), But (ownO st gr ce) H H1 → H1 st = some (.dK (stK gr ce rest1 k1)) → H1 gr = some (.lst (gs1.map V.int)) → H1 ce = some (.lst (cs1.map V.int)) →
        k1 ≤ t + 1 → tl { nx := fun _ H' => Q .non H', rt := Q } [some (.ref st), some (.int (r : Int)), none] H1 := by
    refine ⟨_, pss_cons (ps_set (i := 2) nd rfl (Or.inl rfl) (pe_op op_mod (pe_callTy call_int1 (by rfl) z_int bt_int (pa_cons (pe_dget hu (pv 0) pe_str (fun _ _ => rfl)) pa_nil)) (pv 1)))
      (pss_cons (ps_dput hu (pv 0) pe_str (pe_op op_fdiv (pe_dget hu (pv 0) pe_str (fun _ _ => rfl)) (pv 1)) rfl)
      (pss_one (ps_ret (pv 2)))), fun H1 gs1 cs1 rest1 k1 hb g1 g2 g3 g6 => ?_⟩
    have r0' : (0 : Int) < r := by omega
    have hm0 := Int.emod_nonneg rest1 (show (r : Int) ≠ 0 by omega)
    have hm1 := Int.emod_lt_of_pos rest1 r0'
    obtain ⟨m, hm⟩ : ∃ m : Nat, rest1 % (r : Int) = m := ⟨(rest1 % (r : Int)).toNat, by omega⟩
    refine ⟨.ref st, rfl, st, _, rfl, DGet.k (k := Sum.inr "rest") g1, .inl ⟨_, rfl, ?_⟩⟩
    refine ⟨.int r, rfl, _, _, rfl, rfl, r0', ?_⟩
    refine ⟨.ref st, rfl, st, _, rfl, DGet.k (k := Sum.inr "rest") g1, .int r, rfl, _, _, rfl, rfl, ⟨r0', by omega⟩, .ref st, rfl, st, _, rfl, DPut.k (k := Sum.inr "rest") g1 (by rw [sizeLine_eq]; show 4 < 16777216; decide), ?_⟩
    have e1 : putK (stK gr ce rest1 k1) (Sum.inr "rest") (.int (rest1 / r)) = stK gr ce (rest1 / r) k1 := by
      simp [putK]
      exact ⟨dne (by decide), dne (by decide), fun z => absurd z (by decide)⟩
    rw [e1]
    refine ⟨.int (rest1 % r), rfl, ?_⟩
    have l1 : ∀ {x : Addr} {l : List V}, H1 x = some (.lst l) → upd H1 st (.dK (stK gr ce (rest1 / r) k1)) x = some (.lst l) := fun {x l} e => by
      have : x ≠ st := fun z => by rw [z, g1] at e; cases e
      rw [upd_ne this]
      exact e
    refine draw_end (M := famO st gr ce) (K := ⟨P, w, K⟩) (t' := t + 1) (y := nT m) sF fin (fun a ha o e => ?_) ⟨gs1, cs1, rest1 / r, k1, upd_same, l1 g2, l1 g3, g6⟩ (by omega) (by rw [hm]; exact .int _) (q m (by omega))
    have hs : a ≠ st := fun z => by
      rw [z] at ha
      exact absurd ha (by rw [show (famO st gr ce).own = ownO st gr ce from rfl, ownO_st]; decide)
    rw [upd_ne hs]
    exact hb a ha o e
  obtain ⟨tl, d3, q3⟩ := tail
  refine ⟨_, pss_cons (ps_if (pt_cmpR op_eq (pe_dget hu (pv 0) pe_str (fun _ _ => rfl)) pe_int (nomark _))
      (pss_one (ps_dput hu (pv 0) pe_str (pe_ifExp (pt_cmpR (op_neD hu64) (pe_dget hu (pv 0) pe_str (fun _ _ => rfl)) (pe_lst pa_nil) (nomark _)) (pe_bm PySem.F.plainAttrs_list PySem.F.slot_list_pop PySem.F.type_list_pop mt_popAt (pe_dget hu (pv 0) pe_str (fun _ _ => rfl)) (pa_cons pe_int pa_nil)) (pe_callG okm hr (by rfl) mm km (b__law_mixed Fm) .nil pass0 (pa_cons (pv 0) pa_nil) (by decide) (by rfl) (by rfl))) rfl)) pss_nil) d3, ?_⟩
  refine ⟨.ref st, rfl, st, _, rfl, DGet.k (k := Sum.inr "rest") h1, rfl, _, rfl, ?_⟩
  refine ite2 (fun e0 => ?_) (fun e0 => ?_)
  · refine ⟨.ref st, rfl, st, _, rfl, DGet.k (k := Sum.inr "great") h1, by rw [sizeLine_eq]; decide, fun p np => ?_⟩
    have keep : ∀ {x : Addr} {o o2 : HO}, H x = some o → upd H p o2 x = some o := fun {x o o2} e => by rw [upd_ne (ne_of_none e np)]; exact e
    have kbut : ∀ {o2 : HO}, But (ownO st gr ce) H (upd H p o2) := fun a _ o e => keep e
    have rg : Rp ⟨P, w, K⟩ (upd H p (.lst [])) (.ref gr) (.lst (gs.map T.int)) := .lst (keep h2) (ints_rp _ gs)
    have re : Rp ⟨P, w, K⟩ (upd H p (.lst [])) (.ref p) (.lst []) := .lst upd_same .nil
    refine ⟨_, _, rg.dp 60 (ints_fit gs), re.dp 60 (by simp), fit_shaped (ints_fit gs) (by decide), fit_shaped (n := 60) (t := .lst []) (by simp) (by decide), _, rfl, ?_⟩
    have ee : PyData.eqv (T.lst (gs.map T.int)).toD (T.lst []).toD = gs.isEmpty := by
      have := eqT_lst (gs.map T.int) []
      rw [eqTs_ints] at this
      exact this
    rw [ee]
    generalize hH1 : upd H p (.lst []) = H1 at keep kbut
    have g1 : H1 st = some (.dK (stK gr ce rest k)) := by rw [← hH1, upd_ne (ne_of_none h1 np)]; exact h1
    have g2 : H1 gr = some (.lst (gs.map V.int)) := by rw [← hH1, upd_ne (ne_of_none h2 np)]; exact h2
    have g3 : H1 ce = some (.lst (cs.map V.int)) := by rw [← hH1, upd_ne (ne_of_none h3 np)]; exact h3
    have kb : But (ownO st gr ce) H H1 := fun a _ o e => by rw [← hH1, upd_ne (ne_of_none e np)]; exact e
    have pk : ∀ (rest2 : Int) (k2 : Int), putK (stK gr ce rest k2) (Sum.inr "rest") (.int rest2) = stK gr ce rest2 k2 := fun rest2 k2 => by
      simp [putK]
      exact ⟨dne (by decide), dne (by decide), fun z => absurd z (by decide)⟩
    cases gs with
    | cons x gs =>
      refine ⟨.ref st, rfl, st, .ref gr, rfl, DGet.k (k := Sum.inr "great") g1, .inl ⟨rfl, _, .inl (.inl g2)⟩, ?_⟩
      refine ⟨gr, _, 0, 0, .int x, rfl, rfl, g2, by decide, by decide, by simp [seqIndex?], rfl, ?_⟩
      have lk : ∀ {y : Addr} {l : List Int}, H1 y = some (.lst (l.map V.int)) → ∃ l2 : List Int, upd H1 gr (.lst (gs.map V.int)) y = some (.lst (l2.map V.int)) ∧ l2.length ≤ l.length := fun {y l} e => by
        by_cases z : y = gr
        · subst z
          rw [g2] at e
          have e2 : (x :: gs).map V.int = l.map V.int := by injection e with e; injection e with e
          have e3 := congrArg List.length e2
          rw [List.length_map, List.length_map, List.length_cons] at e3
          exact ⟨gs, upd_same, by omega⟩
        · exact ⟨l, by rw [upd_ne z]; exact e, Nat.le_refl _⟩
      have sg : st ≠ gr := fun z => by rw [← z, g1] at g2; cases g2
      have f1 : upd H1 gr (.lst (gs.map V.int)) st = some (.dK (stK gr ce rest k)) := by rw [upd_ne sg]; exact g1
      obtain ⟨cs2, f3, _⟩ := lk g3
      refine ⟨.ref st, rfl, st, _, rfl, DPut.k (k := Sum.inr "rest") f1 (by rw [sizeLine_eq]; show 4 < 16777216; decide), ?_⟩
      rw [pk]
      have lk2 : ∀ {y : Addr} {l : List V}, upd H1 gr (.lst (gs.map V.int)) y = some (.lst l) → upd (upd H1 gr (.lst (gs.map V.int))) st (.dK (stK gr ce x k)) y = some (.lst l) := fun {y l} e => by
        have : y ≠ st := fun z => by rw [z, f1] at e; cases e
        rw [upd_ne this]
        exact e
      refine q3 _ gs cs2 x k (fun a ha o e => ?_) upd_same (lk2 upd_same) (lk2 f3) (by omega)
      have a1 : a ≠ st := fun z => by rw [z, ownO_st] at ha; cases ha
      have a2 : a ≠ gr := fun z => by rw [z, ownO_gr] at ha; cases ha
      rw [upd_ne a1, upd_ne a2]
      exact kb a ha o e
    | nil =>
      refine ⟨.ref st, rfl, st, gr, ce, rest, k, cs, rfl, g1, g3, by omega, by unfold turns at ht; omega, fun v H2 hb2 hs2 => ?_⟩
      refine ⟨.ref st, rfl, st, _, rfl, DPut.k (k := Sum.inr "rest") hs2 (by rw [sizeLine_eq]; show 4 < 16777216; decide), ?_⟩
      rw [pk]
      have lk2 : ∀ {y : Addr} {l : List V}, H1 y = some (.lst l) → upd H2 st (.dK (stK gr ce v (k + 1))) y = some (.lst l) := fun {y l} e => by
        have : y ≠ st := fun z => by rw [z, g1] at e; cases e
        rw [upd_ne this]
        exact hb2 y (by simpa using this) _ e
      refine q3 _ [] cs v (k + 1) (fun a ha o e => ?_) upd_same (lk2 g2) (lk2 g3) (by omega)
      have a1 : a ≠ st := fun z => by rw [z, ownO_st] at ha; cases ha
      rw [upd_ne a1]
      exact hb2 a (by simpa using a1) o (kb a ha o e)
  · exact q3 H gs cs rest k (fun a _ o e => e) h1 h2 h3 (by omega)
end
end TL
set_option Elab.async false
set_option linter.all false
set_option maxRecDepth 100000
set_option autoImplicit false
set_option maxHeartbeats 2000000
/-! D3: what draws are taken from, begun -/
namespace TL
open PySem PySem.Spec PyProof.Rows L2
abbrev s__law_begun : Stmt := topS 35
theorem sc__law_begun : FnScope ["script", "great", "cell"] ["script"] (defScope s__law_begun) := ⟨rfl, rfl, rfl, by decide +kernel, rfl, by decide +kernel, by decide +kernel⟩
theorem b__law_begun {K : PySem.W.Frag} {f : Addr} {fd : FuncData} (F : FD K "_law_begun" s__law_begun [] f fd) : Binds K fd ["script"] [] := F.bindsN fun _ _ _ _ _ _ us hl => match us, hl with | [_], _ => rfl
def sp_begun (K : PySem.W.Frag) : Sp := fun vs H Q _ => ∃ (sc : Addr) (ns : List Int), vs = [.ref sc] ∧ SqL K H sc (ns.map V.int) ∧ ns.length ≤ 63 ∧
  ∀ (H' : Hp) (st gr ce : Addr) (gs cs : List Int), Same H H' → H st = none → H gr = none → H ce = none → H' st = some (.dK (stK gr ce 0 0)) → H' gr = some (.lst (gs.map V.int)) → H' ce = some (.lst (cs.map V.int)) → Q (.ref st) H'
section
variable {P : Program} {w : World} {K : PySem.W.Frag} {mg : Str → Option Value} {base : Heap}
theorem none_of_same {H H' : Hp} {p : Addr} (h : Same H H') (n : H' p = none) : H p = none := by
  cases e : H p with
  | none => rfl
  | some o => rw [h p o e] at n; cases n
theorem same_upd' {H : Hp} {p : Addr} {o : HO} (n : H p = none) : Same H (upd H p o) := fun b x e => by
  rw [upd_ne (ne_of_none e n)]
  exact e
theorem ok_begun {f : Addr} {fd : FuncData} (F : FD K "_law_begun" s__law_begun [] f fd) (z_abs : mg "abs" = none) : FnG P w K mg base CX0 1 f fd ["script"] (sp_begun K) := by
  refine okH F sc__law_begun (fun vs H Q E ⟨_, _, e, _⟩ => by rw [e]; rfl) fun cdv A outer s H vs Q E hr ⟨sc, ns, e, hS, hl, q⟩ => ?_
  subst e
  have hu := hu_of hr.room
  have nd := sc__law_begun.nd
  refine ⟨_, pss_cons (ps_setLc (i := 1) (own := [("cell", 2)]) (g := gName 2) rfl nd rfl rfl (sw_true rfl rfl rfl (by decide +kernel)) (pi_list (pv 0)) (blkOk_by (by kernel_rfl)) (fun _ _ _ _ _ => pg_name (i := 2) nd rfl (Or.inl rfl))
      (fun _ _ _ _ _ => pts_one (pt_cmpR op_ge (pe_callB call_abs (by rfl) z_abs bt_abs (pa_cons (pv 2) pa_nil)) (pe_op op_pow pe_int pe_int) (nomark _)))
      (fun _ _ _ _ _ => pe_op op_sub (pe_callB call_abs (by rfl) z_abs bt_abs (pa_cons (pv 2) pa_nil)) (pe_op op_pow pe_int pe_int)))
    (pss_one (ps_ret (pe_disp (pps_cons pe_str (pv 1) (pps_cons pe_str (pe_lc (own := [("cell", 2)]) (g := gName 2) (tt := tYes) rfl nd (pi_list (pv 0)) (blkOk_by (by kernel_rfl)) (fun _ _ _ _ _ => pg_name (i := 2) nd rfl (Or.inl rfl)) (fun _ _ _ _ _ => pts_nil) (fun _ _ _ _ _ => pe_callB call_abs (by rfl) z_abs bt_abs (pa_cons (pv 2) pa_nil))) (pps_cons pe_str pe_int (pps_cons pe_str pe_int pps_nil)))) (by rfl) (by rfl) (fun z => by cases z) (by decide)))), ?_⟩
  refine ⟨.ref sc, rfl, sc, rfl, ⟨_, hS⟩, fun D nD => lc_list (xs := ns.map V.int) (fun i H' => ∃ gs : List Int, gs.length ≤ i ∧ Same H H' ∧ H' D = some (.lst (gs.map V.int))) ⟨[], Nat.le_refl _, (fun b x e => by rw [upd_ne (ne_of_none e nD)]; exact e), upd_same⟩ (fun i H' _ ⟨gs, _, sm, _⟩ => sm.seq hS) (fun i x H' hx ⟨gs, hg, sm, hD⟩ => ?_) (fun H' ⟨gs, hg, sm, hD⟩ => ?_)⟩
  · rw [List.getElem?_map] at hx
    obtain ⟨c, hc, rfl⟩ := Option.map_eq_some_iff.mp hx
    have hi : i < ns.length := (List.getElem?_eq_some_iff.mp hc).1
    refine ⟨rfl, .int c, rfl, c, rfl, 10, 18, rfl, rfl, ⟨by decide, by decide, by decide⟩, _, _, rfl, rfl, _, rfl, ite2 (fun e => ?_) (fun e => ?_)⟩
    · refine ⟨.int c, rfl, c, rfl, 10, 18, rfl, rfl, ⟨by decide, by decide, by decide⟩, _, _, rfl, rfl, _, hD, ?_, gs ++ [(if c < 0 then -c else c) - 10 ^ 18], ?_, ?_, ?_⟩
      · rw [List.length_map, sizeLine_eq]; omega
      · rw [List.length_append, List.length_singleton]; omega
      · intro b x e2
        have : b ≠ D := ne_of_none e2 nD
        rw [upd_ne this]
        exact sm _ _ e2
      · rw [upd_same, List.map_append]
        rfl
    · exact ⟨gs, by omega, sm, hD⟩
  · have hD0 := nD
    refine fun p np => ⟨.ref D, rfl, ?_⟩
    have s1 : Same H' (upd H' p (.dK [])) := same_upd' np
    have hp1 : upd H' p (.dK []) p = some (.dK []) := upd_same
    have hD1 : upd H' p (.dK []) D = some (.lst (gs.map V.int)) := s1 _ _ hD
    generalize upd H' p (.dK []) = H1 at s1 hp1 hD1 ⊢
    refine ⟨.ref sc, rfl, sc, rfl, ⟨_, s1.seq (sm.seq hS)⟩, fun D2 nD2 => lc_list (xs := ns.map V.int) (fun i H' => ∃ cs : List Int, cs.length ≤ i ∧ Same H1 H' ∧ H' D2 = some (.lst (cs.map V.int))) ⟨[], Nat.le_refl _, same_upd' nD2, upd_same⟩ (fun i H' _ ⟨cs, _, sm2, _⟩ => sm2.seq (s1.seq (sm.seq hS))) (fun i x H2 hx ⟨cs, hg2, sm2, hD2⟩ => ?_) (fun H2 ⟨cs, hg2, sm2, hD2⟩ => ?_)⟩
    · rw [List.getElem?_map] at hx
      obtain ⟨c, hc, rfl⟩ := Option.map_eq_some_iff.mp hx
      have hi : i < ns.length := (List.getElem?_eq_some_iff.mp hc).1
      refine ⟨rfl, .int c, rfl, c, rfl, _, hD2, ?_, cs ++ [if c < 0 then -c else c], ?_, ?_, ?_⟩
      · rw [List.length_map, sizeLine_eq]; omega
      · rw [List.length_append, List.length_singleton]; omega
      · intro b x e2
        rw [upd_ne (ne_of_none e2 nD2)]
        exact sm2 _ _ e2
      · rw [upd_same, List.map_append]
        rfl
    · refine ⟨sm2 _ _ hp1, stK D D2 0 0, rfl, by show 4 ≤ 15; decide, ?_⟩
      have e1 : mergeK [] (stK D D2 0 0) = stK D D2 0 0 := by
        have dne : ∀ {a b : Str}, decide (a = b) = false → ¬ a = b := fun h => of_decide_eq_false h
        simp [mergeK, putK, show ¬ (("great" : Str) = "cells") from dne (by decide), show ¬ (("great" : Str) = "rest") from dne (by decide), show ¬ (("great" : Str) = "turn") from dne (by decide), show ¬ (("cells" : Str) = "rest") from dne (by decide), show ¬ (("cells" : Str) = "turn") from dne (by decide), show ¬ (("rest" : Str) = "turn") from dne (by decide)]
      rw [e1]
      have nD1 : H D = none := nD
      have npH : H p = none := none_of_same sm np
      have nD2H : H D2 = none := none_of_same sm (none_of_same s1 nD2)
      have hpD : D ≠ p := ne_of_none hD np
      have hpD2 : D2 ≠ p := fun z => by rw [z, hp1] at nD2; cases nD2
      refine q _ p D D2 gs cs (fun b x e => ?_) npH nD1 nD2H upd_same ?_ ?_
      · rw [upd_ne (ne_of_none e npH)]
        exact sm2 _ _ (s1 _ _ (sm _ _ e))
      · rw [upd_ne hpD]
        exact sm2 _ _ hD1
      · rw [upd_ne hpD2]
        exact hD2
end
end TL
set_option Elab.async false
set_option linter.all false
set_option maxRecDepth 100000
set_option autoImplicit false
/-! TL23: the law's own def: what it is handed, how it starts -/
namespace TL
open PySem PySem.Spec PyProof.Rows L2
/-- the script stands, whatever is done -/
def ScrAt (K : PySem.W.Frag) (G : Fc) (sc : Addr) : Prop := ∃ xs : List V, xs.length ≤ 63 ∧ ((∀ H : Hp, SqL K H sc xs) ∨ (Rd G.H0 sc (.lst xs) ∧ G.W.own sc = false))
def lawRest (st : Stmt) : List Stmt := (defBody st).drop 1
/-- a statement at a time -/
theorem seq_abs {t u : WS} {D : ED} {ρ : List S} (h : ∀ U : List S → Prop, (∀ ρ', u D ρ' → U ρ') → t { D with nx := U } ρ) : wSeq t u D ρ := h (fun ρ' => u D ρ') fun _ h => h
section
variable {X : Cx} {G : Fc}
theorem ScrAt.now {σ : L2.St} {H : Hp} {ρ : List S} {F : Hp} {sc : Addr} (h : ScrAt X.K G sc) (R : Rel (bx X) G σ H ρ F) : ∃ xs : List V, xs.length ≤ 63 ∧ SqL X.K H sc xs := by
  obtain ⟨xs, hl, h | ⟨h, ho⟩⟩ := h
  · exact ⟨xs, hl, h H⟩
  · refine ⟨xs, hl, .inl ?_⟩
    have go : ∀ u : HO, dkO u = false → G.H0 sc = some u → H sc = some u := fun u hu e => by
      rcases R.base sc u (by rw [off_ne ho]; exact e) with z | ⟨_, z, _⟩
      · exact (off_some z).2
      · rw [hu] at z; cases z
    rcases h with h | ⟨od, h⟩
    · exact .inl (go _ rfl h)
    · exact .inr ⟨od, go _ rfl h⟩
/-- len of the script -/
def wLenScr (i : Nat) (sc : Addr) : WE := fun ρ Q => ρ[i]? = some (.d (.raw (.ref sc))) ∧ ∀ n : Nat, n ≤ 63 → Q (.v (.int (n : Int))) ρ
@[simp] theorem wLenScr_s (i : Nat) (sc : Addr) (s_ : S) (r_ : List S) (Q_ : _) : wLenScr i sc (s_ :: r_) Q_ = (fun ρ Q => ρ[i]? = some (.d (.raw (.ref sc))) ∧ ∀ n : Nat, n ≤ 63 → Q (.v (.int (n : Int))) ρ) (s_ :: r_) Q_ := rfl
theorem te_lenScr {i : Nat} {sc : Addr} {x : Str} {p px pos : Pos} (hA : ScrAt X.K G sc) (hN : X.N[i]? = some x) (hv : Vis X.env.scope x) (hg : Gl X "len") (hm : X.mg "len" = none) (hd : (x == ("__debug__" : Str)) = false := by decide) (hcd : (x == ("__classdict__" : Str)) = false := by decide)
    (hs : starEach [.Name x px] X.env = (false, eval (.Name x px) X.env) :: starEach [] X.env := by rfl) (hplain : (backTo pos (starEach [] X.env)).any (·.1) = false := by rfl) :
    PE X (.Call (.Name "len" p) [.Name x px] [] pos) (LE (bx X) G (wLenScr i sc)) := by
  refine PE.wk (pe_callB call_len_seq hg hm PySem.boot_len (pa_cons (pe_var hN hv hd hcd) pa_nil)) fun σ H Q ⟨ρ, F, Q', R, ⟨es, ht⟩, k⟩ => ?_
  obtain ⟨v, e1, rv⟩ := R.slot i _ es
  have e2 : v = .ref sc := by cases rv; rfl
  subst e2
  obtain ⟨xs, hl, hS⟩ := hA.now R
  exact ⟨.ref sc, e1, sc, xs, rfl, .inl hS, k _ H ρ F (.v (.int (xs.length : Int))) R Sub.refl (.int _) (ht xs.length hl)⟩
end
end TL
set_option Elab.async false
set_option linter.all false
set_option maxRecDepth 100000
set_option autoImplicit false
/-! TL24: the readings worked out from the outside in -/
namespace TL
open PySem PySem.Spec PyProof.Rows L2
@[simp ↓] theorem wC_p (t : T) (s_ : S) (r_ : List S) (Q_ : _) : wC t (s_ :: r_) Q_ = (fun ρ Q => Q (.v t) ρ) (s_ :: r_) Q_ := rfl
@[simp ↓] theorem wNil_p (s_ : S) (r_ : List S) (Q_ : _) : wNil (s_ :: r_) Q_ = (fun ρ Q => Q [] ρ) (s_ :: r_) Q_ := rfl
@[simp ↓] theorem wCons_p (t : WE) (u : WA) (s_ : S) (r_ : List S) (Q_ : _) : wCons t u (s_ :: r_) Q_ = (fun ρ Q => t ρ fun r ρ1 => frz r ρ1 fun x ρ2 => u ρ2 fun xs ρ3 => Q (x :: xs) ρ3) (s_ :: r_) Q_ := rfl
@[simp ↓] theorem wNilR_p (s_ : S) (r_ : List S) (Q_ : _) : wNilR (s_ :: r_) Q_ = (fun ρ Q => Q [] ρ) (s_ :: r_) Q_ := rfl
@[simp ↓] theorem wConsR_p (t : WE) (u : WR) (s_ : S) (r_ : List S) (Q_ : _) : wConsR t u (s_ :: r_) Q_ = (fun ρ Q => t ρ fun r ρ1 => u ρ1 fun rs ρ2 => Q (r :: rs) ρ2) (s_ :: r_) Q_ := rfl
@[simp ↓] theorem wTup_p (t : WA) (s_ : S) (r_ : List S) (Q_ : _) : wTup t (s_ :: r_) Q_ = (fun ρ Q => t ρ fun xs ρ1 => xs.length ≤ sizeLine ∧ Q (.v (.tup xs)) ρ1) (s_ :: r_) Q_ := rfl
@[simp ↓] theorem wLst_p (t : WA) (s_ : S) (r_ : List S) (Q_ : _) : wLst t (s_ :: r_) Q_ = (fun ρ Q => t ρ fun xs ρ1 => xs.length ≤ sizeLine ∧ Q (.v (.lst xs)) ρ1) (s_ :: r_) Q_ := rfl
@[simp ↓] theorem wOp_p (o : WOp) (ta tb : WE) (s_ : S) (r_ : List S) (Q_ : _) : wOp o ta tb (s_ :: r_) Q_ = (fun ρ Q => ta ρ fun r ρ1 => tb ρ1 fun q ρ2 => ∃ x y, res ρ2 r = some x ∧ res ρ2 q = some y ∧ o x y fun z => Q (.v z) ρ2) (s_ :: r_) Q_ := rfl
@[simp ↓] theorem wB_p (t : WE) (s_ : S) (r_ : List S) (Q_ : _) : wB t (s_ :: r_) Q_ = (fun ρ Q => t ρ fun r ρ1 => ∃ b, res ρ1 r = some (.bl b) ∧ Q b ρ1) (s_ :: r_) Q_ := rfl
@[simp ↓] theorem wAndT_p (t u : WT) (s_ : S) (r_ : List S) (Q_ : _) : wAndT t u (s_ :: r_) Q_ = (fun ρ Q => t ρ fun b ρ1 => if b = true then u ρ1 Q else Q false ρ1) (s_ :: r_) Q_ := rfl
@[simp ↓] theorem wOrT_p (t u : WT) (s_ : S) (r_ : List S) (Q_ : _) : wOrT t u (s_ :: r_) Q_ = (fun ρ Q => t ρ fun b ρ1 => if b = true then Q true ρ1 else u ρ1 Q) (s_ :: r_) Q_ := rfl
@[simp ↓] theorem wNotT_p (t : WT) (s_ : S) (r_ : List S) (Q_ : _) : wNotT t (s_ :: r_) Q_ = (fun ρ Q => t ρ fun b ρ1 => Q (!b) ρ1) (s_ :: r_) Q_ := rfl
@[simp ↓] theorem wAndV_p (ta tb : WE) (s_ : S) (r_ : List S) (Q_ : _) : wAndV ta tb (s_ :: r_) Q_ = (fun ρ Q => ta ρ fun r ρ1 => ∃ b, res ρ1 r = some (.bl b) ∧ if b = true then tb ρ1 Q else Q (.v (.bl false)) ρ1) (s_ :: r_) Q_ := rfl
@[simp ↓] theorem wOrV_p (ta tb : WE) (s_ : S) (r_ : List S) (Q_ : _) : wOrV ta tb (s_ :: r_) Q_ = (fun ρ Q => ta ρ fun r ρ1 => ∃ b, res ρ1 r = some (.bl b) ∧ if b = true then Q (.v (.bl true)) ρ1 else tb ρ1 Q) (s_ :: r_) Q_ := rfl
@[simp ↓] theorem wNotV_p (ta : WE) (s_ : S) (r_ : List S) (Q_ : _) : wNotV ta (s_ :: r_) Q_ = (fun ρ Q => ta ρ fun r ρ1 => ∃ b, res ρ1 r = some (.bl b) ∧ Q (.v (.bl (!b))) ρ1) (s_ :: r_) Q_ := rfl
@[simp ↓] theorem wIf_p (t : WT) (ta tb : WE) (s_ : S) (r_ : List S) (Q_ : _) : wIf t ta tb (s_ :: r_) Q_ = (fun ρ Q => t ρ fun b ρ1 => if b = true then ta ρ1 Q else tb ρ1 Q) (s_ :: r_) Q_ := rfl
@[simp ↓] theorem wNeg_p (ta : WE) (s_ : S) (r_ : List S) (Q_ : _) : wNeg ta (s_ :: r_) Q_ = (fun ρ Q => ta ρ fun r ρ1 => ∃ i, res ρ1 r = some (.int i) ∧ Q (.v (.int (-i))) ρ1) (s_ :: r_) Q_ := rfl
@[simp ↓] theorem wChain_p (o o' : WOp) (ta tb tc : WE) (s_ : S) (r_ : List S) (Q_ : _) : wChain o o' ta tb tc (s_ :: r_) Q_ = (fun ρ Q => ta ρ fun r ρ1 => tb ρ1 fun q ρ2 => ∃ x y, res ρ2 r = some x ∧ res ρ2 q = some y ∧ o x y fun z => ∃ b, z = .bl b ∧
  if b = true then tc ρ2 fun p ρ3 => ∃ y' z, res ρ3 q = some y' ∧ res ρ3 p = some z ∧ o' y' z fun z => Q (.v z) ρ3 else Q (.v (.bl false)) ρ2) (s_ :: r_) Q_ := rfl
@[simp ↓] theorem wPart0_p (s_ : S) (r_ : List S) (Q_ : _) : wPart0 (s_ :: r_) Q_ = (fun ρ Q => Q none ρ) (s_ :: r_) Q_ := rfl
@[simp ↓] theorem wPart_p (t : WE) (s_ : S) (r_ : List S) (Q_ : _) : wPart t (s_ :: r_) Q_ = (fun ρ Q => t ρ fun r ρ1 => ∃ i, res ρ1 r = some (.int i) ∧ Q (some i) ρ1) (s_ :: r_) Q_ := rfl
@[simp ↓] theorem wSl_p (te : WE) (tl th : WO) (s_ : S) (r_ : List S) (Q_ : _) : wSl te tl th (s_ :: r_) Q_ = (fun ρ Q => te ρ fun r ρ1 => tl ρ1 fun lo ρ2 => th ρ2 fun hi ρ3 => ∃ x, res ρ3 r = some x ∧ oSl x lo hi fun z => Q (.v z) ρ3) (s_ :: r_) Q_ := rfl
@[simp ↓] theorem wApp_p (i : Nat) (t : WA) (s_ : S) (r_ : List S) (Q_ : _) : wApp i t (s_ :: r_) Q_ = (fun ρ Q => (∃ xs, ρ[i]? = some (.ol xs)) ∧ t ρ fun ys ρ1 => match ys, ρ1[i]? with
  | [y], some (.ol xs) => xs.length < sizeLine ∧ Q (.v .non) (ρ1.set i (.ol (xs ++ [y])))
  | _, _ => False) (s_ :: r_) Q_ := rfl
@[simp ↓] theorem wFz_p (t : WN) (s_ : S) (r_ : List S) (Q_ : _) : wFz t (s_ :: r_) Q_ = (fun ρ Q => t ρ fun s ρ1 => Q (.v (treeS s)) ρ1) (s_ :: r_) Q_ := rfl
@[simp ↓] theorem wLstN_p (t : WA) (s_ : S) (r_ : List S) (Q_ : _) : wLstN t (s_ :: r_) Q_ = (fun ρ Q => t ρ fun xs ρ1 => xs.length ≤ sizeLine ∧ Q (.ol xs) ρ1) (s_ :: r_) Q_ := rfl
@[simp ↓] theorem wOpN_p (o : T → T → (List T → Prop) → Prop) (ta tb : WE) (s_ : S) (r_ : List S) (Q_ : _) : wOpN o ta tb (s_ :: r_) Q_ = (fun ρ Q => ta ρ fun r ρ1 => tb ρ1 fun q ρ2 => ∃ x y, res ρ2 r = some x ∧ res ρ2 q = some y ∧ o x y fun z => Q (.ol z) ρ2) (s_ :: r_) Q_ := rfl
@[simp ↓] theorem wNext_p (D_ : ED) (s_ : S) (r_ : List S) : wNext D_ (s_ :: r_) = (fun D ρ => D.nx ρ) D_ (s_ :: r_) := rfl
@[simp ↓] theorem wSeq_p (t u : WS) (D_ : ED) (s_ : S) (r_ : List S) : wSeq t u D_ (s_ :: r_) = (fun D ρ => t { D with nx := fun ρ' => u D ρ' } ρ) D_ (s_ :: r_) := rfl
@[simp ↓] theorem wBrk_p (D_ : ED) (s_ : S) (r_ : List S) : wBrk D_ (s_ :: r_) = (fun D ρ => D.bk ρ) D_ (s_ :: r_) := rfl
@[simp ↓] theorem wCnt_p (D_ : ED) (s_ : S) (r_ : List S) : wCnt D_ (s_ :: r_) = (fun D ρ => D.ct ρ) D_ (s_ :: r_) := rfl
@[simp ↓] theorem wNever_p (D_ : ED) (s_ : S) (r_ : List S) : wNever D_ (s_ :: r_) = (fun _ _ => False) D_ (s_ :: r_) := rfl
@[simp ↓] theorem wDrop_p (t : WE) (D_ : ED) (s_ : S) (r_ : List S) : wDrop t D_ (s_ :: r_) = (fun D ρ => t ρ fun _ ρ1 => D.nx ρ1) D_ (s_ :: r_) := rfl
@[simp ↓] theorem wRet_p (t : WE) (D_ : ED) (s_ : S) (r_ : List S) : wRet t D_ (s_ :: r_) = (fun D ρ => t ρ fun r ρ1 => frz r ρ1 fun x _ => D.rt x) D_ (s_ :: r_) := rfl
@[simp ↓] theorem wRetN_p (D_ : ED) (s_ : S) (r_ : List S) : wRetN D_ (s_ :: r_) = (fun D _ => D.rt .non) D_ (s_ :: r_) := rfl
@[simp ↓] theorem wIfS_p (c : WT) (t u : WS) (D_ : ED) (s_ : S) (r_ : List S) : wIfS c t u D_ (s_ :: r_) = (fun D ρ => c ρ fun b ρ1 => if b = true then t D ρ1 else u D ρ1) D_ (s_ :: r_) := rfl
@[simp ↓] theorem wSet_p (i : Nat) (t : WE) (D_ : ED) (s_ : S) (r_ : List S) : wSet i t D_ (s_ :: r_) = (fun D ρ => t ρ fun r ρ1 => frz r ρ1 fun x ρ2 => D.nx (ρ2.set i (.d x))) D_ (s_ :: r_) := rfl
@[simp ↓] theorem wSetN_p (i : Nat) (t : WN) (D_ : ED) (s_ : S) (r_ : List S) : wSetN i t D_ (s_ :: r_) = (fun D ρ => t ρ fun s ρ1 => D.nx (ρ1.set i s)) D_ (s_ :: r_) := rfl
@[simp ↓] theorem gSet_p (i : Nat) (t_ : T) (s_ : S) (r_ : List S) (Q_ : List S → Prop) : gSet i t_ (s_ :: r_) Q_ = (fun t ρ Q => Q (ρ.set i (.d t))) t_ (s_ :: r_) Q_ := rfl
@[simp ↓] theorem gNilT_p (t_ : List T) (s_ : S) (r_ : List S) (Q_ : List S → Prop) : gNilT t_ (s_ :: r_) Q_ = (fun ts ρ Q => match ts with
  | [] => Q ρ
  | _ => False) t_ (s_ :: r_) Q_ := rfl
@[simp ↓] theorem gConsT_p (g : WG) (u : WGs) (t_ : List T) (s_ : S) (r_ : List S) (Q_ : List S → Prop) : gConsT g u t_ (s_ :: r_) Q_ = (fun ts ρ Q => match ts with
  | t :: r => g t ρ fun ρ1 => u r ρ1 Q
  | [] => False) t_ (s_ :: r_) Q_ := rfl
@[simp ↓] theorem gTupT_p (n : Nat) (u : WGs) (t_ : T) (s_ : S) (r_ : List S) (Q_ : List S → Prop) : gTupT n u t_ (s_ :: r_) Q_ = (fun t ρ Q => match t with
  | .tup xs => xs.length = n ∧ u xs ρ Q
  | _ => False) t_ (s_ :: r_) Q_ := rfl
@[simp ↓] theorem gLstT_p (n : Nat) (u : WGs) (t_ : T) (s_ : S) (r_ : List S) (Q_ : List S → Prop) : gLstT n u t_ (s_ :: r_) Q_ = (fun t ρ Q => match t with
  | .tup xs => xs.length = n ∧ u xs ρ Q
  | .lst xs => xs.length = n ∧ u xs ρ Q
  | _ => False) t_ (s_ :: r_) Q_ := rfl
@[simp ↓] theorem wAsg_p (t : WE) (g : WG) (D_ : ED) (s_ : S) (r_ : List S) : wAsg t g D_ (s_ :: r_) = (fun D ρ => t ρ fun r ρ1 => frz r ρ1 fun x ρ2 => g x ρ2 D.nx) D_ (s_ :: r_) := rfl
@[simp ↓] theorem wPar_p (i j : Nat) (t : WA) (D_ : ED) (s_ : S) (r_ : List S) : wPar i j t D_ (s_ :: r_) = (fun D ρ => t ρ fun xs ρ1 => match xs with
  | [x, y] => D.nx ((ρ1.set i (.d x)).set j (.d y))
  | _ => False) D_ (s_ :: r_) := rfl
@[simp ↓] theorem wSq_p (t : WE) (s_ : S) (r_ : List S) (Q_ : _) : wSq t (s_ :: r_) Q_ = (fun ρ Q => t ρ fun r ρ1 => frz r ρ1 fun x ρ2 => ∃ L, iterT x = some L ∧ Q L ρ2) (s_ :: r_) Q_ := rfl
@[simp ↓] theorem wRng1_p (t : WA) (s_ : S) (r_ : List S) (Q_ : _) : wRng1 t (s_ :: r_) Q_ = (fun ρ Q => t ρ fun xs ρ1 => match xs with
  | [.int j] => (-(2 ^ 62) ≤ j ∧ j < 2 ^ 62) ∧ Q (rangeTs 0 j.toNat) ρ1
  | _ => False) (s_ :: r_) Q_ := rfl
@[simp ↓] theorem wRng2_p (t : WA) (s_ : S) (r_ : List S) (Q_ : _) : wRng2 t (s_ :: r_) Q_ = (fun ρ Q => t ρ fun xs ρ1 => match xs with
  | [.int i, .int j] => (-(2 ^ 62) ≤ i ∧ i < 2 ^ 62 ∧ -(2 ^ 62) ≤ j ∧ j < 2 ^ 62) ∧ Q (rangeTs i (j - i).toNat) ρ1
  | _ => False) (s_ :: r_) Q_ := rfl
@[simp ↓] theorem wEnum_p (t : WA) (s_ : S) (r_ : List S) (Q_ : _) : wEnum t (s_ :: r_) Q_ = (fun ρ Q => t ρ fun xs ρ1 => match xs with
  | [x] => ∃ ys, seqT x = some ys ∧ Q (enumTs ys) ρ1
  | _ => False) (s_ :: r_) Q_ := rfl
@[simp ↓] theorem wZip_p (t : WA) (s_ : S) (r_ : List S) (Q_ : _) : wZip t (s_ :: r_) Q_ = (fun ρ Q => t ρ fun xs ρ1 => match xs with
  | [x, y] => ∃ ys zs, seqT x = some ys ∧ seqT y = some zs ∧ Q (zipTs ys zs) ρ1
  | _ => False) (s_ :: r_) Q_ := rfl
@[simp ↓] theorem wYes_p (s_ : S) (r_ : List S) (Q_ : _) : wYes (s_ :: r_) Q_ = (fun ρ Q => Q true ρ) (s_ :: r_) Q_ := rfl
@[simp ↓] theorem wSetZ_p (i : Nat) (t : WN) (D_ : ED) (s_ : S) (r_ : List S) : wSetZ i t D_ (s_ :: r_) = (fun D ρ => t ρ fun s ρ1 => D.nx (ρ1.set i (.d (treeS s)))) D_ (s_ :: r_) := rfl
@[simp ↓] theorem wCall_p (sp : TSp) (t : WA) (s_ : S) (r_ : List S) (Q_ : _) : wCall sp t (s_ :: r_) Q_ = (fun ρ Q => t ρ fun xs ρ1 => sp xs fun y => Q (.v y) ρ1) (s_ :: r_) Q_ := rfl
@[simp ↓] theorem wCB_p (o : WC) (t : WR) (s_ : S) (r_ : List S) (Q_ : _) : wCB o t (s_ :: r_) Q_ = (fun ρ Q => t ρ fun rs ρ1 => ∃ xs, ress ρ1 rs = some xs ∧ o xs fun z => Q (.v z) ρ1) (s_ :: r_) Q_ := rfl
@[simp ↓] theorem wCBN_p (o : WCN) (t : WR) (s_ : S) (r_ : List S) (Q_ : _) : wCBN o t (s_ :: r_) Q_ = (fun ρ Q => t ρ fun rs ρ1 => ∃ xs, ress ρ1 rs = some xs ∧ o xs fun z => Q (.ol z) ρ1) (s_ :: r_) Q_ := rfl
@[simp ↓] theorem wRg1_p (t : WE) (s_ : S) (r_ : List S) (Q_ : _) : wRg1 t (s_ :: r_) Q_ = (fun ρ Q => t ρ fun r ρ1 => ∃ n, res ρ1 r = some (.int n) ∧ Q 0 n ρ1) (s_ :: r_) Q_ := rfl
@[simp ↓] theorem wRg2_p (t u : WE) (s_ : S) (r_ : List S) (Q_ : _) : wRg2 t u (s_ :: r_) Q_ = (fun ρ Q => t ρ fun r ρ1 => u ρ1 fun r2 ρ2 => ∃ i j, res ρ2 r = some (.int i) ∧ res ρ2 r2 = some (.int j) ∧ Q i j ρ2) (s_ :: r_) Q_ := rfl
@[simp ↓] theorem wLrg_p (t : WRg) (s_ : S) (r_ : List S) (Q_ : _) : wLrg t (s_ :: r_) Q_ = (fun ρ Q => t ρ fun a b ρ1 => RgOk a b ∧ Q (.ol (rangeTs a (b - a).toNat)) ρ1) (s_ :: r_) Q_ := rfl
@[simp ↓] theorem wTrg_p (t : WRg) (s_ : S) (r_ : List S) (Q_ : _) : wTrg t (s_ :: r_) Q_ = (fun ρ Q => t ρ fun a b ρ1 => RgOk a b ∧ Q (.v (.tup (rangeTs a (b - a).toNat))) ρ1) (s_ :: r_) Q_ := rfl
@[simp ↓] theorem wCall0_p (sp : TSp) (s_ : S) (r_ : List S) (Q_ : _) : wCall0 sp (s_ :: r_) Q_ = (fun ρ Q => sp [] fun y => Q (.v y) ρ) (s_ :: r_) Q_ := rfl
@[simp ↓] theorem wCallK_p (n m : Nat) (gT : List T → List T → List T) (sp : TSp) (t tk : WA) (s_ : S) (r_ : List S) (Q_ : _) : wCallK n m gT sp t tk (s_ :: r_) Q_ = (fun ρ Q => t ρ fun xs ρ1 => tk ρ1 fun ys ρ2 => xs.length = n ∧ ys.length = m ∧ sp (gT xs ys) fun y => Q (.v y) ρ2) (s_ :: r_) Q_ := rfl
@[simp ↓] theorem wChain3_p (o o' o2 : WOp) (ta tb tc td : WE) (s_ : S) (r_ : List S) (Q_ : _) : wChain3 o o' o2 ta tb tc td (s_ :: r_) Q_ = (fun ρ Q => ta ρ fun r ρ1 => tb ρ1 fun q ρ2 => ∃ x y, res ρ2 r = some x ∧ res ρ2 q = some y ∧ o x y fun z => ∃ b, z = .bl b ∧
  if b = true then tc ρ2 fun p ρ3 => ∃ y' z, res ρ3 q = some y' ∧ res ρ3 p = some z ∧ o' y' z fun z => ∃ b, z = .bl b ∧
    if b = true then td ρ3 fun l ρ4 => ∃ z' u, res ρ4 p = some z' ∧ res ρ4 l = some u ∧ o2 z' u fun z => Q (.v z) ρ4 else Q (.v (.bl false)) ρ3
  else Q (.v (.bl false)) ρ2) (s_ :: r_) Q_ := rfl
@[simp ↓] theorem wMeth_p (ty : String) (o : WM) (te : WE) (ta : WR) (s_ : S) (r_ : List S) (Q_ : _) : wMeth ty o te ta (s_ :: r_) Q_ = (fun ρ Q => te ρ fun r ρ1 => (∃ x, res ρ1 r = some x ∧ tyT ty x = true) ∧ ta ρ1 fun rs ρ2 => ∃ x xs, res ρ2 r = some x ∧ ress ρ2 rs = some xs ∧ o x xs fun z => Q (.v z) ρ2) (s_ :: r_) Q_ := rfl
@[simp ↓] theorem wEi_p (t u : WE) (s_ : S) (r_ : List S) (Q_ : _) : wEi t u (s_ :: r_) Q_ = (fun ρ Q => t ρ Q ∨ u ρ Q) (s_ :: r_) Q_ := rfl
@[simp ↓] theorem wIndex_p (te : WE) (ta : WR) (s_ : S) (r_ : List S) (Q_ : _) : wIndex te ta (s_ :: r_) Q_ = (wEi (wMeth "list" oIndexL te ta) (wMeth "tuple" oIndexT te ta)) (s_ :: r_) Q_ := rfl
@[simp ↓] theorem wMethA_p (ty : String) (o : WM) (te : WE) (ta : WA) (s_ : S) (r_ : List S) (Q_ : _) : wMethA ty o te ta (s_ :: r_) Q_ = (fun ρ Q => te ρ fun r ρ1 => (∃ x, res ρ1 r = some x ∧ tyT ty x = true) ∧ ta ρ1 fun xs ρ2 => ∃ x, res ρ2 r = some x ∧ o x xs fun z => Q (.v z) ρ2) (s_ :: r_) Q_ := rfl
@[simp ↓] theorem wRev_p (te : WE) (s_ : S) (r_ : List S) (Q_ : _) : wRev te (s_ :: r_) Q_ = (fun ρ Q => te ρ fun r ρ1 => ∃ xs, res ρ1 r = some (.lst xs) ∧ Q (.v (.lst xs.reverse)) ρ1) (s_ :: r_) Q_ := rfl
@[simp ↓] theorem wPut_p (i : Nat) (tk te : WE) (D_ : ED) (s_ : S) (r_ : List S) : wPut i tk te D_ (s_ :: r_) = (fun D ρ => te ρ fun r ρ1 => frz r ρ1 fun v ρ2 => (∃ s, ρ2[i]? = some s ∧ s.isOwn = true) ∧ tk ρ2 fun rk ρ3 => frz rk ρ3 fun kx ρ4 => match ρ4[i]? with
  | some (.od m kvs) => keyB m kx = true ∧ kvs.length < sizeLine ∧ D.nx (ρ4.set i (.od m (putT kvs kx v)))
  | some (.ol xs) => ∃ (n : Int) (j : Nat), kx = .int n ∧ ixN xs.length n = some j ∧ D.nx (ρ4.set i (.ol (xs.set j v)))
  | _ => False) D_ (s_ :: r_) := rfl
@[simp ↓] theorem wPNil_p (s_ : S) (r_ : List S) (Q_ : _) : wPNil (s_ :: r_) Q_ = (fun ρ Q => Q [] ρ) (s_ :: r_) Q_ := rfl
@[simp ↓] theorem wPCons_p (tk tv : WE) (u : WPs) (s_ : S) (r_ : List S) (Q_ : _) : wPCons tk tv u (s_ :: r_) Q_ = (fun ρ Q => tk ρ fun rk ρ1 => frz rk ρ1 fun x ρ2 => tv ρ2 fun rv ρ3 => frz rv ρ3 fun y ρ4 => u ρ4 fun xs ρ5 => Q ((x, y) :: xs) ρ5) (s_ :: r_) Q_ := rfl
@[simp ↓] theorem wDisp_p (t : WPs) (s_ : S) (r_ : List S) (Q_ : _) : wDisp t (s_ :: r_) Q_ = (fun ρ Q => t ρ fun xs ρ1 => ∃ m, (xs.all fun p => keyB m p.1) = true ∧ xs.length ≤ 15 ∧ Q (.od m (putsT [] xs)) ρ1) (s_ :: r_) Q_ := rfl
@[simp ↓] theorem wNi_p (t u : WN) (s_ : S) (r_ : List S) (Q_ : _) : wNi t u (s_ :: r_) Q_ = (fun ρ Q => t ρ Q ∨ u ρ Q) (s_ :: r_) Q_ := rfl
@[simp ↓] theorem wDicE_p (s_ : S) (r_ : List S) (Q_ : _) : wDicE (s_ :: r_) Q_ = (fun ρ Q => ∃ m, Q (.od m []) ρ) (s_ :: r_) Q_ := rfl
@[simp ↓] theorem wAug_p (i : Nat) (o : WOp) (te : WE) (D_ : ED) (s_ : S) (r_ : List S) : wAug i o te D_ (s_ :: r_) = (fun D ρ => ∃ x, ρ[i]? = some (.d x) ∧ te ρ fun r ρ1 => ∃ y, res ρ1 r = some y ∧ o x y fun z => D.nx (ρ1.set i (.d z))) D_ (s_ :: r_) := rfl
@[simp ↓] theorem wDispE_p (t : WPs) (s_ : S) (r_ : List S) (Q_ : _) : wDispE t (s_ :: r_) Q_ = (fun ρ Q => ∃ m, t ρ fun xs ρ1 => (xs.all fun p => keyB m p.1) = true ∧ xs.length ≤ 15 ∧ Q (.od m (putsT [] xs)) ρ1) (s_ :: r_) Q_ := rfl
@[simp ↓] theorem wSt_p (i : Nat) (sa : Addr) (s_ : S) (r_ : List S) (Q_ : _) : wSt i sa (s_ :: r_) Q_ = (fun ρ Q => (∃ k, ρ[i]? = some (.gh k)) ∧ Q (.v (.raw (.ref sa))) ρ) (s_ :: r_) Q_ := rfl
@[simp ↓] theorem wCallS_p (i : Nat) (sa : Addr) (sp : SSp) (t : WA) (s_ : S) (r_ : List S) (Q_ : _) : wCallS i sa sp t (s_ :: r_) Q_ = (fun ρ Q => t ρ fun xs ρ1 => ∃ k c ys, xs = .raw (.ref sa) :: ys ∧ ρ1[i]? = some (.gh k) ∧ c ≤ k ∧ sp c ys fun y => Q (.v y) ((ρ1.map dropG).set i (.gh (k - c)))) (s_ :: r_) Q_ := rfl
@[simp ↓] theorem wLenScr_p (i : Nat) (sc : Addr) (s_ : S) (r_ : List S) (Q_ : _) : wLenScr i sc (s_ :: r_) Q_ = (fun ρ Q => ρ[i]? = some (.d (.raw (.ref sc))) ∧ ∀ n : Nat, n ≤ 63 → Q (.v (.int (n : Int))) ρ) (s_ :: r_) Q_ := rfl
@[simp ↓] theorem wVar_d0 (t : T) (r_ : List S) (Q_ : R → List S → Prop) : wVar 0 (.d t :: r_) Q_ = Q_ (.v t) (.d t :: r_) := rfl
@[simp ↓] theorem wVar_ol0 (t : List T) (r_ : List S) (Q_ : R → List S → Prop) : wVar 0 (.ol t :: r_) Q_ = Q_ (.loc 0) (.ol t :: r_) := rfl
@[simp ↓] theorem wVar_od0 (m : DK) (t : List (T × T)) (r_ : List S) (Q_ : R → List S → Prop) : wVar 0 (.od m t :: r_) Q_ = Q_ (.loc 0) (.od m t :: r_) := rfl
@[simp ↓] theorem wVar_d1 (s0 : S) (t : T) (r_ : List S) (Q_ : R → List S → Prop) : wVar 1 (s0 :: .d t :: r_) Q_ = Q_ (.v t) (s0 :: .d t :: r_) := rfl
@[simp ↓] theorem wVar_ol1 (s0 : S) (t : List T) (r_ : List S) (Q_ : R → List S → Prop) : wVar 1 (s0 :: .ol t :: r_) Q_ = Q_ (.loc 1) (s0 :: .ol t :: r_) := rfl
@[simp ↓] theorem wVar_od1 (s0 : S) (m : DK) (t : List (T × T)) (r_ : List S) (Q_ : R → List S → Prop) : wVar 1 (s0 :: .od m t :: r_) Q_ = Q_ (.loc 1) (s0 :: .od m t :: r_) := rfl
@[simp ↓] theorem wVar_d2 (s0 s1 : S) (t : T) (r_ : List S) (Q_ : R → List S → Prop) : wVar 2 (s0 :: s1 :: .d t :: r_) Q_ = Q_ (.v t) (s0 :: s1 :: .d t :: r_) := rfl
@[simp ↓] theorem wVar_ol2 (s0 s1 : S) (t : List T) (r_ : List S) (Q_ : R → List S → Prop) : wVar 2 (s0 :: s1 :: .ol t :: r_) Q_ = Q_ (.loc 2) (s0 :: s1 :: .ol t :: r_) := rfl
@[simp ↓] theorem wVar_od2 (s0 s1 : S) (m : DK) (t : List (T × T)) (r_ : List S) (Q_ : R → List S → Prop) : wVar 2 (s0 :: s1 :: .od m t :: r_) Q_ = Q_ (.loc 2) (s0 :: s1 :: .od m t :: r_) := rfl
@[simp ↓] theorem wVar_d3 (s0 s1 s2 : S) (t : T) (r_ : List S) (Q_ : R → List S → Prop) : wVar 3 (s0 :: s1 :: s2 :: .d t :: r_) Q_ = Q_ (.v t) (s0 :: s1 :: s2 :: .d t :: r_) := rfl
@[simp ↓] theorem wVar_ol3 (s0 s1 s2 : S) (t : List T) (r_ : List S) (Q_ : R → List S → Prop) : wVar 3 (s0 :: s1 :: s2 :: .ol t :: r_) Q_ = Q_ (.loc 3) (s0 :: s1 :: s2 :: .ol t :: r_) := rfl
@[simp ↓] theorem wVar_od3 (s0 s1 s2 : S) (m : DK) (t : List (T × T)) (r_ : List S) (Q_ : R → List S → Prop) : wVar 3 (s0 :: s1 :: s2 :: .od m t :: r_) Q_ = Q_ (.loc 3) (s0 :: s1 :: s2 :: .od m t :: r_) := rfl
@[simp ↓] theorem wVar_d4 (s0 s1 s2 s3 : S) (t : T) (r_ : List S) (Q_ : R → List S → Prop) : wVar 4 (s0 :: s1 :: s2 :: s3 :: .d t :: r_) Q_ = Q_ (.v t) (s0 :: s1 :: s2 :: s3 :: .d t :: r_) := rfl
@[simp ↓] theorem wVar_ol4 (s0 s1 s2 s3 : S) (t : List T) (r_ : List S) (Q_ : R → List S → Prop) : wVar 4 (s0 :: s1 :: s2 :: s3 :: .ol t :: r_) Q_ = Q_ (.loc 4) (s0 :: s1 :: s2 :: s3 :: .ol t :: r_) := rfl
@[simp ↓] theorem wVar_od4 (s0 s1 s2 s3 : S) (m : DK) (t : List (T × T)) (r_ : List S) (Q_ : R → List S → Prop) : wVar 4 (s0 :: s1 :: s2 :: s3 :: .od m t :: r_) Q_ = Q_ (.loc 4) (s0 :: s1 :: s2 :: s3 :: .od m t :: r_) := rfl
@[simp ↓] theorem wVar_d5 (s0 s1 s2 s3 s4 : S) (t : T) (r_ : List S) (Q_ : R → List S → Prop) : wVar 5 (s0 :: s1 :: s2 :: s3 :: s4 :: .d t :: r_) Q_ = Q_ (.v t) (s0 :: s1 :: s2 :: s3 :: s4 :: .d t :: r_) := rfl
@[simp ↓] theorem wVar_ol5 (s0 s1 s2 s3 s4 : S) (t : List T) (r_ : List S) (Q_ : R → List S → Prop) : wVar 5 (s0 :: s1 :: s2 :: s3 :: s4 :: .ol t :: r_) Q_ = Q_ (.loc 5) (s0 :: s1 :: s2 :: s3 :: s4 :: .ol t :: r_) := rfl
@[simp ↓] theorem wVar_od5 (s0 s1 s2 s3 s4 : S) (m : DK) (t : List (T × T)) (r_ : List S) (Q_ : R → List S → Prop) : wVar 5 (s0 :: s1 :: s2 :: s3 :: s4 :: .od m t :: r_) Q_ = Q_ (.loc 5) (s0 :: s1 :: s2 :: s3 :: s4 :: .od m t :: r_) := rfl
@[simp ↓] theorem wVar_d6 (s0 s1 s2 s3 s4 s5 : S) (t : T) (r_ : List S) (Q_ : R → List S → Prop) : wVar 6 (s0 :: s1 :: s2 :: s3 :: s4 :: s5 :: .d t :: r_) Q_ = Q_ (.v t) (s0 :: s1 :: s2 :: s3 :: s4 :: s5 :: .d t :: r_) := rfl
@[simp ↓] theorem wVar_ol6 (s0 s1 s2 s3 s4 s5 : S) (t : List T) (r_ : List S) (Q_ : R → List S → Prop) : wVar 6 (s0 :: s1 :: s2 :: s3 :: s4 :: s5 :: .ol t :: r_) Q_ = Q_ (.loc 6) (s0 :: s1 :: s2 :: s3 :: s4 :: s5 :: .ol t :: r_) := rfl
@[simp ↓] theorem wVar_od6 (s0 s1 s2 s3 s4 s5 : S) (m : DK) (t : List (T × T)) (r_ : List S) (Q_ : R → List S → Prop) : wVar 6 (s0 :: s1 :: s2 :: s3 :: s4 :: s5 :: .od m t :: r_) Q_ = Q_ (.loc 6) (s0 :: s1 :: s2 :: s3 :: s4 :: s5 :: .od m t :: r_) := rfl
@[simp ↓] theorem wVar_d7 (s0 s1 s2 s3 s4 s5 s6 : S) (t : T) (r_ : List S) (Q_ : R → List S → Prop) : wVar 7 (s0 :: s1 :: s2 :: s3 :: s4 :: s5 :: s6 :: .d t :: r_) Q_ = Q_ (.v t) (s0 :: s1 :: s2 :: s3 :: s4 :: s5 :: s6 :: .d t :: r_) := rfl
@[simp ↓] theorem wVar_ol7 (s0 s1 s2 s3 s4 s5 s6 : S) (t : List T) (r_ : List S) (Q_ : R → List S → Prop) : wVar 7 (s0 :: s1 :: s2 :: s3 :: s4 :: s5 :: s6 :: .ol t :: r_) Q_ = Q_ (.loc 7) (s0 :: s1 :: s2 :: s3 :: s4 :: s5 :: s6 :: .ol t :: r_) := rfl
@[simp ↓] theorem wVar_od7 (s0 s1 s2 s3 s4 s5 s6 : S) (m : DK) (t : List (T × T)) (r_ : List S) (Q_ : R → List S → Prop) : wVar 7 (s0 :: s1 :: s2 :: s3 :: s4 :: s5 :: s6 :: .od m t :: r_) Q_ = Q_ (.loc 7) (s0 :: s1 :: s2 :: s3 :: s4 :: s5 :: s6 :: .od m t :: r_) := rfl
@[simp ↓] theorem wVar_d8 (s0 s1 s2 s3 s4 s5 s6 s7 : S) (t : T) (r_ : List S) (Q_ : R → List S → Prop) : wVar 8 (s0 :: s1 :: s2 :: s3 :: s4 :: s5 :: s6 :: s7 :: .d t :: r_) Q_ = Q_ (.v t) (s0 :: s1 :: s2 :: s3 :: s4 :: s5 :: s6 :: s7 :: .d t :: r_) := rfl
@[simp ↓] theorem wVar_ol8 (s0 s1 s2 s3 s4 s5 s6 s7 : S) (t : List T) (r_ : List S) (Q_ : R → List S → Prop) : wVar 8 (s0 :: s1 :: s2 :: s3 :: s4 :: s5 :: s6 :: s7 :: .ol t :: r_) Q_ = Q_ (.loc 8) (s0 :: s1 :: s2 :: s3 :: s4 :: s5 :: s6 :: s7 :: .ol t :: r_) := rfl
@[simp ↓] theorem wVar_od8 (s0 s1 s2 s3 s4 s5 s6 s7 : S) (m : DK) (t : List (T × T)) (r_ : List S) (Q_ : R → List S → Prop) : wVar 8 (s0 :: s1 :: s2 :: s3 :: s4 :: s5 :: s6 :: s7 :: .od m t :: r_) Q_ = Q_ (.loc 8) (s0 :: s1 :: s2 :: s3 :: s4 :: s5 :: s6 :: s7 :: .od m t :: r_) := rfl
@[simp ↓] theorem wVar_d9 (s0 s1 s2 s3 s4 s5 s6 s7 s8 : S) (t : T) (r_ : List S) (Q_ : R → List S → Prop) : wVar 9 (s0 :: s1 :: s2 :: s3 :: s4 :: s5 :: s6 :: s7 :: s8 :: .d t :: r_) Q_ = Q_ (.v t) (s0 :: s1 :: s2 :: s3 :: s4 :: s5 :: s6 :: s7 :: s8 :: .d t :: r_) := rfl
@[simp ↓] theorem wVar_ol9 (s0 s1 s2 s3 s4 s5 s6 s7 s8 : S) (t : List T) (r_ : List S) (Q_ : R → List S → Prop) : wVar 9 (s0 :: s1 :: s2 :: s3 :: s4 :: s5 :: s6 :: s7 :: s8 :: .ol t :: r_) Q_ = Q_ (.loc 9) (s0 :: s1 :: s2 :: s3 :: s4 :: s5 :: s6 :: s7 :: s8 :: .ol t :: r_) := rfl
@[simp ↓] theorem wVar_od9 (s0 s1 s2 s3 s4 s5 s6 s7 s8 : S) (m : DK) (t : List (T × T)) (r_ : List S) (Q_ : R → List S → Prop) : wVar 9 (s0 :: s1 :: s2 :: s3 :: s4 :: s5 :: s6 :: s7 :: s8 :: .od m t :: r_) Q_ = Q_ (.loc 9) (s0 :: s1 :: s2 :: s3 :: s4 :: s5 :: s6 :: s7 :: s8 :: .od m t :: r_) := rfl
@[simp ↓] theorem wVar_d10 (s0 s1 s2 s3 s4 s5 s6 s7 s8 s9 : S) (t : T) (r_ : List S) (Q_ : R → List S → Prop) : wVar 10 (s0 :: s1 :: s2 :: s3 :: s4 :: s5 :: s6 :: s7 :: s8 :: s9 :: .d t :: r_) Q_ = Q_ (.v t) (s0 :: s1 :: s2 :: s3 :: s4 :: s5 :: s6 :: s7 :: s8 :: s9 :: .d t :: r_) := rfl
@[simp ↓] theorem wVar_ol10 (s0 s1 s2 s3 s4 s5 s6 s7 s8 s9 : S) (t : List T) (r_ : List S) (Q_ : R → List S → Prop) : wVar 10 (s0 :: s1 :: s2 :: s3 :: s4 :: s5 :: s6 :: s7 :: s8 :: s9 :: .ol t :: r_) Q_ = Q_ (.loc 10) (s0 :: s1 :: s2 :: s3 :: s4 :: s5 :: s6 :: s7 :: s8 :: s9 :: .ol t :: r_) := rfl
@[simp ↓] theorem wVar_od10 (s0 s1 s2 s3 s4 s5 s6 s7 s8 s9 : S) (m : DK) (t : List (T × T)) (r_ : List S) (Q_ : R → List S → Prop) : wVar 10 (s0 :: s1 :: s2 :: s3 :: s4 :: s5 :: s6 :: s7 :: s8 :: s9 :: .od m t :: r_) Q_ = Q_ (.loc 10) (s0 :: s1 :: s2 :: s3 :: s4 :: s5 :: s6 :: s7 :: s8 :: s9 :: .od m t :: r_) := rfl
@[simp ↓] theorem wVar_d11 (s0 s1 s2 s3 s4 s5 s6 s7 s8 s9 s10 : S) (t : T) (r_ : List S) (Q_ : R → List S → Prop) : wVar 11 (s0 :: s1 :: s2 :: s3 :: s4 :: s5 :: s6 :: s7 :: s8 :: s9 :: s10 :: .d t :: r_) Q_ = Q_ (.v t) (s0 :: s1 :: s2 :: s3 :: s4 :: s5 :: s6 :: s7 :: s8 :: s9 :: s10 :: .d t :: r_) := rfl
@[simp ↓] theorem wVar_ol11 (s0 s1 s2 s3 s4 s5 s6 s7 s8 s9 s10 : S) (t : List T) (r_ : List S) (Q_ : R → List S → Prop) : wVar 11 (s0 :: s1 :: s2 :: s3 :: s4 :: s5 :: s6 :: s7 :: s8 :: s9 :: s10 :: .ol t :: r_) Q_ = Q_ (.loc 11) (s0 :: s1 :: s2 :: s3 :: s4 :: s5 :: s6 :: s7 :: s8 :: s9 :: s10 :: .ol t :: r_) := rfl
@[simp ↓] theorem wVar_od11 (s0 s1 s2 s3 s4 s5 s6 s7 s8 s9 s10 : S) (m : DK) (t : List (T × T)) (r_ : List S) (Q_ : R → List S → Prop) : wVar 11 (s0 :: s1 :: s2 :: s3 :: s4 :: s5 :: s6 :: s7 :: s8 :: s9 :: s10 :: .od m t :: r_) Q_ = Q_ (.loc 11) (s0 :: s1 :: s2 :: s3 :: s4 :: s5 :: s6 :: s7 :: s8 :: s9 :: s10 :: .od m t :: r_) := rfl
@[simp ↓] theorem wVar_d12 (s0 s1 s2 s3 s4 s5 s6 s7 s8 s9 s10 s11 : S) (t : T) (r_ : List S) (Q_ : R → List S → Prop) : wVar 12 (s0 :: s1 :: s2 :: s3 :: s4 :: s5 :: s6 :: s7 :: s8 :: s9 :: s10 :: s11 :: .d t :: r_) Q_ = Q_ (.v t) (s0 :: s1 :: s2 :: s3 :: s4 :: s5 :: s6 :: s7 :: s8 :: s9 :: s10 :: s11 :: .d t :: r_) := rfl
@[simp ↓] theorem wVar_ol12 (s0 s1 s2 s3 s4 s5 s6 s7 s8 s9 s10 s11 : S) (t : List T) (r_ : List S) (Q_ : R → List S → Prop) : wVar 12 (s0 :: s1 :: s2 :: s3 :: s4 :: s5 :: s6 :: s7 :: s8 :: s9 :: s10 :: s11 :: .ol t :: r_) Q_ = Q_ (.loc 12) (s0 :: s1 :: s2 :: s3 :: s4 :: s5 :: s6 :: s7 :: s8 :: s9 :: s10 :: s11 :: .ol t :: r_) := rfl
@[simp ↓] theorem wVar_od12 (s0 s1 s2 s3 s4 s5 s6 s7 s8 s9 s10 s11 : S) (m : DK) (t : List (T × T)) (r_ : List S) (Q_ : R → List S → Prop) : wVar 12 (s0 :: s1 :: s2 :: s3 :: s4 :: s5 :: s6 :: s7 :: s8 :: s9 :: s10 :: s11 :: .od m t :: r_) Q_ = Q_ (.loc 12) (s0 :: s1 :: s2 :: s3 :: s4 :: s5 :: s6 :: s7 :: s8 :: s9 :: s10 :: s11 :: .od m t :: r_) := rfl
@[simp ↓] theorem wVar_d13 (s0 s1 s2 s3 s4 s5 s6 s7 s8 s9 s10 s11 s12 : S) (t : T) (r_ : List S) (Q_ : R → List S → Prop) : wVar 13 (s0 :: s1 :: s2 :: s3 :: s4 :: s5 :: s6 :: s7 :: s8 :: s9 :: s10 :: s11 :: s12 :: .d t :: r_) Q_ = Q_ (.v t) (s0 :: s1 :: s2 :: s3 :: s4 :: s5 :: s6 :: s7 :: s8 :: s9 :: s10 :: s11 :: s12 :: .d t :: r_) := rfl
@[simp ↓] theorem wVar_ol13 (s0 s1 s2 s3 s4 s5 s6 s7 s8 s9 s10 s11 s12 : S) (t : List T) (r_ : List S) (Q_ : R → List S → Prop) : wVar 13 (s0 :: s1 :: s2 :: s3 :: s4 :: s5 :: s6 :: s7 :: s8 :: s9 :: s10 :: s11 :: s12 :: .ol t :: r_) Q_ = Q_ (.loc 13) (s0 :: s1 :: s2 :: s3 :: s4 :: s5 :: s6 :: s7 :: s8 :: s9 :: s10 :: s11 :: s12 :: .ol t :: r_) := rfl
@[simp ↓] theorem wVar_od13 (s0 s1 s2 s3 s4 s5 s6 s7 s8 s9 s10 s11 s12 : S) (m : DK) (t : List (T × T)) (r_ : List S) (Q_ : R → List S → Prop) : wVar 13 (s0 :: s1 :: s2 :: s3 :: s4 :: s5 :: s6 :: s7 :: s8 :: s9 :: s10 :: s11 :: s12 :: .od m t :: r_) Q_ = Q_ (.loc 13) (s0 :: s1 :: s2 :: s3 :: s4 :: s5 :: s6 :: s7 :: s8 :: s9 :: s10 :: s11 :: s12 :: .od m t :: r_) := rfl
@[simp ↓] theorem wVar_d14 (s0 s1 s2 s3 s4 s5 s6 s7 s8 s9 s10 s11 s12 s13 : S) (t : T) (r_ : List S) (Q_ : R → List S → Prop) : wVar 14 (s0 :: s1 :: s2 :: s3 :: s4 :: s5 :: s6 :: s7 :: s8 :: s9 :: s10 :: s11 :: s12 :: s13 :: .d t :: r_) Q_ = Q_ (.v t) (s0 :: s1 :: s2 :: s3 :: s4 :: s5 :: s6 :: s7 :: s8 :: s9 :: s10 :: s11 :: s12 :: s13 :: .d t :: r_) := rfl
@[simp ↓] theorem wVar_ol14 (s0 s1 s2 s3 s4 s5 s6 s7 s8 s9 s10 s11 s12 s13 : S) (t : List T) (r_ : List S) (Q_ : R → List S → Prop) : wVar 14 (s0 :: s1 :: s2 :: s3 :: s4 :: s5 :: s6 :: s7 :: s8 :: s9 :: s10 :: s11 :: s12 :: s13 :: .ol t :: r_) Q_ = Q_ (.loc 14) (s0 :: s1 :: s2 :: s3 :: s4 :: s5 :: s6 :: s7 :: s8 :: s9 :: s10 :: s11 :: s12 :: s13 :: .ol t :: r_) := rfl
@[simp ↓] theorem wVar_od14 (s0 s1 s2 s3 s4 s5 s6 s7 s8 s9 s10 s11 s12 s13 : S) (m : DK) (t : List (T × T)) (r_ : List S) (Q_ : R → List S → Prop) : wVar 14 (s0 :: s1 :: s2 :: s3 :: s4 :: s5 :: s6 :: s7 :: s8 :: s9 :: s10 :: s11 :: s12 :: s13 :: .od m t :: r_) Q_ = Q_ (.loc 14) (s0 :: s1 :: s2 :: s3 :: s4 :: s5 :: s6 :: s7 :: s8 :: s9 :: s10 :: s11 :: s12 :: s13 :: .od m t :: r_) := rfl
@[simp ↓] theorem wVar_d15 (s0 s1 s2 s3 s4 s5 s6 s7 s8 s9 s10 s11 s12 s13 s14 : S) (t : T) (r_ : List S) (Q_ : R → List S → Prop) : wVar 15 (s0 :: s1 :: s2 :: s3 :: s4 :: s5 :: s6 :: s7 :: s8 :: s9 :: s10 :: s11 :: s12 :: s13 :: s14 :: .d t :: r_) Q_ = Q_ (.v t) (s0 :: s1 :: s2 :: s3 :: s4 :: s5 :: s6 :: s7 :: s8 :: s9 :: s10 :: s11 :: s12 :: s13 :: s14 :: .d t :: r_) := rfl
@[simp ↓] theorem wVar_ol15 (s0 s1 s2 s3 s4 s5 s6 s7 s8 s9 s10 s11 s12 s13 s14 : S) (t : List T) (r_ : List S) (Q_ : R → List S → Prop) : wVar 15 (s0 :: s1 :: s2 :: s3 :: s4 :: s5 :: s6 :: s7 :: s8 :: s9 :: s10 :: s11 :: s12 :: s13 :: s14 :: .ol t :: r_) Q_ = Q_ (.loc 15) (s0 :: s1 :: s2 :: s3 :: s4 :: s5 :: s6 :: s7 :: s8 :: s9 :: s10 :: s11 :: s12 :: s13 :: s14 :: .ol t :: r_) := rfl
@[simp ↓] theorem wVar_od15 (s0 s1 s2 s3 s4 s5 s6 s7 s8 s9 s10 s11 s12 s13 s14 : S) (m : DK) (t : List (T × T)) (r_ : List S) (Q_ : R → List S → Prop) : wVar 15 (s0 :: s1 :: s2 :: s3 :: s4 :: s5 :: s6 :: s7 :: s8 :: s9 :: s10 :: s11 :: s12 :: s13 :: s14 :: .od m t :: r_) Q_ = Q_ (.loc 15) (s0 :: s1 :: s2 :: s3 :: s4 :: s5 :: s6 :: s7 :: s8 :: s9 :: s10 :: s11 :: s12 :: s13 :: s14 :: .od m t :: r_) := rfl
@[simp ↓] theorem wVar_d16 (s0 s1 s2 s3 s4 s5 s6 s7 s8 s9 s10 s11 s12 s13 s14 s15 : S) (t : T) (r_ : List S) (Q_ : R → List S → Prop) : wVar 16 (s0 :: s1 :: s2 :: s3 :: s4 :: s5 :: s6 :: s7 :: s8 :: s9 :: s10 :: s11 :: s12 :: s13 :: s14 :: s15 :: .d t :: r_) Q_ = Q_ (.v t) (s0 :: s1 :: s2 :: s3 :: s4 :: s5 :: s6 :: s7 :: s8 :: s9 :: s10 :: s11 :: s12 :: s13 :: s14 :: s15 :: .d t :: r_) := rfl
@[simp ↓] theorem wVar_ol16 (s0 s1 s2 s3 s4 s5 s6 s7 s8 s9 s10 s11 s12 s13 s14 s15 : S) (t : List T) (r_ : List S) (Q_ : R → List S → Prop) : wVar 16 (s0 :: s1 :: s2 :: s3 :: s4 :: s5 :: s6 :: s7 :: s8 :: s9 :: s10 :: s11 :: s12 :: s13 :: s14 :: s15 :: .ol t :: r_) Q_ = Q_ (.loc 16) (s0 :: s1 :: s2 :: s3 :: s4 :: s5 :: s6 :: s7 :: s8 :: s9 :: s10 :: s11 :: s12 :: s13 :: s14 :: s15 :: .ol t :: r_) := rfl
@[simp ↓] theorem wVar_od16 (s0 s1 s2 s3 s4 s5 s6 s7 s8 s9 s10 s11 s12 s13 s14 s15 : S) (m : DK) (t : List (T × T)) (r_ : List S) (Q_ : R → List S → Prop) : wVar 16 (s0 :: s1 :: s2 :: s3 :: s4 :: s5 :: s6 :: s7 :: s8 :: s9 :: s10 :: s11 :: s12 :: s13 :: s14 :: s15 :: .od m t :: r_) Q_ = Q_ (.loc 16) (s0 :: s1 :: s2 :: s3 :: s4 :: s5 :: s6 :: s7 :: s8 :: s9 :: s10 :: s11 :: s12 :: s13 :: s14 :: s15 :: .od m t :: r_) := rfl
@[simp ↓] theorem wVar_d17 (s0 s1 s2 s3 s4 s5 s6 s7 s8 s9 s10 s11 s12 s13 s14 s15 s16 : S) (t : T) (r_ : List S) (Q_ : R → List S → Prop) : wVar 17 (s0 :: s1 :: s2 :: s3 :: s4 :: s5 :: s6 :: s7 :: s8 :: s9 :: s10 :: s11 :: s12 :: s13 :: s14 :: s15 :: s16 :: .d t :: r_) Q_ = Q_ (.v t) (s0 :: s1 :: s2 :: s3 :: s4 :: s5 :: s6 :: s7 :: s8 :: s9 :: s10 :: s11 :: s12 :: s13 :: s14 :: s15 :: s16 :: .d t :: r_) := rfl
@[simp ↓] theorem wVar_ol17 (s0 s1 s2 s3 s4 s5 s6 s7 s8 s9 s10 s11 s12 s13 s14 s15 s16 : S) (t : List T) (r_ : List S) (Q_ : R → List S → Prop) : wVar 17 (s0 :: s1 :: s2 :: s3 :: s4 :: s5 :: s6 :: s7 :: s8 :: s9 :: s10 :: s11 :: s12 :: s13 :: s14 :: s15 :: s16 :: .ol t :: r_) Q_ = Q_ (.loc 17) (s0 :: s1 :: s2 :: s3 :: s4 :: s5 :: s6 :: s7 :: s8 :: s9 :: s10 :: s11 :: s12 :: s13 :: s14 :: s15 :: s16 :: .ol t :: r_) := rfl
@[simp ↓] theorem wVar_od17 (s0 s1 s2 s3 s4 s5 s6 s7 s8 s9 s10 s11 s12 s13 s14 s15 s16 : S) (m : DK) (t : List (T × T)) (r_ : List S) (Q_ : R → List S → Prop) : wVar 17 (s0 :: s1 :: s2 :: s3 :: s4 :: s5 :: s6 :: s7 :: s8 :: s9 :: s10 :: s11 :: s12 :: s13 :: s14 :: s15 :: s16 :: .od m t :: r_) Q_ = Q_ (.loc 17) (s0 :: s1 :: s2 :: s3 :: s4 :: s5 :: s6 :: s7 :: s8 :: s9 :: s10 :: s11 :: s12 :: s13 :: s14 :: s15 :: s16 :: .od m t :: r_) := rfl
@[simp ↓] theorem wVar_d18 (s0 s1 s2 s3 s4 s5 s6 s7 s8 s9 s10 s11 s12 s13 s14 s15 s16 s17 : S) (t : T) (r_ : List S) (Q_ : R → List S → Prop) : wVar 18 (s0 :: s1 :: s2 :: s3 :: s4 :: s5 :: s6 :: s7 :: s8 :: s9 :: s10 :: s11 :: s12 :: s13 :: s14 :: s15 :: s16 :: s17 :: .d t :: r_) Q_ = Q_ (.v t) (s0 :: s1 :: s2 :: s3 :: s4 :: s5 :: s6 :: s7 :: s8 :: s9 :: s10 :: s11 :: s12 :: s13 :: s14 :: s15 :: s16 :: s17 :: .d t :: r_) := rfl
@[simp ↓] theorem wVar_ol18 (s0 s1 s2 s3 s4 s5 s6 s7 s8 s9 s10 s11 s12 s13 s14 s15 s16 s17 : S) (t : List T) (r_ : List S) (Q_ : R → List S → Prop) : wVar 18 (s0 :: s1 :: s2 :: s3 :: s4 :: s5 :: s6 :: s7 :: s8 :: s9 :: s10 :: s11 :: s12 :: s13 :: s14 :: s15 :: s16 :: s17 :: .ol t :: r_) Q_ = Q_ (.loc 18) (s0 :: s1 :: s2 :: s3 :: s4 :: s5 :: s6 :: s7 :: s8 :: s9 :: s10 :: s11 :: s12 :: s13 :: s14 :: s15 :: s16 :: s17 :: .ol t :: r_) := rfl
@[simp ↓] theorem wVar_od18 (s0 s1 s2 s3 s4 s5 s6 s7 s8 s9 s10 s11 s12 s13 s14 s15 s16 s17 : S) (m : DK) (t : List (T × T)) (r_ : List S) (Q_ : R → List S → Prop) : wVar 18 (s0 :: s1 :: s2 :: s3 :: s4 :: s5 :: s6 :: s7 :: s8 :: s9 :: s10 :: s11 :: s12 :: s13 :: s14 :: s15 :: s16 :: s17 :: .od m t :: r_) Q_ = Q_ (.loc 18) (s0 :: s1 :: s2 :: s3 :: s4 :: s5 :: s6 :: s7 :: s8 :: s9 :: s10 :: s11 :: s12 :: s13 :: s14 :: s15 :: s16 :: s17 :: .od m t :: r_) := rfl
@[simp ↓] theorem wVar_d19 (s0 s1 s2 s3 s4 s5 s6 s7 s8 s9 s10 s11 s12 s13 s14 s15 s16 s17 s18 : S) (t : T) (r_ : List S) (Q_ : R → List S → Prop) : wVar 19 (s0 :: s1 :: s2 :: s3 :: s4 :: s5 :: s6 :: s7 :: s8 :: s9 :: s10 :: s11 :: s12 :: s13 :: s14 :: s15 :: s16 :: s17 :: s18 :: .d t :: r_) Q_ = Q_ (.v t) (s0 :: s1 :: s2 :: s3 :: s4 :: s5 :: s6 :: s7 :: s8 :: s9 :: s10 :: s11 :: s12 :: s13 :: s14 :: s15 :: s16 :: s17 :: s18 :: .d t :: r_) := rfl
@[simp ↓] theorem wVar_ol19 (s0 s1 s2 s3 s4 s5 s6 s7 s8 s9 s10 s11 s12 s13 s14 s15 s16 s17 s18 : S) (t : List T) (r_ : List S) (Q_ : R → List S → Prop) : wVar 19 (s0 :: s1 :: s2 :: s3 :: s4 :: s5 :: s6 :: s7 :: s8 :: s9 :: s10 :: s11 :: s12 :: s13 :: s14 :: s15 :: s16 :: s17 :: s18 :: .ol t :: r_) Q_ = Q_ (.loc 19) (s0 :: s1 :: s2 :: s3 :: s4 :: s5 :: s6 :: s7 :: s8 :: s9 :: s10 :: s11 :: s12 :: s13 :: s14 :: s15 :: s16 :: s17 :: s18 :: .ol t :: r_) := rfl
@[simp ↓] theorem wVar_od19 (s0 s1 s2 s3 s4 s5 s6 s7 s8 s9 s10 s11 s12 s13 s14 s15 s16 s17 s18 : S) (m : DK) (t : List (T × T)) (r_ : List S) (Q_ : R → List S → Prop) : wVar 19 (s0 :: s1 :: s2 :: s3 :: s4 :: s5 :: s6 :: s7 :: s8 :: s9 :: s10 :: s11 :: s12 :: s13 :: s14 :: s15 :: s16 :: s17 :: s18 :: .od m t :: r_) Q_ = Q_ (.loc 19) (s0 :: s1 :: s2 :: s3 :: s4 :: s5 :: s6 :: s7 :: s8 :: s9 :: s10 :: s11 :: s12 :: s13 :: s14 :: s15 :: s16 :: s17 :: s18 :: .od m t :: r_) := rfl
@[simp ↓] theorem wVar_d20 (s0 s1 s2 s3 s4 s5 s6 s7 s8 s9 s10 s11 s12 s13 s14 s15 s16 s17 s18 s19 : S) (t : T) (r_ : List S) (Q_ : R → List S → Prop) : wVar 20 (s0 :: s1 :: s2 :: s3 :: s4 :: s5 :: s6 :: s7 :: s8 :: s9 :: s10 :: s11 :: s12 :: s13 :: s14 :: s15 :: s16 :: s17 :: s18 :: s19 :: .d t :: r_) Q_ = Q_ (.v t) (s0 :: s1 :: s2 :: s3 :: s4 :: s5 :: s6 :: s7 :: s8 :: s9 :: s10 :: s11 :: s12 :: s13 :: s14 :: s15 :: s16 :: s17 :: s18 :: s19 :: .d t :: r_) := rfl
@[simp ↓] theorem wVar_ol20 (s0 s1 s2 s3 s4 s5 s6 s7 s8 s9 s10 s11 s12 s13 s14 s15 s16 s17 s18 s19 : S) (t : List T) (r_ : List S) (Q_ : R → List S → Prop) : wVar 20 (s0 :: s1 :: s2 :: s3 :: s4 :: s5 :: s6 :: s7 :: s8 :: s9 :: s10 :: s11 :: s12 :: s13 :: s14 :: s15 :: s16 :: s17 :: s18 :: s19 :: .ol t :: r_) Q_ = Q_ (.loc 20) (s0 :: s1 :: s2 :: s3 :: s4 :: s5 :: s6 :: s7 :: s8 :: s9 :: s10 :: s11 :: s12 :: s13 :: s14 :: s15 :: s16 :: s17 :: s18 :: s19 :: .ol t :: r_) := rfl
@[simp ↓] theorem wVar_od20 (s0 s1 s2 s3 s4 s5 s6 s7 s8 s9 s10 s11 s12 s13 s14 s15 s16 s17 s18 s19 : S) (m : DK) (t : List (T × T)) (r_ : List S) (Q_ : R → List S → Prop) : wVar 20 (s0 :: s1 :: s2 :: s3 :: s4 :: s5 :: s6 :: s7 :: s8 :: s9 :: s10 :: s11 :: s12 :: s13 :: s14 :: s15 :: s16 :: s17 :: s18 :: s19 :: .od m t :: r_) Q_ = Q_ (.loc 20) (s0 :: s1 :: s2 :: s3 :: s4 :: s5 :: s6 :: s7 :: s8 :: s9 :: s10 :: s11 :: s12 :: s13 :: s14 :: s15 :: s16 :: s17 :: s18 :: s19 :: .od m t :: r_) := rfl
@[simp ↓] theorem wVar_d21 (s0 s1 s2 s3 s4 s5 s6 s7 s8 s9 s10 s11 s12 s13 s14 s15 s16 s17 s18 s19 s20 : S) (t : T) (r_ : List S) (Q_ : R → List S → Prop) : wVar 21 (s0 :: s1 :: s2 :: s3 :: s4 :: s5 :: s6 :: s7 :: s8 :: s9 :: s10 :: s11 :: s12 :: s13 :: s14 :: s15 :: s16 :: s17 :: s18 :: s19 :: s20 :: .d t :: r_) Q_ = Q_ (.v t) (s0 :: s1 :: s2 :: s3 :: s4 :: s5 :: s6 :: s7 :: s8 :: s9 :: s10 :: s11 :: s12 :: s13 :: s14 :: s15 :: s16 :: s17 :: s18 :: s19 :: s20 :: .d t :: r_) := rfl
@[simp ↓] theorem wVar_ol21 (s0 s1 s2 s3 s4 s5 s6 s7 s8 s9 s10 s11 s12 s13 s14 s15 s16 s17 s18 s19 s20 : S) (t : List T) (r_ : List S) (Q_ : R → List S → Prop) : wVar 21 (s0 :: s1 :: s2 :: s3 :: s4 :: s5 :: s6 :: s7 :: s8 :: s9 :: s10 :: s11 :: s12 :: s13 :: s14 :: s15 :: s16 :: s17 :: s18 :: s19 :: s20 :: .ol t :: r_) Q_ = Q_ (.loc 21) (s0 :: s1 :: s2 :: s3 :: s4 :: s5 :: s6 :: s7 :: s8 :: s9 :: s10 :: s11 :: s12 :: s13 :: s14 :: s15 :: s16 :: s17 :: s18 :: s19 :: s20 :: .ol t :: r_) := rfl
@[simp ↓] theorem wVar_od21 (s0 s1 s2 s3 s4 s5 s6 s7 s8 s9 s10 s11 s12 s13 s14 s15 s16 s17 s18 s19 s20 : S) (m : DK) (t : List (T × T)) (r_ : List S) (Q_ : R → List S → Prop) : wVar 21 (s0 :: s1 :: s2 :: s3 :: s4 :: s5 :: s6 :: s7 :: s8 :: s9 :: s10 :: s11 :: s12 :: s13 :: s14 :: s15 :: s16 :: s17 :: s18 :: s19 :: s20 :: .od m t :: r_) Q_ = Q_ (.loc 21) (s0 :: s1 :: s2 :: s3 :: s4 :: s5 :: s6 :: s7 :: s8 :: s9 :: s10 :: s11 :: s12 :: s13 :: s14 :: s15 :: s16 :: s17 :: s18 :: s19 :: s20 :: .od m t :: r_) := rfl
@[simp ↓] theorem wVar_d22 (s0 s1 s2 s3 s4 s5 s6 s7 s8 s9 s10 s11 s12 s13 s14 s15 s16 s17 s18 s19 s20 s21 : S) (t : T) (r_ : List S) (Q_ : R → List S → Prop) : wVar 22 (s0 :: s1 :: s2 :: s3 :: s4 :: s5 :: s6 :: s7 :: s8 :: s9 :: s10 :: s11 :: s12 :: s13 :: s14 :: s15 :: s16 :: s17 :: s18 :: s19 :: s20 :: s21 :: .d t :: r_) Q_ = Q_ (.v t) (s0 :: s1 :: s2 :: s3 :: s4 :: s5 :: s6 :: s7 :: s8 :: s9 :: s10 :: s11 :: s12 :: s13 :: s14 :: s15 :: s16 :: s17 :: s18 :: s19 :: s20 :: s21 :: .d t :: r_) := rfl
@[simp ↓] theorem wVar_ol22 (s0 s1 s2 s3 s4 s5 s6 s7 s8 s9 s10 s11 s12 s13 s14 s15 s16 s17 s18 s19 s20 s21 : S) (t : List T) (r_ : List S) (Q_ : R → List S → Prop) : wVar 22 (s0 :: s1 :: s2 :: s3 :: s4 :: s5 :: s6 :: s7 :: s8 :: s9 :: s10 :: s11 :: s12 :: s13 :: s14 :: s15 :: s16 :: s17 :: s18 :: s19 :: s20 :: s21 :: .ol t :: r_) Q_ = Q_ (.loc 22) (s0 :: s1 :: s2 :: s3 :: s4 :: s5 :: s6 :: s7 :: s8 :: s9 :: s10 :: s11 :: s12 :: s13 :: s14 :: s15 :: s16 :: s17 :: s18 :: s19 :: s20 :: s21 :: .ol t :: r_) := rfl
@[simp ↓] theorem wVar_od22 (s0 s1 s2 s3 s4 s5 s6 s7 s8 s9 s10 s11 s12 s13 s14 s15 s16 s17 s18 s19 s20 s21 : S) (m : DK) (t : List (T × T)) (r_ : List S) (Q_ : R → List S → Prop) : wVar 22 (s0 :: s1 :: s2 :: s3 :: s4 :: s5 :: s6 :: s7 :: s8 :: s9 :: s10 :: s11 :: s12 :: s13 :: s14 :: s15 :: s16 :: s17 :: s18 :: s19 :: s20 :: s21 :: .od m t :: r_) Q_ = Q_ (.loc 22) (s0 :: s1 :: s2 :: s3 :: s4 :: s5 :: s6 :: s7 :: s8 :: s9 :: s10 :: s11 :: s12 :: s13 :: s14 :: s15 :: s16 :: s17 :: s18 :: s19 :: s20 :: s21 :: .od m t :: r_) := rfl
@[simp ↓] theorem wVar_d23 (s0 s1 s2 s3 s4 s5 s6 s7 s8 s9 s10 s11 s12 s13 s14 s15 s16 s17 s18 s19 s20 s21 s22 : S) (t : T) (r_ : List S) (Q_ : R → List S → Prop) : wVar 23 (s0 :: s1 :: s2 :: s3 :: s4 :: s5 :: s6 :: s7 :: s8 :: s9 :: s10 :: s11 :: s12 :: s13 :: s14 :: s15 :: s16 :: s17 :: s18 :: s19 :: s20 :: s21 :: s22 :: .d t :: r_) Q_ = Q_ (.v t) (s0 :: s1 :: s2 :: s3 :: s4 :: s5 :: s6 :: s7 :: s8 :: s9 :: s10 :: s11 :: s12 :: s13 :: s14 :: s15 :: s16 :: s17 :: s18 :: s19 :: s20 :: s21 :: s22 :: .d t :: r_) := rfl
@[simp ↓] theorem wVar_ol23 (s0 s1 s2 s3 s4 s5 s6 s7 s8 s9 s10 s11 s12 s13 s14 s15 s16 s17 s18 s19 s20 s21 s22 : S) (t : List T) (r_ : List S) (Q_ : R → List S → Prop) : wVar 23 (s0 :: s1 :: s2 :: s3 :: s4 :: s5 :: s6 :: s7 :: s8 :: s9 :: s10 :: s11 :: s12 :: s13 :: s14 :: s15 :: s16 :: s17 :: s18 :: s19 :: s20 :: s21 :: s22 :: .ol t :: r_) Q_ = Q_ (.loc 23) (s0 :: s1 :: s2 :: s3 :: s4 :: s5 :: s6 :: s7 :: s8 :: s9 :: s10 :: s11 :: s12 :: s13 :: s14 :: s15 :: s16 :: s17 :: s18 :: s19 :: s20 :: s21 :: s22 :: .ol t :: r_) := rfl
@[simp ↓] theorem wVar_od23 (s0 s1 s2 s3 s4 s5 s6 s7 s8 s9 s10 s11 s12 s13 s14 s15 s16 s17 s18 s19 s20 s21 s22 : S) (m : DK) (t : List (T × T)) (r_ : List S) (Q_ : R → List S → Prop) : wVar 23 (s0 :: s1 :: s2 :: s3 :: s4 :: s5 :: s6 :: s7 :: s8 :: s9 :: s10 :: s11 :: s12 :: s13 :: s14 :: s15 :: s16 :: s17 :: s18 :: s19 :: s20 :: s21 :: s22 :: .od m t :: r_) Q_ = Q_ (.loc 23) (s0 :: s1 :: s2 :: s3 :: s4 :: s5 :: s6 :: s7 :: s8 :: s9 :: s10 :: s11 :: s12 :: s13 :: s14 :: s15 :: s16 :: s17 :: s18 :: s19 :: s20 :: s21 :: s22 :: .od m t :: r_) := rfl
@[simp ↓] theorem wVar_d24 (s0 s1 s2 s3 s4 s5 s6 s7 s8 s9 s10 s11 s12 s13 s14 s15 s16 s17 s18 s19 s20 s21 s22 s23 : S) (t : T) (r_ : List S) (Q_ : R → List S → Prop) : wVar 24 (s0 :: s1 :: s2 :: s3 :: s4 :: s5 :: s6 :: s7 :: s8 :: s9 :: s10 :: s11 :: s12 :: s13 :: s14 :: s15 :: s16 :: s17 :: s18 :: s19 :: s20 :: s21 :: s22 :: s23 :: .d t :: r_) Q_ = Q_ (.v t) (s0 :: s1 :: s2 :: s3 :: s4 :: s5 :: s6 :: s7 :: s8 :: s9 :: s10 :: s11 :: s12 :: s13 :: s14 :: s15 :: s16 :: s17 :: s18 :: s19 :: s20 :: s21 :: s22 :: s23 :: .d t :: r_) := rfl
@[simp ↓] theorem wVar_ol24 (s0 s1 s2 s3 s4 s5 s6 s7 s8 s9 s10 s11 s12 s13 s14 s15 s16 s17 s18 s19 s20 s21 s22 s23 : S) (t : List T) (r_ : List S) (Q_ : R → List S → Prop) : wVar 24 (s0 :: s1 :: s2 :: s3 :: s4 :: s5 :: s6 :: s7 :: s8 :: s9 :: s10 :: s11 :: s12 :: s13 :: s14 :: s15 :: s16 :: s17 :: s18 :: s19 :: s20 :: s21 :: s22 :: s23 :: .ol t :: r_) Q_ = Q_ (.loc 24) (s0 :: s1 :: s2 :: s3 :: s4 :: s5 :: s6 :: s7 :: s8 :: s9 :: s10 :: s11 :: s12 :: s13 :: s14 :: s15 :: s16 :: s17 :: s18 :: s19 :: s20 :: s21 :: s22 :: s23 :: .ol t :: r_) := rfl
@[simp ↓] theorem wVar_od24 (s0 s1 s2 s3 s4 s5 s6 s7 s8 s9 s10 s11 s12 s13 s14 s15 s16 s17 s18 s19 s20 s21 s22 s23 : S) (m : DK) (t : List (T × T)) (r_ : List S) (Q_ : R → List S → Prop) : wVar 24 (s0 :: s1 :: s2 :: s3 :: s4 :: s5 :: s6 :: s7 :: s8 :: s9 :: s10 :: s11 :: s12 :: s13 :: s14 :: s15 :: s16 :: s17 :: s18 :: s19 :: s20 :: s21 :: s22 :: s23 :: .od m t :: r_) Q_ = Q_ (.loc 24) (s0 :: s1 :: s2 :: s3 :: s4 :: s5 :: s6 :: s7 :: s8 :: s9 :: s10 :: s11 :: s12 :: s13 :: s14 :: s15 :: s16 :: s17 :: s18 :: s19 :: s20 :: s21 :: s22 :: s23 :: .od m t :: r_) := rfl
@[simp ↓] theorem wVar_d25 (s0 s1 s2 s3 s4 s5 s6 s7 s8 s9 s10 s11 s12 s13 s14 s15 s16 s17 s18 s19 s20 s21 s22 s23 s24 : S) (t : T) (r_ : List S) (Q_ : R → List S → Prop) : wVar 25 (s0 :: s1 :: s2 :: s3 :: s4 :: s5 :: s6 :: s7 :: s8 :: s9 :: s10 :: s11 :: s12 :: s13 :: s14 :: s15 :: s16 :: s17 :: s18 :: s19 :: s20 :: s21 :: s22 :: s23 :: s24 :: .d t :: r_) Q_ = Q_ (.v t) (s0 :: s1 :: s2 :: s3 :: s4 :: s5 :: s6 :: s7 :: s8 :: s9 :: s10 :: s11 :: s12 :: s13 :: s14 :: s15 :: s16 :: s17 :: s18 :: s19 :: s20 :: s21 :: s22 :: s23 :: s24 :: .d t :: r_) := rfl
@[simp ↓] theorem wVar_ol25 (s0 s1 s2 s3 s4 s5 s6 s7 s8 s9 s10 s11 s12 s13 s14 s15 s16 s17 s18 s19 s20 s21 s22 s23 s24 : S) (t : List T) (r_ : List S) (Q_ : R → List S → Prop) : wVar 25 (s0 :: s1 :: s2 :: s3 :: s4 :: s5 :: s6 :: s7 :: s8 :: s9 :: s10 :: s11 :: s12 :: s13 :: s14 :: s15 :: s16 :: s17 :: s18 :: s19 :: s20 :: s21 :: s22 :: s23 :: s24 :: .ol t :: r_) Q_ = Q_ (.loc 25) (s0 :: s1 :: s2 :: s3 :: s4 :: s5 :: s6 :: s7 :: s8 :: s9 :: s10 :: s11 :: s12 :: s13 :: s14 :: s15 :: s16 :: s17 :: s18 :: s19 :: s20 :: s21 :: s22 :: s23 :: s24 :: .ol t :: r_) := rfl
@[simp ↓] theorem wVar_od25 (s0 s1 s2 s3 s4 s5 s6 s7 s8 s9 s10 s11 s12 s13 s14 s15 s16 s17 s18 s19 s20 s21 s22 s23 s24 : S) (m : DK) (t : List (T × T)) (r_ : List S) (Q_ : R → List S → Prop) : wVar 25 (s0 :: s1 :: s2 :: s3 :: s4 :: s5 :: s6 :: s7 :: s8 :: s9 :: s10 :: s11 :: s12 :: s13 :: s14 :: s15 :: s16 :: s17 :: s18 :: s19 :: s20 :: s21 :: s22 :: s23 :: s24 :: .od m t :: r_) Q_ = Q_ (.loc 25) (s0 :: s1 :: s2 :: s3 :: s4 :: s5 :: s6 :: s7 :: s8 :: s9 :: s10 :: s11 :: s12 :: s13 :: s14 :: s15 :: s16 :: s17 :: s18 :: s19 :: s20 :: s21 :: s22 :: s23 :: s24 :: .od m t :: r_) := rfl
@[simp ↓] theorem frz_vp (t : T) (ρ : List S) (k : T → List S → Prop) : frz (.v t) ρ k = k t ρ := rfl
@[simp ↓] theorem ex1_p (ρ : List S) (a : T) (P : T → Prop) : (∃ x, res ρ (.v a) = some x ∧ P x) = P a := by simp
@[simp ↓] theorem ex2_p (ρ : List S) (a b : T) (P : T → T → Prop) : (∃ x y, res ρ (.v a) = some x ∧ res ρ (.v b) = some y ∧ P x y) = P a b := by simp
@[simp ↓] theorem ex3_p (ρ : List S) (c : Bool) (P : Bool → Prop) : (∃ b, res ρ (.v (.bl c)) = some (.bl b) ∧ P b) = P c := by simp
@[simp ↓] theorem ex4_p (c : Bool) (P : Bool → Prop) : (∃ b, T.bl c = .bl b ∧ P b) = P c := by simp
@[simp ↓] theorem ex5_p (ρ : List S) (c : Int) (P : Int → Prop) : (∃ b, res ρ (.v (.int c)) = some (.int b) ∧ P b) = P c := by simp
@[simp ↓] theorem rs0_p (ρ : List S) (P : List T → Prop) : (∃ xs, ress ρ [] = some xs ∧ P xs) = P [] := by simp [ress]
@[simp ↓] theorem rs1_p (ρ : List S) (a : T) (P : List T → Prop) : (∃ xs, ress ρ [.v a] = some xs ∧ P xs) = P [a] := by simp [ress]
@[simp ↓] theorem rs2_p (ρ : List S) (a b : T) (P : List T → Prop) : (∃ xs, ress ρ [.v a, .v b] = some xs ∧ P xs) = P [a, b] := by simp [ress]
@[simp ↓] theorem eqA_int (i j : Int) (Q : T → Prop) : oEqA (.int i) (.int j) Q = Q (.bl (i == j)) := by simp
@[simp ↓] theorem eqA_bl (i j : Bool) (Q : T → Prop) : oEqA (.bl i) (.bl j) Q = Q (.bl (i == j)) := by simp
@[simp ↓] theorem eqA_str (i j : Str) (Q : T → Prop) : oEqA (.str i) (.str j) Q = (Q (.bl (i == j)) ∨ oEq (.str i) (.str j) Q) := by simp
@[simp ↓] theorem eqA_tup (xs : List T) (y : T) (Q : T → Prop) : oEqA (.tup xs) y Q = oEq (.tup xs) y Q := by simp
@[simp ↓] theorem eqA_lst (xs : List T) (y : T) (Q : T → Prop) : oEqA (.lst xs) y Q = oEq (.lst xs) y Q := by simp
@[simp ↓] theorem eqA_non (y : T) (Q : T → Prop) : oEqA .non y Q = oEq .non y Q := by simp
@[simp ↓] theorem neA_int (i j : Int) (Q : T → Prop) : oNeA (.int i) (.int j) Q = Q (.bl (!(i == j))) := by simp
@[simp ↓] theorem neA_bl (i j : Bool) (Q : T → Prop) : oNeA (.bl i) (.bl j) Q = Q (.bl (!(i == j))) := by simp
@[simp ↓] theorem neA_tup (xs : List T) (y : T) (Q : T → Prop) : oNeA (.tup xs) y Q = oNe (.tup xs) y Q := by simp
@[simp ↓] theorem neA_lst (xs : List T) (y : T) (Q : T → Prop) : oNeA (.lst xs) y Q = oNe (.lst xs) y Q := by simp
@[simp ↓] theorem neA_non (y : T) (Q : T → Prop) : oNeA .non y Q = oNe .non y Q := by simp
@[simp ↓] theorem ltA_int (i j : Int) (Q : T → Prop) : oLtA (.int i) (.int j) Q = Q (.bl (decide (i < j))) := by simp [oLtD]
end TL
set_option Elab.async false
set_option linter.all false
set_option maxRecDepth 100000
set_option autoImplicit false
/-! TL25: the law called, where nothing that repr looks for runs around -/
namespace TL
open PySem PySem.Spec PyProof.Rows L2
section
variable {P : Program} {w : World} {K : PySem.W.Frag} {mg : Str → Option Value}
/-- what is wanted of the law's own def -/
structure LawG (P : Program) (w : World) (K : PySem.W.Frag) (mg : Str → Option Value) (k n : Nat) (fa : Addr) (fd : FuncData) (x : Str) (sp : Sp) : Prop where
  binds : ∀ (s : Shared) (u : Value), BindsTo s fd ⟨[u], []⟩ [(x, u)]
  says : ∀ (H : Hp) (a : Addr) (ns : List Int), ns.length ≤ n → SqL K H a (ns.map V.int) → sp [.ref a] H (fun v _ => v = .bl true) fun _ _ _ => False
  runs : ∀ base : Heap, K.In base → base.Ns mainGlobals mg → FnG P w K mg base CX0 k fa fd [x] sp
theorem LawG.call {mb : Str → Option Value} {k n : Nat} {fa a : Addr} {fd : FuncData} {x : Str} {sp : Sp} {t : Shared} {vs : List Value} {ns : List Int} (L : LawG P w K mg k n fa fd x sp)
    (inK : K.In t.heap) (nM : t.heap.Ns mainGlobals mg) (nB : t.heap.Ns builtinsNs mb) (boot : ∀ y : Str, y ≠ "__name__" → mb y = bootBuiltins y) (lim : t.heap.NoLimit) (gens : t.gens = #[])
    (at_ : t.heap.get? a = some { cls := .type "list", data := .seq vs.toArray }) (whl : IntsAre vs ns) (few : ns.length ≤ n) (line : n ≤ sizeLine) (room : Rm k callerA) :
    codeAny (model P w) callerA (.call (.ref fa) ⟨[.ref a], []⟩) (fun r u => r = .ok (.ret (.bool true)) ∧ OldK t.heap u.heap ∧ u.os = t.os ∧ AllBare u.gens) t := by
  have rel : Vals (ns.map V.int) vs := vals_ints whl
  have big : (ns.map V.int).length ≤ sizeLine := by
    rw [List.length_map]
    omega
  suffices go : ∀ H : Hp, (∀ b u, H b = some u → b = a ∧ u = HO.frz { cls := .type "list", data := .seq vs.toArray } (.lst (ns.map V.int))) → SqL K H a (ns.map V.int) → (∀ u, H a = some u → K.lookup a = none) →
      codeAny (model P w) callerA (.call (.ref fa) ⟨[.ref a], []⟩) (fun r u => r = .ok (.ret (.bool true)) ∧ OldK t.heap u.heap ∧ u.os = t.os ∧ AllBare u.gens) t by
    cases z : K.lookup a with
    | none =>
      refine go (fun b => if b = a then some (.frz { cls := .type "list", data := .seq vs.toArray } (.lst (ns.map V.int))) else none) (fun b u e => ?_) (.inl (.inr ⟨_, if_pos rfl⟩)) fun _ _ => z
      by_cases y : b = a
      · exact ⟨y, (Option.some.inj ((if_pos y).symm.trans e)).symm⟩
      · cases (if_neg y).symm.trans e
    | some o =>
      have same : { cls := .type "list", data := .seq vs.toArray } = o := Option.some.inj (at_.symm.trans (inK a o z))
      subst same
      refine go (fun _ => none) (fun _ _ e => by cases e) (.inr ⟨_, vs.toArray, _, z, rfl, rfl, rfl, ?_, by simpa using rel⟩) fun _ e => by cases e
      have := rel.length
      rw [List.size_toArray]
      omega
  intro H one sq free
  have kept : ∀ (b : Addr) (o : Obj), t.heap.get? b = some o → (b = a → H a = none) → (hidT t.heap H).get? b = some o := fun b o e n => by
    refine hidT_get e ?_
    cases y : H b with
    | none => rfl
    | some u =>
      have q := (one b u y).1
      rw [q, n q] at y
      cases y
  have nam : ∀ (b : Addr) (m : Str → Option Value), t.heap.Ns b m → (hidT t.heap H).Ns b m := fun b m nb => by
    obtain ⟨o, es, ep, e, d, r⟩ := nb
    refine ⟨o, es, ep, kept b o e fun q => ?_, d, r⟩
    rw [q, at_] at e
    cases e
    cases d
  have inB : K.In (hidT t.heap H) := fun b o e => by
    refine kept b o (inK b o e) fun q => ?_
    cases y : H a with
    | none => rfl
    | some u =>
      rw [q, free u y] at e
      cases e
  have good : HOk P w H t.heap := fun b u e => by
    obtain ⟨q1, q2⟩ := one b u e
    subst q1 q2
    exact ⟨at_, big, vs, _, rel, at_⟩
  obtain ⟨ml, l1, l2⟩ := lim
  have env : Env0 P w K mg (hidT t.heap H) callerA [] t H :=
    ⟨rfl, ⟨inB, nam _ _ nM, ⟨mb, nam _ _ nB, boot⟩, ⟨ml, nam _ _ l1, l2⟩⟩, fun b o e => of_hidT e, by rw [hidT_size] <;> exact Nat.le_refl _, trivial, (fun b y => nomatch (show b ∈ ([] : List Addr) from y)), good, .of_eq gens⟩
  have ran := (L.runs _ inB (nam _ _ nM)).run callerA [] t H ⟨[.ref a], []⟩ [.ref a] [.ref a] (fun v _ => v = .bl true) (fun _ _ _ => False) room env (L.binds t (.ref a)) (.cons rfl .nil) (L.says H a ns few sq)
  refine codeAny_mono ran fun r u h => ?_
  cases r with
  | error e => exact h.elim
  | ok fl =>
    cases fl with
    | ret x =>
      obtain ⟨v, H2, os, bare, un, good2, rx, q⟩ := h
      have q' : v = .bl true := q
      subst q'
      have ex : x = Value.bool true := rx
      subst ex
      refine ⟨rfl, OldK.of_keep fun b o e => ?_, os, bare⟩
      cases y : H b with
      | none => exact un.keep b o e y (by intro z; cases z) (by simp)
      | some ho =>
        obtain ⟨q1, q2⟩ := one b ho y
        subst q1 q2
        have y2 := un.frzs b _ _ y
        have y3 := (good2 b _ y2).1
        have y4 := (good b _ y).1
        rw [e] at y4
        cases y4
        exact y3
    | _ => exact h.elim
/-- the end of a proof: F finds the written part -/
theorem walk_ofG {l : PySem.W.OpenLaw} {n k : Nat} {q : Program} {loose : List Str} {XP : (Str → Option Value) → Heap → Prop} {YP : World → Heap → Prop} {d : DefRec} {x : Str} (hn : l.most = some n) (hn2 : n ≤ sizeLine) (hdf : d.params.defaults = []) (hr : Rm k callerA)
    (F : ∀ (w : World) (mg : Str → Option Value) (fa : Addr) (h : Heap), YP w h → h.Ns mainGlobals mg → mg d.name = some (.ref fa) → ∃ (K : PySem.W.Frag) (fd : FuncData) (sp : Sp), K.In h ∧ LawG l.prog w K mg k n fa fd x sp) :
    PySem.W.WalkO q loose XP YP l.row.toRowW d [] (fun f vs => PySem.call f vs) :=
  Att.attach_call hn hdf fun w _ s mg mb fa o pm cd doc a vs ns G Y _ _ _ hm hobj hints hlen hg =>
    let ⟨_, _, _, inK, L⟩ := F w mg fa _ Y G.T.g hm
    L.call inK G.T.g G.T.b G.T.builtins G.T.nolimit hg hobj hints hlen hn2 hr
end
end TL
set_option Elab.async false
set_option linter.all false
set_option maxRecDepth 100000
set_option autoImplicit false
/-! TL26: from what draws are taken from on -/
namespace TL
open PySem PySem.Spec PyProof.Rows L2
/-- more than any law draws -/
abbrev capL : Nat := 1000000
theorem PSs_ex {X : Cx} {ι : Type} {st : List Stmt} {t : ι → TS} (h : ∀ g, PSs X st (t g)) : PSs X st (fun D σ H => ∃ g, t g D σ H) := ⟨fun pins s σ H D I ⟨g, q⟩ => (h g).run pins s σ H D I q⟩
/-- what the law promises -/
def sp_lawG (K : PySem.W.Frag) : Sp := fun vs H Q _ => ∃ (sc : Addr) (ns : List Int), vs = [.ref sc] ∧ SqL K H sc (ns.map V.int) ∧ ns.length ≤ 63 ∧ ∀ H', Q (.bl true) H'
theorem lawG_says {K : PySem.W.Frag} (H : Hp) (a : Addr) (ns : List Int) (h : ns.length ≤ 63) (q : SqL K H a (ns.map V.int)) : sp_lawG K [.ref a] H (fun v _ => v = .bl true) fun _ _ _ => False := ⟨a, ns, rfl, q, h, fun _ => rfl⟩
/-- the script stands in a world of new things -/
theorem scrAt_of {K : PySem.W.Frag} {H H' : Hp} {F : Hp} {W : Wd} {sc : Addr} {ns : List Int} (hS : SqL K H sc (ns.map V.int)) (hl : ns.length ≤ 63) (sm : Same H H') (own : ∀ a, W.own a = true → H a = none) : ScrAt K ⟨W, H', F, []⟩ sc := by
  have go : ∀ u, H sc = some u → W.own sc = false := fun u e => by
    cases z : W.own sc with
    | false => rfl
    | true =>
      rw [own sc z] at e
      cases e
  refine ⟨ns.map V.int, by rw [List.length_map]; exact hl, ?_⟩
  rcases hS with (h | ⟨od, h⟩) | h
  · exact .inr ⟨.inl (sm _ _ h), go _ h⟩
  · exact .inr ⟨.inr ⟨od, sm _ _ h⟩, go _ h⟩
  · exact .inl fun H => .inr h
/-- the law's slots, where what is drawn from has begun -/
theorem rel_law {K : Bx} {M : Fam} {cap c : Nat} {H : Hp} {sc : Addr} (ok : M.ok 0 H) (hc : c ≤ cap) (n : Nat) : Rel K ⟨M.W cap, H, fun _ => none, []⟩ (some (.ref sc) :: some (.ref M.sa) :: List.replicate n none) H (.d (.raw (.ref sc)) :: .gh c :: List.replicate n .no) (fun _ => none) := by
  have iw : (M.W cap).inv H := ⟨0, ok, Nat.zero_le _⟩
  refine ⟨(fun a u e => by cases e), Keep.refl, Sub.refl, fun a h => absurd rfl h, iw, iw, by simp, (fun q hq => by cases hq), fun i s e => ?_, fun i j s t p e1 e2 o1 o2 f1 f2 => ?_⟩
  · match i, e with
    | 0, e =>
      cases e
      exact ⟨_, rfl, .raw _⟩
    | 1, e =>
      cases e
      exact ⟨rfl, 0, ok, by omega⟩
    | i + 2, e =>
      rw [List.getElem?_cons_succ, List.getElem?_cons_succ, List.getElem?_replicate] at e
      split at e
      · cases e
        trivial
      · cases e
  · exfalso
    match i, e1 with
    | 0, e1 =>
      cases e1
      cases o1
    | 1, e1 =>
      cases e1
      cases o1
    | i + 2, e1 =>
      rw [List.getElem?_cons_succ, List.getElem?_cons_succ, List.getElem?_replicate] at e1
      split at e1
      · cases e1
        cases o1
      · cases e1
end TL
set_option Elab.async false
set_option linter.all false
set_option maxRecDepth 100000
set_option autoImplicit false
/-! TL27: draws within list comprehensions; pop; two new lists at once -/
namespace TL
open PySem PySem.Spec PyProof.Rows L2
/-- an if, its branches at a time -/
theorem if_abs {c : WT} {t u : WS} {D : ED} {ρ : List S} (h : ∀ A B : List S → Prop, (∀ ρ, t D ρ → A ρ) → (∀ ρ, u D ρ → B ρ) → c ρ fun b ρ1 => if b = true then A ρ1 else B ρ1) : wIfS c t u D ρ := h (fun ρ => t D ρ) (fun ρ => u D ρ) (fun _ h => h) fun _ h => h
section
variable {K : Bx} {G : Fc} {σ : L2.St} {H H' : Hp} {ρ ρ2 : List S} {F F' : Hp}
/-- behind a comprehension whose slots have changed -/
theorem Rel.unwipeS (h : Rel K G σ H ρ F) {vs : List Nat} (h' : Rel K G (L2.wipe σ vs) H' (wipeS ρ2 vs) F') (sF : Sub F F') (no : noOwn ρ2 vs) (ag : ∀ j ∈ vs, ρ2[j]? = ρ[j]?) (ln : ρ2.length = ρ.length) : Rel K G σ H' ρ2 F' := by
  have own : ∀ (i : Nat) (s : S), ρ2[i]? = some s → s.isOwn = true → (wipeS ρ2 vs)[i]? = some s ∧ (L2.wipe σ vs)[i]? = σ[i]? := fun i s e o => by
    have hi : i ∉ vs := fun z => by
      have z2 := S.isX_own (no i z s e)
      rw [o] at z2
      cases z2
    exact ⟨by rw [wipeS_get, if_neg fun z => hi z.2]; exact e, wipe_out' hi⟩
  refine ⟨h'.sub, h'.base, h'.old, h'.fresh, h'.inv, h'.inv0, ln.trans h.len, fun q hq => ?_, fun i s e => ?_, fun i j s t p e1 e2 o1 o2 f1 f2 => ?_⟩
  · obtain ⟨a1, a2, a3⟩ := h'.pin q hq
    refine ⟨a1, a2, fun i s e o => ?_⟩
    obtain ⟨g1, g2⟩ := own i s e o
    rw [← g2]
    exact a3 i s g1 o
  · by_cases hi : i ∈ vs
    · have z := h.slot i s ((ag i hi).symm.trans e)
      have o := no i hi s e
      cases s with
      | no => exact z
      | d t =>
        obtain ⟨v, ev, rv⟩ := z
        exact ⟨v, ev, rv.mono sF⟩
      | ol xs => cases o
      | od k kvs => cases o
      | gh k => cases o
    · have z := h'.slot i s (by rw [wipeS_get, if_neg fun z => hi z.2]; exact e)
      rw [wipe_out' hi] at z
      exact z
  · obtain ⟨g1, g2⟩ := own i s e1 o1
    obtain ⟨g3, g4⟩ := own j t e2 o2
    rw [← g2] at f1
    rw [← g4] at f2
    exact h'.sep i j s t p g1 g3 o1 o2 f1 f2
end
section
variable {X : Cx} {G : Fc}
/-- a list comprehension in whose turns slots change (what is drawn from) -/
def wLcS (t : WI) (g : WG) (tt : WT) (te : WE) (vs : List Nat) : WN := fun ρ Q => t ρ fun L ρ1 => ∃ P : Nat → List T → List S → Prop, P 0 [] ρ1 ∧
  (∀ i acc ρ2, P i acc ρ2 → noOwn ρ2 vs ∧ (∀ j ∈ vs, ρ2[j]? = ρ1[j]?) ∧ ρ2.length = ρ1.length) ∧
  (∀ i x acc ρ2, L[i]? = some x → P i acc ρ2 → g x (wipeS ρ2 vs) fun ρ3 => tt ρ3 fun b ρ4 => if b = true then te ρ4 fun r ρ5 => frz r ρ5 fun y ρ6 => ∃ ρ7, (acc.length < sizeLine ∧ P (i + 1) (acc ++ [y]) ρ7) ∧ wk ρ6 (wipeS ρ7 vs) else ∃ ρ7, P (i + 1) acc ρ7 ∧ wk ρ4 (wipeS ρ7 vs)) ∧
  ∀ acc ρ2, P L.length acc ρ2 → Q (.ol acc) ρ2
/-- what such a comprehension asks, behind its iterable -/
def LcB (g : WG) (tt : WT) (te : WE) (vs : List Nat) (Q : S → List S → Prop) (L : List T) (ρ1 : List S) : Prop := ∃ P : Nat → List T → List S → Prop, P 0 [] ρ1 ∧
  (∀ i acc ρ2, P i acc ρ2 → noOwn ρ2 vs ∧ (∀ j ∈ vs, ρ2[j]? = ρ1[j]?) ∧ ρ2.length = ρ1.length) ∧
  (∀ i x acc ρ2, L[i]? = some x → P i acc ρ2 → g x (wipeS ρ2 vs) fun ρ3 => tt ρ3 fun b ρ4 => if b = true then te ρ4 fun r ρ5 => frz r ρ5 fun y ρ6 => ∃ ρ7, (acc.length < sizeLine ∧ P (i + 1) (acc ++ [y]) ρ7) ∧ wk ρ6 (wipeS ρ7 vs) else ∃ ρ7, P (i + 1) acc ρ7 ∧ wk ρ4 (wipeS ρ7 vs)) ∧
  ∀ acc ρ2, P L.length acc ρ2 → Q (.ol acc) ρ2
theorem lcS_abs {t : WI} {g : WG} {tt : WT} {te : WE} {vs : List Nat} {ρ : List S} {Q : S → List S → Prop} (h : ∀ B : List T → List S → Prop, (∀ L ρ1, LcB g tt te vs Q L ρ1 → B L ρ1) → t ρ B) : wLcS t g tt te vs ρ Q :=
  h (fun L ρ1 => LcB g tt te vs Q L ρ1) fun _ _ z => z
/-- .. c draws a turn, no test -/
theorem lcB_gh {g : WG} {te : WE} {vs : List Nat} {L : List T} {Q : S → List S → Prop} (mk : Nat → List S) (k0 c : Nat) (good : T → Prop) (hk : c * L.length ≤ k0) (hl : L.length ≤ sizeLine) (no : ∀ k, noOwn (mk k) vs) (ag : ∀ k, ∀ j ∈ vs, (mk k)[j]? = (mk k0)[j]?) (ln : ∀ k, (mk k).length = (mk k0).length)
    (step : ∀ x k, x ∈ L → c ≤ k → ∀ KT : T → List S → Prop, (∀ y ρ6, good y → wk ρ6 (wipeS (mk (k - c)) vs) → KT y ρ6) → g x (wipeS (mk k) vs) fun ρ3 => te ρ3 fun r ρ5 => frz r ρ5 KT)
    (fin : ∀ acc, acc.length = L.length → (∀ y ∈ acc, good y) → Q (.ol acc) (mk (k0 - c * L.length))) : LcB g wYes te vs Q L (mk k0) := by
  refine ⟨fun i acc ρ2 => acc.length = i ∧ (∀ y ∈ acc, good y) ∧ i ≤ L.length ∧ ρ2 = mk (k0 - c * i), ⟨rfl, (fun y hy => nomatch hy), Nat.zero_le _, by simp⟩, fun i acc ρ2 ⟨_, _, _, e⟩ => by subst e; exact ⟨no _, ag _, ln _⟩, fun i x acc ρ2 hx ⟨e1, e2, e3, e4⟩ => ?_, fun acc ρ2 ⟨e1, e2, _, e4⟩ => by subst e4; exact fin acc e1 e2⟩
  subst e4
  have hi : i < L.length := (List.getElem?_eq_some_iff.mp hx).1
  have hm : c * (i + 1) ≤ c * L.length := Nat.mul_le_mul_left c hi
  rw [Nat.mul_succ] at hm
  have h2 := step x (k0 - c * i) (List.mem_of_getElem? hx) (by omega) (fun y ρ6 => ∃ ρ7, (acc.length < sizeLine ∧ (acc ++ [y]).length = i + 1 ∧ (∀ z ∈ acc ++ [y], good z) ∧ i + 1 ≤ L.length ∧ ρ7 = mk (k0 - c * (i + 1))) ∧ wk ρ6 (wipeS ρ7 vs)) (fun y ρ6 gy w => ⟨mk (k0 - c * (i + 1)), ⟨by omega, by simp [e1], fun z hz => ?_, hi, rfl⟩, ?_⟩)
  · exact h2
  · rcases List.mem_append.mp hz with q | q
    · exact e2 z q
    · rw [List.mem_singleton.mp q]
      exact gy
  · rw [Nat.mul_succ, ← Nat.sub_sub]
    exact w
theorem liftLcS {t : WI} {g : WG} {tt : WT} {te : WE} {vs is : List Nat} (his : ∀ i ∈ is, i ∈ vs) {σ : L2.St} {H : Hp} {Q : VK} (h : LN (bx X) G (wLcS t g tt te vs) σ H Q) :
    tLc (LI (bx X) G t) (xG (bx X) G is g) (xT (bx X) G tt) (xE (bx X) G te) vs σ H Q := by
  obtain ⟨ρ, F, Q', R, ht, k⟩ := h
  refine ⟨ρ, F, _, R, ht, fun J H1 ρ1 F1 L R1 s1 ok ⟨P, p0, sh, step, fin⟩ => fun D nD => ?_⟩
  have pne : ∀ q ∈ G.pins, q.1 ≠ D := fun q hq => ne_of_none (R1.pin q hq).1 nD
  refine ⟨fun i m H2 => ∃ F2 acc vacc ρ2, Rel (bx X) (G.pin ((D, .lst vacc) :: G.pins)) (wipe σ vs) H2 (wipeS ρ2 vs) F2 ∧ Sub F1 F2 ∧ RpAll (bx X) F2 vacc acc ∧ m = L.length - i ∧ i ≤ L.length ∧ P i acc ρ2,
    ⟨L.length, F1, [], [], ρ1, (R1.wipe vs).pinned nD _, Sub.refl, .nil, rfl, Nat.zero_le _, p0⟩, fun i m H2 ⟨F2, acc, vacc, ρ2, R2, s2, ra, em, hi, pi⟩ => ?_⟩
  obtain ⟨o1, o2, o3⟩ := ok i H2 F2 s2 R2.subH
  by_cases hlt : i < L.length
  · refine .inr ⟨o1 hlt, fun H' => ∃ F2 acc vacc ρ2, Rel (bx X) (G.pin ((D, .lst vacc) :: G.pins)) (wipe σ vs) H' (wipeS ρ2 vs) F2 ∧ Sub F1 F2 ∧ RpAll (bx X) F2 vacc acc ∧ P (i + 1) acc ρ2,
      fun H' ⟨F3, acc', vacc', ρ3, R3, s3, ra3, p3⟩ => ⟨L.length - (i + 1), by omega, F3, acc', vacc', ρ3, R3, s3, ra3, rfl, hlt, p3⟩, fun x H3 y => ?_⟩
    have et := List.getElem?_eq_getElem hlt
    obtain ⟨F3, R3, s3, rx⟩ := o3 x H3 _ et y _ _ _ R2
    refine ⟨_, wipeS ρ2 vs, F3, _, _, R3, rx, step i _ acc ρ2 et pi, fun σ4 H4 ρ4 F4 R4 s4 ag q4 => ⟨?_, ?_⟩⟩
    · have e := ag vs his
      rw [e, wipe_idem]
    have back : ∀ {H5 : Hp} {F5 : Hp} {ρ5 ρ7 : List S}, Rel (bx X) (G.pin ((D, .lst vacc) :: G.pins)) σ4 H5 ρ5 F5 → wk ρ5 (wipeS ρ7 vs) → Rel (bx X) (G.pin ((D, .lst vacc) :: G.pins)) (wipe σ vs) H5 (wipeS ρ7 vs) F5 := fun {H5 F5 ρ5 ρ7} R5 w5 => by
      have ew : wipe σ4 vs = wipe σ vs := by
        rw [ag vs his, wipe_idem]
      have R6 := (R5.wk w5).wipe vs
      rw [ew] at R6
      rw [wipeS_idem] at R6
      exact R6
    refine ⟨_, ρ4, F4, _, R4, q4, fun b H5 ρ5 F5 R5 s5 q5 => ?_⟩
    cases b with
    | false =>
      obtain ⟨ρ7, p7, w7⟩ := q5
      exact ⟨F5, acc, vacc, ρ7, back R5 w7, s2.trans (s3.trans (s4.trans s5)), ra.mono (s3.trans (s4.trans s5)), p7⟩
    | true =>
      refine ⟨_, ρ5, F5, _, R5, q5, fun y H6 ρ6 F6 r R6 s6 rr q6 => ?_⟩
      obtain ⟨ρ7, F7, z, R7, s7, rz, ⟨ρ8, ⟨hl, pz⟩, wz⟩⟩ := R6.frzOk rr q6
      obtain ⟨h1, _, _⟩ := R7.pin (D, .lst vacc) List.mem_cons_self
      refine ⟨vacc, h1, by rw [ra.length]; exact hl, F7, acc ++ [z], vacc ++ [y], ρ8, (back R7 wz).repin pne, s2.trans (s3.trans (s4.trans (s5.trans (s6.trans s7)))), (ra.mono (s3.trans (s4.trans (s5.trans (s6.trans s7))))).append (.cons rz .nil), pz⟩
  · have e : i = L.length := by omega
    subst e
    refine .inl ⟨o2 rfl, ?_⟩
    obtain ⟨no, ag, ln⟩ := sh _ _ _ pi
    obtain ⟨h1, h2, h3⟩ := R2.pin (D, .lst vacc) List.mem_cons_self
    have R3 : Rel (bx X) G (wipe σ vs) H2 (wipeS ρ2 vs) F2 := R2.unpin
    have R4 := R1.unwipeS R3 s2 no ag ln
    refine k (.ref D) H2 ρ2 F2 (.ol acc) R4 (s1.trans s2) ⟨⟨D, vacc, rfl, ⟨h2.f, h2.h0, h2.w⟩, h1, ra⟩, rfl, fun j t e o z => ?_, fun q hq z => ?_⟩ (fin acc ρ2 pi)
    · have hj : j ∉ vs := fun z => by
        have := S.isX_own (no j z t e)
        rw [o] at this
        cases this
      exact h3 j t (by rw [wipeS_get, if_neg fun z => hj z.2]; exact e) o (by rw [wipe_out' hj]; exact z)
    · exact pne q hq (V.ref.inj z).symm
theorem tn_lcS {elt tg iter : Expr} {ifs : List Expr} {scope : Scope} {own : List (Str × Nat)} {pos : Pos} {t : WI} {is : List Nat} {g : WG} {tt : WT} {te : WE} (hc : X.calm = true) (hN : X.N.Nodup) (hi : PI X tg iter (LI (bx X) G t)) (ok : BlkOk X.N X.env.scope scope own) (his : ∀ i ∈ is, i ∈ own.map (·.2))
    (hg : ∀ (l : List (Addr × HO)) (s : Shared) (H : Hp) (C : Addr) (cl : List (Str × Addr)) (fp : List Addr), PG (X.blk s H scope (compEnvC scope cl C X.env) fp) tg (LG (bx X) (G.pin l) is g)) (ht : ∀ (l : List (Addr × HO)) (s : Shared) (H : Hp) (C : Addr) (cl : List (Str × Addr)) (fp : List Addr), PTs (X.blk s H scope (compEnvC scope cl C X.env) fp) ifs (LT (bx X) (G.pin l) tt))
    (he : ∀ (l : List (Addr × HO)) (s : Shared) (H : Hp) (C : Addr) (cl : List (Str × Addr)) (fp : List Addr), PE (X.blk s H scope (compEnvC scope cl C X.env) fp) elt (LE (bx X) (G.pin l) te)) (hs : ∀ x, foldedSetIterable iter X.env x = pure x := by intro _; rfl) :
    PE X (.ListComp elt [⟨tg, iter, ifs, 0⟩] scope pos) (LN (bx X) G (wLcS t g tt te (own.map (·.2)))) :=
  PE.wk (pe_lc (g := xG (bx X) G is g) (tt := xT (bx X) G tt) (te := xE (bx X) G te) hc hN hi ok (fun s H C cl fp => ⟨fun pins s σ H v u Q I r ⟨l, q⟩ => (hg l _ _ _ _ _).run pins s σ H v u Q I r q⟩) (fun s H C cl fp => ⟨fun pins s σ H Q I ⟨l, q⟩ => (ht l _ _ _ _ _).run pins s σ H Q I q⟩)
    (fun s H C cl fp => ⟨fun pins s σ H Q I ⟨l, q⟩ => (he l _ _ _ _ _).run pins s σ H Q I q⟩) hs) fun _ _ _ h => liftLcS his h
theorem ts_setLcS {i : Nat} {y : Str} {py : Pos} {elt tg iter : Expr} {ifs : List Expr} {scope : Scope} {own : List (Str × Nat)} {pos spos : Pos} {t : WI} {is : List Nat} {g : WG} {tt : WT} {te : WE} (hc : X.calm = true) (hN : X.N.Nodup) (hy : X.N[i]? = some y) (hyl : X.env.scope.names.lookup y = some .local)
    (hsw : swapsWith (.ListComp elt [⟨tg, iter, ifs, 0⟩] scope pos) (some (.Name y py)) spos.line X.env = pure true) (hi : PI X tg iter (LI (bx X) G t)) (ok : BlkOk X.N X.env.scope scope own) (his : ∀ i ∈ is, i ∈ own.map (·.2))
    (hg : ∀ (l : List (Addr × HO)) (s : Shared) (H : Hp) (C : Addr) (cl : List (Str × Addr)) (fp : List Addr), PG (X.blk s H scope (compEnvC scope cl C X.env) fp) tg (LG (bx X) (G.pin l) is g)) (ht : ∀ (l : List (Addr × HO)) (s : Shared) (H : Hp) (C : Addr) (cl : List (Str × Addr)) (fp : List Addr), PTs (X.blk s H scope (compEnvC scope cl C X.env) fp) ifs (LT (bx X) (G.pin l) tt))
    (he : ∀ (l : List (Addr × HO)) (s : Shared) (H : Hp) (C : Addr) (cl : List (Str × Addr)) (fp : List Addr), PE (X.blk s H scope (compEnvC scope cl C X.env) fp) elt (LE (bx X) (G.pin l) te)) (hs : ∀ x, foldedSetIterable iter X.env x = pure x := by intro _; rfl) :
    PS X (.Assign [.Name y py] (.ListComp elt [⟨tg, iter, ifs, 0⟩] scope pos) spos) (LS (bx X) G (wSetZ i (wLcS t g tt te (own.map (·.2))))) := by
  refine PS.wk (ps_setLc (g := xG (bx X) G is g) (tt := xT (bx X) G tt) (te := xE (bx X) G te) hc hN hy hyl hsw hi ok (fun s H C cl fp => ⟨fun pins s σ H v u Q I r ⟨l, q⟩ => (hg l _ _ _ _ _).run pins s σ H v u Q I r q⟩) (fun s H C cl fp => ⟨fun pins s σ H Q I ⟨l, q⟩ => (ht l _ _ _ _ _).run pins s σ H Q I q⟩)
    (fun s H C cl fp => ⟨fun pins s σ H Q I ⟨l, q⟩ => (he l _ _ _ _ _).run pins s σ H Q I q⟩) hs) fun D σ H h => liftLcS his (setZ_of (e := fun g => tAsg (fun σ H Q => True) g) h)
/-- a, b = a list of two -/
def gLL (n : Nat) (u : WGs) : WG := fun t ρ Q => match t with
  | .lst xs => xs.length = n ∧ u xs ρ Q
  | _ => False
@[simp ↓] theorem gLL_p (n : Nat) (u : WGs) (t_ : T) (s_ : S) (r_ : List S) (Q_ : List S → Prop) : gLL n u t_ (s_ :: r_) Q_ = (fun t ρ Q => match t with
  | .lst xs => xs.length = n ∧ u xs ρ Q
  | _ => False) t_ (s_ :: r_) Q_ := rfl
theorem tg_ll {es : List Expr} {m : Nat} {is : List Nat} {u : WGs} {n : Nat} {pos : Pos} (hc : X.calm = true) (h : PGs X es (LGs (bx X) G is u)) (hn : (assignEach es X.env).length = n := by rfl)
    (hst : (assignEach es X.env).findIdx? (·.1) = none := by rfl) : PG X (.Tuple es m pos) (LG (bx X) G is (gLL n u)) := by
  refine PG.wk (pg_lst hc h hn hst) fun v σ H Q ⟨ρ, F, t, Q', R, rt, q, k⟩ => ?_
  unfold gLL at q
  split at q
  · rename_i xs
    cases rt with
    | lst hs hr => exact ⟨_, _, rfl, R.subH.sqL (SqL.of hs), by rw [hr.length]; exact q.1, ρ, F, xs, Q', R, hr, q.2, k⟩
  · exact q.elim
/-- x.pop(e), x an own list -/
def wPopAt (i : Nat) (te : WE) : WE := fun ρ Q => (∃ xs, ρ[i]? = some (.ol xs)) ∧ te ρ fun r ρ1 => frz r ρ1 fun z ρ2 => ∃ (k : Nat) (xs : List T) (y : T), z = .int (k : Int) ∧ ρ2[i]? = some (.ol xs) ∧ xs[k]? = some y ∧ k < 1073741824 ∧ Q (.v y) (ρ2.set i (.ol (xs.eraseIdx k)))
@[simp ↓] theorem wPopAt_p (i : Nat) (te : WE) (s_ : S) (r_ : List S) (Q_ : _) : wPopAt i te (s_ :: r_) Q_ = (fun ρ Q => (∃ xs, ρ[i]? = some (.ol xs)) ∧ te ρ fun r ρ1 => frz r ρ1 fun z ρ2 => ∃ (k : Nat) (xs : List T) (y : T), z = .int (k : Int) ∧ ρ2[i]? = some (.ol xs) ∧ xs[k]? = some y ∧ k < 1073741824 ∧ Q (.v y) (ρ2.set i (.ol (xs.eraseIdx k)))) (s_ :: r_) Q_ := rfl
theorem rpAll_erase {K : Bx} {F : Hp} : ∀ {vs : List V} {ts : List T} (n : Nat), RpAll K F vs ts → RpAll K F (vs.eraseIdx n) (ts.eraseIdx n)
  | _, _, _, .nil => .nil
  | _, _, 0, .cons _ r => r
  | _, _, n + 1, .cons a r => .cons a (rpAll_erase n r)
theorem seq_ix {n m : Nat} (h : n < m) : seqIndex? (n : Int) m = some n := by
  have h1 : ¬ ((n : Int) < 0) := by omega
  unfold seqIndex?
  rw [if_neg h1]
  simp [h]
theorem te_popAt {i : Nat} {x : Str} {e : Expr} {te : WE} {p apos cpos : Pos} (hN : X.N[i]? = some x) (hv : Vis X.env.scope x) (ha : PA X [e] (LA (bx X) G (wCons te wNil))) (hd : (x == ("__debug__" : Str)) = false := by decide) (hcd : (x == ("__classdict__" : Str)) = false := by decide)
    (hbase : attributeBase (.Name x p) "pop" X.env (eval (.Name x p) X.env) = eval (.Name x p) X.env := by rfl)
    (hfew : ((backTo cpos (starEach [e] X.env)).all (fun x => !x.1) && (backToKw cpos (keywordEach [] X.env)).all (fun x => x.1.isSome)
      && decide (([e] : List Expr).length + ([] : List Keyword).length + (if ([] : List Keyword).isEmpty then 0 else 1) < 30)) = true := by rfl)
    (hline : (apos.endLine == cpos.line) = true := by rfl) (hs : starEach [e] X.env = (false, eval e X.env) :: starEach [] X.env := by rfl) (hplain : (backTo cpos (starEach [] X.env)).any (·.1) = false := by rfl) :
    PE X (.Call (.Attribute (.Name x p) "pop" apos) [e] [] cpos) (LE (bx X) G (wPopAt i te)) := by
  refine PE.wk (pe_bmG PySem.F.plainAttrs_list PySem.F.slot_list_pop PySem.F.type_list_pop mt_popAt (pe_var (i := i) hN hv hd hcd) ha hbase hfew hline hs hplain) fun σ H Q ⟨ρ, F, Q', R, ⟨⟨xs0, e0⟩, ht⟩, k⟩ => ?_
  obtain ⟨p0, vs0, ep, ow0, hp0, rv0⟩ := R.slot i _ e0
  refine ⟨_, ep, tyR_lst hp0, ρ, F, fun ys ρ2 => match ys with
    | [z] => ∃ (k : Nat) (xs : List T) (y : T), z = .int (k : Int) ∧ ρ2[i]? = some (.ol xs) ∧ xs[k]? = some y ∧ k < 1073741824 ∧ Q' (.v y) (ρ2.set i (.ol (xs.eraseIdx k)))
    | _ => False, R, ht, fun us H1 ρ1 F1 ys R1 s1 rs q => ?_⟩
  cases rs with
  | nil => exact q.elim
  | cons ry rt =>
    cases rt with
    | cons _ _ => exact q.elim
    | nil =>
      obtain ⟨n, xs, y, rfl, e1, ey, hn, q⟩ := q
      cases ry
      obtain ⟨p1, vs, ep1, ow, hp, rv⟩ := R1.slot i _ e1
      rw [ep] at ep1
      cases ep1
      obtain ⟨v, ev, rvy⟩ := rv.get ey
      have hlt : n < vs.length := (List.getElem?_eq_some_iff.mp ev).1
      refine ⟨p0, vs, (n : Int), n, v, rfl, rfl, hp, by omega, by omega, seq_ix hlt, ev, ?_⟩
      have ok : SlotOk (bx X) G F1 (upd H1 p0 (.lst (vs.eraseIdx n))) σ[i]? (.ol (xs.eraseIdx n)) := ⟨p0, _, ep, ⟨ow.f, ow.h0, ow.w⟩, upd_same, rpAll_erase n rv⟩
      exact k _ _ _ F1 (.v y) (R1.mut e1 rfl ep rfl ok) s1 rvy q
/-- a, b = (a new thing), [] -/
def wParL (i j : Nat) (t : WN) : WS := fun D ρ => t ρ fun s ρ1 => D.nx ((ρ1.set i s).set j (.ol []))
@[simp ↓] theorem wParL_p (i j : Nat) (t : WN) (D_ : ED) (s_ : S) (r_ : List S) : wParL i j t D_ (s_ :: r_) = (fun D ρ => t ρ fun s ρ1 => D.nx ((ρ1.set i s).set j (.ol []))) D_ (s_ :: r_) := rfl
theorem ts_parL {i j : Nat} {x y : Str} {a : Expr} {t : WN} {px py pt p0 : Pos} {kt k2 pt2} {pos : Pos} (hc : X.calm = true) (hN : X.N.Nodup) (hi : X.N[i]? = some x) (hj : X.N[j]? = some y) (hij : i ≠ j)
    (hx : X.env.scope.names.lookup x = some .local) (hy : X.env.scope.names.lookup y = some .local) (ha : PA X [a, .List [] p0] (tCons (LN (bx X) G t) (tCons (tLst tNil) tNil)))
    (hw : swappedStores [.Tuple [.Name x px, .Name y py] kt pt] (.Tuple [a, .List [] p0] k2 pt2) X.env = pure (some [x, y]))
    (hs : swapsWithSole [.Tuple [.Name x px, .Name y py] kt pt] (.Tuple [a, .List [] p0] k2 pt2) pos.line X.env = pure false := by rfl) :
    PS X (.Assign [.Tuple [.Name x px, .Name y py] kt pt] (.Tuple [a, .List [] p0] k2 pt2) pos) (LS (bx X) G (wParL i j t)) := by
  refine PS.wk (ps_par hc hN hi hj hij hx hy ha hw hs) fun D σ H ⟨ρ, F, D', R, ht, k, _⟩ => ⟨ρ, F, _, R, ht, fun v H' ρ' F' s R' s' rn q => ⟨Nat.zero_le _, fun p np => ⟨v, .ref p, rfl, ?_⟩⟩⟩
  have R2 := R'.setN i rn
  obtain ⟨R3, N3⟩ := R2.new np (o := .lst []) (s := .ol []) rfl fun ow => ⟨p, [], rfl, ow, upd_same, .nil⟩
  exact k _ _ _ _ (R3.setN j N3) s' q
end
end TL
set_option Elab.async false
set_option linter.all false
set_option maxRecDepth 100000
set_option autoImplicit false
set_option maxHeartbeats 2000000
/-! O13: pairs of a row -/
namespace TL
open PySem PySem.Spec PyProof.Rows L2
def pairsOf : List Nat → List (Nat × Nat)
  | [] => []
  | x :: l => l.map (fun y => (x, y)) ++ pairsOf l
def sp_pairs_of : TSp := sp1 fun t Q => ∃ l : List Nat, t = lT l ∧ l.length ≤ 6 ∧ Q (.lst ((pairsOf l).map pT))
theorem call_pairs_of {l : List Nat} {Q : T → Prop} (h : l.length ≤ 6) (q : Q (.lst ((pairsOf l).map pT))) : sp_pairs_of [lT l] Q := ⟨_, rfl, l, rfl, h, q⟩
/-- slots: places, found, at, one, other -/
def t_pairs_of : WS :=
  (wSeq (wSet 1 (wLst wNil))
  (wSeq (wFor (wEnum (wCons (wVar 0) wNil)) (gTupT 2 (gConsT (gSet 2) (gConsT (gSet 3) gNilT))) (wSet 1 (wOp oAdd (wVar 1) (wFz (wLc (wSq (wSl (wVar 0) (wPart (wOp oAdd (wVar 2) (wC (.int 1)))) wPart0)) (gSet 4) wYes (wTup (wCons (wVar 3) (wCons (wVar 4) wNil))) [4])))))
  (wRet (wVar 1))))
theorem read_pairs_of : ∀ xs Q, sp_pairs_of xs Q → t_pairs_of { nx := fun _ => Q .non, rt := Q } (startS 5 xs) := by
  rintro xs Q ⟨t, rfl, l, rfl, hl, q⟩
  simp only [t_pairs_of, startS]
  refine seq_abs fun U1 h1 => ?_
  simp
  refine h1 _ ?_
  refine seq_abs fun U2 h2 => ?_
  have full := List.drop_zero (l := l)
  refine for_ty (ρ1 := [.d (lT l), .d (.lst []), .no, .no, .no]) l.zipIdx (fun p => .tup [nT p.2, nT p.1]) (fun i ρ => ∃ f : List (Nat × Nat), f ++ pairsOf (l.drop i) = pairsOf l ∧ f.length ≤ 6 * i ∧ ρ = [.d (lT l), .d (.lst (f.map pT)), .no, .no, .no]) (fun Q' z => ?_) ⟨_, ⟨[], rfl, by simp, rfl⟩, wk_refl _⟩ (fun i p ρ hi => ?_) ?_
  · simp [seqT]
    have e : enumTs (l.map nT) = l.zipIdx.map (fun p => T.tup [nT p.2, nT p.1]) := by
      unfold enumTs
      rw [List.mapIdx_eq_zipIdx_map, List.zipIdx_map, List.map_map]
      rfl
    rw [e]
    exact z
  · rintro ⟨f, e1, e2, rfl⟩ N hN
    rw [List.getElem?_zipIdx] at hi
    obtain ⟨x, hx, rfl⟩ := Option.map_eq_some_iff.mp hi
    have hil : i < l.length := (List.getElem?_eq_some_iff.mp hx).1
    simp
    refine lc_ty (ρ1 := [.d (lT l), .d (.lst (f.map pT)), .d (nT i), .d (nT x), .no]) (l.drop (i + 1)) nT (fun _ => true) (fun y => pT (x, y)) (fun Q' z => ?_) (by simp) (by rw [List.length_drop, sizeLine_eq]; omega) (fun y hy KT KF k1 k2 => ?_) ?_
    · have e : ((i : Int) + 1) = ((i + 1 : Nat) : Int) := rfl
      simp
      rw [e, cut_from, ← List.map_drop]
      exact z
    · simp
      exact ⟨sl2, k1 rfl⟩
    · simp
      rw [filter_tt, sizeLine_eq, List.length_drop]
      refine ⟨by omega, hN _ _ ⟨f ++ (l.drop (i + 1)).map (fun y => (x, y)), ?_, ?_, rfl⟩ ?_⟩
      · have e3 : l.drop i = x :: l.drop (i + 1) := by
          rw [List.drop_eq_getElem_cons hil]
          congr 1
          exact (List.getElem?_eq_some_iff.mp hx).2
        rw [e3, pairsOf] at e1
        rw [List.append_assoc]
        exact e1
      · rw [List.length_append, List.length_map, List.length_drop]
        omega
      · simp [Function.comp_def, List.map_drop]
  · rintro ρ ⟨f, e1, e2, rfl⟩
    simp
    refine h2 _ ?_
    simp
    rw [List.length_zipIdx, List.drop_of_length_le (Nat.le_refl _)] at e1
    have e3 : f = pairsOf l := by simpa [pairsOf] using e1
    rw [e3]
    exact q
end TL
set_option Elab.async false
set_option linter.all false
set_option maxRecDepth 100000
set_option autoImplicit false
set_option maxHeartbeats 2000000
/-! O14: lines told, rows judged, what rows have in common -/
namespace TL
open PySem PySem.Spec PyProof.Rows L2
def sp_lines : TSp := sp1 fun t Q => ∃ (n : Nat) (ts : List (Nat × Nat)), t = oT n ts ∧ Ord n ts ∧ Q (.tup ((lines n ts).map lT))
theorem call_lines {n : Nat} {ts : List (Nat × Nat)} {Q : T → Prop} (h : Ord n ts) (q : Q (.tup ((lines n ts).map lT))) : sp_lines [oT n ts] Q := ⟨_, rfl, n, ts, rfl, h, q⟩
/-- slots: order -/
def t_lines : WS :=
  (wSeq (wDrop (wCall (fun xs => sp_need_order (xs ++ [])) (wCons (wVar 0) wNil)))
  (wRet (wCB oTupC (wConsR (wCall (fun xs => sp_all_lines (xs ++ [])) (wCons (wVar 0) wNil)) wNilR))))
theorem read_lines : ∀ xs Q, sp_lines xs Q → t_lines { nx := fun _ => Q .non, rt := Q } (startS 1 xs) := by
  rintro xs Q ⟨t, rfl, n, ts, rfl, h, q⟩
  simp [t_lines, startS]
  refine call_need_order h ?_
  exact call_all_lines h q
/-- a row of all places -/
structure RowP (n : Nat) (l : List Nat) : Prop where
  nd : l.Nodup
  mem : ∀ x, x ∈ l ↔ x < n
theorem RowP.full {n : Nat} {l : List Nat} (h : RowP n l) : Full n [] l := ⟨h.nd, h.mem, by unfold Pw; exact List.Pairwise.imp (fun _ => by simp) h.nd⟩
theorem RowP.len {n : Nat} {l : List Nat} (h : RowP n l) : l.length = n := full_len h.full
theorem Full.row {n : Nat} {ts : List (Nat × Nat)} {l : List Nat} (h : Full n ts l) : RowP n l := ⟨h.nd, h.mem⟩
theorem RowP.sort {n : Nat} {l : List Nat} (h : RowP n l) : sortN l = List.range n := by
  have hp : l.Perm (List.range n) := (List.perm_ext_iff_of_nodup h.nd List.nodup_range).mpr fun x => (h.mem x).trans List.mem_range.symm
  refine List.Perm.eq_of_pairwise (fun a b _ _ h1 h2 => Nat.le_antisymm h1 h2) (sortN_sorted _) ?_ ((sortN_perm l).trans hp)
  exact List.pairwise_lt_range.imp fun h => Nat.le_of_lt h
def sp_is_line : TSp := sp2 fun m t Q => ∃ (n : Nat) (l : List Nat), m = nT n ∧ t = lT l ∧ 1 ≤ n ∧ n ≤ 6 ∧ RowP n l ∧ Q (.bl true)
theorem call_is_line {n : Nat} {l : List Nat} {Q : T → Prop} (h1 : 1 ≤ n) (h6 : n ≤ 6) (h : RowP n l) (q : Q (.bl true)) : sp_is_line [nT n, lT l] Q := ⟨_, _, rfl, n, l, rfl, rfl, h1, h6, h, q⟩
/-- slots: many, thing, one -/
def t_is_line : WS :=
  (wSeq (wIfS (wOrT (wNotT (wB (wCB oIsi (wConsR (wVar 1) (wConsR (wC (.raw (.ty "tuple"))) wNilR))))) (wOrT (wB (wOp oNeA (wCB oLen (wConsR (wVar 1) wNilR)) (wVar 0))) (wNotT (wB (wCB oAll (wConsR (wFz (wLc (wSq (wVar 1)) (gSet 2) wYes (wCall (fun xs => sp_is_below (xs ++ [])) (wCons (wVar 2) (wCons (wVar 0) wNil))) [2])) wNilR)))))) (wRet (wC (.bl false))) wNext)
  (wRet (wOp oEqA (wFz (wCBN oSortN (wConsR (wVar 1) wNilR))) (wFz (wLrg (wRg1 (wVar 0)))))))
theorem read_is_line : ∀ xs Q, sp_is_line xs Q → t_is_line { nx := fun _ => Q .non, rt := Q } (startS 3 xs) := by
  rintro xs Q ⟨m, t, rfl, n, l, rfl, rfl, h1, h6, h, q⟩
  have hl := h.len
  have hz : l.length ≤ sizeLine := by rw [hl, sizeLine_eq]; omega
  simp only [t_is_line, startS]
  refine seq_abs fun U1 h1' => ?_
  simp [hl, tyKnown, tyIs, tyOf]
  refine lc_ty (ρ1 := [.d (nT n), .d (lT l), .no]) l nT (fun _ => true) (fun _ => .bl true) (fun Q' z => by simpa using z) (by simp) hz (fun x hx KT KF k1 k2 => ?_) ?_
  · simp [belowB_n ((h.mem x).mp hx)]
    exact k1 rfl
  · rw [filter_tt]
    simp
    refine ⟨l.map fun _ => true, by simp, ?_⟩
    simp
    refine h1' _ ?_
    simp
    refine ⟨srt_n l, ?_, ?_⟩
    · unfold RgOk
      omega
    · rw [range_n, sortN_eq, h.sort]
      refine ⟨fun x hx => ?_, ?_⟩
      · obtain ⟨k, _, rfl⟩ := List.mem_map.mp hx
        simp
      · rw [eqTs_l]
        simpa using q
def sp_pairs_in : TSp := sp1 fun t Q => ∃ l : List Nat, t = lT l ∧ l.length ≤ 6 ∧ Q (.dic .tup ((putsD [] ((pairsOf l).map fun p => (p, true))).map fun p => (pT p.1, T.bl p.2)))
theorem call_pairs_in {l : List Nat} {Q : T → Prop} (h : l.length ≤ 6) (q : Q (.dic .tup ((putsD [] ((pairsOf l).map fun p => (p, true))).map fun p => (pT p.1, T.bl p.2)))) : sp_pairs_in [lT l] Q := ⟨_, rfl, l, rfl, h, q⟩
theorem pairsOf_len : ∀ l : List Nat, (pairsOf l).length ≤ l.length * l.length
  | [] => by simp [pairsOf]
  | x :: l => by
    have ih := pairsOf_len l
    rw [pairsOf, List.length_append, List.length_map, List.length_cons, Nat.add_mul, Nat.mul_add]
    omega
theorem pairsOf_six {l : List Nat} (h : l.length ≤ 6) : (pairsOf l).length ≤ 36 := Nat.le_trans (pairsOf_len l) (Nat.mul_le_mul h h)
/-- slots: line, pair -/
def t_pairs_in : WS :=
  (wRet (wFz (wDc (wSq (wCall (fun xs => sp_pairs_of (xs ++ [])) (wCons (wVar 0) wNil))) (gSet 1) wYes (wVar 1) (wC (.bl true)) [1])))
theorem read_pairs_in : ∀ xs Q, sp_pairs_in xs Q → t_pairs_in { nx := fun _ => Q .non, rt := Q } (startS 2 xs) := by
  rintro xs Q ⟨t, rfl, l, rfl, hl, q⟩
  have hz : (pairsOf l).length ≤ sizeLine := by have := pairsOf_six hl; rw [sizeLine_eq]; omega
  simp [t_pairs_in, startS]
  refine dc_ty (ρ1 := [.d (lT l), .no]) .tup (pairsOf l) pT (fun _ => true) pT (fun _ => .bl true) (fun Q' z => ?_) (by simp) hz (fun p hp _ => by simp [keyB, isTupT, nkOk, nksOk]) (fun p hp KT KF k1 _ => ?_) ?_
  · simp
    exact call_pairs_of hl (by simpa using z)
  · simp
    exact k1 rfl
  · rw [filter_tt]
    simp
    have ek : putsT [] ((pairsOf l).map fun x => (pT x, T.bl true)) = (putsD [] ((pairsOf l).map fun x => (x, true))).map fun p => (pT p.1, T.bl p.2) := by
      rw [← putsT_ty pT T.bl _ eqD_p [], List.map_map]
      rfl
    rw [ek]
    exact q
def commonM (rows : List (List Nat)) : List (Nat × Nat) := match rows with
  | [] => []
  | r :: rs => sortP (rs.foldl (fun f l => f.filter fun p => (pairsOf l).contains p) (pairsOf r))
/-- a lot of rows, as a list or as a tuple -/
def rowsT (b : Bool) (rows : List (List Nat)) : T := if b = true then .tup (rows.map lT) else .lst (rows.map lT)
def sp_common_pairs : TSp := sp1 fun t Q => ∃ (b : Bool) (rows : List (List Nat)), t = rowsT b rows ∧ rows ≠ [] ∧ rows.length ≤ 720 ∧ (∀ l ∈ rows, l.length ≤ 6) ∧ Q (.lst ((commonM rows).map pT))
theorem call_common_pairs {b : Bool} {rows : List (List Nat)} {Q : T → Prop} (h : rows ≠ []) (h2 : rows.length ≤ 720) (h3 : ∀ l ∈ rows, l.length ≤ 6) (q : Q (.lst ((commonM rows).map pT))) : sp_common_pairs [rowsT b rows] Q := ⟨_, rfl, b, rows, rfl, h, h2, h3, q⟩
/-- slots: some, found, line, own, pair -/
def t_common_pairs : WS :=
  (wSeq (wSet 1 (wCall (fun xs => sp_pairs_of (xs ++ [])) (wCons (wOp oIx (wVar 0) (wC (.int 0))) wNil)))
  (wSeq (wFor (wSq (wSl (wVar 0) (wPart (wC (.int 1))) wPart0)) (gSet 2) (wSeq (wSet 3 (wCall (fun xs => sp_pairs_in (xs ++ [])) (wCons (wVar 2) wNil)))
  (wSetZ 1 (wLc (wSq (wVar 1)) (gSet 4) (wB (wOp oIn (wVar 4) (wVar 3))) (wVar 4) [4]))))
  (wRet (wFz (wCBN oSortN (wConsR (wVar 1) wNilR))))))
theorem read_common_pairs : ∀ xs Q, sp_common_pairs xs Q → t_common_pairs { nx := fun _ => Q .non, rt := Q } (startS 5 xs) := by
  rintro xs Q ⟨t, rfl, b, rows, rfl, hne, hl, h6, q⟩
  obtain ⟨r, rs, rfl⟩ : ∃ r rs, rows = r :: rs := by
    cases rows with
    | nil => exact absurd rfl hne
    | cons r rs => exact ⟨r, rs, rfl⟩
  simp only [t_common_pairs, startS]
  refine seq_abs fun U1 h1 => ?_
  have hr := h6 r List.mem_cons_self
  have hU : U1 [.d (rowsT b (r :: rs)), .d (.lst ((pairsOf r).map pT)), .no, .no, .no] := by
    refine h1 _ ?_
    refine seq_abs fun U2 h2 => ?_
    refine for_fold (ρ1 := [.d (rowsT b (r :: rs)), .d (.lst ((pairsOf r).map pT)), .no, .no, .no]) rs lT (fun f => [.d (rowsT b (r :: rs)), .d (.lst (f.map pT)), .no, .no, .no]) (fun f l => f.filter fun p => (pairsOf l).contains p) (pairsOf r) (fun Q' z => ?_) (wk_refl _) (fun f => f.length ≤ 36) (pairsOf_six hr) (fun i l f hi hb hf N hN => ?_) (fun f hb hf => ?_)
    · cases b
      · simp [rowsT]
        rw [cut_from']
        exact z
      · simp [rowsT]
        rw [cut_from']
        exact z
    · have hll := h6 l (List.mem_cons_of_mem _ (List.mem_of_getElem? hi))
      simp
      refine call_pairs_in hll ?_
      refine lc_ty (ρ1 := [.d (rowsT b (r :: rs)), .d (.lst (f.map pT)), .d (lT l), .d (.dic .tup ((putsD [] ((pairsOf l).map fun p => (p, true))).map fun p => (pT p.1, T.bl p.2))), .no]) f pT (fun p => (pairsOf l).contains p) pT (fun Q' z => by simpa using z) (by simp) (by rw [sizeLine_eq]; omega) (fun p hp KT KF k1 k2 => ?_) ?_
      · have e := look_ty pT T.bl (putsD [] ((pairsOf l).map fun p => (p, true))) p eqD_p
        have lk : (lookD (putsD [] ((pairsOf l).map fun x => (x, true))) p).isSome = (pairsOf l).contains p := by
          rw [lookD_keys]
          by_cases h : p ∈ pairsOf l <;> simp [h]
        simp
        refine ⟨by simp [keyB, isTupT, nkOk, nksOk], ?_⟩
        rw [e, Option.isSome_map, lk]
        cases hc : (pairsOf l).contains p with
        | true => exact k1 hc
        | false => exact k2 hc
      · simp
        refine hN _ (Nat.le_trans (List.length_filter_le _ _) hf) ?_
        simp
    · simp
      refine h2 _ ?_
      simp
      refine ⟨srt_p f, ?_⟩
      rw [sortP_eq, hb]
      exact q
  cases b
  · simp [rowsT, atI_0]
    exact call_pairs_of hr hU
  · simp [rowsT, atI_0]
    exact call_pairs_of hr hU
def sp_common_ties : TSp := sp2 fun m t Q => ∃ (n : Nat) (b : Bool) (rows : List (List Nat)), m = nT n ∧ t = rowsT b rows ∧ 1 ≤ n ∧ n ≤ 6 ∧ rows ≠ [] ∧ rows.length ≤ 720 ∧ (∀ l ∈ rows, RowP n l) ∧ Q (.tup ((commonM rows).map pT))
theorem call_common_ties {n : Nat} {b : Bool} {rows : List (List Nat)} {Q : T → Prop} (h1 : 1 ≤ n) (h6 : n ≤ 6) (h : rows ≠ []) (h2 : rows.length ≤ 720) (h3 : ∀ l ∈ rows, RowP n l) (q : Q (.tup ((commonM rows).map pT))) : sp_common_ties [nT n, rowsT b rows] Q := ⟨_, _, rfl, n, b, rows, rfl, rfl, h1, h6, h, h2, h3, q⟩
/-- slots: many, some, one -/
def t_common_ties : WS :=
  (wSeq (wIfS (wOrT (wNotT (wB (wCall (fun xs => sp_is_whole (xs ++ [])) (wCons (wVar 0) wNil)))) (wNotT (wB (wChain (oI fun i j => decide (i ≤ j)) (oI fun i j => decide (i ≤ j)) (wC (.int 1)) (wVar 0) (wC (.int 6)))))) wNever wNext)
  (wSeq (wIfS (wOrT (wNotT (wB (wCB oIsi (wConsR (wVar 1) (wConsR (wTup (wCons (wC (.raw (.ty "tuple"))) (wCons (wC (.raw (.ty "list"))) wNil))) wNilR))))) (wNotT (wB (wChain (oI fun i j => decide (i ≤ j)) (oI fun i j => decide (i ≤ j)) (wC (.int 1)) (wCB oLen (wConsR (wVar 1) wNilR)) (wC (.int 720)))))) wNever wNext)
  (wSeq (wIfS (wNotT (wB (wCB oAll (wConsR (wFz (wLc (wSq (wVar 1)) (gSet 2) wYes (wCall (fun xs => sp_is_line (xs ++ [])) (wCons (wVar 0) (wCons (wVar 2) wNil))) [2])) wNilR)))) wNever wNext)
  (wRet (wCB oTupC (wConsR (wCall (fun xs => sp_common_pairs (xs ++ [])) (wCons (wVar 1) wNil)) wNilR))))))
theorem read_common_ties : ∀ xs Q, sp_common_ties xs Q → t_common_ties { nx := fun _ => Q .non, rt := Q } (startS 3 xs) := by
  rintro xs Q ⟨m, t, rfl, n, b, rows, rfl, rfl, h1, h6, hne, hl, hr, q⟩
  have hpos : 0 < rows.length := List.length_pos_iff.mpr hne
  simp only [t_common_ties, startS]
  refine seq_abs fun U1 h1' => ?_
  simp [isRaw, wholeB]
  refine ⟨by omega, by omega, h1' _ ?_⟩
  refine seq_abs fun U2 h2' => ?_
  have e2 : U2 [.d (nT n), .d (rowsT b rows), .no] := by
    refine h2' _ ?_
    refine seq_abs fun U3 h3' => ?_
    simp
    refine lc_ty (ρ1 := [.d (nT n), .d (rowsT b rows), .no]) rows lT (fun _ => true) (fun _ => .bl true) (fun Q' z => by cases b <;> simpa [rowsT] using z) (by simp) (by rw [sizeLine_eq]; omega) (fun l hl' KT KF k1 k2 => ?_) ?_
    · simp
      exact call_is_line h1 h6 (hr l hl') (k1 rfl)
    · rw [filter_tt]
      simp
      refine ⟨rows.map fun _ => true, by simp, ?_⟩
      simp
      refine h3' _ ?_
      simp
      refine call_common_pairs hne hl (fun l hl' => by rw [(hr l hl').len]; exact h6) ?_
      exact q
  cases b
  · simp [rowsT, tyKnown, tyIs, tyOf]
    exact ⟨sl2, by omega, by omega, e2⟩
  · simp [rowsT, tyKnown, tyIs, tyOf]
    exact ⟨sl2, by omega, by omega, e2⟩
end TL
set_option Elab.async false
set_option linter.all false
set_option maxRecDepth 100000
set_option autoImplicit false
set_option maxHeartbeats 2000000
/-! O15: one drawn of some, rows shuffled -/
namespace TL
open PySem PySem.Spec PyProof.Rows L2
def sp__law_pick : SSp := ss1 fun c a Q => c = 1 ∧ ∃ xs : List T, (a = .lst xs ∨ a = .tup xs) ∧ xs ≠ [] ∧ xs.length < 1073741824 ∧ ∀ x ∈ xs, Q x
theorem call_pick {xs : List T} {Q : T → Prop} (h : xs ≠ []) (h2 : xs.length < 1073741824) (q : ∀ x ∈ xs, Q x) : sp__law_pick 1 [.lst xs] Q := ⟨_, rfl, rfl, xs, .inl rfl, h, h2, q⟩
/-- slots: state, some -/
def t__law_pick (sa : Addr) : WS :=
  (wRet (wOp oIx (wVar 1) (wCallS 0 sa sp__law_draw (wCons (wSt 0 sa) (wCons (wCB oLen (wConsR (wVar 1) wNilR)) wNil)))))
theorem read__law_pick (sa : Addr) : ∀ c xs Q, sp__law_pick c xs Q → t__law_pick sa { nx := fun _ => Q .non, rt := Q } (.gh c :: startS 1 xs) := by
  rintro c xs Q ⟨a, rfl, rfl, ys, ha, hne, hl, q⟩
  have hpos := List.length_pos_iff.mpr hne
  have go : ∀ k : Nat, k < ys.length → ∃ x, atI ys (k : Int) = some x ∧ Q x := fun k hk => ⟨ys[k], atI_nat (List.getElem?_eq_getElem hk), q _ (List.getElem_mem hk)⟩
  rcases ha with rfl | rfl
  · simp [t__law_pick, startS]
    refine ⟨1, by omega, ?_⟩
    exact call_draw (by omega) (by omega) fun k hk => go k hk
  · simp [t__law_pick, startS]
    refine ⟨1, by omega, ?_⟩
    exact call_draw (by omega) (by omega) fun k hk => go k hk
def sp__law_shuffled : SSp := ss1 fun c a Q => ∃ xs : List T, a = .lst xs ∧ xs.length ≤ c ∧ xs.length ≤ 1000 ∧ (∀ x ∈ xs, T.fit 59 x = true) ∧ ∀ ys, ys.Perm xs → Q (.lst ys)
theorem call_shuffled {c : Nat} {xs : List T} {Q : T → Prop} (h : xs.length ≤ c) (h2 : xs.length ≤ 1000) (hf : ∀ x ∈ xs, T.fit 59 x = true) (q : ∀ ys, ys.Perm xs → Q (.lst ys)) : sp__law_shuffled c [.lst xs] Q := ⟨_, rfl, xs, rfl, h, h2, hf, q⟩
/-- slots: state, some, left, found -/
def t__law_shuffled (sa : Addr) : WS :=
  (wSeq (wParL 2 3 (wCBN oListN (wConsR (wVar 1) wNilR)))
  (wSeq (wWhile (wB (wOp oNeA (wVar 2) (wLst wNil))) (wDrop (wApp 3 (wCons (wPopAt 2 (wCallS 0 sa sp__law_draw (wCons (wSt 0 sa) (wCons (wCB oLen (wConsR (wVar 2) wNilR)) wNil)))) wNil))))
  (wRet (wVar 3))))
theorem read__law_shuffled (sa : Addr) : ∀ c xs Q, sp__law_shuffled c xs Q → t__law_shuffled sa { nx := fun _ => Q .non, rt := Q } (.gh c :: startS 3 xs) := by
  rintro c xs Q ⟨a, rfl, ys, rfl, hc, hl, hf, q⟩
  simp only [t__law_shuffled, startS]
  refine seq_abs fun U1 h1 => ?_
  simp
  refine h1 _ ?_
  refine seq_abs fun U2 h2 => ?_
  refine ⟨fun m ρ => ∃ (left found : List T) (k : Nat), m = left.length ∧ (left ++ found).Perm ys ∧ left.length ≤ k ∧ ρ = [.gh k, .d (.lst ys), .ol left, .ol found], ⟨_, _, ⟨ys, [], c, rfl, by simp, hc, rfl⟩, wk_refl _⟩, ?_⟩
  rintro m ρ ⟨left, found, k, rfl, hp, hk, rfl⟩
  have hle : left.length + found.length = ys.length := by rw [← List.length_append]; exact hp.length_eq
  have hfl : ∀ x ∈ left, T.fit 59 x = true := fun x hx => hf x (hp.mem_iff.mp (List.mem_append_left _ hx))
  simp
  refine ⟨hfl, ?_⟩
  cases hL : left with
  | nil =>
    subst hL
    rw [if_pos (by simp)]
    refine h2 _ ?_
    simp
    exact q _ (by simpa using hp)
  | cons x0 l0 =>
    rw [if_neg (by simp)]
    rw [← hL]
    have hpos : 0 < left.length := by rw [hL]; simp
    refine ⟨1, by omega, call_draw hpos (by omega) fun m hm => ⟨m, rfl, left[m], List.getElem?_eq_getElem hm, by omega, by rw [sizeLine_eq]; omega, left.length - 1, by omega, _, ⟨left.eraseIdx m, by rw [List.length_eraseIdx_of_lt hm], found ++ [left[m]], ?_, k - 1, by rw [List.length_eraseIdx_of_lt hm]; omega, rfl⟩, wk_refl _⟩⟩
    refine List.Perm.trans ?_ hp
    have e1 : (left[m] :: left.eraseIdx m).Perm left := by
      rw [List.eraseIdx_eq_take_drop_succ]
      refine List.perm_middle.symm.trans ?_
      rw [← List.drop_eq_getElem_cons hm, List.take_append_drop]
    refine List.Perm.trans ?_ (e1.append_right found)
    rw [List.cons_append, ← List.append_assoc]
    exact List.perm_append_singleton _ _
end TL
set_option Elab.async false
set_option linter.all false
set_option autoImplicit false
/-! M7: lines told in sequence; what rows have in common -/
namespace TL
/-! ### sorted rows -/
theorem leL_iff (a b : List Nat) : leL a b = true ↔ ¬ (b < a) := by
  unfold leL leT
  rw [lT_ints, lT_ints, ltT_ints]
  have e : ∀ a b : List Nat, (a.map fun k : Nat => (k : Int)) < (b.map fun k : Nat => (k : Int)) ↔ a < b := by
    intro a
    induction a with
    | nil => intro b; cases b <;> simp
    | cons x a ih =>
      intro b
      cases b with
      | nil => simp
      | cons y b =>
        rw [List.map_cons, List.map_cons, List.cons_lt_cons_iff, List.cons_lt_cons_iff, ih]
        constructor
        · rintro (h | ⟨h, h2⟩)
          · exact .inl (by omega)
          · exact .inr ⟨by omega, h2⟩
        · rintro (h | ⟨h, h2⟩)
          · exact .inl (by omega)
          · exact .inr ⟨by omega, h2⟩
  simp [e]
theorem sortL_sorted (ls : List (List Nat)) : (sortL ls).Pairwise fun a b => leL a b = true := by
  refine List.pairwise_mergeSort (fun a b c h1 h2 => ?_) (fun a b => ?_) ls
  · rw [leL_iff] at *
    exact fun h => h2 (Std.lt_of_lt_of_le h (List.not_lt.mp h1))
  · rw [Bool.or_eq_true, leL_iff, leL_iff]
    by_cases h : b < a
    · exact .inr (List.not_lt.mpr (List.le_of_lt h))
    · exact .inl h
theorem due_lines {n : Nat} {ts : List (Nat × Nat)} (hb : belowAll n ts) : due n ts = lines n ts := by
  refine List.Perm.eq_of_pairwise (fun a b _ _ h1 h2 => ?_) (sortL_sorted _) (sortL_sorted _) (due_perm hb)
  rw [leL_iff] at h1 h2
  exact List.le_antisymm (List.not_lt.mp h1) (List.not_lt.mp h2)
/-! ### how many lines -/
theorem extL_len {n : Nat} {ts : List (Nat × Nat)} {l : List Nat} (hp : Pre n ts l) : (extL n ts l).length + l.length ≤ n := by
  have nd : ((extL n ts l).map fun m => m.getLast?).Nodup ∨ True := .inr trivial
  have e : (extL n ts l).length = ((List.range n).filter fun p => okAt ts l p).length := by
    unfold extL
    generalize List.range n = ps
    induction ps with
    | nil => rfl
    | cons p ps ih =>
      rw [List.flatMap_cons, List.length_append, ih, List.filter_cons]
      split <;> simp <;> omega
  rw [e]
  have nd2 : (((List.range n).filter fun p => okAt ts l p) ++ l).Nodup := by
    rw [List.nodup_append]
    refine ⟨List.nodup_range.filter _, hp.nd, fun a ha b hb hab => ?_⟩
    have := (okAt_iff.mp (List.mem_filter.mp ha).2).1
    exact this (hab ▸ hb)
  have := len_le_of' _ (List.range n) nd2 fun x hx => by
    rcases List.mem_append.mp hx with z | z
    · exact (List.mem_filter.mp z).1
    · exact List.mem_range.mpr (hp.lt x z)
  rw [List.length_append, List.length_range] at this
  exact this
def fac : Nat → Nat → Nat
  | _, 0 => 1
  | n, k + 1 => fac n k * (n - k)
theorem rows_fac {n : Nat} {ts : List (Nat × Nat)} (hb : belowAll n ts) : ∀ k : Nat, (rowsK n ts k).length ≤ fac n k
  | 0 => by simp [rowsK, fac]
  | k + 1 => by
    have ih := rows_fac hb k
    rw [rowsK_succ, fac]
    have go : ∀ R : List (List Nat), (∀ l ∈ R, Pre n ts l ∧ l.length = k) → (R.flatMap (extL n ts)).length ≤ R.length * (n - k) := by
      intro R
      induction R with
      | nil => intro _; simp
      | cons l R ih =>
        intro h
        obtain ⟨h1, h2⟩ := h l List.mem_cons_self
        have h3 := extL_len h1
        have h4 := ih fun m hm => h m (List.mem_cons_of_mem _ hm)
        rw [List.flatMap_cons, List.length_append, List.length_cons, Nat.add_mul, Nat.one_mul]
        omega
    exact Nat.le_trans (go _ fun l hl => (mem_steps hb k l).mp hl) (Nat.mul_le_mul_right _ ih)
theorem lines_720 {n : Nat} {ts : List (Nat × Nat)} (O : Ord n ts) : (lines n ts).length ≤ 720 := by
  have h : (lines n ts).length = (rowsK n ts n).length := by
    unfold lines sortL linesU
    rw [List.length_mergeSort]
  rw [h]
  refine Nat.le_trans (rows_fac O.below n) ?_
  have h1 := O.pos
  have h6 := O.six
  clear h O
  match n, h1, h6 with
  | 1, _, _ => decide
  | 2, _, _ => decide
  | 3, _, _ => decide
  | 4, _, _ => decide
  | 5, _, _ => decide
  | 6, _, _ => decide
/-! ### what rows have in common -/
theorem mem_pairsOf : ∀ {l : List Nat}, l.Nodup → ∀ i j : Nat, (i, j) ∈ pairsOf l ↔ i ∈ l ∧ j ∈ l ∧ l.idxOf i < l.idxOf j
  | [], _, i, j => by simp [pairsOf]
  | x :: l, nd, i, j => by
    have nc := List.nodup_cons.mp nd
    have ih := mem_pairsOf nc.2 i j
    rw [pairsOf, List.mem_append, ih, List.mem_map]
    by_cases hi : x = i
    · subst hi
      by_cases hj : x = j
      · subst hj
        simp [nc.1]
      · have hj' : ¬ j = x := fun z => hj z.symm
        have bj : (x == j) = false := by simpa using hj
        simp [nc.1, hj', List.idxOf_cons, bj]
    · have hi' : ¬ i = x := fun z => hi z.symm
      by_cases hj : x = j
      · subst hj
        simp [nc.1, hi, hi', List.idxOf_cons]
      · have hj' : ¬ j = x := fun z => hj z.symm
        have bj : (x == j) = false := by simpa using hj
        have bi : (x == i) = false := by simpa using hi
        simp [hi, hi', hj', List.idxOf_cons, bi, bj]
theorem pairsOf_nd : ∀ {l : List Nat}, l.Nodup → (pairsOf l).Nodup
  | [], _ => by simp [pairsOf]
  | x :: l, nd => by
    have nc := List.nodup_cons.mp nd
    rw [pairsOf, List.nodup_append]
    refine ⟨List.Pairwise.map (fun y => (x, y)) (fun a b hab e => hab (Prod.mk.inj e).2) nc.2, pairsOf_nd nc.2, fun a ha b hb e => ?_⟩
    obtain ⟨y, hy, rfl⟩ := List.mem_map.mp ha
    rw [← e] at hb
    exact nc.1 ((mem_pairsOf nc.2 x y).mp hb).1
theorem rising_eq {ts us : List (Nat × Nat)} (h1 : risingB ts = true) (h2 : risingB us = true) (h : ∀ p, p ∈ ts ↔ p ∈ us) : ts = us := by
  have p : ts.Perm us := (List.perm_ext_iff_of_nodup (rising_nodup h1) (rising_nodup h2)).mpr h
  refine List.Perm.eq_of_pairwise (fun a b _ _ h1 h2 => ?_) ((rising_iff ts).mp h1) ((rising_iff us).mp h2) p
  have := ltP_trans h1 h2
  rw [ltP_irr] at this
  cases this
theorem mem_common {n : Nat} {rows : List (List Nat)} (hne : rows ≠ []) (h : ∀ l ∈ rows, RowP n l) (i j : Nat) : (i, j) ∈ commonM rows ↔ i < n ∧ j < n ∧ ∀ l ∈ rows, l.idxOf i < l.idxOf j := by
  cases rows with
  | nil => exact absurd rfl hne
  | cons r rs =>
    have hr := h r List.mem_cons_self
    unfold commonM sortP
    rw [List.mem_mergeSort]
    have go : ∀ (rs : List (List Nat)) (f : List (Nat × Nat)), (∀ l ∈ rs, RowP n l) → ((i, j) ∈ rs.foldl (fun f l => f.filter fun p => (pairsOf l).contains p) f ↔ (i, j) ∈ f ∧ ∀ l ∈ rs, (i, j) ∈ pairsOf l) := by
      intro rs
      induction rs with
      | nil => intro f _; simp
      | cons l rs ih =>
        intro f hl
        rw [List.foldl_cons, ih _ fun m hm => hl m (List.mem_cons_of_mem _ hm), List.mem_filter]
        simp [and_assoc]
    rw [go rs _ fun l hl => h l (List.mem_cons_of_mem _ hl), mem_pairsOf hr.nd]
    constructor
    · rintro ⟨⟨a, b, c⟩, d⟩
      refine ⟨(hr.mem i).mp a, (hr.mem j).mp b, fun l hl => ?_⟩
      rcases List.mem_cons.mp hl with z | z
      · rw [z]; exact c
      · exact ((mem_pairsOf (h l hl).nd i j).mp (d l z)).2.2
    · rintro ⟨a, b, c⟩
      refine ⟨⟨(hr.mem i).mpr a, (hr.mem j).mpr b, c r List.mem_cons_self⟩, fun l hl => ?_⟩
      have hl2 := List.mem_cons_of_mem r hl
      exact (mem_pairsOf (h l hl2).nd i j).mpr ⟨((h l hl2).mem i).mpr a, ((h l hl2).mem j).mpr b, c l hl2⟩
theorem common_rising {n : Nat} {rows : List (List Nat)} (hne : rows ≠ []) (h : ∀ l ∈ rows, RowP n l) : risingB (commonM rows) = true := by
  cases rows with
  | nil => exact absurd rfl hne
  | cons r rs =>
    have hr := h r List.mem_cons_self
    unfold commonM
    refine sortP_rising ?_
    have go : ∀ (rs : List (List Nat)) (f : List (Nat × Nat)), f.Nodup → (rs.foldl (fun f l => f.filter fun p => (pairsOf l).contains p) f).Nodup := by
      intro rs
      induction rs with
      | nil => intro f h; exact h
      | cons l rs ih => intro f h; exact ih _ (h.filter _)
    exact go rs _ (pairsOf_nd hr.nd)
def keptM (n : Nat) (rows : List (List Nat)) : List (Nat × Nat) := (List.range n).flatMap fun i => ((List.range n).filter fun j => !(i == j) && (rows.filter fun r => decide (r.idxOf j < r.idxOf i)).isEmpty).map fun j => (i, j)
theorem mem_kept {n : Nat} {rows : List (List Nat)} (h : ∀ l ∈ rows, RowP n l) (i j : Nat) (hne : rows ≠ []) : (i, j) ∈ keptM n rows ↔ i < n ∧ j < n ∧ ∀ l ∈ rows, l.idxOf i < l.idxOf j := by
  unfold keptM
  simp only [List.mem_flatMap, List.mem_map, List.mem_filter, List.mem_range]
  constructor
  · rintro ⟨a, ha, b, ⟨hb, hc⟩, e⟩
    cases e
    simp at hc
    refine ⟨ha, hb, fun l hl => ?_⟩
    have h1 := hc.2 l hl
    have m1 := ((h l hl).mem i).mpr ha
    have m2 := ((h l hl).mem j).mpr hb
    rcases Nat.lt_or_eq_of_le h1 with z | z
    · exact z
    · have e1 := List.getElem_idxOf (List.idxOf_lt_length_of_mem m1)
      have e2 := List.getElem_idxOf (List.idxOf_lt_length_of_mem m2)
      simp only [z] at e1
      exact absurd (e1.symm.trans e2) hc.1
  · rintro ⟨a, b, c⟩
    refine ⟨i, a, j, ⟨b, ?_⟩, rfl⟩
    simp
    refine ⟨fun e => ?_, fun l hl => Nat.le_of_lt (c l hl)⟩
    subst e
    cases rows with
    | nil => exact hne rfl
    | cons r rs => exact Nat.lt_irrefl _ (c r List.mem_cons_self)
theorem kept_rising (n : Nat) (rows : List (List Nat)) : risingB (keptM n rows) = true := by
  rw [rising_iff]
  unfold keptM
  rw [List.pairwise_flatMap]
  refine ⟨fun i _ => ?_, List.pairwise_lt_range.imp fun {a b} hab x hx y hy => ?_⟩
  · refine List.Pairwise.map _ (fun a b hab => ?_) (List.pairwise_lt_range.filter _)
    unfold ltP
    simp [hab]
  · obtain ⟨c, _, rfl⟩ := List.mem_map.mp hx
    obtain ⟨d, _, rfl⟩ := List.mem_map.mp hy
    unfold ltP
    simp [hab]
theorem kept_common {n : Nat} {rows : List (List Nat)} (hne : rows ≠ []) (h : ∀ l ∈ rows, RowP n l) : commonM rows = keptM n rows :=
  rising_eq (common_rising hne h) (kept_rising n rows) fun ⟨i, j⟩ => (mem_common hne h i j).trans (mem_kept h i j hne).symm
/-! ### an order is what its lines have in common -/
def lowL (n : Nat) (ts : List (Nat × Nat)) (j : Nat) : List Nat := ((List.range n).filter fun x => x == j || ts.contains (x, j)) ++ (List.range n).filter fun x => !(x == j || ts.contains (x, j))
theorem low_full {n : Nat} {ts : List (Nat × Nat)} (O : Ord n ts) (j : Nat) : Full n ts (lowL n ts j) := by
  have hc := closed_iff.mp O.closed
  unfold lowL
  refine ⟨?_, fun x => ?_, ?_⟩
  · rw [List.nodup_append]
    refine ⟨List.nodup_range.filter _, List.nodup_range.filter _, fun a ha b hb e => ?_⟩
    have h1 := (List.mem_filter.mp ha).2
    have h2 := (List.mem_filter.mp hb).2
    rw [← e, h1] at h2
    cases h2
  · rw [List.mem_append, List.mem_filter, List.mem_filter, List.mem_range]
    cases (x == j || ts.contains (x, j)) <;> simp
  · unfold Pw
    have inc : ∀ l : List Nat, l.Pairwise (fun x y => x < y) → l.Pairwise fun x y => (y, x) ∉ ts := fun l hl => hl.imp fun {a b} hab hm => by
      have := (O.below _ hm).1
      simp at this
      omega
    rw [List.pairwise_append]
    refine ⟨inc _ (List.pairwise_lt_range.filter _), inc _ (List.pairwise_lt_range.filter _), fun a ha b hb hm => ?_⟩
    have h1 := (List.mem_filter.mp ha).2
    have h2 := (List.mem_filter.mp hb).2
    simp at h1 h2
    rcases h1 with z | z
    · rw [z] at hm
      exact h2.2 hm
    · exact h2.2 (hc _ _ _ hm z)
theorem order_common {n : Nat} {ts : List (Nat × Nat)} (O : Ord n ts) : commonM (lines n ts) = ts := by
  have hl : ∀ l ∈ lines n ts, Full n ts l := fun l hl => (mem_linesU O.below l).mp (mem_lines.mp hl)
  have hne : lines n ts ≠ [] := fun z => by
    have := mem_lines.mpr (lines_pos (n := n) (ts := ts) O.below)
    rw [z] at this
    cases this
  refine rising_eq (common_rising hne fun l h => (hl l h).row) O.rising fun ⟨i, j⟩ => ?_
  rw [mem_common hne fun l h => (hl l h).row]
  constructor
  · rintro ⟨h1, h2, h3⟩
    by_cases hm : (i, j) ∈ ts
    · exact hm
    · exfalso
      have hL := low_full O j
      have h4 := h3 (lowL n ts j) (mem_lines.mpr ((mem_linesU O.below _).mpr hL))
      have hij : i ≠ j := fun e => by rw [e] at h4; exact Nat.lt_irrefl _ h4
      have m1 : j ∈ (List.range n).filter fun x => x == j || ts.contains (x, j) := List.mem_filter.mpr ⟨List.mem_range.mpr h2, by simp⟩
      have m2 : i ∉ (List.range n).filter fun x => x == j || ts.contains (x, j) := fun z => by
        have := (List.mem_filter.mp z).2
        simp at this
        rcases this with q | q
        · exact hij q
        · exact hm q
      unfold lowL at h4
      rw [List.idxOf_append, List.idxOf_append, if_neg m2, if_pos m1] at h4
      have := List.idxOf_lt_length_of_mem m1
      omega
  · intro hm
    have hb := O.below _ hm
    simp at hb
    refine ⟨by omega, hb.2, fun l h => ?_⟩
    have hf := hl l h
    have mi : i ∈ l := (hf.mem i).mpr (by omega)
    have mj : j ∈ l := (hf.mem j).mpr (by omega)
    have li := List.idxOf_lt_length_of_mem mi
    have lj := List.idxOf_lt_length_of_mem mj
    rcases Nat.lt_trichotomy (l.idxOf i) (l.idxOf j) with z | z | z
    · exact z
    · have e1 := List.getElem_idxOf li
      have e2 := List.getElem_idxOf lj
      simp only [z] at e1
      omega
    · have := List.pairwise_iff_getElem.mp hf.pw (l.idxOf j) (l.idxOf i) lj li z
      rw [List.getElem_idxOf, List.getElem_idxOf] at this
      exact absurd hm this
theorem ahead_both {n : Nat} {ts : List (Nat × Nat)} (O : Ord n ts) {i j : Nat} (hi : i < n) (hj : j < n) (hij : i ≠ j) : aheadN (lines n ts) i j + aheadN (lines n ts) j i = (lines n ts).length := by
  have hl : ∀ l ∈ lines n ts, Full n ts l := fun l hl => (mem_linesU O.below l).mp (mem_lines.mp hl)
  unfold aheadN
  generalize lines n ts = R at hl ⊢
  induction R with
  | nil => rfl
  | cons l R ih =>
    have ih2 := ih fun m hm => hl m (List.mem_cons_of_mem _ hm)
    have hf := hl l List.mem_cons_self
    have mi : i ∈ l := (hf.mem i).mpr hi
    have mj : j ∈ l := (hf.mem j).mpr hj
    have ne : l.idxOf i ≠ l.idxOf j := fun z => by
      have e1 := List.getElem_idxOf (List.idxOf_lt_length_of_mem mi)
      have e2 := List.getElem_idxOf (List.idxOf_lt_length_of_mem mj)
      simp only [z] at e1
      exact hij (e1.symm.trans e2)
    rw [List.filter_cons, List.filter_cons, List.length_cons]
    rcases Nat.lt_or_gt_of_ne ne with z | z
    · have z2 : ¬ (l.idxOf j < l.idxOf i) := by omega
      simp [z, z2]
      omega
    · have z2 : ¬ (l.idxOf i < l.idxOf j) := by omega
      have z3 : l.idxOf j < l.idxOf i := z
      simp [z3, z2]
      omega
end TL
set_option Elab.async false
set_option linter.all false
set_option maxRecDepth 100000
set_option autoImplicit false
set_option maxHeartbeats 4000000
set_option pp.deepTerms false
set_option pp.deepTerms.threshold 8
/-! L68: the law's own lines -/
namespace TL
open PySem PySem.Spec PyProof.Rows L2
def st0 (sc : Addr) (k : Nat) : List S := [.d (.raw (.ref sc)), .gh k, .d (oT 3 [(0, 2)]), .no, .no, .no, .no, .no, .no, .no, .no, .no, .no, .no, .no, .no, .no, .no]
theorem small_row {l : List Nat} (h : l.length ≤ 6) (h2 : ∀ x ∈ l, x < 6) : Small 1 246 (lT l) :=
  small_tup (d := 0) (b := 40) (m := 6) (fun x hx => by
    obtain ⟨k, hk, rfl⟩ := List.mem_map.mp hx
    exact small_n (by have := h2 k hk; omega)) (by rw [List.length_map]; exact h) (by decide)
theorem small_rows {ls : List (List Nat)} (hl : ls.length ≤ 720) (h : ∀ l ∈ ls, l.length ≤ 6 ∧ ∀ x ∈ l, x < 6) : Small 2 177840 (.tup (ls.map lT)) :=
  small_tup (d := 1) (b := 246) (m := 720) (fun x hx => by
    obtain ⟨l, hm, rfl⟩ := List.mem_map.mp hx
    exact small_row (h l hm).1 (h l hm).2) (by rw [List.length_map]; exact hl) (by decide)
theorem small_ties {ts : List (Nat × Nat)} (hl : ts.length ≤ 36) (h : ∀ p ∈ ts, p.1 < 6 ∧ p.2 < 6) : Small 2 2988 (.tup (ts.map pT)) :=
  small_tup (d := 1) (b := 82) (m := 36) (fun x hx => by
    obtain ⟨p, hm, rfl⟩ := List.mem_map.mp hx
    have hp := h p hm
    exact small_tup (d := 0) (b := 40) (m := 2) (fun y hy => by
      simp at hy
      rcases hy with rfl | rfl
      · exact small_n (by omega)
      · exact small_n (by omega)) (Nat.le_refl 2) (by decide)) (by rw [List.length_map]; exact hl) (by decide)
theorem lines_three : lines 3 [(0, 2)] = [[0, 1, 2], [0, 2, 1], [1, 0, 2]] := by
  have hb : belowAll 3 [(0, 2)] := by unfold belowAll; decide
  have p : (linesU 3 [(0, 2)]).Perm [[0, 1, 2], [0, 2, 1], [1, 0, 2]] := by decide +kernel
  refine List.Perm.eq_of_pairwise (fun a b _ _ h1 h2 => ?_) (sortL_sorted _) ?_ ((List.mergeSort_perm _ _).trans p)
  · rw [leL_iff] at h1 h2
    exact List.le_antisymm (List.not_lt.mp h1) (List.not_lt.mp h2)
  · simp only [List.pairwise_cons, leL_iff]
    decide
def decN : T → Nat
  | .int i => i.toNat
  | _ => 0
theorem perm_n {ys : List T} {xs : List Nat} (h : ys.Perm (xs.map nT)) : ∃ zs : List Nat, zs.Perm xs ∧ ys = zs.map nT := by
  have e : ∀ y ∈ ys, nT (decN y) = y := fun y hy => by
    obtain ⟨k, _, rfl⟩ := List.mem_map.mp (h.mem_iff.mp hy)
    rfl
  refine ⟨ys.map decN, ?_, ?_⟩
  · have := h.map decN
    rw [List.map_map] at this
    have e2 : decN ∘ nT = id := rfl
    rw [e2, List.map_id] at this
    exact this
  · rw [List.map_map]
    have e3 : ys.map (nT ∘ decN) = ys.map id := List.map_congr_left fun y hy => e y hy
    rw [e3, List.map_id]
theorem row_perm {n : Nat} {zs : List Nat} (h : zs.Perm (List.range n)) : RowP n zs := ⟨h.nodup_iff.mpr List.nodup_range, fun x => h.mem_iff.trans List.mem_range⟩
theorem rows_ex {n : Nat} : ∀ {acc : List T}, (∀ y ∈ acc, ∃ l, RowP n l ∧ y = lT l) → ∃ rows : List (List Nat), (∀ l ∈ rows, RowP n l) ∧ acc = rows.map lT
  | [], _ => ⟨[], (fun l hl => nomatch hl), rfl⟩
  | y :: acc, h => by
    obtain ⟨l, hl, rfl⟩ := h y List.mem_cons_self
    obtain ⟨rows, h1, rfl⟩ := rows_ex fun z hz => h z (List.mem_cons_of_mem _ hz)
    refine ⟨l :: rows, fun m hm => ?_, rfl⟩
    rcases List.mem_cons.mp hm with q | q
    · rw [q]; exact hl
    · exact h1 m q
theorem kept_len (n : Nat) (rows : List (List Nat)) : ∀ (ps : List Nat) (acc : List (Nat × Nat)), (ps.foldl (fun kept i => kept ++ ((List.range n).filter fun j => !(i == j) && (rows.filter fun r => decide (r.idxOf j < r.idxOf i)).isEmpty).map fun j => (i, j)) acc).length ≤ acc.length + ps.length * n
  | [], acc => by simp
  | p :: ps, acc => by
    have h := kept_len n rows ps (acc ++ ((List.range n).filter fun j => !(p == j) && (rows.filter fun r => decide (r.idxOf j < r.idxOf p)).isEmpty).map fun j => (p, j))
    have h2 := List.length_filter_le (fun j => !(p == j) && (rows.filter fun r => decide (r.idxOf j < r.idxOf p)).isEmpty) (List.range n)
    rw [List.length_append, List.length_map] at h
    rw [List.length_range] at h2
    rw [List.foldl_cons, List.length_cons, Nat.add_mul, Nat.one_mul]
    omega
theorem kept_six {n : Nat} (h : n ≤ 6) (rows : List (List Nat)) : (keptM n rows).length ≤ 36 := by
  have h1 := kept_len n rows (List.range n) []
  have e : keptM n rows = (List.range n).foldl (fun kept i => kept ++ ((List.range n).filter fun j => !(i == j) && (rows.filter fun r => decide (r.idxOf j < r.idxOf i)).isEmpty).map fun j => (i, j)) [] := by
    unfold keptM
    rw [fold_ext _ _ (fun _ _ => rfl), List.nil_append]
  rw [← e, List.length_nil, List.length_range] at h1
  have h2 : n * n ≤ 6 * 6 := Nat.mul_le_mul h h
  omega
theorem ord6 : Ord 6 [] := ord_nil (by decide) (by decide)
theorem small_one : Small 3 711364 (T.lst [.tup ([[0, 1, 2], [0, 2, 1], [1, 0, 2]].map lT), nT 720, nT 2, nT 0]) :=
  small_lst (d := 2) (b := 177840) (m := 4) (fun x hx => by
    simp only [List.mem_cons, List.not_mem_nil, or_false] at hx
    rcases hx with rfl | rfl | rfl | rfl
    · exact small_rows (by decide) (by decide)
    · exact (small_n (by decide)).mono (by decide) (by decide)
    · exact (small_n (by decide)).mono (by decide) (by decide)
    · exact (small_n (by decide)).mono (by decide) (by decide)) (Nat.le_refl 4) (by decide)
theorem row_of {n : Nat} {l : List Nat} (h : l.Nodup) (h2 : l.length = n) (h3 : ∀ x ∈ l, x < n) : RowP n l := ⟨h, fun x => ⟨h3 x, fun hx => by
  by_cases hm : x ∈ l
  · exact hm
  · have := len_le_of' (x :: l) (List.range n) (List.nodup_cons.mpr ⟨hm, h⟩) fun y hy => by
      rcases List.mem_cons.mp hy with z | z
      · rw [z]; exact List.mem_range.mpr hx
      · exact List.mem_range.mpr (h3 y z)
    rw [List.length_cons, List.length_range] at this
    omega⟩⟩
theorem rows_a : ∀ l ∈ [[0, 1, 2], [2, 0, 1]], RowP 3 l := fun l hl => by
  simp only [List.mem_cons, List.not_mem_nil, or_false] at hl
  rcases hl with rfl | rfl
  · exact row_of (by decide) rfl (by decide)
  · exact row_of (by decide) rfl (by decide)
theorem rows_b : ∀ l ∈ [[1, 0]], RowP 2 l := fun l hl => by
  simp only [List.mem_cons, List.not_mem_nil, or_false] at hl
  subst hl
  exact row_of (by decide) rfl (by decide)
theorem com_a : commonM [[0, 1, 2], [2, 0, 1]] = [(0, 1)] := by
  rw [kept_common (n := 3) (by decide) rows_a]
  decide
theorem com_b : commonM [[1, 0]] = [(1, 0)] := by
  rw [kept_common (n := 2) (by decide) rows_b]
  decide
theorem small_two : Small 3 5978 (T.lst [.tup ([(0, 1)].map pT), .tup ([(1, 0)].map pT)]) :=
  small_lst (d := 2) (b := 2988) (m := 2) (fun x hx => by
    simp only [List.mem_cons, List.not_mem_nil, or_false] at hx
    rcases hx with rfl | rfl
    · exact small_ties (by decide) (by decide)
    · exact small_ties (by decide) (by decide)) (Nat.le_refl 2) (by decide)
theorem len6 : (lines 6 []).length = 720 := by rw [← run_len 6 [] (show 0 ≠ 1 by decide)]; decide +kernel
def gt_ahead_many_0_order_one_other : List T → List T → List T := fun xs ys => sel [0, 1, 2] (xs ++ ys ++ [])
def gt_common_ties_0_many_some : List T → List T → List T := fun xs ys => sel [0, 1] (xs ++ ys ++ [])
def gt_count_lines_0_order : List T → List T → List T := fun xs ys => sel [0] (xs ++ ys ++ [])
def gt_lines_0_order : List T → List T → List T := fun xs ys => sel [0] (xs ++ ys ++ [])
/-- slots: script, state, three, lap, order, due, one, other, many, line, some, turn, wild, rows, kept, i, j, row -/
def t_law (sa sc : Addr) : WS :=
  (wSeq (wSet 2 (wTup (wCons (wC (.str "order")) (wCons (wC (.int 3)) (wCons (wTup (wCons (wTup (wCons (wC (.int 0)) (wCons (wC (.int 2)) wNil))) wNil)) wNil)))))
  (wSeq (wIfS (wNotT (wB (wCall (fun xs => sp__law_is (xs ++ [])) (wCons (wLst (wCons (wCall (fun xs => sp_lines (xs ++ [])) (wCons (wVar 2) wNil)) (wCons (wCall (fun xs => sp_count_lines (xs ++ [])) (wCons (wTup (wCons (wC (.str "order")) (wCons (wC (.int 6)) (wCons (wTup wNil) wNil)))) wNil)) (wCons (wCall (fun xs => sp_ahead_many (xs ++ [])) (wCons (wVar 2) (wCons (wC (.int 1)) (wCons (wC (.int 2)) wNil)))) (wCons (wCallK 0 3 gt_ahead_many_0_order_one_other sp_ahead_many wNil (wCons (wVar 2) (wCons (wC (.int 2)) (wCons (wC (.int 0)) wNil)))) wNil))))) (wCons (wLst (wCons (wTup (wCons (wTup (wCons (wC (.int 0)) (wCons (wC (.int 1)) (wCons (wC (.int 2)) wNil)))) (wCons (wTup (wCons (wC (.int 0)) (wCons (wC (.int 2)) (wCons (wC (.int 1)) wNil)))) (wCons (wTup (wCons (wC (.int 1)) (wCons (wC (.int 0)) (wCons (wC (.int 2)) wNil)))) wNil)))) (wCons (wC (.int 720)) (wCons (wC (.int 2)) (wCons (wC (.int 0)) wNil))))) wNil))))) (wRet (wC (.bl false))) wNext)
  (wSeq (wIfS (wNotT (wB (wCall (fun xs => sp__law_is (xs ++ [])) (wCons (wLst (wCons (wCall (fun xs => sp_common_ties (xs ++ [])) (wCons (wC (.int 3)) (wCons (wTup (wCons (wTup (wCons (wC (.int 0)) (wCons (wC (.int 1)) (wCons (wC (.int 2)) wNil)))) (wCons (wTup (wCons (wC (.int 2)) (wCons (wC (.int 0)) (wCons (wC (.int 1)) wNil)))) wNil))) wNil))) (wCons (wCallK 0 2 gt_common_ties_0_many_some sp_common_ties wNil (wCons (wC (.int 2)) (wCons (wLst (wCons (wTup (wCons (wC (.int 1)) (wCons (wC (.int 0)) wNil))) wNil)) wNil))) wNil))) (wCons (wLst (wCons (wTup (wCons (wTup (wCons (wC (.int 0)) (wCons (wC (.int 1)) wNil))) wNil)) (wCons (wTup (wCons (wTup (wCons (wC (.int 1)) (wCons (wC (.int 0)) wNil))) wNil)) wNil))) wNil))))) (wRet (wC (.bl false))) wNext)
  (wSeq (wFor (wRng1 (wCons (wOp oAdd (wC (.int 6)) (wCB oMin (wConsR (wLenScr 0 sc) (wConsR (wC (.int 8)) wNilR)))) wNil)) (gSet 3) (wSeq (wSet 4 (wCallS 1 sa sp__law_any_order (wCons (wSt 1 sa) wNil)))
  (wSeq (wSet 5 (wCall (fun xs => sp__law_all_lines (xs ++ [])) (wCons (wVar 4) wNil)))
  (wSeq (wIfS (wOrT (wNotT (wB (wCall (fun xs => sp__law_is (xs ++ [])) (wCons (wCallK 0 1 gt_lines_0_order sp_lines wNil (wCons (wVar 4) wNil)) (wCons (wCB oTupC (wConsR (wVar 5) wNilR)) wNil))))) (wOrT (wNotT (wB (wCall (fun xs => sp__law_is (xs ++ [])) (wCons (wCallK 0 1 gt_count_lines_0_order sp_count_lines wNil (wCons (wVar 4) wNil)) (wCons (wCB oLen (wConsR (wVar 5) wNilR)) wNil))))) (wNotT (wB (wCall (fun xs => sp__law_is (xs ++ [])) (wCons (wCall (fun xs => sp_common_ties (xs ++ [])) (wCons (wOp oIx (wVar 4) (wC (.int 1))) (wCons (wCB oTupC (wConsR (wVar 5) wNilR)) wNil))) (wCons (wOp oIx (wVar 4) (wC (.int 2))) wNil))))))) (wRet (wC (.bl false))) wNext)
  (wSeq (wIfS (wB (wOp (oI fun i j => decide (j < i)) (wOp oIx (wVar 4) (wC (.int 1))) (wC (.int 1)))) (wSeq (wAsg (wSl (wCallS 1 sa sp__law_shuffled (wCons (wSt 1 sa) (wCons (wFz (wLrg (wRg1 (wOp oIx (wVar 4) (wC (.int 1)))))) wNil))) wPart0 (wPart (wC (.int 2)))) (gLL 2 (gConsT (gSet 6) (gConsT (gSet 7) gNilT))))
  (wSeq (wSet 8 (wCB oLen (wConsR (wFz (wLc (wSq (wVar 5)) (gSet 9) (wB (wOp oLtA (wIndex (wVar 9) (wConsR (wVar 6) wNilR)) (wIndex (wVar 9) (wConsR (wVar 7) wNilR)))) (wVar 9) [9])) wNilR)))
  (wIfS (wNotT (wB (wCall (fun xs => sp__law_is (xs ++ [])) (wCons (wLst (wCons (wCall (fun xs => sp_ahead_many (xs ++ [])) (wCons (wVar 4) (wCons (wVar 6) (wCons (wVar 7) wNil)))) (wCons (wCall (fun xs => sp_ahead_many (xs ++ [])) (wCons (wVar 4) (wCons (wVar 7) (wCons (wVar 6) wNil)))) wNil))) (wCons (wLst (wCons (wVar 8) (wCons (wOp oSub (wCB oLen (wConsR (wVar 5) wNilR)) (wVar 8)) wNil))) wNil))))) (wRet (wC (.bl false))) wNext))) wNext)
  (wSeq (wSetZ 10 (wLcS (wRng1 (wCons (wOp oAdd (wC (.int 1)) (wCallS 1 sa sp__law_draw (wCons (wSt 1 sa) (wCons (wC (.int 3)) wNil)))) wNil)) (gSet 11) wYes (wCallS 1 sa sp__law_pick (wCons (wSt 1 sa) (wCons (wVar 5) wNil))) [11]))
  (wSeq (wSetZ 12 (wLcS (wRng1 (wCons (wOp oAdd (wC (.int 1)) (wCallS 1 sa sp__law_draw (wCons (wSt 1 sa) (wCons (wC (.int 3)) wNil)))) wNil)) (gSet 11) wYes (wCB oTupC (wConsR (wCallS 1 sa sp__law_shuffled (wCons (wSt 1 sa) (wCons (wFz (wLrg (wRg1 (wOp oIx (wVar 4) (wC (.int 1)))))) wNil))) wNilR)) [11]))
  (wFor (wSq (wLst (wCons (wVar 10) (wCons (wVar 12) wNil)))) (gSet 13) (wSeq (wSet 14 (wLst wNil))
  (wSeq (wFor (wRng1 (wCons (wOp oIx (wVar 4) (wC (.int 1))) wNil)) (gSet 15) (wSet 14 (wOp oAdd (wVar 14) (wFz (wLc (wRng1 (wCons (wOp oIx (wVar 4) (wC (.int 1))) wNil)) (gSet 16) (wAndT (wB (wOp oNeA (wVar 15) (wVar 16))) (wB (wOp oEqA (wFz (wLc (wSq (wVar 13)) (gSet 17) (wB (wOp (oI fun i j => decide (j < i)) (wIndex (wVar 17) (wConsR (wVar 15) wNilR)) (wIndex (wVar 17) (wConsR (wVar 16) wNilR)))) (wVar 17) [17])) (wLst wNil)))) (wTup (wCons (wVar 15) (wCons (wVar 16) wNil))) [16])))))
  (wIfS (wNotT (wB (wCall (fun xs => sp__law_is (xs ++ [])) (wCons (wLst (wCons (wCall (fun xs => sp_common_ties (xs ++ [])) (wCons (wOp oIx (wVar 4) (wC (.int 1))) (wCons (wVar 13) wNil))) (wCons (wCall (fun xs => sp_common_ties (xs ++ [])) (wCons (wOp oIx (wVar 4) (wC (.int 1))) (wCons (wCB oTupC (wConsR (wVar 13) wNilR)) wNil))) wNil))) (wCons (wOp oMul (wLst (wCons (wCB oTupC (wConsR (wVar 14) wNilR)) wNil)) (wC (.int 2))) wNil))))) (wRet (wC (.bl false))) wNext)))))))))))
  (wRet (wC (.bl true)))))))
theorem read_law (sa sc : Addr) : ∀ c, 756 ≤ c → t_law sa sc { nx := fun _ => T.non = .bl true, rt := fun t => t = .bl true } (.d (.raw (.ref sc)) :: .gh c :: List.replicate 16 .no) := by
  intro c hc
  have e0 : List.replicate 16 S.no = [.no, .no, .no, .no, .no, .no, .no, .no, .no, .no, .no, .no, .no, .no, .no, .no] := rfl
  rw [e0]
  unfold t_law
  refine seq_abs fun U1 h1 => ?_
  simp
  refine ⟨sl2, sl1, sl3, h1 _ ?_⟩
  refine seq_abs fun U2 h2 => ?_
  simp
  refine call_lines (n := 3) (ts := [(0, 2)]) ordV ⟨sl3, call_count_lines (n := 6) (ts := []) ord6 (count_due ord6.below) ?_⟩
  refine call_ahead_many (n := 3) (ts := [(0, 2)]) (i := 1) (j := 2) ordV (by decide) (by decide) (by decide) ?_
  show sp_ahead_many [oT 3 [(0, 2)], nT 2, nT 0] _
  refine call_ahead_many (n := 3) (ts := [(0, 2)]) (i := 2) (j := 0) ordV (by decide) (by decide) (by decide) ?_
  rw [len6, lines_three, show aheadN [[0, 1, 2], [0, 2, 1], [1, 0, 2]] 1 2 = 2 by decide, show aheadN [[0, 1, 2], [0, 2, 1], [1, 0, 2]] 2 0 = 0 by decide]
  refine ⟨by decide, sl3, by decide, call_is small_one (by decide) (by decide) ⟨rfl, h2 _ ?_⟩⟩
  refine seq_abs fun U3 h3 => ?_
  simp
  refine ⟨sl3, sl2, call_common_ties (n := 3) (b := true) (rows := [[0, 1, 2], [2, 0, 1]]) (by decide) (by decide) (by decide) (by decide) rows_a ?_⟩
  refine ⟨sl2, sl1, ?_⟩
  show sp_common_ties [nT 2, rowsT false [[1, 0]]] _
  refine call_common_ties (by decide) (by decide) (by decide) (by decide) rows_b ?_
  rw [com_a, com_b]
  refine ⟨sl2, sl1, sl2, sl1, sl2, call_is small_two (by decide) (by decide) ⟨rfl, h3 _ ?_⟩⟩
  refine seq_abs fun U4 h4 => ?_
  refine for_late ?_
  simp
  intro len hlen
  obtain ⟨laps, hl, hl2⟩ : ∃ laps : Nat, (6 + if (8 : Int) < len then 8 else (len : Int)) = laps ∧ laps ≤ 14 := ⟨6 + min len 8, by split <;> omega, by omega⟩
  rw [hl]
  refine ⟨by omega, ?_⟩
  refine for_ty (ρ1 := st0 sc c) (List.range laps) nT (fun i ρ => ∃ k0, c - 54 * i ≤ k0 ∧ ρ = st0 sc k0) (fun Q' z => ?_) ⟨_, ⟨c, Nat.sub_le _ _, rfl⟩, wk_refl _⟩ (fun i x ρ hi => ?_) ?_
  · rw [Int.toNat_natCast, range_n]
    exact z
  · rintro ⟨k0, hk0, rfl⟩ N hN
    obtain ⟨rfl, hil⟩ := range_at hi
    unfold st0
    simp only [gSet_s, List.set_cons_succ, List.set_cons_zero]
    refine seq_abs fun V1 k1 => ?_
    simp
    refine ⟨25, by omega, ⟨rfl, Nat.le_refl _, fun n ts O => k1 _ ?_⟩⟩
    refine seq_abs fun V2 k2 => ?_
    simp
    refine call_due O (k2 _ ?_)
    rw [due_lines O.below]
    refine seq_abs fun V3 k3 => ?_
    simp [atI_1, atI_2]
    have hF : ∀ l ∈ lines n ts, Full n ts l := fun l hl => (mem_linesU O.below l).mp (mem_lines.mp hl)
    have hR : ∀ l ∈ lines n ts, RowP n l := fun l hl => (hF l hl).row
    have h7 := lines_720 O
    have hne : lines n ts ≠ [] := fun z => by
      have := mem_lines.mpr (lines_pos (n := n) (ts := ts) O.below)
      rw [z] at this
      cases this
    have hn6 := O.six
    have hn1 := O.pos
    have hsm : Small 2 177840 (.tup ((lines n ts).map lT)) := small_rows h7 fun l hl => ⟨by rw [(hR l hl).len]; omega, fun x hx => by have := ((hR l hl).mem x).mp hx; omega⟩
    show sp_lines [oT n ts] _
    refine call_lines O (call_is hsm (by decide) (by decide) ⟨rfl, ?_⟩)
    show sp_count_lines [oT n ts] _
    refine call_count_lines O (count_due O.below) (call_is (small_n (by omega)) (by decide) (by decide) ⟨rfl, ?_⟩)
    show sp_common_ties [nT n, rowsT true (lines n ts)] _
    refine call_common_ties hn1 hn6 hne h7 hR ?_
    rw [order_common O]
    refine call_is (small_ties (by have := O.len; omega) fun p hp => by have := O.below p hp; omega) (by decide) (by decide) ⟨rfl, k3 _ ?_⟩
    refine seq_abs fun V4 k4 => ?_
    have go4 : ∀ k, k0 - 31 ≤ k → ∀ s6 s7 s8 : S, dropG s6 = s6 → dropG s7 = s7 → dropG s8 = s8 → V4 [.d (.raw (.ref sc)), .gh k, .d (oT 3 [(0, 2)]), .d (nT x), .d (oT n ts), .d (.lst ((lines n ts).map lT)), s6, s7, s8, .no, .no, .no, .no, .no, .no, .no, .no, .no] := by
      intro k hk s6 s7 s8 d6 d7 d8
      refine k4 _ ?_
      refine seq_abs fun V5 k5 => ?_
      simp
      refine lcS_abs fun B hB => ?_
      simp
      refine ⟨1, by omega, call_draw (r := 3) (by omega) (by omega) fun d hd => ?_⟩
      simp [d6, d7, d8]
      refine ⟨by omega, hB _ _ ?_⟩
      rw [show (1 + (d : Int)).toNat = 1 + d by omega, range_n]
      refine lcB_gh (fun k => [.d (.raw (.ref sc)), .gh k, .d (oT 3 [(0, 2)]), .d (nT x), .d (oT n ts), .d (.lst ((lines n ts).map lT)), s6, s7, s8, .no, .no, .no, .no, .no, .no, .no, .no, .no]) (k - 1) 1 (fun y => ∃ l, RowP n l ∧ y = lT l) ?_ ?_ ?_ ?_ ?_ (fun y k2 _ hk2 KT hKT => ?_) (fun acc ea ga => ?_)
      · rw [List.length_map, List.length_range]
        omega
      · rw [List.length_map, List.length_range, sizeLine_eq]
        omega
      · simp
      · simp
      · simp
      · simp [wipeS]
        refine ⟨1, by omega, call_pick (by simpa using hne) (by rw [List.length_map]; omega) fun z hz => ?_⟩
        obtain ⟨l, hl, rfl⟩ := List.mem_map.mp hz
        exact hKT _ _ ⟨l, hR l hl, rfl⟩ (by simp [wipeS, d6, d7, d8])
      · rw [List.length_map, List.length_range] at ea ⊢
        have ea2 : acc.length = 1 + d := ea
        obtain ⟨some_, hsome, rfl⟩ := rows_ex ga
        rw [List.length_map] at ea2
        obtain ⟨k5', ek5⟩ : ∃ k5', k - 1 - 1 * (1 + d) = k5' := ⟨_, rfl⟩
        rw [ek5]
        have hk5 : k0 - 35 ≤ k5' := by omega
        simp only [List.set_cons_succ, List.set_cons_zero]
        refine k5 _ ?_
        refine seq_abs fun V6 k6 => ?_
        simp
        refine lcS_abs fun B2 hB2 => ?_
        simp
        refine ⟨1, by omega, call_draw (r := 3) (by omega) (by omega) fun e he => ?_⟩
        simp [d6, d7, d8]
        refine ⟨by omega, hB2 _ _ ?_⟩
        rw [show (1 + (e : Int)).toNat = 1 + e by omega, range_n]
        refine lcB_gh (fun k => [.d (.raw (.ref sc)), .gh k, .d (oT 3 [(0, 2)]), .d (nT x), .d (oT n ts), .d (.lst ((lines n ts).map lT)), s6, s7, s8, .no, .d (.lst (some_.map lT)), .no, .no, .no, .no, .no, .no, .no]) (k5' - 1) 6 (fun y => ∃ l, RowP n l ∧ y = lT l) (by rw [List.length_map, List.length_range]; omega) (by rw [List.length_map, List.length_range, sizeLine_eq]; omega) (by simp) (by simp) (by simp) (fun y k2 _ hk2 KT hKT => ?_) (fun acc eb gb => ?_)
        · simp [wipeS, atI_1]
          refine ⟨by unfold RgOk; omega, 6, by omega, ?_⟩
          rw [range_n]
          refine call_shuffled (by rw [List.length_map, List.length_range]; exact hn6) (by rw [List.length_map, List.length_range]; omega) (fun y hy => ?_) fun ys hp => ?_
          · obtain ⟨k, _, rfl⟩ := List.mem_map.mp hy
            simp
          obtain ⟨zs, hz, rfl⟩ := perm_n hp
          exact hKT _ _ ⟨zs, row_perm hz, rfl⟩ (by simp [wipeS, d6, d7, d8])
        · obtain ⟨wild, hwild, rfl⟩ := rows_ex gb
          rw [List.length_map, List.length_map, List.length_range] at eb
          rw [List.length_map, List.length_range]
          obtain ⟨k6', ek6⟩ : ∃ k6', k5' - 1 - 6 * (1 + e) = k6' := ⟨_, rfl⟩
          rw [ek6]
          have hk6 : k0 - 54 ≤ k6' := by omega
          simp only [List.set_cons_succ, List.set_cons_zero]
          refine k6 _ ?_
          have hsl : some_.length ≤ 3 ∧ some_ ≠ [] := ⟨by omega, fun z => by rw [z] at ea2; simp at ea2; omega⟩
          have hwl : wild.length ≤ 3 ∧ wild ≠ [] := ⟨by omega, fun z => by rw [z] at eb; simp at eb; omega⟩
          have hall : ∀ rows ∈ [some_, wild], rows.length ≤ 3 ∧ rows ≠ [] ∧ ∀ l ∈ rows, RowP n l := fun rows hr => by
            simp only [List.mem_cons, List.not_mem_nil, or_false] at hr
            rcases hr with rfl | rfl
            · exact ⟨hsl.1, hsl.2, hsome⟩
            · exact ⟨hwl.1, hwl.2, hwild⟩
          refine for_ty (ρ1 := [.d (.raw (.ref sc)), .gh k6', .d (oT 3 [(0, 2)]), .d (nT x), .d (oT n ts), .d (.lst ((lines n ts).map lT)), s6, s7, s8, .no, .d (.lst (some_.map lT)), .no, .d (.lst (wild.map lT)), .no, .no, .no, .no, .no]) [some_, wild] (fun rows => T.lst (rows.map lT)) (fun _ ρ => ρ = [.d (.raw (.ref sc)), .gh k6', .d (oT 3 [(0, 2)]), .d (nT x), .d (oT n ts), .d (.lst ((lines n ts).map lT)), .no, .no, .no, .no, .d (.lst (some_.map lT)), .no, .d (.lst (wild.map lT)), .no, .no, .no, .no, .no]) (fun Q' z => ?_) ⟨_, rfl, by simp⟩ (fun r rows ρ hr => ?_) ?_
          · simp
            exact ⟨sl2, z⟩
          · rintro rfl N3 hN3
            obtain ⟨q1, q2, q3⟩ := hall rows (List.mem_of_getElem? hr)
            simp only [gSet_s, List.set_cons_succ, List.set_cons_zero]
            refine seq_abs fun Y1 y1 => ?_
            simp
            refine y1 _ ?_
            refine seq_abs fun Y2 y2 => ?_
            have hRj : ∀ l ∈ rows, ∀ a, a < n → a ∈ l := fun l hl a ha => ((q3 l hl).mem a).mpr ha
            refine for_fold (ρ1 := [.d (.raw (.ref sc)), .gh k6', .d (oT 3 [(0, 2)]), .d (nT x), .d (oT n ts), .d (.lst ((lines n ts).map lT)), .no, .no, .no, .no, .d (.lst (some_.map lT)), .no, .d (.lst (wild.map lT)), .d (.lst (rows.map lT)), .d (.lst []), .no, .no, .no]) (List.range n) nT (fun kept => [.d (.raw (.ref sc)), .gh k6', .d (oT 3 [(0, 2)]), .d (nT x), .d (oT n ts), .d (.lst ((lines n ts).map lT)), .no, .no, .no, .no, .d (.lst (some_.map lT)), .no, .d (.lst (wild.map lT)), .d (.lst (rows.map lT)), .d (.lst (kept.map pT)), .no, .no, .no]) (fun kept i => kept ++ ((List.range n).filter fun j => !(i == j) && (rows.filter fun r => decide (r.idxOf j < r.idxOf i)).isEmpty).map fun j => (i, j)) [] (fun Q' z => ?_) (wk_refl _) (fun _ => True) trivial (fun i' p kept hp hb _ N4 hN4 => ?_) (fun kept hb _ => ?_)
            · simp [atI_1]
              refine ⟨okN6 hn6, ?_⟩
              rw [range_n]
              exact z
            · obtain ⟨rfl, hpn⟩ := range_at hp
              simp
              refine lc_ty (ρ1 := [.d (.raw (.ref sc)), .gh k6', .d (oT 3 [(0, 2)]), .d (nT x), .d (oT n ts), .d (.lst ((lines n ts).map lT)), .no, .no, .no, .no, .d (.lst (some_.map lT)), .no, .d (.lst (wild.map lT)), .d (.lst (rows.map lT)), .d (.lst (kept.map pT)), .d (nT p), .no, .no]) (List.range n) nT (fun j => !(p == j) && (rows.filter fun r => decide (r.idxOf j < r.idxOf p)).isEmpty) (fun j => pT (p, j)) (fun Q' z => ?_) (by simp) (by rw [List.length_range, sizeLine_eq]; omega) (fun j hj KT KF g1 g2 => ?_) ?_
              · simp [atI_1]
                refine ⟨okN6 hn6, ?_⟩
                rw [range_n]
                exact z
              · have hjn := List.mem_range.mp hj
                simp
                by_cases epj : p = j
                · subst epj
                  simp at g2 ⊢
                  exact g2
                · have epj2 : ¬ ((p : Int) = (j : Int)) := by omega
                  simp [epj2]
                  refine lc_ty (ρ1 := [.d (.raw (.ref sc)), .gh k6', .d (oT 3 [(0, 2)]), .d (nT x), .d (oT n ts), .d (.lst ((lines n ts).map lT)), .no, .no, .no, .no, .d (.lst (some_.map lT)), .no, .d (.lst (wild.map lT)), .d (.lst (rows.map lT)), .d (.lst (kept.map pT)), .d (nT p), .d (nT j), .no]) rows lT (fun r => decide (r.idxOf j < r.idxOf p)) lT (fun Q' z => by simpa using z) (by simp) (by rw [sizeLine_eq]; omega) (fun l hl KT2 KF2 g3 g4 => ?_) ?_
                  · have m1 := hRj l hl p hpn
                    have m2 := hRj l hl j hjn
                    simp [tyT, findT_n m1, findT_n m2] at g3 g4 ⊢
                    by_cases h : l.idxOf j < l.idxOf p
                    · rw [if_pos h]
                      exact g3 h
                    · rw [if_neg h]
                      exact g4 (by omega)
                  · have ef : eqTs ((rows.filter fun r => decide (r.idxOf j < r.idxOf p)).map lT) [] = (rows.filter fun r => decide (r.idxOf j < r.idxOf p)).isEmpty := by
                      cases rows.filter fun r => decide (r.idxOf j < r.idxOf p) <;> simp
                    simp
                    rw [ef]
                    cases hz : (rows.filter fun r => decide (r.idxOf j < r.idxOf p)).isEmpty with
                    | true =>
                      rw [if_pos rfl]
                      exact ⟨sl2, g1 (by rw [hz]; simp [epj])⟩
                    | false =>
                      rw [if_neg (by decide)]
                      exact g2 (by rw [hz]; simp)
              · have hkl := kept_len n rows ((List.range n).take p) []
                rw [← hb, List.length_take, List.length_range, List.length_nil] at hkl
                have hkl2 : min p n * n ≤ 6 * 6 := Nat.mul_le_mul (by omega) hn6
                have hfl : ((List.range n).filter fun j => !(p == j) && (rows.filter fun r => decide (r.idxOf j < r.idxOf p)).isEmpty).length ≤ n := Nat.le_trans (List.length_filter_le _ _) (by rw [List.length_range]; exact Nat.le_refl n)
                simp only []
                refine ⟨by rw [List.length_map, List.length_map, sizeLine_eq]; omega, ?_⟩
                simp only [List.set_cons_succ, List.set_cons_zero]
                refine hN4 _ trivial ?_
                rw [List.map_append, List.map_map]
                simp [Function.comp_def]
            · refine y2 _ ?_
              have ek : kept = keptM n rows := by
                rw [hb]
                unfold keptM
                rw [fold_ext _ _ (fun _ _ => rfl), List.nil_append]
              subst ek
              simp [atI_1]
              show sp_common_ties [nT n, rowsT false rows] _
              refine call_common_ties hn1 hn6 q2 (by omega) q3 ?_
              show sp_common_ties [nT n, rowsT true rows] _
              refine call_common_ties hn1 hn6 q2 (by omega) q3 ?_
              rw [kept_common q2 q3]
              refine ⟨sl2, sl1, sl2, call_is (small_lst (d := 2) (b := 2988) (m := 2) (fun y hy => ?_) (Nat.le_refl 2) (by decide)) (by decide) (by decide) ⟨rfl, hN3 _ _ rfl (by simp)⟩⟩
              have hy2 : y = T.tup ((keptM n rows).map pT) := by simpa using hy
              rw [hy2]
              refine small_ties (kept_six hn6 rows) fun q hq => ?_
              obtain ⟨q5, q6⟩ := q
              obtain ⟨m1, m2, _⟩ := (mem_kept q3 q5 q6 q2).mp hq
              exact ⟨by show q5 < 6; omega, by show q6 < 6; omega⟩
          · rintro ρ rfl
            exact hN _ _ ⟨k6', by omega, rfl⟩ (by simp [st0])
    rcases Nat.lt_or_ge 1 n with h1n | h1n
    · refine if_abs fun A B a1 b1 => ?_
      simp [atI_1]
      rw [if_pos (by omega)]
      refine a1 _ ?_
      refine seq_abs fun W1 j1 => ?_
      simp [atI_1, atI_2]
      refine ⟨by unfold RgOk; omega, 6, by omega, ?_⟩
      rw [range_n]
      refine call_shuffled (by rw [List.length_map, List.length_range]; exact hn6) (by rw [List.length_map, List.length_range]; omega) (fun y hy => ?_) fun ys hp => ?_
      · obtain ⟨k, _, rfl⟩ := List.mem_map.mp hy
        simp
      obtain ⟨zs, hz, rfl⟩ := perm_n hp
      have hrow := row_perm hz
      obtain ⟨a, b, rest, rfl⟩ : ∃ a b rest, zs = a :: b :: rest := by
        have := hrow.len
        match zs, this with
        | [], e => simp at e; omega
        | [a], e => simp at e; omega
        | a :: b :: rest, _ => exact ⟨a, b, rest, rfl⟩
      have han : a < n := (hrow.mem a).mp (by simp)
      have hbn : b < n := (hrow.mem b).mp (by simp)
      have hab : a ≠ b := fun e => by
        have := (List.nodup_cons.mp hrow.nd).1
        simp [e] at this
      have ec : cutT ((a :: b :: rest).map nT) none (some 2) = [nT a, nT b] := cut_to _ 2
      show (cutT ((a :: b :: rest).map nT) none (some 2)).length = 2 ∧ _
      rw [ec]
      refine ⟨rfl, j1 _ ?_⟩
      refine seq_abs fun W2 j2 => ?_
      simp
      refine lc_ty (ρ1 := [.d (.raw (.ref sc)), .gh (k0 - 25 - 6), .d (oT 3 [(0, 2)]), .d (nT x), .d (oT n ts), .d (.lst ((lines n ts).map lT)), .d (nT a), .d (nT b), .no, .no, .no, .no, .no, .no, .no, .no, .no, .no]) (lines n ts) lT (fun l => decide (l.idxOf a < l.idxOf b)) lT (fun Q' z => by simpa using z) (by simp) (lines_sl O) (fun l hl KT KF g1 g2 => ?_) ?_
      · have m1 : a ∈ l := ((hR l hl).mem a).mpr han
        have m2 : b ∈ l := ((hR l hl).mem b).mpr hbn
        simp [tyT, findT_n m1, findT_n m2] at g1 g2 ⊢
        by_cases h : l.idxOf a < l.idxOf b
        · rw [if_pos h]
          exact g1 h
        · rw [if_neg h]
          exact g2 (by omega)
      simp
      refine j2 _ ?_
      have ea : (List.filter (fun l => decide (List.idxOf a l < List.idxOf b l)) (lines n ts)).length = aheadN (lines n ts) a b := rfl
      rw [ea]
      have hboth := ahead_both O han hbn hab
      simp
      refine call_ahead_many O han hbn hab ?_
      refine call_ahead_many O hbn han (fun e => hab e.symm) ?_
      have esub : ((lines n ts).length : Int) - (aheadN (lines n ts) a b : Int) = (aheadN (lines n ts) b a : Int) := by omega
      rw [esub]
      refine ⟨sl2, call_is (a := .lst [nT (aheadN (lines n ts) a b), nT (aheadN (lines n ts) b a)]) (small_lst (d := 0) (b := 40) (m := 2) (fun y hy => ?_) (Nat.le_refl 2) (by decide)) (by decide) (by decide) ⟨rfl, go4 _ (by omega) _ _ _ rfl rfl rfl⟩⟩
      simp at hy
      rcases hy with rfl | rfl
      · exact small_n (by omega)
      · exact small_n (by omega)
    · refine if_abs fun A B a1 b1 => ?_
      simp [atI_1]
      rw [if_neg (by omega)]
      refine b1 _ ?_
      exact go4 _ (by omega) _ _ _ rfl rfl rfl
  · rintro ρ ⟨k0, hk0, rfl⟩
    refine h4 _ ?_
    simp [st0]
end TL
set_option Elab.async false
set_option linter.all false
set_option maxRecDepth 100000
set_option autoImplicit false
namespace TL
open PySem PySem.Spec PyProof.Rows L2
abbrev s_is_whole : Stmt := topS 7
theorem sc_is_whole : FnScope ["thing"] ["thing"] (defScope s_is_whole) := ⟨rfl, rfl, rfl, by decide +kernel, rfl, by decide +kernel, by decide +kernel⟩
theorem b_is_whole {K : PySem.W.Frag} {f : Addr} {fd : FuncData} (F : FD K "is_whole" s_is_whole [] f fd) : Binds K fd ["thing"] [] := F.bindsN fun _ _ _ _ _ _ us hl => match us, hl with | [_], _ => rfl
abbrev s_are_rising : Stmt := topS 9
theorem sc_are_rising : FnScope ["things", "one", "other"] ["things"] (defScope s_are_rising) := ⟨rfl, rfl, rfl, by decide +kernel, rfl, by decide +kernel, by decide +kernel⟩
theorem b_are_rising {K : PySem.W.Frag} {f : Addr} {fd : FuncData} (F : FD K "are_rising" s_are_rising [] f fd) : Binds K fd ["things"] [] := F.bindsN fun _ _ _ _ _ _ us hl => match us, hl with | [_], _ => rfl
abbrev s_are_pairs : Stmt := topS 10
theorem sc_are_pairs : FnScope ["thing", "most", "one"] ["thing", "most"] (defScope s_are_pairs) := ⟨rfl, rfl, rfl, by decide +kernel, rfl, by decide +kernel, by decide +kernel⟩
theorem b_are_pairs {K : PySem.W.Frag} {f : Addr} {fd : FuncData} (F : FD K "are_pairs" s_are_pairs [] f fd) : Binds K fd ["thing", "most"] [] := F.bindsN fun _ _ _ _ _ _ us hl => match us, hl with | [_, _], _ => rfl
abbrev s_is_closed : Stmt := topS 15
theorem sc_is_closed : FnScope ["ties", "known", "tie", "one", "middle", "own", "other"] ["ties"] (defScope s_is_closed) := ⟨rfl, rfl, rfl, by decide +kernel, rfl, by decide +kernel, by decide +kernel⟩
theorem b_is_closed {K : PySem.W.Frag} {f : Addr} {fd : FuncData} (F : FD K "is_closed" s_is_closed [] f fd) : Binds K fd ["ties"] [] := F.bindsN fun _ _ _ _ _ _ us hl => match us, hl with | [_], _ => rfl
abbrev s_pairs_of : Stmt := topS 20
theorem sc_pairs_of : FnScope ["places", "found", "at", "one", "other"] ["places"] (defScope s_pairs_of) := ⟨rfl, rfl, rfl, by decide +kernel, rfl, by decide +kernel, by decide +kernel⟩
theorem b_pairs_of {K : PySem.W.Frag} {f : Addr} {fd : FuncData} (F : FD K "pairs_of" s_pairs_of [] f fd) : Binds K fd ["places"] [] := F.bindsN fun _ _ _ _ _ _ us hl => match us, hl with | [_], _ => rfl
abbrev s_all_lines : Stmt := topS 24
theorem sc_all_lines : FnScope ["order", "found", "lap", "later", "line", "place", "one", "other"] ["order"] (defScope s_all_lines) := ⟨rfl, rfl, rfl, by decide +kernel, rfl, by decide +kernel, by decide +kernel⟩
theorem b_all_lines {K : PySem.W.Frag} {f : Addr} {fd : FuncData} (F : FD K "all_lines" s_all_lines [] f fd) : Binds K fd ["order"] [] := F.bindsN fun _ _ _ _ _ _ us hl => match us, hl with | [_], _ => rfl
abbrev s_counts_by : Stmt := topS 26
theorem sc_counts_by : FnScope ["order", "found", "lap", "later", "lot", "place", "one", "other", "more"] ["order"] (defScope s_counts_by) := ⟨rfl, rfl, rfl, by decide +kernel, rfl, by decide +kernel, by decide +kernel⟩
theorem b_counts_by {K : PySem.W.Frag} {f : Addr} {fd : FuncData} (F : FD K "counts_by" s_counts_by [] f fd) : Binds K fd ["order"] [] := F.bindsN fun _ _ _ _ _ _ us hl => match us, hl with | [_], _ => rfl
abbrev s_ahead_by : Stmt := topS 28
theorem sc_ahead_by : FnScope ["some", "one", "other", "line"] ["some", "one", "other"] (defScope s_ahead_by) := ⟨rfl, rfl, rfl, by decide +kernel, rfl, by decide +kernel, by decide +kernel⟩
theorem b_ahead_by {K : PySem.W.Frag} {f : Addr} {fd : FuncData} (F : FD K "ahead_by" s_ahead_by [] f fd) : Binds K fd ["some", "one", "other"] [] := F.bindsN fun _ _ _ _ _ _ us hl => match us, hl with | [_, _, _], _ => rfl
abbrev s__law_tied : Stmt := topS 42
theorem sc__law_tied : FnScope ["order", "i", "j", "under", "k", "over", "ties", "low", "high"] ["order", "i", "j"] (defScope s__law_tied) := ⟨rfl, rfl, rfl, by decide +kernel, rfl, by decide +kernel, by decide +kernel⟩
theorem b__law_tied {K : PySem.W.Frag} {f : Addr} {fd : FuncData} (F : FD K "_law_tied" s__law_tied [] f fd) : Binds K fd ["order", "i", "j"] [] := F.bindsN fun _ _ _ _ _ _ us hl => match us, hl with | [_, _, _], _ => rfl
abbrev s__law_all_lines : Stmt := topS 45
theorem sc__law_all_lines : FnScope ["order", "found", "place", "later", "line", "at", "one"] ["order"] (defScope s__law_all_lines) := ⟨rfl, rfl, rfl, by decide +kernel, rfl, by decide +kernel, by decide +kernel⟩
theorem b__law_all_lines {K : PySem.W.Frag} {f : Addr} {fd : FuncData} (F : FD K "_law_all_lines" s__law_all_lines [] f fd) : Binds K fd ["order"] [] := F.bindsN fun _ _ _ _ _ _ us hl => match us, hl with | [_], _ => rfl
abbrev s_is_below : Stmt := topS 8
theorem sc_is_below : FnScope ["thing", "many"] ["thing", "many"] (defScope s_is_below) := ⟨rfl, rfl, rfl, by decide +kernel, rfl, by decide +kernel, by decide +kernel⟩
theorem b_is_below {K : PySem.W.Frag} {f : Addr} {fd : FuncData} (F : FD K "is_below" s_is_below [] f fd) : Binds K fd ["thing", "many"] [] := F.bindsN fun _ _ _ _ _ _ us hl => match us, hl with | [_, _], _ => rfl
abbrev s_pairs_in : Stmt := topS 31
theorem sc_pairs_in : FnScope ["line", "pair"] ["line"] (defScope s_pairs_in) := ⟨rfl, rfl, rfl, by decide +kernel, rfl, by decide +kernel, by decide +kernel⟩
theorem b_pairs_in {K : PySem.W.Frag} {f : Addr} {fd : FuncData} (F : FD K "pairs_in" s_pairs_in [] f fd) : Binds K fd ["line"] [] := F.bindsN fun _ _ _ _ _ _ us hl => match us, hl with | [_], _ => rfl
abbrev s_is_count : Stmt := topS 14
theorem sc_is_count : FnScope ["thing"] ["thing"] (defScope s_is_count) := ⟨rfl, rfl, rfl, by decide +kernel, rfl, by decide +kernel, by decide +kernel⟩
theorem b_is_count {K : PySem.W.Frag} {f : Addr} {fd : FuncData} (F : FD K "is_count" s_is_count [] f fd) : Binds K fd ["thing"] [] := F.bindsN fun _ _ _ _ _ _ us hl => match us, hl with | [_], _ => rfl
abbrev s_are_ties : Stmt := topS 16
theorem sc_are_ties : FnScope ["many", "thing", "most", "one", "other"] ["many", "thing", "most"] (defScope s_are_ties) := ⟨rfl, rfl, rfl, by decide +kernel, rfl, by decide +kernel, by decide +kernel⟩
abbrev s_is_line : Stmt := topS 30
theorem sc_is_line : FnScope ["many", "thing", "one"] ["many", "thing"] (defScope s_is_line) := ⟨rfl, rfl, rfl, by decide +kernel, rfl, by decide +kernel, by decide +kernel⟩
theorem b_is_line {K : PySem.W.Frag} {f : Addr} {fd : FuncData} (F : FD K "is_line" s_is_line [] f fd) : Binds K fd ["many", "thing"] [] := F.bindsN fun _ _ _ _ _ _ us hl => match us, hl with | [_, _], _ => rfl
abbrev s_common_pairs : Stmt := topS 32
theorem sc_common_pairs : FnScope ["some", "found", "line", "own", "pair"] ["some"] (defScope s_common_pairs) := ⟨rfl, rfl, rfl, by decide +kernel, rfl, by decide +kernel, by decide +kernel⟩
theorem b_common_pairs {K : PySem.W.Frag} {f : Addr} {fd : FuncData} (F : FD K "common_pairs" s_common_pairs [] f fd) : Binds K fd ["some"] [] := F.bindsN fun _ _ _ _ _ _ us hl => match us, hl with | [_], _ => rfl
abbrev s__law_pick : Stmt := topS 38
theorem sc__law_pick : FnScope ["state", "some"] ["state", "some"] (defScope s__law_pick) := ⟨rfl, rfl, rfl, by decide +kernel, rfl, by decide +kernel, by decide +kernel⟩
theorem b__law_pick {K : PySem.W.Frag} {f : Addr} {fd : FuncData} (F : FD K "_law_pick" s__law_pick [] f fd) : Binds K fd ["state", "some"] [] := F.bindsN fun _ _ _ _ _ _ us hl => match us, hl with | [_, _], _ => rfl
abbrev s__law_shuffled : Stmt := topS 39
theorem sc__law_shuffled : FnScope ["state", "some", "left", "found"] ["state", "some"] (defScope s__law_shuffled) := ⟨rfl, rfl, rfl, by decide +kernel, rfl, by decide +kernel, by decide +kernel⟩
theorem b__law_shuffled {K : PySem.W.Frag} {f : Addr} {fd : FuncData} (F : FD K "_law_shuffled" s__law_shuffled [] f fd) : Binds K fd ["state", "some"] [] := F.bindsN fun _ _ _ _ _ _ us hl => match us, hl with | [_, _], _ => rfl
abbrev s__law_some_order : Stmt := topS 43
theorem sc__law_some_order : FnScope ["state", "many", "found", "lap", "i", "j"] ["state", "many"] (defScope s__law_some_order) := ⟨rfl, rfl, rfl, by decide +kernel, rfl, by decide +kernel, by decide +kernel⟩
theorem b__law_some_order {K : PySem.W.Frag} {f : Addr} {fd : FuncData} (F : FD K "_law_some_order" s__law_some_order [] f fd) : Binds K fd ["state", "many"] [] := F.bindsN fun _ _ _ _ _ _ us hl => match us, hl with | [_, _], _ => rfl
abbrev s_is_order : Stmt := topS 17
theorem sc_is_order : FnScope ["thing"] ["thing"] (defScope s_is_order) := ⟨rfl, rfl, rfl, by decide +kernel, rfl, by decide +kernel, by decide +kernel⟩
theorem b_is_order {K : PySem.W.Frag} {f : Addr} {fd : FuncData} (F : FD K "is_order" s_is_order [] f fd) : Binds K fd ["thing"] [] := F.bindsN fun _ _ _ _ _ _ us hl => match us, hl with | [_], _ => rfl
abbrev s_common_ties : Stmt := topS 33
theorem sc_common_ties : FnScope ["many", "some", "one"] ["many", "some"] (defScope s_common_ties) := ⟨rfl, rfl, rfl, by decide +kernel, rfl, by decide +kernel, by decide +kernel⟩
theorem b_common_ties {K : PySem.W.Frag} {f : Addr} {fd : FuncData} (F : FD K "common_ties" s_common_ties [] f fd) : Binds K fd ["many", "some"] [] := F.bindsN fun _ _ _ _ _ _ us hl => match us, hl with | [_, _], _ => rfl
abbrev s__law_any_order : Stmt := topS 44
theorem sc__law_any_order : FnScope ["state"] ["state"] (defScope s__law_any_order) := ⟨rfl, rfl, rfl, by decide +kernel, rfl, by decide +kernel, by decide +kernel⟩
theorem b__law_any_order {K : PySem.W.Frag} {f : Addr} {fd : FuncData} (F : FD K "_law_any_order" s__law_any_order [] f fd) : Binds K fd ["state"] [] := F.bindsN fun _ _ _ _ _ _ us hl => match us, hl with | [_], _ => rfl
abbrev s_need_order : Stmt := topS 18
theorem sc_need_order : FnScope ["order"] ["order"] (defScope s_need_order) := ⟨rfl, rfl, rfl, by decide +kernel, rfl, by decide +kernel, by decide +kernel⟩
theorem b_need_order {K : PySem.W.Frag} {f : Addr} {fd : FuncData} (F : FD K "need_order" s_need_order [] f fd) : Binds K fd ["order"] [] := F.bindsN fun _ _ _ _ _ _ us hl => match us, hl with | [_], _ => rfl
abbrev s_lines : Stmt := topS 25
theorem sc_lines : FnScope ["order"] ["order"] (defScope s_lines) := ⟨rfl, rfl, rfl, by decide +kernel, rfl, by decide +kernel, by decide +kernel⟩
theorem b_lines {K : PySem.W.Frag} {f : Addr} {fd : FuncData} (F : FD K "lines" s_lines [] f fd) : Binds K fd ["order"] [] := F.bindsN fun _ _ _ _ _ _ us hl => match us, hl with | [_], _ => rfl
abbrev s_count_lines : Stmt := topS 27
theorem sc_count_lines : FnScope ["order"] ["order"] (defScope s_count_lines) := ⟨rfl, rfl, rfl, by decide +kernel, rfl, by decide +kernel, by decide +kernel⟩
theorem b_count_lines {K : PySem.W.Frag} {f : Addr} {fd : FuncData} (F : FD K "count_lines" s_count_lines [] f fd) : Binds K fd ["order"] [] := F.bindsN fun _ _ _ _ _ _ us hl => match us, hl with | [_], _ => rfl
abbrev s_ahead_many : Stmt := topS 29
theorem sc_ahead_many : FnScope ["order", "one", "other"] ["order", "one", "other"] (defScope s_ahead_many) := ⟨rfl, rfl, rfl, by decide +kernel, rfl, by decide +kernel, by decide +kernel⟩
theorem b_ahead_many {K : PySem.W.Frag} {f : Addr} {fd : FuncData} (F : FD K "ahead_many" s_ahead_many [] f fd) : Binds K fd ["order", "one", "other"] [] := F.bindsN fun _ _ _ _ _ _ us hl => match us, hl with | [_, _, _], _ => rfl
abbrev s__law_plain : Stmt := topS 40
theorem sc__law_plain : FnScope ["value", "one"] ["value"] (defScope s__law_plain) := ⟨rfl, rfl, rfl, by decide +kernel, rfl, by decide +kernel, by decide +kernel⟩
theorem b__law_plain {K : PySem.W.Frag} {f : Addr} {fd : FuncData} (F : FD K "_law_plain" s__law_plain [] f fd) : Binds K fd ["value"] [] := F.bindsN fun _ _ _ _ _ _ us hl => match us, hl with | [_], _ => rfl
abbrev s__law_is : Stmt := topS 41
theorem sc__law_is : FnScope ["found", "due"] ["found", "due"] (defScope s__law_is) := ⟨rfl, rfl, rfl, by decide +kernel, rfl, by decide +kernel, by decide +kernel⟩
theorem b__law_is {K : PySem.W.Frag} {f : Addr} {fd : FuncData} (F : FD K "_law_is" s__law_is [] f fd) : Binds K fd ["found", "due"] [] := F.bindsN fun _ _ _ _ _ _ us hl => match us, hl with | [_, _], _ => rfl
abbrev s_law : Stmt := topS 46
theorem sc_law : FnScope ["script", "state", "three", "lap", "order", "due", "one", "other", "many", "line", "some", "turn", "wild", "rows", "kept", "i", "j", "row"] ["script"] (defScope s_law) := ⟨rfl, rfl, rfl, by decide +kernel, rfl, by decide +kernel, by decide +kernel⟩
theorem b_law {K : PySem.W.Frag} {f : Addr} {fd : FuncData} (F : FD K "law" s_law [] f fd) : Binds K fd ["script"] [] := F.bindsN fun _ _ _ _ _ _ us hl => match us, hl with | [_], _ => rfl
theorem ok_is_whole {P : Program} {w : World} {K : PySem.W.Frag} {mg : Str → Option Value} {base : Heap} (W : Wd) {f : Addr} {fd : FuncData} (F : FD K "is_whole" s_is_whole [] f fd) (z_bool : mg "bool" = none) (z_isinstance : mg "isinstance" = none) (z_int : mg "int" = none) :
    FnG P w K mg base CX0 1 f fd ["thing"] (liftSp ⟨P, w, K⟩ W sp_is_whole) := by
  exact okD (t := t_is_whole) F sc_is_whole (by decide) ar1 (fun cdv A outer s H F0 E hr hz =>
      (tss_one (ts_ret (te_and (te_cb ct_isi (by rfl) z_isinstance bt_isinstance (tr_cons (te_var (i := 0) rfl (by first | exact .inl rfl | exact .inr (.inl rfl) | exact .inr (.inr rfl))) (tr_cons (te_bty (by rfl) z_int bt_int) tr_nil))) (te_one (te_not (te_cb ct_isi (by rfl) z_isinstance bt_isinstance (tr_cons (te_var (i := 0) rfl (by first | exact .inl rfl | exact .inr (.inl rfl) | exact .inr (.inr rfl))) (tr_cons (te_bty (by rfl) z_bool bt_bool) tr_nil))))))))) read_is_whole
theorem ok_are_rising {P : Program} {w : World} {K : PySem.W.Frag} {mg : Str → Option Value} {base : Heap} (W : Wd) {f : Addr} {fd : FuncData} (F : FD K "are_rising" s_are_rising [] f fd) (z_zip : mg "zip" = none) (z_all : mg "all" = none) :
    FnG P w K mg base CX0 1 f fd ["things"] (liftSp ⟨P, w, K⟩ W sp_are_rising) := by
  exact okD (t := t_are_rising) F sc_are_rising (by decide) ar1 (fun cdv A outer s H F0 E hr hz =>
      (tss_one (ts_ret (te_cb (ct_all rfl) (by rfl) z_all bt_all (tr_cons (te_new (tn_lc (own := [("one", 1), ("other", 2)]) rfl sc_are_rising.nd (ti_zip (by rfl) z_zip (ta_cons (te_var (i := 0) rfl (by first | exact .inl rfl | exact .inr (.inl rfl) | exact .inr (.inr rfl))) (ta_cons (te_slice (te_var (i := 0) rfl (by first | exact .inl rfl | exact .inr (.inl rfl) | exact .inr (.inr rfl))) (to_some te_int) to_none) ta_nil))) (blkOk_by (by kernel_rfl)) (by decide) (fun l _ _ _ _ _ => (tg_tup (n := 2) rfl (tgs_cons (tg_name (i := 1) sc_are_rising.nd rfl (by first | exact .inl rfl | exact .inr rfl)) (tgs_cons (tg_name (i := 2) sc_are_rising.nd rfl (by first | exact .inl rfl | exact .inr rfl)) tgs_nil)))) (fun l _ _ _ _ _ => tts_nil) (fun l _ _ _ _ _ => (te_cmp (ot_ltA hr) (te_var (i := 1) rfl (by first | exact .inl rfl | exact .inr (.inl rfl) | exact .inr (.inr rfl))) (te_var (i := 2) rfl (by first | exact .inl rfl | exact .inr (.inl rfl) | exact .inr (.inr rfl))) (nomark _))))) tr_nil))))) read_are_rising
theorem ok_are_pairs {P : Program} {w : World} {K : PySem.W.Frag} {mg : Str → Option Value} {base : Heap} (W : Wd) {f : Addr} {fd : FuncData} (F : FD K "are_pairs" s_are_pairs [] f fd) (z_len : mg "len" = none) (z_tuple : mg "tuple" = none) (z_isinstance : mg "isinstance" = none) (z_all : mg "all" = none) :
    FnG P w K mg base CX0 1 f fd ["thing", "most"] (liftSp ⟨P, w, K⟩ W sp_are_pairs) := by
  exact okD (t := t_are_pairs) F sc_are_pairs (by decide) ar2 (fun cdv A outer s H F0 E hr hz =>
      (tss_cons (ts_if (tw_or (tt_not (tt_val (te_cb ct_isi (by rfl) z_isinstance bt_isinstance (tr_cons (te_var (i := 0) rfl (by first | exact .inl rfl | exact .inr (.inl rfl) | exact .inr (.inr rfl))) (tr_cons (te_bty (by rfl) z_tuple bt_tuple) tr_nil))))) (tw_or1 (tt_cmp ot_gt (te_cb ct_len (by rfl) z_len bt_len (tr_cons (te_var (i := 0) rfl (by first | exact .inl rfl | exact .inr (.inl rfl) | exact .inr (.inr rfl))) tr_nil)) (te_var (i := 1) rfl (by first | exact .inl rfl | exact .inr (.inl rfl) | exact .inr (.inr rfl))) (nomark _)))).pt (tss_one (ts_ret te_bl)) tss_nil)
      (tss_one (ts_ret (te_cb (ct_all rfl) (by rfl) z_all bt_all (tr_cons (te_new (tn_lc (own := [("one", 2)]) rfl sc_are_pairs.nd (ti_seq (te_var (i := 0) rfl (by first | exact .inl rfl | exact .inr (.inl rfl) | exact .inr (.inr rfl)))) (blkOk_by (by kernel_rfl)) (by decide) (fun l _ _ _ _ _ => (tg_name (i := 2) sc_are_pairs.nd rfl (by first | exact .inl rfl | exact .inr rfl))) (fun l _ _ _ _ _ => tts_nil) (fun l _ _ _ _ _ => (te_and (te_cb ct_isi (by rfl) z_isinstance bt_isinstance (tr_cons (te_var (i := 2) rfl (by first | exact .inl rfl | exact .inr (.inl rfl) | exact .inr (.inr rfl))) (tr_cons (te_bty (by rfl) z_tuple bt_tuple) tr_nil))) (te_one (te_cmp (ot_eqA hr) (te_cb ct_len (by rfl) z_len bt_len (tr_cons (te_var (i := 2) rfl (by first | exact .inl rfl | exact .inr (.inl rfl) | exact .inr (.inr rfl))) tr_nil)) te_int (nomark _))))))) tr_nil)))))) read_are_pairs
theorem ok_is_closed {P : Program} {w : World} {K : PySem.W.Frag} {mg : Str → Option Value} {base : Heap} (W : Wd) {f : Addr} {fd : FuncData} (F : FD K "is_closed" s_is_closed [] f fd) (z_all : mg "all" = none) :
    FnG P w K mg base CX0 1 f fd ["ties"] (liftSp ⟨P, w, K⟩ W sp_is_closed) := by
  exact okD (t := t_is_closed) F sc_is_closed (by decide) ar1 (fun cdv A outer s H F0 E hr hz =>
      (tss_cons (ts_set (i := 1) sc_is_closed.nd rfl (by first | exact .inl rfl | exact .inr rfl) (te_new (tn_dc hr.room (own := [("tie", 2)]) rfl sc_is_closed.nd (ti_seq (te_var (i := 0) rfl (by first | exact .inl rfl | exact .inr (.inl rfl) | exact .inr (.inr rfl)))) (blkOk_by (by kernel_rfl)) (by decide) (fun l _ _ _ _ _ => (tg_name (i := 2) sc_is_closed.nd rfl (by first | exact .inl rfl | exact .inr rfl))) (fun l _ _ _ _ _ => tts_nil) (fun l _ _ _ _ _ => (te_var (i := 2) rfl (by first | exact .inl rfl | exact .inr (.inl rfl) | exact .inr (.inr rfl)))) (fun l _ _ _ _ _ => te_bl))))
      (tss_cons (ts_for PassesOwn.never rfl (ti_seq (te_var (i := 0) rfl (by first | exact .inl rfl | exact .inr (.inl rfl) | exact .inr (.inr rfl)))) (tg_tup (n := 2) rfl (tgs_cons (tg_name (i := 3) sc_is_closed.nd rfl (by first | exact .inl rfl | exact .inr rfl)) (tgs_cons (tg_name (i := 4) sc_is_closed.nd rfl (by first | exact .inl rfl | exact .inr rfl)) tgs_nil))) (tss_one (ts_if (tt_not (tt_val (te_cb (ct_all rfl) (by rfl) z_all bt_all (tr_cons (te_new (tn_lc (own := [("own", 5), ("other", 6)]) rfl sc_is_closed.nd (ti_seq (te_var (i := 0) rfl (by first | exact .inl rfl | exact .inr (.inl rfl) | exact .inr (.inr rfl)))) (blkOk_by (by kernel_rfl)) (by decide) (fun l _ _ _ _ _ => (tg_tup (n := 2) rfl (tgs_cons (tg_name (i := 5) sc_is_closed.nd rfl (by first | exact .inl rfl | exact .inr rfl)) (tgs_cons (tg_name (i := 6) sc_is_closed.nd rfl (by first | exact .inl rfl | exact .inr rfl)) tgs_nil)))) (fun l _ _ _ _ _ => (tts_one (tt_cmp (ot_eqA hr) (te_var (i := 5) rfl (by first | exact .inl rfl | exact .inr (.inl rfl) | exact .inr (.inr rfl))) (te_var (i := 4) rfl (by first | exact .inl rfl | exact .inr (.inl rfl) | exact .inr (.inr rfl))) (nomark _)))) (fun l _ _ _ _ _ => (te_cmp (ot_in hr.room) (te_tup (ta_cons (te_var (i := 3) rfl (by first | exact .inl rfl | exact .inr (.inl rfl) | exact .inr (.inr rfl))) (ta_cons (te_var (i := 6) rfl (by first | exact .inl rfl | exact .inr (.inl rfl) | exact .inr (.inr rfl))) ta_nil))) (te_var (i := 1) rfl (by first | exact .inl rfl | exact .inr (.inl rfl) | exact .inr (.inr rfl))) rfl)))) tr_nil)))) (tss_one (ts_ret te_bl)) tss_nil)))
      (tss_one (ts_ret te_bl))))) read_is_closed
theorem ok_pairs_of {P : Program} {w : World} {K : PySem.W.Frag} {mg : Str → Option Value} {base : Heap} (W : Wd) {f : Addr} {fd : FuncData} (F : FD K "pairs_of" s_pairs_of [] f fd) (z_enumerate : mg "enumerate" = none) :
    FnG P w K mg base CX0 1 f fd ["places"] (liftSp ⟨P, w, K⟩ W sp_pairs_of) := by
  exact okD (t := t_pairs_of) F sc_pairs_of (by decide) ar1 (fun cdv A outer s H F0 E hr hz =>
      (tss_cons (ts_set (i := 1) sc_pairs_of.nd rfl (by first | exact .inl rfl | exact .inr rfl) (te_lst ta_nil))
      (tss_cons (ts_for PassesOwn.never rfl (ti_enum (by rfl) z_enumerate (ta_cons (te_var (i := 0) rfl (by first | exact .inl rfl | exact .inr (.inl rfl) | exact .inr (.inr rfl))) ta_nil)) (tg_tup (n := 2) rfl (tgs_cons (tg_name (i := 2) sc_pairs_of.nd rfl (by first | exact .inl rfl | exact .inr rfl)) (tgs_cons (tg_name (i := 3) sc_pairs_of.nd rfl (by first | exact .inl rfl | exact .inr rfl)) tgs_nil))) (tss_one (ts_set (i := 1) sc_pairs_of.nd rfl (by first | exact .inl rfl | exact .inr rfl) (te_op ot_add (te_var (i := 1) rfl (by first | exact .inl rfl | exact .inr (.inl rfl) | exact .inr (.inr rfl))) (te_new (tn_lc (own := [("other", 4)]) rfl sc_pairs_of.nd (ti_seq (te_slice (te_var (i := 0) rfl (by first | exact .inl rfl | exact .inr (.inl rfl) | exact .inr (.inr rfl))) (to_some (te_op ot_add (te_var (i := 2) rfl (by first | exact .inl rfl | exact .inr (.inl rfl) | exact .inr (.inr rfl))) te_int)) to_none)) (blkOk_by (by kernel_rfl)) (by decide) (fun l _ _ _ _ _ => (tg_name (i := 4) sc_pairs_of.nd rfl (by first | exact .inl rfl | exact .inr rfl))) (fun l _ _ _ _ _ => tts_nil) (fun l _ _ _ _ _ => (te_tup (ta_cons (te_var (i := 3) rfl (by first | exact .inl rfl | exact .inr (.inl rfl) | exact .inr (.inr rfl))) (ta_cons (te_var (i := 4) rfl (by first | exact .inl rfl | exact .inr (.inl rfl) | exact .inr (.inr rfl))) ta_nil))))))))))
      (tss_one (ts_ret (te_var (i := 1) rfl (by first | exact .inl rfl | exact .inr (.inl rfl) | exact .inr (.inr rfl)))))))) read_pairs_of
theorem ok_all_lines {P : Program} {w : World} {K : PySem.W.Frag} {mg : Str → Option Value} {base : Heap} (W : Wd) {f : Addr} {fd : FuncData} (F : FD K "all_lines" s_all_lines [] f fd) (z_range : mg "range" = none) (z_all : mg "all" = none) (z_sorted : mg "sorted" = none) :
    FnG P w K mg base CX0 1 f fd ["order"] (liftSp ⟨P, w, K⟩ W sp_all_lines) := by
  exact okD (t := t_all_lines) F sc_all_lines (by decide) ar1 (fun cdv A outer s H F0 E hr hz =>
      (tss_cons (ts_set (i := 1) sc_all_lines.nd rfl (by first | exact .inl rfl | exact .inr rfl) (te_lst (ta_cons (te_tup ta_nil) ta_nil)))
      (tss_cons (ts_for PassesOwn.never rfl (ti_range1 (by rfl) z_range (ta_cons (te_ix hr.room (te_var (i := 0) rfl (by first | exact .inl rfl | exact .inr (.inl rfl) | exact .inr (.inr rfl))) te_int (fun _ _ => rfl)) ta_nil)) (tg_name (i := 2) sc_all_lines.nd rfl (by first | exact .inl rfl | exact .inr rfl)) (tss_cons (ts_setN (i := 3) sc_all_lines.nd rfl (by first | exact .inl rfl | exact .inr rfl) (tn_lst ta_nil))
      (tss_cons (ts_for PassesOwn.never rfl (ti_seq (te_var (i := 1) rfl (by first | exact .inl rfl | exact .inr (.inl rfl) | exact .inr (.inr rfl)))) (tg_name (i := 4) sc_all_lines.nd rfl (by first | exact .inl rfl | exact .inr rfl)) (tss_one (ts_for PassesOwn.never rfl (ti_range1 (by rfl) z_range (ta_cons (te_ix hr.room (te_var (i := 0) rfl (by first | exact .inl rfl | exact .inr (.inl rfl) | exact .inr (.inr rfl))) te_int (fun _ _ => rfl)) ta_nil)) (tg_name (i := 5) sc_all_lines.nd rfl (by first | exact .inl rfl | exact .inr rfl)) (tss_one (ts_if (tw_and (tt_cmp (ot_notIn hr.room) (te_var (i := 5) rfl (by first | exact .inl rfl | exact .inr (.inl rfl) | exact .inr (.inr rfl))) (te_var (i := 4) rfl (by first | exact .inl rfl | exact .inr (.inl rfl) | exact .inr (.inr rfl))) rfl) (tw_and1 (tt_val (te_cb (ct_all rfl) (by rfl) z_all bt_all (tr_cons (te_new (tn_lc (own := [("one", 6), ("other", 7)]) rfl sc_all_lines.nd (ti_seq (te_ix hr.room (te_var (i := 0) rfl (by first | exact .inl rfl | exact .inr (.inl rfl) | exact .inr (.inr rfl))) te_int (fun _ _ => rfl))) (blkOk_by (by kernel_rfl)) (by decide) (fun l _ _ _ _ _ => (tg_tup (n := 2) rfl (tgs_cons (tg_name (i := 6) sc_all_lines.nd rfl (by first | exact .inl rfl | exact .inr rfl)) (tgs_cons (tg_name (i := 7) sc_all_lines.nd rfl (by first | exact .inl rfl | exact .inr rfl)) tgs_nil)))) (fun l _ _ _ _ _ => (tts_one (tt_cmp (ot_eqA hr) (te_var (i := 7) rfl (by first | exact .inl rfl | exact .inr (.inl rfl) | exact .inr (.inr rfl))) (te_var (i := 5) rfl (by first | exact .inl rfl | exact .inr (.inl rfl) | exact .inr (.inr rfl))) (nomark _)))) (fun l _ _ _ _ _ => (te_cmp (ot_in hr.room) (te_var (i := 6) rfl (by first | exact .inl rfl | exact .inr (.inl rfl) | exact .inr (.inr rfl))) (te_var (i := 4) rfl (by first | exact .inl rfl | exact .inr (.inl rfl) | exact .inr (.inr rfl))) rfl)))) tr_nil))))).pt (tss_one (ts_expr (te_append (i := 3) rfl (by first | exact .inl rfl | exact .inr (.inl rfl) | exact .inr (.inr rfl)) (ta_cons (te_op ot_add (te_var (i := 4) rfl (by first | exact .inl rfl | exact .inr (.inl rfl) | exact .inr (.inr rfl))) (te_tup (ta_cons (te_var (i := 5) rfl (by first | exact .inl rfl | exact .inr (.inl rfl) | exact .inr (.inr rfl))) ta_nil))) ta_nil)))) tss_nil)))))
      (tss_one (ts_set (i := 1) sc_all_lines.nd rfl (by first | exact .inl rfl | exact .inr rfl) (te_var (i := 3) rfl (by first | exact .inl rfl | exact .inr (.inl rfl) | exact .inr (.inr rfl))))))))
      (tss_one (ts_ret (te_new (tn_cb (cn_sorted hr) (by rfl) z_sorted bt_sorted (tr_cons (te_var (i := 1) rfl (by first | exact .inl rfl | exact .inr (.inl rfl) | exact .inr (.inr rfl))) tr_nil)))))))) read_all_lines
theorem ok_counts_by {P : Program} {w : World} {K : PySem.W.Frag} {mg : Str → Option Value} {base : Heap} (W : Wd) {f : Addr} {fd : FuncData} (F : FD K "counts_by" s_counts_by [] f fd) (z_range : mg "range" = none) (z_all : mg "all" = none) (z_sorted : mg "sorted" = none) (z_tuple : mg "tuple" = none) :
    FnG P w K mg base CX0 1 f fd ["order"] (liftSp ⟨P, w, K⟩ W sp_counts_by) := by
  exact okD (t := t_counts_by) F sc_counts_by (by decide) ar1 (fun cdv A outer s H F0 E hr hz =>
      (tss_cons (ts_set (i := 1) sc_counts_by.nd rfl (by first | exact .inl rfl | exact .inr rfl) (te_new (tn_dispE hr.room (fun l => (tp_cons (te_tup ta_nil) te_int tp_nil)))))
      (tss_cons (ts_for PassesOwn.never rfl (ti_range1 (by rfl) z_range (ta_cons (te_ix hr.room (te_var (i := 0) rfl (by first | exact .inl rfl | exact .inr (.inl rfl) | exact .inr (.inr rfl))) te_int (fun _ _ => rfl)) ta_nil)) (tg_name (i := 2) sc_counts_by.nd rfl (by first | exact .inl rfl | exact .inr rfl)) (tss_cons (ts_setN (i := 3) sc_counts_by.nd rfl (by first | exact .inl rfl | exact .inr rfl) tn_dicE)
      (tss_cons (ts_for PassesOwn.never rfl (ti_seq (te_var (i := 1) rfl (by first | exact .inl rfl | exact .inr (.inl rfl) | exact .inr (.inr rfl)))) (tg_name (i := 4) sc_counts_by.nd rfl (by first | exact .inl rfl | exact .inr rfl)) (tss_one (ts_for PassesOwn.never rfl (ti_range1 (by rfl) z_range (ta_cons (te_ix hr.room (te_var (i := 0) rfl (by first | exact .inl rfl | exact .inr (.inl rfl) | exact .inr (.inr rfl))) te_int (fun _ _ => rfl)) ta_nil)) (tg_name (i := 5) sc_counts_by.nd rfl (by first | exact .inl rfl | exact .inr rfl)) (tss_one (ts_if (tw_and (tt_cmp (ot_notIn hr.room) (te_var (i := 5) rfl (by first | exact .inl rfl | exact .inr (.inl rfl) | exact .inr (.inr rfl))) (te_var (i := 4) rfl (by first | exact .inl rfl | exact .inr (.inl rfl) | exact .inr (.inr rfl))) rfl) (tw_and1 (tt_val (te_cb (ct_all rfl) (by rfl) z_all bt_all (tr_cons (te_new (tn_lc (own := [("one", 6), ("other", 7)]) rfl sc_counts_by.nd (ti_seq (te_ix hr.room (te_var (i := 0) rfl (by first | exact .inl rfl | exact .inr (.inl rfl) | exact .inr (.inr rfl))) te_int (fun _ _ => rfl))) (blkOk_by (by kernel_rfl)) (by decide) (fun l _ _ _ _ _ => (tg_tup (n := 2) rfl (tgs_cons (tg_name (i := 6) sc_counts_by.nd rfl (by first | exact .inl rfl | exact .inr rfl)) (tgs_cons (tg_name (i := 7) sc_counts_by.nd rfl (by first | exact .inl rfl | exact .inr rfl)) tgs_nil)))) (fun l _ _ _ _ _ => (tts_one (tt_cmp (ot_eqA hr) (te_var (i := 7) rfl (by first | exact .inl rfl | exact .inr (.inl rfl) | exact .inr (.inr rfl))) (te_var (i := 5) rfl (by first | exact .inl rfl | exact .inr (.inl rfl) | exact .inr (.inr rfl))) (nomark _)))) (fun l _ _ _ _ _ => (te_cmp (ot_in hr.room) (te_var (i := 6) rfl (by first | exact .inl rfl | exact .inr (.inl rfl) | exact .inr (.inr rfl))) (te_var (i := 4) rfl (by first | exact .inl rfl | exact .inr (.inl rfl) | exact .inr (.inr rfl))) rfl)))) tr_nil))))).pt (tss_cons (ts_set (i := 8) sc_counts_by.nd rfl (by first | exact .inl rfl | exact .inr rfl) (te_ct ct_tuple (by rfl) z_tuple bt_tuple (tr_cons (te_new (tn_cb (cn_sorted hr) (by rfl) z_sorted bt_sorted (tr_cons (te_op ot_add (te_var (i := 4) rfl (by first | exact .inl rfl | exact .inr (.inl rfl) | exact .inr (.inr rfl))) (te_tup (ta_cons (te_var (i := 5) rfl (by first | exact .inl rfl | exact .inr (.inl rfl) | exact .inr (.inr rfl))) ta_nil))) tr_nil))) tr_nil)))
      (tss_one (ts_put (i := 3) hr.room rfl (by first | exact .inl rfl | exact .inr (.inl rfl) | exact .inr (.inr rfl)) (te_op ot_add (te_get hr.room (te_var (i := 3) rfl (by first | exact .inl rfl | exact .inr (.inl rfl) | exact .inr (.inr rfl))) (ta_cons (te_var (i := 8) rfl (by first | exact .inl rfl | exact .inr (.inl rfl) | exact .inr (.inr rfl))) (ta_cons te_int ta_nil))) (te_ix hr.room (te_var (i := 1) rfl (by first | exact .inl rfl | exact .inr (.inl rfl) | exact .inr (.inr rfl))) (te_var (i := 4) rfl (by first | exact .inl rfl | exact .inr (.inl rfl) | exact .inr (.inr rfl))) (fun _ _ => rfl))) (te_var (i := 8) rfl (by first | exact .inl rfl | exact .inr (.inl rfl) | exact .inr (.inr rfl)))))) tss_nil)))))
      (tss_one (ts_set (i := 1) sc_counts_by.nd rfl (by first | exact .inl rfl | exact .inr rfl) (te_var (i := 3) rfl (by first | exact .inl rfl | exact .inr (.inl rfl) | exact .inr (.inr rfl))))))))
      (tss_one (ts_ret (te_var (i := 1) rfl (by first | exact .inl rfl | exact .inr (.inl rfl) | exact .inr (.inr rfl)))))))) read_counts_by
theorem ok_ahead_by {P : Program} {w : World} {K : PySem.W.Frag} {mg : Str → Option Value} {base : Heap} (W : Wd) {f : Addr} {fd : FuncData} (F : FD K "ahead_by" s_ahead_by [] f fd) (z_len : mg "len" = none) :
    FnG P w K mg base CX0 1 f fd ["some", "one", "other"] (liftSp ⟨P, w, K⟩ W sp_ahead_by) := by
  exact okD (t := t_ahead_by) F sc_ahead_by (by decide) ar3 (fun cdv A outer s H F0 E hr hz =>
      (tss_one (ts_ret (te_cb ct_len (by rfl) z_len bt_len (tr_cons (te_new (tn_lc (own := [("line", 3)]) rfl sc_ahead_by.nd (ti_seq (te_var (i := 0) rfl (by first | exact .inl rfl | exact .inr (.inl rfl) | exact .inr (.inr rfl)))) (blkOk_by (by kernel_rfl)) (by decide) (fun l _ _ _ _ _ => (tg_name (i := 3) sc_ahead_by.nd rfl (by first | exact .inl rfl | exact .inr rfl))) (fun l _ _ _ _ _ => (tts_one (tt_cmp (ot_ltA hr) (te_index hr.room (te_var (i := 3) rfl (by first | exact .inl rfl | exact .inr (.inl rfl) | exact .inr (.inr rfl))) (tr_cons (te_var (i := 1) rfl (by first | exact .inl rfl | exact .inr (.inl rfl) | exact .inr (.inr rfl))) tr_nil)) (te_index hr.room (te_var (i := 3) rfl (by first | exact .inl rfl | exact .inr (.inl rfl) | exact .inr (.inr rfl))) (tr_cons (te_var (i := 2) rfl (by first | exact .inl rfl | exact .inr (.inl rfl) | exact .inr (.inr rfl))) tr_nil)) (nomark _)))) (fun l _ _ _ _ _ => (te_var (i := 3) rfl (by first | exact .inl rfl | exact .inr (.inl rfl) | exact .inr (.inr rfl)))))) tr_nil))))) read_ahead_by
theorem ok__law_tied {P : Program} {w : World} {K : PySem.W.Frag} {mg : Str → Option Value} {base : Heap} (W : Wd) {f : Addr} {fd : FuncData} (F : FD K "_law_tied" s__law_tied [] f fd) (z_range : mg "range" = none) (z_list : mg "list" = none) (z_sorted : mg "sorted" = none) (z_tuple : mg "tuple" = none) :
    FnG P w K mg base CX0 1 f fd ["order", "i", "j"] (liftSp ⟨P, w, K⟩ W sp__law_tied) := by
  exact okD (t := t__law_tied) F sc__law_tied (by decide) ar3 (fun cdv A outer s H F0 E hr hz =>
      (tss_cons (ts_setLc (i := 3) (own := [("k", 4)]) rfl sc__law_tied.nd rfl rfl (sw_true rfl rfl rfl rfl) (ti_range1 (by rfl) z_range (ta_cons (te_ix hr.room (te_var (i := 0) rfl (by first | exact .inl rfl | exact .inr (.inl rfl) | exact .inr (.inr rfl))) te_int (fun _ _ => rfl)) ta_nil)) (blkOk_by (by kernel_rfl)) (by decide) (fun l _ _ _ _ _ => (tg_name (i := 4) sc__law_tied.nd rfl (by first | exact .inl rfl | exact .inr rfl))) (fun l _ _ _ _ _ => (tts_one (tw_or (tt_cmp (ot_eqA hr) (te_var (i := 4) rfl (by first | exact .inl rfl | exact .inr (.inl rfl) | exact .inr (.inr rfl))) (te_var (i := 1) rfl (by first | exact .inl rfl | exact .inr (.inl rfl) | exact .inr (.inr rfl))) (nomark _)) (tw_or1 (tt_cmp (ot_in hr.room) (te_tup (ta_cons (te_var (i := 4) rfl (by first | exact .inl rfl | exact .inr (.inl rfl) | exact .inr (.inr rfl))) (ta_cons (te_var (i := 1) rfl (by first | exact .inl rfl | exact .inr (.inl rfl) | exact .inr (.inr rfl))) ta_nil))) (te_ix hr.room (te_var (i := 0) rfl (by first | exact .inl rfl | exact .inr (.inl rfl) | exact .inr (.inr rfl))) te_int (fun _ _ => rfl)) rfl))).pt)) (fun l _ _ _ _ _ => (te_var (i := 4) rfl (by first | exact .inl rfl | exact .inr (.inl rfl) | exact .inr (.inr rfl)))))
      (tss_cons (ts_setLc (i := 5) (own := [("k", 4)]) rfl sc__law_tied.nd rfl rfl (sw_true rfl rfl rfl rfl) (ti_range1 (by rfl) z_range (ta_cons (te_ix hr.room (te_var (i := 0) rfl (by first | exact .inl rfl | exact .inr (.inl rfl) | exact .inr (.inr rfl))) te_int (fun _ _ => rfl)) ta_nil)) (blkOk_by (by kernel_rfl)) (by decide) (fun l _ _ _ _ _ => (tg_name (i := 4) sc__law_tied.nd rfl (by first | exact .inl rfl | exact .inr rfl))) (fun l _ _ _ _ _ => (tts_one (tw_or (tt_cmp (ot_eqA hr) (te_var (i := 4) rfl (by first | exact .inl rfl | exact .inr (.inl rfl) | exact .inr (.inr rfl))) (te_var (i := 2) rfl (by first | exact .inl rfl | exact .inr (.inl rfl) | exact .inr (.inr rfl))) (nomark _)) (tw_or1 (tt_cmp (ot_in hr.room) (te_tup (ta_cons (te_var (i := 2) rfl (by first | exact .inl rfl | exact .inr (.inl rfl) | exact .inr (.inr rfl))) (ta_cons (te_var (i := 4) rfl (by first | exact .inl rfl | exact .inr (.inl rfl) | exact .inr (.inr rfl))) ta_nil))) (te_ix hr.room (te_var (i := 0) rfl (by first | exact .inl rfl | exact .inr (.inl rfl) | exact .inr (.inr rfl))) te_int (fun _ _ => rfl)) rfl))).pt)) (fun l _ _ _ _ _ => (te_var (i := 4) rfl (by first | exact .inl rfl | exact .inr (.inl rfl) | exact .inr (.inr rfl)))))
      (tss_cons (ts_set (i := 6) sc__law_tied.nd rfl (by first | exact .inl rfl | exact .inr rfl) (te_new (tn_ct cn_list (by rfl) z_list bt_list (tr_cons (te_ix hr.room (te_var (i := 0) rfl (by first | exact .inl rfl | exact .inr (.inl rfl) | exact .inr (.inr rfl))) te_int (fun _ _ => rfl)) tr_nil))))
      (tss_cons (ts_for PassesOwn.never rfl (ti_seq (te_var (i := 3) rfl (by first | exact .inl rfl | exact .inr (.inl rfl) | exact .inr (.inr rfl)))) (tg_name (i := 7) sc__law_tied.nd rfl (by first | exact .inl rfl | exact .inr rfl)) (tss_one (ts_set (i := 6) sc__law_tied.nd rfl (by first | exact .inl rfl | exact .inr rfl) (te_op ot_add (te_var (i := 6) rfl (by first | exact .inl rfl | exact .inr (.inl rfl) | exact .inr (.inr rfl))) (te_new (tn_lc (own := [("high", 8)]) rfl sc__law_tied.nd (ti_seq (te_var (i := 5) rfl (by first | exact .inl rfl | exact .inr (.inl rfl) | exact .inr (.inr rfl)))) (blkOk_by (by kernel_rfl)) (by decide) (fun l _ _ _ _ _ => (tg_name (i := 8) sc__law_tied.nd rfl (by first | exact .inl rfl | exact .inr rfl))) (fun l _ _ _ _ _ => (tts_one (tt_cmp (ot_notIn hr.room) (te_tup (ta_cons (te_var (i := 7) rfl (by first | exact .inl rfl | exact .inr (.inl rfl) | exact .inr (.inr rfl))) (ta_cons (te_var (i := 8) rfl (by first | exact .inl rfl | exact .inr (.inl rfl) | exact .inr (.inr rfl))) ta_nil))) (te_var (i := 6) rfl (by first | exact .inl rfl | exact .inr (.inl rfl) | exact .inr (.inr rfl))) rfl))) (fun l _ _ _ _ _ => (te_tup (ta_cons (te_var (i := 7) rfl (by first | exact .inl rfl | exact .inr (.inl rfl) | exact .inr (.inr rfl))) (ta_cons (te_var (i := 8) rfl (by first | exact .inl rfl | exact .inr (.inl rfl) | exact .inr (.inr rfl))) ta_nil))))))))))
      (tss_one (ts_ret (te_tup (ta_cons te_str (ta_cons (te_ix hr.room (te_var (i := 0) rfl (by first | exact .inl rfl | exact .inr (.inl rfl) | exact .inr (.inr rfl))) te_int (fun _ _ => rfl)) (ta_cons (te_ct ct_tuple (by rfl) z_tuple bt_tuple (tr_cons (te_new (tn_cb (cn_sorted hr) (by rfl) z_sorted bt_sorted (tr_cons (te_var (i := 6) rfl (by first | exact .inl rfl | exact .inr (.inl rfl) | exact .inr (.inr rfl))) tr_nil))) tr_nil)) ta_nil))))))))))) read__law_tied
theorem ok__law_all_lines {P : Program} {w : World} {K : PySem.W.Frag} {mg : Str → Option Value} {base : Heap} (W : Wd) {f : Addr} {fd : FuncData} (F : FD K "_law_all_lines" s__law_all_lines [] f fd) (z_range : mg "range" = none) (z_len : mg "len" = none) (z_sorted : mg "sorted" = none) :
    FnG P w K mg base CX0 1 f fd ["order"] (liftSp ⟨P, w, K⟩ W sp__law_all_lines) := by
  exact okD (t := t__law_all_lines) F sc__law_all_lines (by decide) ar1 (fun cdv A outer s H F0 E hr hz =>
      (tss_cons (ts_set (i := 1) sc__law_all_lines.nd rfl (by first | exact .inl rfl | exact .inr rfl) (te_lst (ta_cons (te_tup ta_nil) ta_nil)))
      (tss_cons (ts_for PassesOwn.never rfl (ti_range1 (by rfl) z_range (ta_cons (te_ix hr.room (te_var (i := 0) rfl (by first | exact .inl rfl | exact .inr (.inl rfl) | exact .inr (.inr rfl))) te_int (fun _ _ => rfl)) ta_nil)) (tg_name (i := 2) sc__law_all_lines.nd rfl (by first | exact .inl rfl | exact .inr rfl)) (tss_cons (ts_setN (i := 3) sc__law_all_lines.nd rfl (by first | exact .inl rfl | exact .inr rfl) (tn_lst ta_nil))
      (tss_cons (ts_for PassesOwn.never rfl (ti_seq (te_var (i := 1) rfl (by first | exact .inl rfl | exact .inr (.inl rfl) | exact .inr (.inr rfl)))) (tg_name (i := 4) sc__law_all_lines.nd rfl (by first | exact .inl rfl | exact .inr rfl)) (tss_one (ts_for PassesOwn.never rfl (ti_range1 (by rfl) z_range (ta_cons (te_op ot_add (te_cb ct_len (by rfl) z_len bt_len (tr_cons (te_var (i := 4) rfl (by first | exact .inl rfl | exact .inr (.inl rfl) | exact .inr (.inr rfl))) tr_nil)) te_int) ta_nil)) (tg_name (i := 5) sc__law_all_lines.nd rfl (by first | exact .inl rfl | exact .inr rfl)) (tss_one (ts_if (tt_cmp (ot_eqA hr) (te_new (tn_lc (own := [("one", 6)]) rfl sc__law_all_lines.nd (ti_seq (te_slice (te_var (i := 4) rfl (by first | exact .inl rfl | exact .inr (.inl rfl) | exact .inr (.inr rfl))) (to_some (te_var (i := 5) rfl (by first | exact .inl rfl | exact .inr (.inl rfl) | exact .inr (.inr rfl)))) to_none)) (blkOk_by (by kernel_rfl)) (by decide) (fun l _ _ _ _ _ => (tg_name (i := 6) sc__law_all_lines.nd rfl (by first | exact .inl rfl | exact .inr rfl))) (fun l _ _ _ _ _ => (tts_one (tt_cmp (ot_in hr.room) (te_tup (ta_cons (te_var (i := 6) rfl (by first | exact .inl rfl | exact .inr (.inl rfl) | exact .inr (.inr rfl))) (ta_cons (te_var (i := 2) rfl (by first | exact .inl rfl | exact .inr (.inl rfl) | exact .inr (.inr rfl))) ta_nil))) (te_ix hr.room (te_var (i := 0) rfl (by first | exact .inl rfl | exact .inr (.inl rfl) | exact .inr (.inr rfl))) te_int (fun _ _ => rfl)) rfl))) (fun l _ _ _ _ _ => (te_var (i := 6) rfl (by first | exact .inl rfl | exact .inr (.inl rfl) | exact .inr (.inr rfl)))))) (te_lst ta_nil) (nomark _)) (tss_one (ts_expr (te_append (i := 3) rfl (by first | exact .inl rfl | exact .inr (.inl rfl) | exact .inr (.inr rfl)) (ta_cons (te_op ot_add (te_op ot_add (te_slice (te_var (i := 4) rfl (by first | exact .inl rfl | exact .inr (.inl rfl) | exact .inr (.inr rfl))) to_none (to_some (te_var (i := 5) rfl (by first | exact .inl rfl | exact .inr (.inl rfl) | exact .inr (.inr rfl))))) (te_tup (ta_cons (te_var (i := 2) rfl (by first | exact .inl rfl | exact .inr (.inl rfl) | exact .inr (.inr rfl))) ta_nil))) (te_slice (te_var (i := 4) rfl (by first | exact .inl rfl | exact .inr (.inl rfl) | exact .inr (.inr rfl))) (to_some (te_var (i := 5) rfl (by first | exact .inl rfl | exact .inr (.inl rfl) | exact .inr (.inr rfl)))) to_none)) ta_nil)))) tss_nil)))))
      (tss_one (ts_set (i := 1) sc__law_all_lines.nd rfl (by first | exact .inl rfl | exact .inr rfl) (te_var (i := 3) rfl (by first | exact .inl rfl | exact .inr (.inl rfl) | exact .inr (.inr rfl))))))))
      (tss_one (ts_ret (te_new (tn_cb (cn_sorted hr) (by rfl) z_sorted bt_sorted (tr_cons (te_var (i := 1) rfl (by first | exact .inl rfl | exact .inr (.inl rfl) | exact .inr (.inr rfl))) tr_nil)))))))) read__law_all_lines
theorem ok_is_below {P : Program} {w : World} {K : PySem.W.Frag} {mg : Str → Option Value} {base : Heap} (W : Wd) {f : Addr} {fd : FuncData} (F : FD K "is_below" s_is_below [] f fd) {f_is_whole : Addr} {fd_is_whole : FuncData} (F_is_whole : FD K "is_whole" s_is_whole [] f_is_whole fd_is_whole) (C_is_whole : Cal P w K mg base W 1 "is_whole" f_is_whole fd_is_whole ["thing"] sp_is_whole) :
    FnG P w K mg base CX0 2 f fd ["thing", "many"] (liftSp ⟨P, w, K⟩ W sp_is_below) := by
  exact okD (t := t_is_below) F sc_is_below (by decide) ar2 (fun cdv A outer s H F0 E hr hz =>
      (tss_one (ts_ret (te_and (te_call (dts := []) (C_is_whole.at (by first | decide | omega)) hr (by rfl) C_is_whole.m C_is_whole.kp (b_is_whole F_is_whole) .nil pass0 (fun _ => .nil) rfl (ta_cons (te_var (i := 0) rfl (by first | exact .inl rfl | exact .inr (.inl rfl) | exact .inr (.inr rfl))) ta_nil)) (te_one (te_chain ot_le (ot_ltA hr) te_int (te_var (i := 0) rfl (by first | exact .inl rfl | exact .inr (.inl rfl) | exact .inr (.inr rfl))) (te_var (i := 1) rfl (by first | exact .inl rfl | exact .inr (.inl rfl) | exact .inr (.inr rfl))))))))) read_is_below
theorem ok_pairs_in {P : Program} {w : World} {K : PySem.W.Frag} {mg : Str → Option Value} {base : Heap} (W : Wd) {f : Addr} {fd : FuncData} (F : FD K "pairs_in" s_pairs_in [] f fd) {f_pairs_of : Addr} {fd_pairs_of : FuncData} (F_pairs_of : FD K "pairs_of" s_pairs_of [] f_pairs_of fd_pairs_of) (C_pairs_of : Cal P w K mg base W 1 "pairs_of" f_pairs_of fd_pairs_of ["places"] sp_pairs_of) :
    FnG P w K mg base CX0 2 f fd ["line"] (liftSp ⟨P, w, K⟩ W sp_pairs_in) := by
  exact okD (t := t_pairs_in) F sc_pairs_in (by decide) ar1 (fun cdv A outer s H F0 E hr hz =>
      (tss_one (ts_ret (te_new (tn_dc hr.room (own := [("pair", 1)]) rfl sc_pairs_in.nd (ti_seq (te_call (dts := []) (C_pairs_of.at (by first | decide | omega)) hr (by rfl) C_pairs_of.m C_pairs_of.kp (b_pairs_of F_pairs_of) .nil pass0 (fun _ => .nil) rfl (ta_cons (te_var (i := 0) rfl (by first | exact .inl rfl | exact .inr (.inl rfl) | exact .inr (.inr rfl))) ta_nil))) (blkOk_by (by kernel_rfl)) (by decide) (fun l _ _ _ _ _ => (tg_name (i := 1) sc_pairs_in.nd rfl (by first | exact .inl rfl | exact .inr rfl))) (fun l _ _ _ _ _ => tts_nil) (fun l _ _ _ _ _ => (te_var (i := 1) rfl (by first | exact .inl rfl | exact .inr (.inl rfl) | exact .inr (.inr rfl)))) (fun l _ _ _ _ _ => te_bl)))))) read_pairs_in
theorem ok_is_count {P : Program} {w : World} {K : PySem.W.Frag} {mg : Str → Option Value} {base : Heap} (W : Wd) {f : Addr} {fd : FuncData} (F : FD K "is_count" s_is_count [] f fd) {f_is_below : Addr} {fd_is_below : FuncData} (F_is_below : FD K "is_below" s_is_below [] f_is_below fd_is_below) (C_is_below : Cal P w K mg base W 2 "is_below" f_is_below fd_is_below ["thing", "many"] sp_is_below) (m_MOST_PLACES_orders1 : ∃ t, mg "MOST_PLACES_orders1" = some (.int 6 t)) :
    FnG P w K mg base CX0 3 f fd ["thing"] (liftSp ⟨P, w, K⟩ W sp_is_count) := by
  obtain ⟨_, mc_MOST_PLACES_orders1⟩ := m_MOST_PLACES_orders1
  exact okD (t := t_is_count) F sc_is_count (by decide) ar1 (fun cdv A outer s H F0 E hr hz =>
      (tss_one (ts_ret (te_and (te_call (dts := []) (C_is_below.at (by first | decide | omega)) hr (by rfl) C_is_below.m C_is_below.kp (b_is_below F_is_below) .nil pass0 (fun _ => .nil) rfl (ta_cons (te_var (i := 0) rfl (by first | exact .inl rfl | exact .inr (.inl rfl) | exact .inr (.inr rfl))) (ta_cons (te_op ot_add (te_gint (by rfl) mc_MOST_PLACES_orders1) te_int) ta_nil))) (te_one (te_cmp ot_gt (te_var (i := 0) rfl (by first | exact .inl rfl | exact .inr (.inl rfl) | exact .inr (.inr rfl))) te_int (nomark _))))))) read_is_count
theorem ok_are_ties {P : Program} {w : World} {K : PySem.W.Frag} {mg : Str → Option Value} {base : Heap} (W : Wd) {f : Addr} {fd : FuncData} (F : FD K "are_ties" s_are_ties [(V.int 15)] f fd) {f_are_pairs : Addr} {fd_are_pairs : FuncData} (F_are_pairs : FD K "are_pairs" s_are_pairs [] f_are_pairs fd_are_pairs) (C_are_pairs : Cal P w K mg base W 1 "are_pairs" f_are_pairs fd_are_pairs ["thing", "most"] sp_are_pairs) {f_is_below : Addr} {fd_is_below : FuncData} (F_is_below : FD K "is_below" s_is_below [] f_is_below fd_is_below) (C_is_below : Cal P w K mg base W 2 "is_below" f_is_below fd_is_below ["thing", "many"] sp_is_below) {f_are_rising : Addr} {fd_are_rising : FuncData} (F_are_rising : FD K "are_rising" s_are_rising [] f_are_rising fd_are_rising) (C_are_rising : Cal P w K mg base W 1 "are_rising" f_are_rising fd_are_rising ["things"] sp_are_rising) (z_all : mg "all" = none) :
    FnG P w K mg base CX0 3 f fd ["many", "thing", "most"] (liftSp ⟨P, w, K⟩ W sp_are_ties) := by
  exact okD (t := t_are_ties) F sc_are_ties (by decide) ar3 (fun cdv A outer s H F0 E hr hz =>
      (tss_cons (ts_if (tt_not (tt_val (te_call (dts := []) (C_are_pairs.at (by first | decide | omega)) hr (by rfl) C_are_pairs.m C_are_pairs.kp (b_are_pairs F_are_pairs) .nil pass0 (fun _ => .nil) rfl (ta_cons (te_var (i := 1) rfl (by first | exact .inl rfl | exact .inr (.inl rfl) | exact .inr (.inr rfl))) (ta_cons (te_var (i := 2) rfl (by first | exact .inl rfl | exact .inr (.inl rfl) | exact .inr (.inr rfl))) ta_nil))))) (tss_one (ts_ret te_bl)) tss_nil)
      (tss_cons (ts_if (tt_not (tt_val (te_cb (ct_all rfl) (by rfl) z_all bt_all (tr_cons (te_new (tn_lc (own := [("one", 3), ("other", 4)]) rfl sc_are_ties.nd (ti_seq (te_var (i := 1) rfl (by first | exact .inl rfl | exact .inr (.inl rfl) | exact .inr (.inr rfl)))) (blkOk_by (by kernel_rfl)) (by decide) (fun l _ _ _ _ _ => (tg_tup (n := 2) rfl (tgs_cons (tg_name (i := 3) sc_are_ties.nd rfl (by first | exact .inl rfl | exact .inr rfl)) (tgs_cons (tg_name (i := 4) sc_are_ties.nd rfl (by first | exact .inl rfl | exact .inr rfl)) tgs_nil)))) (fun l _ _ _ _ _ => tts_nil) (fun l _ _ _ _ _ => (te_and (te_call (dts := []) (C_is_below.at (by first | decide | omega)) hr (by rfl) C_is_below.m C_is_below.kp (b_is_below F_is_below) .nil pass0 (fun _ => .nil) rfl (ta_cons (te_var (i := 3) rfl (by first | exact .inl rfl | exact .inr (.inl rfl) | exact .inr (.inr rfl))) (ta_cons (te_var (i := 0) rfl (by first | exact .inl rfl | exact .inr (.inl rfl) | exact .inr (.inr rfl))) ta_nil))) (te_and (te_call (dts := []) (C_is_below.at (by first | decide | omega)) hr (by rfl) C_is_below.m C_is_below.kp (b_is_below F_is_below) .nil pass0 (fun _ => .nil) rfl (ta_cons (te_var (i := 4) rfl (by first | exact .inl rfl | exact .inr (.inl rfl) | exact .inr (.inr rfl))) (ta_cons (te_var (i := 0) rfl (by first | exact .inl rfl | exact .inr (.inl rfl) | exact .inr (.inr rfl))) ta_nil))) (te_one (te_cmp (ot_ltA hr) (te_var (i := 3) rfl (by first | exact .inl rfl | exact .inr (.inl rfl) | exact .inr (.inr rfl))) (te_var (i := 4) rfl (by first | exact .inl rfl | exact .inr (.inl rfl) | exact .inr (.inr rfl))) (nomark _)))))))) tr_nil)))) (tss_one (ts_ret te_bl)) tss_nil)
      (tss_one (ts_ret (te_call (dts := []) (C_are_rising.at (by first | decide | omega)) hr (by rfl) C_are_rising.m C_are_rising.kp (b_are_rising F_are_rising) .nil pass0 (fun _ => .nil) rfl (ta_cons (te_var (i := 1) rfl (by first | exact .inl rfl | exact .inr (.inl rfl) | exact .inr (.inr rfl))) ta_nil))))))) read_are_ties
theorem ok_is_line {P : Program} {w : World} {K : PySem.W.Frag} {mg : Str → Option Value} {base : Heap} (W : Wd) {f : Addr} {fd : FuncData} (F : FD K "is_line" s_is_line [] f fd) {f_is_below : Addr} {fd_is_below : FuncData} (F_is_below : FD K "is_below" s_is_below [] f_is_below fd_is_below) (C_is_below : Cal P w K mg base W 2 "is_below" f_is_below fd_is_below ["thing", "many"] sp_is_below) (z_all : mg "all" = none) (z_len : mg "len" = none) (z_tuple : mg "tuple" = none) (z_isinstance : mg "isinstance" = none) (z_sorted : mg "sorted" = none) (z_range : mg "range" = none) (z_list : mg "list" = none) :
    FnG P w K mg base CX0 3 f fd ["many", "thing"] (liftSp ⟨P, w, K⟩ W sp_is_line) := by
  exact okD (t := t_is_line) F sc_is_line (by decide) ar2 (fun cdv A outer s H F0 E hr hz =>
      (tss_cons (ts_if (tw_or (tt_not (tt_val (te_cb ct_isi (by rfl) z_isinstance bt_isinstance (tr_cons (te_var (i := 1) rfl (by first | exact .inl rfl | exact .inr (.inl rfl) | exact .inr (.inr rfl))) (tr_cons (te_bty (by rfl) z_tuple bt_tuple) tr_nil))))) (tw_or (tt_cmp (ot_neA hr) (te_cb ct_len (by rfl) z_len bt_len (tr_cons (te_var (i := 1) rfl (by first | exact .inl rfl | exact .inr (.inl rfl) | exact .inr (.inr rfl))) tr_nil)) (te_var (i := 0) rfl (by first | exact .inl rfl | exact .inr (.inl rfl) | exact .inr (.inr rfl))) (nomark _)) (tw_or1 (tt_not (tt_val (te_cb (ct_all rfl) (by rfl) z_all bt_all (tr_cons (te_new (tn_lc (own := [("one", 2)]) rfl sc_is_line.nd (ti_seq (te_var (i := 1) rfl (by first | exact .inl rfl | exact .inr (.inl rfl) | exact .inr (.inr rfl)))) (blkOk_by (by kernel_rfl)) (by decide) (fun l _ _ _ _ _ => (tg_name (i := 2) sc_is_line.nd rfl (by first | exact .inl rfl | exact .inr rfl))) (fun l _ _ _ _ _ => tts_nil) (fun l _ _ _ _ _ => (te_call (dts := []) (C_is_below.at (by first | decide | omega)) hr (by rfl) C_is_below.m C_is_below.kp (b_is_below F_is_below) .nil pass0 (fun _ => .nil) rfl (ta_cons (te_var (i := 2) rfl (by first | exact .inl rfl | exact .inr (.inl rfl) | exact .inr (.inr rfl))) (ta_cons (te_var (i := 0) rfl (by first | exact .inl rfl | exact .inr (.inl rfl) | exact .inr (.inr rfl))) ta_nil)))))) tr_nil))))))).pt (tss_one (ts_ret te_bl)) tss_nil)
      (tss_one (ts_ret (te_cmp (ot_eqA hr) (te_new (tn_cb (cn_sorted hr) (by rfl) z_sorted bt_sorted (tr_cons (te_var (i := 1) rfl (by first | exact .inl rfl | exact .inr (.inl rfl) | exact .inr (.inr rfl))) tr_nil))) (te_new (tn_listRg rfl (by rfl) z_list (trg_1 (by rfl) z_range (te_var (i := 0) rfl (by first | exact .inl rfl | exact .inr (.inl rfl) | exact .inr (.inr rfl)))))) (nomark _)))))) read_is_line
theorem ok_common_pairs {P : Program} {w : World} {K : PySem.W.Frag} {mg : Str → Option Value} {base : Heap} (W : Wd) {f : Addr} {fd : FuncData} (F : FD K "common_pairs" s_common_pairs [] f fd) {f_pairs_of : Addr} {fd_pairs_of : FuncData} (F_pairs_of : FD K "pairs_of" s_pairs_of [] f_pairs_of fd_pairs_of) (C_pairs_of : Cal P w K mg base W 1 "pairs_of" f_pairs_of fd_pairs_of ["places"] sp_pairs_of) {f_pairs_in : Addr} {fd_pairs_in : FuncData} (F_pairs_in : FD K "pairs_in" s_pairs_in [] f_pairs_in fd_pairs_in) (C_pairs_in : Cal P w K mg base W 2 "pairs_in" f_pairs_in fd_pairs_in ["line"] sp_pairs_in) (z_sorted : mg "sorted" = none) :
    FnG P w K mg base CX0 3 f fd ["some"] (liftSp ⟨P, w, K⟩ W sp_common_pairs) := by
  exact okD (t := t_common_pairs) F sc_common_pairs (by decide) ar1 (fun cdv A outer s H F0 E hr hz =>
      (tss_cons (ts_set (i := 1) sc_common_pairs.nd rfl (by first | exact .inl rfl | exact .inr rfl) (te_call (dts := []) (C_pairs_of.at (by first | decide | omega)) hr (by rfl) C_pairs_of.m C_pairs_of.kp (b_pairs_of F_pairs_of) .nil pass0 (fun _ => .nil) rfl (ta_cons (te_ix hr.room (te_var (i := 0) rfl (by first | exact .inl rfl | exact .inr (.inl rfl) | exact .inr (.inr rfl))) te_int (fun _ _ => rfl)) ta_nil)))
      (tss_cons (ts_for PassesOwn.never rfl (ti_seq (te_slice (te_var (i := 0) rfl (by first | exact .inl rfl | exact .inr (.inl rfl) | exact .inr (.inr rfl))) (to_some te_int) to_none)) (tg_name (i := 2) sc_common_pairs.nd rfl (by first | exact .inl rfl | exact .inr rfl)) (tss_cons (ts_set (i := 3) sc_common_pairs.nd rfl (by first | exact .inl rfl | exact .inr rfl) (te_call (dts := []) (C_pairs_in.at (by first | decide | omega)) hr (by rfl) C_pairs_in.m C_pairs_in.kp (b_pairs_in F_pairs_in) .nil pass0 (fun _ => .nil) rfl (ta_cons (te_var (i := 2) rfl (by first | exact .inl rfl | exact .inr (.inl rfl) | exact .inr (.inr rfl))) ta_nil)))
      (tss_one (ts_setLc (i := 1) (own := [("pair", 4)]) rfl sc_common_pairs.nd rfl rfl (sw_true rfl rfl rfl rfl) (ti_seq (te_var (i := 1) rfl (by first | exact .inl rfl | exact .inr (.inl rfl) | exact .inr (.inr rfl)))) (blkOk_by (by kernel_rfl)) (by decide) (fun l _ _ _ _ _ => (tg_name (i := 4) sc_common_pairs.nd rfl (by first | exact .inl rfl | exact .inr rfl))) (fun l _ _ _ _ _ => (tts_one (tt_cmp (ot_in hr.room) (te_var (i := 4) rfl (by first | exact .inl rfl | exact .inr (.inl rfl) | exact .inr (.inr rfl))) (te_var (i := 3) rfl (by first | exact .inl rfl | exact .inr (.inl rfl) | exact .inr (.inr rfl))) rfl))) (fun l _ _ _ _ _ => (te_var (i := 4) rfl (by first | exact .inl rfl | exact .inr (.inl rfl) | exact .inr (.inr rfl))))))))
      (tss_one (ts_ret (te_new (tn_cb (cn_sorted hr) (by rfl) z_sorted bt_sorted (tr_cons (te_var (i := 1) rfl (by first | exact .inl rfl | exact .inr (.inl rfl) | exact .inr (.inr rfl))) tr_nil)))))))) read_common_pairs
theorem ok__law_pick {P : Program} {w : World} {K : PySem.W.Frag} {mg : Str → Option Value} {base : Heap} (M : Fam) {f : Addr} {fd : FuncData} (F : FD K "_law_pick" s__law_pick [] f fd) {f__law_draw : Addr} {fd__law_draw : FuncData} (F__law_draw : FD K "_law_draw" s__law_draw [] f__law_draw fd__law_draw) (C__law_draw : CalS P w K mg base M 2 "_law_draw" f__law_draw fd__law_draw ["state", "room"] sp__law_draw) (z_len : mg "len" = none) :
    FnG P w K mg base CX0 3 f fd ["state", "some"] (liftS ⟨P, w, K⟩ M sp__law_pick) := by
  exact okS (t := t__law_pick M.sa) F sc__law_pick (by decide) as2 (fun cap cdv A outer s H F0 E hcap hr =>
      (tss_one (ts_ret (te_ix hr.room (te_var (i := 1) rfl (by first | exact .inl rfl | exact .inr (.inl rfl) | exact .inr (.inr rfl))) (te_callS (M := M) (i := 0) (C__law_draw.at (by first | decide | omega)) hr (by rfl) C__law_draw.m C__law_draw.kp (b__law_draw F__law_draw) pass0 rfl hcap (ta_cons (te_st rfl rfl (by first | exact .inl rfl | exact .inr (.inl rfl) | exact .inr (.inr rfl))) (ta_cons (te_cb ct_len (by rfl) z_len bt_len (tr_cons (te_var (i := 1) rfl (by first | exact .inl rfl | exact .inr (.inl rfl) | exact .inr (.inr rfl))) tr_nil)) ta_nil))) (fun _ _ => rfl))))) (read__law_pick M.sa)
theorem ok__law_shuffled {P : Program} {w : World} {K : PySem.W.Frag} {mg : Str → Option Value} {base : Heap} (M : Fam) {f : Addr} {fd : FuncData} (F : FD K "_law_shuffled" s__law_shuffled [] f fd) {f__law_draw : Addr} {fd__law_draw : FuncData} (F__law_draw : FD K "_law_draw" s__law_draw [] f__law_draw fd__law_draw) (C__law_draw : CalS P w K mg base M 2 "_law_draw" f__law_draw fd__law_draw ["state", "room"] sp__law_draw) (z_list : mg "list" = none) (z_len : mg "len" = none) :
    FnG P w K mg base CX0 3 f fd ["state", "some"] (liftS ⟨P, w, K⟩ M sp__law_shuffled) := by
  exact okS (t := t__law_shuffled M.sa) F sc__law_shuffled (by decide) as2 (fun cap cdv A outer s H F0 E hcap hr =>
      (tss_cons (ts_parL (i := 2) (j := 3) rfl sc__law_shuffled.nd rfl rfl (by decide) rfl rfl (pa_cons (tn_ct cn_list (by rfl) z_list bt_list (tr_cons (te_var (i := 1) rfl (by first | exact .inl rfl | exact .inr (.inl rfl) | exact .inr (.inr rfl))) tr_nil)) (pa_cons (pe_lst pa_nil) pa_nil)) rfl)
      (tss_cons (ts_while PassesOwn.never (tt_cmp (ot_neA hr) (te_var (i := 2) rfl (by first | exact .inl rfl | exact .inr (.inl rfl) | exact .inr (.inr rfl))) (te_lst ta_nil) (nomark _)) (tss_one (ts_expr (te_append (i := 3) rfl (by first | exact .inl rfl | exact .inr (.inl rfl) | exact .inr (.inr rfl)) (ta_cons (te_popAt (i := 2) rfl (by first | exact .inl rfl | exact .inr (.inl rfl) | exact .inr (.inr rfl)) (ta_cons (te_callS (M := M) (i := 0) (C__law_draw.at (by first | decide | omega)) hr (by rfl) C__law_draw.m C__law_draw.kp (b__law_draw F__law_draw) pass0 rfl hcap (ta_cons (te_st rfl rfl (by first | exact .inl rfl | exact .inr (.inl rfl) | exact .inr (.inr rfl))) (ta_cons (te_cb ct_len (by rfl) z_len bt_len (tr_cons (te_var (i := 2) rfl (by first | exact .inl rfl | exact .inr (.inl rfl) | exact .inr (.inr rfl))) tr_nil)) ta_nil))) ta_nil)) ta_nil)))))
      (tss_one (ts_ret (te_var (i := 3) rfl (by first | exact .inl rfl | exact .inr (.inl rfl) | exact .inr (.inr rfl)))))))) (read__law_shuffled M.sa)
theorem ok__law_some_order {P : Program} {w : World} {K : PySem.W.Frag} {mg : Str → Option Value} {base : Heap} (M : Fam) {f : Addr} {fd : FuncData} (F : FD K "_law_some_order" s__law_some_order [] f fd) {f__law_draw : Addr} {fd__law_draw : FuncData} (F__law_draw : FD K "_law_draw" s__law_draw [] f__law_draw fd__law_draw) (C__law_draw : CalS P w K mg base M 2 "_law_draw" f__law_draw fd__law_draw ["state", "room"] sp__law_draw) {f__law_tied : Addr} {fd__law_tied : FuncData} (F__law_tied : FD K "_law_tied" s__law_tied [] f__law_tied fd__law_tied) (C__law_tied : Cal P w K mg base (M.W 0) 1 "_law_tied" f__law_tied fd__law_tied ["order", "i", "j"] sp__law_tied) (z_range : mg "range" = none) :
    FnG P w K mg base CX0 3 f fd ["state", "many"] (liftS ⟨P, w, K⟩ M sp__law_some_order) := by
  exact okS (t := t__law_some_order M.sa) F sc__law_some_order (by decide) as2 (fun cap cdv A outer s H F0 E hcap hr =>
      (tss_cons (ts_set (i := 2) sc__law_some_order.nd rfl (by first | exact .inl rfl | exact .inr rfl) (te_tup (ta_cons te_str (ta_cons (te_var (i := 1) rfl (by first | exact .inl rfl | exact .inr (.inl rfl) | exact .inr (.inr rfl))) (ta_cons (te_tup ta_nil) ta_nil)))))
      (tss_cons (ts_for PassesOwn.never rfl (ti_range1 (by rfl) z_range (ta_cons (te_callS (M := M) (i := 0) (C__law_draw.at (by first | decide | omega)) hr (by rfl) C__law_draw.m C__law_draw.kp (b__law_draw F__law_draw) pass0 rfl hcap (ta_cons (te_st rfl rfl (by first | exact .inl rfl | exact .inr (.inl rfl) | exact .inr (.inr rfl))) (ta_cons (te_op ot_mul te_int (te_var (i := 1) rfl (by first | exact .inl rfl | exact .inr (.inl rfl) | exact .inr (.inr rfl)))) ta_nil))) ta_nil)) (tg_name (i := 3) sc__law_some_order.nd rfl (by first | exact .inl rfl | exact .inr rfl)) (tss_cons (ts_par (i := 4) (j := 5) rfl sc__law_some_order.nd rfl rfl (by decide) rfl rfl (ta_cons (te_callS (M := M) (i := 0) (C__law_draw.at (by first | decide | omega)) hr (by rfl) C__law_draw.m C__law_draw.kp (b__law_draw F__law_draw) pass0 rfl hcap (ta_cons (te_st rfl rfl (by first | exact .inl rfl | exact .inr (.inl rfl) | exact .inr (.inr rfl))) (ta_cons (te_var (i := 1) rfl (by first | exact .inl rfl | exact .inr (.inl rfl) | exact .inr (.inr rfl))) ta_nil))) (ta_cons (te_callS (M := M) (i := 0) (C__law_draw.at (by first | decide | omega)) hr (by rfl) C__law_draw.m C__law_draw.kp (b__law_draw F__law_draw) pass0 rfl hcap (ta_cons (te_st rfl rfl (by first | exact .inl rfl | exact .inr (.inl rfl) | exact .inr (.inr rfl))) (ta_cons (te_var (i := 1) rfl (by first | exact .inl rfl | exact .inr (.inl rfl) | exact .inr (.inr rfl))) ta_nil))) ta_nil)) rfl)
      (tss_one (ts_if (tw_and (tt_cmp (ot_ltA hr) (te_var (i := 4) rfl (by first | exact .inl rfl | exact .inr (.inl rfl) | exact .inr (.inr rfl))) (te_var (i := 5) rfl (by first | exact .inl rfl | exact .inr (.inl rfl) | exact .inr (.inr rfl))) (nomark _)) (tw_and1 (tt_cmp (ot_notIn hr.room) (te_tup (ta_cons (te_var (i := 4) rfl (by first | exact .inl rfl | exact .inr (.inl rfl) | exact .inr (.inr rfl))) (ta_cons (te_var (i := 5) rfl (by first | exact .inl rfl | exact .inr (.inl rfl) | exact .inr (.inr rfl))) ta_nil))) (te_ix hr.room (te_var (i := 2) rfl (by first | exact .inl rfl | exact .inr (.inl rfl) | exact .inr (.inr rfl))) te_int (fun _ _ => rfl)) rfl))).pt (tss_one (ts_set (i := 2) sc__law_some_order.nd rfl (by first | exact .inl rfl | exact .inr rfl) (te_call (dts := []) (C__law_tied.at (by first | decide | omega)) hr (by rfl) C__law_tied.m C__law_tied.kp (b__law_tied F__law_tied) .nil pass0 (fun _ => .nil) rfl (ta_cons (te_var (i := 2) rfl (by first | exact .inl rfl | exact .inr (.inl rfl) | exact .inr (.inr rfl))) (ta_cons (te_var (i := 4) rfl (by first | exact .inl rfl | exact .inr (.inl rfl) | exact .inr (.inr rfl))) (ta_cons (te_var (i := 5) rfl (by first | exact .inl rfl | exact .inr (.inl rfl) | exact .inr (.inr rfl))) ta_nil)))))) tss_nil))))
      (tss_one (ts_ret (te_var (i := 2) rfl (by first | exact .inl rfl | exact .inr (.inl rfl) | exact .inr (.inr rfl)))))))) (read__law_some_order M.sa)
theorem bdf_are_ties_2 {K : PySem.W.Frag} {f : Addr} {fd : FuncData} (F : FD K "are_ties" s_are_ties [(V.int 15)] f fd) : ∃ ds, Vals [(V.int 15)] ds ∧ Binds K fd ["many", "thing", "most"] ds := F.binds1 2 0 (List.cons_ne_nil _ _) rfl fun T kV doc pm an cdv ct us its h1 h2 => match us, its, h1, h2 with | [_, _], [_], _, _ => ⟨_, rfl, rfl⟩
theorem ok_is_order {P : Program} {w : World} {K : PySem.W.Frag} {mg : Str → Option Value} {base : Heap} (W : Wd) {f : Addr} {fd : FuncData} (F : FD K "is_order" s_is_order [] f fd) {f_is_closed : Addr} {fd_is_closed : FuncData} (F_is_closed : FD K "is_closed" s_is_closed [] f_is_closed fd_is_closed) (C_is_closed : Cal P w K mg base W 1 "is_closed" f_is_closed fd_is_closed ["ties"] sp_is_closed) {f_are_ties : Addr} {fd_are_ties : FuncData} (F_are_ties : FD K "are_ties" s_are_ties [(V.int 15)] f_are_ties fd_are_ties) (C_are_ties : Cal P w K mg base W 3 "are_ties" f_are_ties fd_are_ties ["many", "thing", "most"] sp_are_ties) {f_is_count : Addr} {fd_is_count : FuncData} (F_is_count : FD K "is_count" s_is_count [] f_is_count fd_is_count) (C_is_count : Cal P w K mg base W 3 "is_count" f_is_count fd_is_count ["thing"] sp_is_count) (z_str : mg "str" = none) (z_isinstance : mg "isinstance" = none) (z_len : mg "len" = none) (z_tuple : mg "tuple" = none) :
    FnG P w K mg base CX0 4 f fd ["thing"] (liftSp ⟨P, w, K⟩ W sp_is_order) := by
  obtain ⟨_, vd_are_ties_2, bd_are_ties_2⟩ := bdf_are_ties_2 F_are_ties
  exact okD (t := t_is_order) F sc_is_order (by decide) ar1 (fun cdv A outer s H F0 E hr hz =>
      (tss_cons (ts_if (tw_or (tt_not (tt_val (te_cb ct_isi (by rfl) z_isinstance bt_isinstance (tr_cons (te_var (i := 0) rfl (by first | exact .inl rfl | exact .inr (.inl rfl) | exact .inr (.inr rfl))) (tr_cons (te_bty (by rfl) z_tuple bt_tuple) tr_nil))))) (tw_or (tt_cmp (ot_neA hr) (te_cb ct_len (by rfl) z_len bt_len (tr_cons (te_var (i := 0) rfl (by first | exact .inl rfl | exact .inr (.inl rfl) | exact .inr (.inr rfl))) tr_nil)) te_int (nomark _)) (tw_or (tt_not (tt_val (te_cb ct_isi (by rfl) z_isinstance bt_isinstance (tr_cons (te_ix hr.room (te_var (i := 0) rfl (by first | exact .inl rfl | exact .inr (.inl rfl) | exact .inr (.inr rfl))) te_int (fun _ _ => rfl)) (tr_cons (te_bty (by rfl) z_str bt_str) tr_nil))))) (tw_or1 (tt_cmp (ot_neA hr) (te_ix hr.room (te_var (i := 0) rfl (by first | exact .inl rfl | exact .inr (.inl rfl) | exact .inr (.inr rfl))) te_int (fun _ _ => rfl)) te_str (nomark _)))))).pt (tss_one (ts_ret te_bl)) tss_nil)
      (tss_one (ts_ret (te_and (te_call (dts := []) (C_is_count.at (by first | decide | omega)) hr (by rfl) C_is_count.m C_is_count.kp (b_is_count F_is_count) .nil pass0 (fun _ => .nil) rfl (ta_cons (te_ix hr.room (te_var (i := 0) rfl (by first | exact .inl rfl | exact .inr (.inl rfl) | exact .inr (.inr rfl))) te_int (fun _ _ => rfl)) ta_nil)) (te_and (te_call (dts := [(T.int 15)]) (dvs := [(V.int 15)]) (C_are_ties.at (by first | decide | omega)) hr (by rfl) C_are_ties.m C_are_ties.kp bd_are_ties_2 vd_are_ties_2 pass0 (fun _ => (.cons (.int _) .nil)) rfl (ta_cons (te_ix hr.room (te_var (i := 0) rfl (by first | exact .inl rfl | exact .inr (.inl rfl) | exact .inr (.inr rfl))) te_int (fun _ _ => rfl)) (ta_cons (te_ix hr.room (te_var (i := 0) rfl (by first | exact .inl rfl | exact .inr (.inl rfl) | exact .inr (.inr rfl))) te_int (fun _ _ => rfl)) ta_nil))) (te_one (te_call (dts := []) (C_is_closed.at (by first | decide | omega)) hr (by rfl) C_is_closed.m C_is_closed.kp (b_is_closed F_is_closed) .nil pass0 (fun _ => .nil) rfl (ta_cons (te_ix hr.room (te_var (i := 0) rfl (by first | exact .inl rfl | exact .inr (.inl rfl) | exact .inr (.inr rfl))) te_int (fun _ _ => rfl)) ta_nil))))))))) read_is_order
theorem ok_common_ties {P : Program} {w : World} {K : PySem.W.Frag} {mg : Str → Option Value} {base : Heap} (W : Wd) {f : Addr} {fd : FuncData} (F : FD K "common_ties" s_common_ties [] f fd) {f_is_whole : Addr} {fd_is_whole : FuncData} (F_is_whole : FD K "is_whole" s_is_whole [] f_is_whole fd_is_whole) (C_is_whole : Cal P w K mg base W 1 "is_whole" f_is_whole fd_is_whole ["thing"] sp_is_whole) {f_is_line : Addr} {fd_is_line : FuncData} (F_is_line : FD K "is_line" s_is_line [] f_is_line fd_is_line) (C_is_line : Cal P w K mg base W 3 "is_line" f_is_line fd_is_line ["many", "thing"] sp_is_line) {f_common_pairs : Addr} {fd_common_pairs : FuncData} (F_common_pairs : FD K "common_pairs" s_common_pairs [] f_common_pairs fd_common_pairs) (C_common_pairs : Cal P w K mg base W 3 "common_pairs" f_common_pairs fd_common_pairs ["some"] sp_common_pairs) (z_len : mg "len" = none) (z_list : mg "list" = none) (z_tuple : mg "tuple" = none) (z_isinstance : mg "isinstance" = none) (z_all : mg "all" = none) (m_MOST_PLACES_lines5 : ∃ t, mg "MOST_PLACES_lines5" = some (.int 6 t)) (m_MOST_LINES : ∃ t, mg "MOST_LINES" = some (.int 720 t)) :
    FnG P w K mg base CX0 4 f fd ["many", "some"] (liftSp ⟨P, w, K⟩ W sp_common_ties) := by
  obtain ⟨_, mc_MOST_PLACES_lines5⟩ := m_MOST_PLACES_lines5
  obtain ⟨_, mc_MOST_LINES⟩ := m_MOST_LINES
  exact okD (t := t_common_ties) F sc_common_ties (by decide) ar2 (fun cdv A outer s H F0 E hr hz =>
      (tss_cons (ts_if (tw_or (tt_not (tt_val (te_call (dts := []) (C_is_whole.at (by first | decide | omega)) hr (by rfl) C_is_whole.m C_is_whole.kp (b_is_whole F_is_whole) .nil pass0 (fun _ => .nil) rfl (ta_cons (te_var (i := 0) rfl (by first | exact .inl rfl | exact .inr (.inl rfl) | exact .inr (.inr rfl))) ta_nil)))) (tw_or1 (tt_not (tt_chain ot_le ot_le te_int (te_var (i := 0) rfl (by first | exact .inl rfl | exact .inr (.inl rfl) | exact .inr (.inr rfl))) (te_gint (by rfl) mc_MOST_PLACES_lines5))))).pt (tss_one ts_never) tss_nil)
      (tss_cons (ts_if (tw_or (tt_not (tt_val (te_cb ct_isi (by rfl) z_isinstance bt_isinstance (tr_cons (te_var (i := 1) rfl (by first | exact .inl rfl | exact .inr (.inl rfl) | exact .inr (.inr rfl))) (tr_cons (te_tup (ta_cons (te_bty (by rfl) z_tuple bt_tuple) (ta_cons (te_bty (by rfl) z_list bt_list) ta_nil))) tr_nil))))) (tw_or1 (tt_not (tt_chain ot_le ot_le te_int (te_cb ct_len (by rfl) z_len bt_len (tr_cons (te_var (i := 1) rfl (by first | exact .inl rfl | exact .inr (.inl rfl) | exact .inr (.inr rfl))) tr_nil)) (te_gint (by rfl) mc_MOST_LINES))))).pt (tss_one ts_never) tss_nil)
      (tss_cons (ts_if (tt_not (tt_val (te_cb (ct_all rfl) (by rfl) z_all bt_all (tr_cons (te_new (tn_lc (own := [("one", 2)]) rfl sc_common_ties.nd (ti_seq (te_var (i := 1) rfl (by first | exact .inl rfl | exact .inr (.inl rfl) | exact .inr (.inr rfl)))) (blkOk_by (by kernel_rfl)) (by decide) (fun l _ _ _ _ _ => (tg_name (i := 2) sc_common_ties.nd rfl (by first | exact .inl rfl | exact .inr rfl))) (fun l _ _ _ _ _ => tts_nil) (fun l _ _ _ _ _ => (te_call (dts := []) (C_is_line.at (by first | decide | omega)) hr (by rfl) C_is_line.m C_is_line.kp (b_is_line F_is_line) .nil pass0 (fun _ => .nil) rfl (ta_cons (te_var (i := 0) rfl (by first | exact .inl rfl | exact .inr (.inl rfl) | exact .inr (.inr rfl))) (ta_cons (te_var (i := 2) rfl (by first | exact .inl rfl | exact .inr (.inl rfl) | exact .inr (.inr rfl))) ta_nil)))))) tr_nil)))) (tss_one ts_never) tss_nil)
      (tss_one (ts_ret (te_ct ct_tuple (by rfl) z_tuple bt_tuple (tr_cons (te_call (dts := []) (C_common_pairs.at (by first | decide | omega)) hr (by rfl) C_common_pairs.m C_common_pairs.kp (b_common_pairs F_common_pairs) .nil pass0 (fun _ => .nil) rfl (ta_cons (te_var (i := 1) rfl (by first | exact .inl rfl | exact .inr (.inl rfl) | exact .inr (.inr rfl))) ta_nil)) tr_nil)))))))) read_common_ties
theorem ok__law_any_order {P : Program} {w : World} {K : PySem.W.Frag} {mg : Str → Option Value} {base : Heap} (M : Fam) {f : Addr} {fd : FuncData} (F : FD K "_law_any_order" s__law_any_order [] f fd) {f__law_some_order : Addr} {fd__law_some_order : FuncData} (F__law_some_order : FD K "_law_some_order" s__law_some_order [] f__law_some_order fd__law_some_order) (C__law_some_order : CalS P w K mg base M 3 "_law_some_order" f__law_some_order fd__law_some_order ["state", "many"] sp__law_some_order) {f__law_draw : Addr} {fd__law_draw : FuncData} (F__law_draw : FD K "_law_draw" s__law_draw [] f__law_draw fd__law_draw) (C__law_draw : CalS P w K mg base M 2 "_law_draw" f__law_draw fd__law_draw ["state", "room"] sp__law_draw) :
    FnG P w K mg base CX0 4 f fd ["state"] (liftS ⟨P, w, K⟩ M sp__law_any_order) := by
  exact okS (t := t__law_any_order M.sa) F sc__law_any_order (by decide) as1 (fun cap cdv A outer s H F0 E hcap hr =>
      (tss_one (ts_ret (te_callS (M := M) (i := 0) (C__law_some_order.at (by first | decide | omega)) hr (by rfl) C__law_some_order.m C__law_some_order.kp (b__law_some_order F__law_some_order) pass0 rfl hcap (ta_cons (te_st rfl rfl (by first | exact .inl rfl | exact .inr (.inl rfl) | exact .inr (.inr rfl))) (ta_cons (te_op ot_add te_int (te_callS (M := M) (i := 0) (C__law_draw.at (by first | decide | omega)) hr (by rfl) C__law_draw.m C__law_draw.kp (b__law_draw F__law_draw) pass0 rfl hcap (ta_cons (te_st rfl rfl (by first | exact .inl rfl | exact .inr (.inl rfl) | exact .inr (.inr rfl))) (ta_cons te_int ta_nil)))) ta_nil)))))) (read__law_any_order M.sa)
theorem ok_need_order {P : Program} {w : World} {K : PySem.W.Frag} {mg : Str → Option Value} {base : Heap} (W : Wd) {f : Addr} {fd : FuncData} (F : FD K "need_order" s_need_order [] f fd) {f_is_order : Addr} {fd_is_order : FuncData} (F_is_order : FD K "is_order" s_is_order [] f_is_order fd_is_order) (C_is_order : Cal P w K mg base W 4 "is_order" f_is_order fd_is_order ["thing"] sp_is_order) :
    FnG P w K mg base CX0 5 f fd ["order"] (liftSp ⟨P, w, K⟩ W sp_need_order) := by
  exact okD (t := t_need_order) F sc_need_order (by decide) ar1 (fun cdv A outer s H F0 E hr hz =>
      (tss_one (ts_if (tt_not (tt_val (te_call (dts := []) (C_is_order.at (by first | decide | omega)) hr (by rfl) C_is_order.m C_is_order.kp (b_is_order F_is_order) .nil pass0 (fun _ => .nil) rfl (ta_cons (te_var (i := 0) rfl (by first | exact .inl rfl | exact .inr (.inl rfl) | exact .inr (.inr rfl))) ta_nil)))) (tss_one ts_never) tss_nil))) read_need_order
theorem ok_lines {P : Program} {w : World} {K : PySem.W.Frag} {mg : Str → Option Value} {base : Heap} (W : Wd) {f : Addr} {fd : FuncData} (F : FD K "lines" s_lines [] f fd) {f_need_order : Addr} {fd_need_order : FuncData} (F_need_order : FD K "need_order" s_need_order [] f_need_order fd_need_order) (C_need_order : Cal P w K mg base W 5 "need_order" f_need_order fd_need_order ["order"] sp_need_order) {f_all_lines : Addr} {fd_all_lines : FuncData} (F_all_lines : FD K "all_lines" s_all_lines [] f_all_lines fd_all_lines) (C_all_lines : Cal P w K mg base W 1 "all_lines" f_all_lines fd_all_lines ["order"] sp_all_lines) (z_tuple : mg "tuple" = none) :
    FnG P w K mg base CX0 6 f fd ["order"] (liftSp ⟨P, w, K⟩ W sp_lines) := by
  exact okD (t := t_lines) F sc_lines (by decide) ar1 (fun cdv A outer s H F0 E hr hz =>
      (tss_cons (ts_expr (te_call (dts := []) (C_need_order.at (by first | decide | omega)) hr (by rfl) C_need_order.m C_need_order.kp (b_need_order F_need_order) .nil pass0 (fun _ => .nil) rfl (ta_cons (te_var (i := 0) rfl (by first | exact .inl rfl | exact .inr (.inl rfl) | exact .inr (.inr rfl))) ta_nil)))
      (tss_one (ts_ret (te_ct ct_tuple (by rfl) z_tuple bt_tuple (tr_cons (te_call (dts := []) (C_all_lines.at (by first | decide | omega)) hr (by rfl) C_all_lines.m C_all_lines.kp (b_all_lines F_all_lines) .nil pass0 (fun _ => .nil) rfl (ta_cons (te_var (i := 0) rfl (by first | exact .inl rfl | exact .inr (.inl rfl) | exact .inr (.inr rfl))) ta_nil)) tr_nil)))))) read_lines
theorem ok_count_lines {P : Program} {w : World} {K : PySem.W.Frag} {mg : Str → Option Value} {base : Heap} (W : Wd) {f : Addr} {fd : FuncData} (F : FD K "count_lines" s_count_lines [] f fd) {f_need_order : Addr} {fd_need_order : FuncData} (F_need_order : FD K "need_order" s_need_order [] f_need_order fd_need_order) (C_need_order : Cal P w K mg base W 5 "need_order" f_need_order fd_need_order ["order"] sp_need_order) {f_counts_by : Addr} {fd_counts_by : FuncData} (F_counts_by : FD K "counts_by" s_counts_by [] f_counts_by fd_counts_by) (C_counts_by : Cal P w K mg base W 1 "counts_by" f_counts_by fd_counts_by ["order"] sp_counts_by) (z_range : mg "range" = none) (z_tuple : mg "tuple" = none) :
    FnG P w K mg base CX0 6 f fd ["order"] (liftSp ⟨P, w, K⟩ W sp_count_lines) := by
  exact okD (t := t_count_lines) F sc_count_lines (by decide) ar1 (fun cdv A outer s H F0 E hr hz =>
      (tss_cons (ts_expr (te_call (dts := []) (C_need_order.at (by first | decide | omega)) hr (by rfl) C_need_order.m C_need_order.kp (b_need_order F_need_order) .nil pass0 (fun _ => .nil) rfl (ta_cons (te_var (i := 0) rfl (by first | exact .inl rfl | exact .inr (.inl rfl) | exact .inr (.inr rfl))) ta_nil)))
      (tss_one (ts_ret (te_ix hr.room (te_call (dts := []) (C_counts_by.at (by first | decide | omega)) hr (by rfl) C_counts_by.m C_counts_by.kp (b_counts_by F_counts_by) .nil pass0 (fun _ => .nil) rfl (ta_cons (te_var (i := 0) rfl (by first | exact .inl rfl | exact .inr (.inl rfl) | exact .inr (.inr rfl))) ta_nil)) (te_tupRg rfl (by rfl) z_tuple (trg_1 (by rfl) z_range (te_ix hr.room (te_var (i := 0) rfl (by first | exact .inl rfl | exact .inr (.inl rfl) | exact .inr (.inr rfl))) te_int (fun _ _ => rfl)))) (fun _ _ => rfl)))))) read_count_lines
theorem ok_ahead_many {P : Program} {w : World} {K : PySem.W.Frag} {mg : Str → Option Value} {base : Heap} (W : Wd) {f : Addr} {fd : FuncData} (F : FD K "ahead_many" s_ahead_many [] f fd) {f_need_order : Addr} {fd_need_order : FuncData} (F_need_order : FD K "need_order" s_need_order [] f_need_order fd_need_order) (C_need_order : Cal P w K mg base W 5 "need_order" f_need_order fd_need_order ["order"] sp_need_order) {f_is_below : Addr} {fd_is_below : FuncData} (F_is_below : FD K "is_below" s_is_below [] f_is_below fd_is_below) (C_is_below : Cal P w K mg base W 2 "is_below" f_is_below fd_is_below ["thing", "many"] sp_is_below) {f_ahead_by : Addr} {fd_ahead_by : FuncData} (F_ahead_by : FD K "ahead_by" s_ahead_by [] f_ahead_by fd_ahead_by) (C_ahead_by : Cal P w K mg base W 1 "ahead_by" f_ahead_by fd_ahead_by ["some", "one", "other"] sp_ahead_by) {f_all_lines : Addr} {fd_all_lines : FuncData} (F_all_lines : FD K "all_lines" s_all_lines [] f_all_lines fd_all_lines) (C_all_lines : Cal P w K mg base W 1 "all_lines" f_all_lines fd_all_lines ["order"] sp_all_lines) :
    FnG P w K mg base CX0 6 f fd ["order", "one", "other"] (liftSp ⟨P, w, K⟩ W sp_ahead_many) := by
  exact okD (t := t_ahead_many) F sc_ahead_many (by decide) ar3 (fun cdv A outer s H F0 E hr hz =>
      (tss_cons (ts_expr (te_call (dts := []) (C_need_order.at (by first | decide | omega)) hr (by rfl) C_need_order.m C_need_order.kp (b_need_order F_need_order) .nil pass0 (fun _ => .nil) rfl (ta_cons (te_var (i := 0) rfl (by first | exact .inl rfl | exact .inr (.inl rfl) | exact .inr (.inr rfl))) ta_nil)))
      (tss_cons (ts_if (tw_or (tt_not (tt_val (te_call (dts := []) (C_is_below.at (by first | decide | omega)) hr (by rfl) C_is_below.m C_is_below.kp (b_is_below F_is_below) .nil pass0 (fun _ => .nil) rfl (ta_cons (te_var (i := 1) rfl (by first | exact .inl rfl | exact .inr (.inl rfl) | exact .inr (.inr rfl))) (ta_cons (te_ix hr.room (te_var (i := 0) rfl (by first | exact .inl rfl | exact .inr (.inl rfl) | exact .inr (.inr rfl))) te_int (fun _ _ => rfl)) ta_nil))))) (tw_or (tt_not (tt_val (te_call (dts := []) (C_is_below.at (by first | decide | omega)) hr (by rfl) C_is_below.m C_is_below.kp (b_is_below F_is_below) .nil pass0 (fun _ => .nil) rfl (ta_cons (te_var (i := 2) rfl (by first | exact .inl rfl | exact .inr (.inl rfl) | exact .inr (.inr rfl))) (ta_cons (te_ix hr.room (te_var (i := 0) rfl (by first | exact .inl rfl | exact .inr (.inl rfl) | exact .inr (.inr rfl))) te_int (fun _ _ => rfl)) ta_nil))))) (tw_or1 (tt_cmp (ot_eqA hr) (te_var (i := 1) rfl (by first | exact .inl rfl | exact .inr (.inl rfl) | exact .inr (.inr rfl))) (te_var (i := 2) rfl (by first | exact .inl rfl | exact .inr (.inl rfl) | exact .inr (.inr rfl))) (nomark _))))).pt (tss_one ts_never) tss_nil)
      (tss_one (ts_ret (te_call (dts := []) (C_ahead_by.at (by first | decide | omega)) hr (by rfl) C_ahead_by.m C_ahead_by.kp (b_ahead_by F_ahead_by) .nil pass0 (fun _ => .nil) rfl (ta_cons (te_call (dts := []) (C_all_lines.at (by first | decide | omega)) hr (by rfl) C_all_lines.m C_all_lines.kp (b_all_lines F_all_lines) .nil pass0 (fun _ => .nil) rfl (ta_cons (te_var (i := 0) rfl (by first | exact .inl rfl | exact .inr (.inl rfl) | exact .inr (.inr rfl))) ta_nil)) (ta_cons (te_var (i := 1) rfl (by first | exact .inl rfl | exact .inr (.inl rfl) | exact .inr (.inr rfl))) (ta_cons (te_var (i := 2) rfl (by first | exact .inl rfl | exact .inr (.inl rfl) | exact .inr (.inr rfl))) ta_nil))))))))) read_ahead_many
theorem ok__law_plain {P : Program} {w : World} {K : PySem.W.Frag} {mg : Str → Option Value} {base : Heap} (W : Wd) {f : Addr} {fd : FuncData} (F__law_plain : FD K "_law_plain" s__law_plain [] f fd) (z_tuple : mg "tuple" = none) (z_list : mg "list" = none) (z_isinstance : mg "isinstance" = none) (z_dict : mg "dict" = none) (z_str : mg "str" = none) (z_int : mg "int" = none) (k : Nat) (hk : 0 ≤ k) {sp__law_plain sp_next : TSp} (C__law_plain : Cal P w K mg base W k "_law_plain" f fd ["value"] sp__law_plain) (ln : ∀ xs Q, sp_next xs Q → xs.length = 1) (rd : ∀ xs Q, sp_next xs Q → t__law_plain sp__law_plain { nx := fun _ => Q .non, rt := Q } (startS 2 xs)) :
    FnG P w K mg base CX0 (k + 1) f fd ["value"] (liftSp ⟨P, w, K⟩ W sp_next) := by
  exact okD (t := t__law_plain sp__law_plain) F__law_plain sc__law_plain (by decide) ln (fun cdv A outer s H F0 E hr hz =>
      (tss_cons (ts_if (tt_val (te_cb ct_isi (by rfl) z_isinstance bt_isinstance (tr_cons (te_var (i := 0) rfl (by first | exact .inl rfl | exact .inr (.inl rfl) | exact .inr (.inr rfl))) (tr_cons (te_tup (ta_cons (te_bty (by rfl) z_list bt_list) (ta_cons (te_bty (by rfl) z_tuple bt_tuple) ta_nil))) tr_nil)))) (tss_one (ts_ret (te_cmp (ot_eqA hr) (te_new (tn_lc (own := [("one", 1)]) rfl sc__law_plain.nd (ti_seq (te_var (i := 0) rfl (by first | exact .inl rfl | exact .inr (.inl rfl) | exact .inr (.inr rfl)))) (blkOk_by (by kernel_rfl)) (by decide) (fun l _ _ _ _ _ => (tg_name (i := 1) sc__law_plain.nd rfl (by first | exact .inl rfl | exact .inr rfl))) (fun l _ _ _ _ _ => (tts_one (tt_not (tt_val (te_call (dts := []) (C__law_plain.at (by first | decide | omega)) hr (by rfl) C__law_plain.m C__law_plain.kp (b__law_plain F__law_plain) .nil pass0 (fun _ => .nil) rfl (ta_cons (te_var (i := 1) rfl (by first | exact .inl rfl | exact .inr (.inl rfl) | exact .inr (.inr rfl))) ta_nil)))))) (fun l _ _ _ _ _ => te_int))) (te_lst ta_nil) (nomark _)))) tss_nil)
      (tss_cons (ts_if (tt_val (te_cb ct_isi (by rfl) z_isinstance bt_isinstance (tr_cons (te_var (i := 0) rfl (by first | exact .inl rfl | exact .inr (.inl rfl) | exact .inr (.inr rfl))) (tr_cons (te_bty (by rfl) z_dict bt_dict) tr_nil)))) (tss_one (ts_ret (te_call (dts := []) (C__law_plain.at (by first | decide | omega)) hr (by rfl) C__law_plain.m C__law_plain.kp (b__law_plain F__law_plain) .nil pass0 (fun _ => .nil) rfl (ta_cons (te_new (tn_ct cn_list (by rfl) z_list bt_list (tr_cons te_never tr_nil))) ta_nil)))) tss_nil)
      (tss_one (ts_ret (te_or (te_cmp ot_isN (te_var (i := 0) rfl (by first | exact .inl rfl | exact .inr (.inl rfl) | exact .inr (.inr rfl))) te_non (nomark _)) (te_one (te_cb ct_isi (by rfl) z_isinstance bt_isinstance (tr_cons (te_var (i := 0) rfl (by first | exact .inl rfl | exact .inr (.inl rfl) | exact .inr (.inr rfl))) (tr_cons (te_tup (ta_cons (te_bty (by rfl) z_int bt_int) (ta_cons (te_bty (by rfl) z_str bt_str) ta_nil))) tr_nil)))))))))) rd
theorem ok__law_is {P : Program} {w : World} {K : PySem.W.Frag} {mg : Str → Option Value} {base : Heap} (W : Wd) {f : Addr} {fd : FuncData} (F : FD K "_law_is" s__law_is [] f fd) {f__law_plain : Addr} {fd__law_plain : FuncData} (F__law_plain : FD K "_law_plain" s__law_plain [] f__law_plain fd__law_plain) (C__law_plain : Cal P w K mg base W 10 "_law_plain" f__law_plain fd__law_plain ["value"] sp__law_plain) (z_repr : mg "repr" = none) :
    FnG P w K mg base CX0 11 f fd ["found", "due"] (liftSp ⟨P, w, K⟩ W sp__law_is) := by
  exact okD (t := t__law_is) F sc__law_is (by decide) ar2 (fun cdv A outer s H F0 E hr hz =>
      (tss_one (ts_ret (te_and (te_call (dts := []) (C__law_plain.at (by first | decide | omega)) hr (by rfl) C__law_plain.m C__law_plain.kp (b__law_plain F__law_plain) .nil pass0 (fun _ => .nil) rfl (ta_cons (te_var (i := 0) rfl (by first | exact .inl rfl | exact .inr (.inl rfl) | exact .inr (.inr rfl))) ta_nil)) (te_and (te_cmp (ot_eqA hr) (te_var (i := 0) rfl (by first | exact .inl rfl | exact .inr (.inl rfl) | exact .inr (.inr rfl))) (te_var (i := 1) rfl (by first | exact .inl rfl | exact .inr (.inl rfl) | exact .inr (.inr rfl))) (nomark _)) (te_and (te_cmp (ot_eqA hr) (te_var (i := 1) rfl (by first | exact .inl rfl | exact .inr (.inl rfl) | exact .inr (.inr rfl))) (te_var (i := 0) rfl (by first | exact .inl rfl | exact .inr (.inl rfl) | exact .inr (.inr rfl))) (nomark _)) (te_one (te_cmp (ot_eqA hr) (te_cb (ct_repr hr) (by rfl) z_repr bt_repr (tr_cons (te_var (i := 0) rfl (by first | exact .inl rfl | exact .inr (.inl rfl) | exact .inr (.inr rfl))) tr_nil)) (te_cb (ct_repr hr) (by rfl) z_repr bt_repr (tr_cons (te_var (i := 1) rfl (by first | exact .inl rfl | exact .inr (.inl rfl) | exact .inr (.inr rfl))) tr_nil)) (nomark _))))))))) read__law_is
theorem kbf_ahead_many_0_order_one_other {K : PySem.W.Frag} {f : Addr} {fd : FuncData} (F : FD K "ahead_many" s_ahead_many [] f fd) : KBn K fd ["order", "one", "other"] 0 ["order", "one", "other"] (fun us ws => sel [0, 1, 2] (us ++ ws ++ [])) (fun vs zs => sel [0, 1, 2] (vs ++ zs ++ [])) := kb0 F 0 [0, 1, 2] fun _ _ _ _ _ _ us ws h1 h2 => match us, ws, h1, h2 with | [], [_, _, _], _, _ => rfl
theorem kbf_common_ties_0_many_some {K : PySem.W.Frag} {f : Addr} {fd : FuncData} (F : FD K "common_ties" s_common_ties [] f fd) : KBn K fd ["many", "some"] 0 ["many", "some"] (fun us ws => sel [0, 1] (us ++ ws ++ [])) (fun vs zs => sel [0, 1] (vs ++ zs ++ [])) := kb0 F 0 [0, 1] fun _ _ _ _ _ _ us ws h1 h2 => match us, ws, h1, h2 with | [], [_, _], _, _ => rfl
theorem kbf_count_lines_0_order {K : PySem.W.Frag} {f : Addr} {fd : FuncData} (F : FD K "count_lines" s_count_lines [] f fd) : KBn K fd ["order"] 0 ["order"] (fun us ws => sel [0] (us ++ ws ++ [])) (fun vs zs => sel [0] (vs ++ zs ++ [])) := kb0 F 0 [0] fun _ _ _ _ _ _ us ws h1 h2 => match us, ws, h1, h2 with | [], [_], _, _ => rfl
theorem kbf_lines_0_order {K : PySem.W.Frag} {f : Addr} {fd : FuncData} (F : FD K "lines" s_lines [] f fd) : KBn K fd ["order"] 0 ["order"] (fun us ws => sel [0] (us ++ ws ++ [])) (fun vs zs => sel [0] (vs ++ zs ++ [])) := kb0 F 0 [0] fun _ _ _ _ _ _ us ws h1 h2 => match us, ws, h1, h2 with | [], [_], _, _ => rfl
theorem ok_law {P : Program} {w : World} {K : PySem.W.Frag} {mg : Str → Option Value} {base : Heap} (M : Fam) {cap : Nat} (hcap : cap ≤ turns) {f : Addr} {f__law_is : Addr} {fd__law_is : FuncData} (F__law_is : FD K "_law_is" s__law_is [] f__law_is fd__law_is) (C__law_is : Cal P w K mg base (M.W 0) 11 "_law_is" f__law_is fd__law_is ["found", "due"] sp__law_is) {f_ahead_many : Addr} {fd_ahead_many : FuncData} (F_ahead_many : FD K "ahead_many" s_ahead_many [] f_ahead_many fd_ahead_many) (C_ahead_many : Cal P w K mg base (M.W 0) 6 "ahead_many" f_ahead_many fd_ahead_many ["order", "one", "other"] sp_ahead_many) {f_count_lines : Addr} {fd_count_lines : FuncData} (F_count_lines : FD K "count_lines" s_count_lines [] f_count_lines fd_count_lines) (C_count_lines : Cal P w K mg base (M.W 0) 6 "count_lines" f_count_lines fd_count_lines ["order"] sp_count_lines) {f_lines : Addr} {fd_lines : FuncData} (F_lines : FD K "lines" s_lines [] f_lines fd_lines) (C_lines : Cal P w K mg base (M.W 0) 6 "lines" f_lines fd_lines ["order"] sp_lines) {f_common_ties : Addr} {fd_common_ties : FuncData} (F_common_ties : FD K "common_ties" s_common_ties [] f_common_ties fd_common_ties) (C_common_ties : Cal P w K mg base (M.W 0) 4 "common_ties" f_common_ties fd_common_ties ["many", "some"] sp_common_ties) {f__law_any_order : Addr} {fd__law_any_order : FuncData} (F__law_any_order : FD K "_law_any_order" s__law_any_order [] f__law_any_order fd__law_any_order) (C__law_any_order : CalS P w K mg base M 4 "_law_any_order" f__law_any_order fd__law_any_order ["state"] sp__law_any_order) {f__law_all_lines : Addr} {fd__law_all_lines : FuncData} (F__law_all_lines : FD K "_law_all_lines" s__law_all_lines [] f__law_all_lines fd__law_all_lines) (C__law_all_lines : Cal P w K mg base (M.W 0) 1 "_law_all_lines" f__law_all_lines fd__law_all_lines ["order"] sp__law_all_lines) {f__law_shuffled : Addr} {fd__law_shuffled : FuncData} (F__law_shuffled : FD K "_law_shuffled" s__law_shuffled [] f__law_shuffled fd__law_shuffled) (C__law_shuffled : CalS P w K mg base M 3 "_law_shuffled" f__law_shuffled fd__law_shuffled ["state", "some"] sp__law_shuffled) {f__law_draw : Addr} {fd__law_draw : FuncData} (F__law_draw : FD K "_law_draw" s__law_draw [] f__law_draw fd__law_draw) (C__law_draw : CalS P w K mg base M 2 "_law_draw" f__law_draw fd__law_draw ["state", "room"] sp__law_draw) {f__law_pick : Addr} {fd__law_pick : FuncData} (F__law_pick : FD K "_law_pick" s__law_pick [] f__law_pick fd__law_pick) (C__law_pick : CalS P w K mg base M 3 "_law_pick" f__law_pick fd__law_pick ["state", "some"] sp__law_pick) (z_len : mg "len" = none) (z_min : mg "min" = none) (z_range : mg "range" = none) (z_tuple : mg "tuple" = none) (z_list : mg "list" = none)
    (cdv : Value) (A : Around) (outer : List Env) (s : Shared) (H F0 H0 : Hp) (E : XK) (hr : Rm 11 (A.deeper (envOfC "law" (defScope s_law) s.heap.objs.size f cdv))) {sc : Addr} (hA : ScrAt K ⟨M.W cap, H0, F0, []⟩ sc) :
    PSs (cxOf CX0 P w K mg base ["script", "state", "three", "lap", "order", "due", "one", "other", "many", "line", "some", "turn", "wild", "rows", "kept", "i", "j", "row"] "law" (defScope s_law) f cdv A outer s H E).nox (lawRest s_law) (LS ⟨P, w, K⟩ ⟨M.W cap, H0, F0, []⟩ (t_law M.sa sc)) := by
  have kb_ahead_many_0_order_one_other := kbf_ahead_many_0_order_one_other F_ahead_many
  have kb_common_ties_0_many_some := kbf_common_ties_0_many_some F_common_ties
  have kb_count_lines_0_order := kbf_count_lines_0_order F_count_lines
  have kb_lines_0_order := kbf_lines_0_order F_lines
  exact (tss_cons (ts_set (i := 2) sc_law.nd rfl (by first | exact .inl rfl | exact .inr rfl) (te_tup (ta_cons te_str (ta_cons te_int (ta_cons (te_tup (ta_cons (te_tup (ta_cons te_int (ta_cons te_int ta_nil))) ta_nil)) ta_nil)))))
      (tss_cons (ts_if (tt_not (tt_val (te_call (dts := []) (C__law_is.at (by first | decide | omega)) hr (by rfl) C__law_is.m C__law_is.kp (b__law_is F__law_is) .nil pass0 (fun _ => .nil) rfl (ta_cons (te_lst (ta_cons (te_call (dts := []) (C_lines.at (by first | decide | omega)) hr (by rfl) C_lines.m C_lines.kp (b_lines F_lines) .nil pass0 (fun _ => .nil) rfl (ta_cons (te_var (i := 2) rfl (by first | exact .inl rfl | exact .inr (.inl rfl) | exact .inr (.inr rfl))) ta_nil)) (ta_cons (te_call (dts := []) (C_count_lines.at (by first | decide | omega)) hr (by rfl) C_count_lines.m C_count_lines.kp (b_count_lines F_count_lines) .nil pass0 (fun _ => .nil) rfl (ta_cons (te_tup (ta_cons te_str (ta_cons te_int (ta_cons (te_tup ta_nil) ta_nil)))) ta_nil)) (ta_cons (te_call (dts := []) (C_ahead_many.at (by first | decide | omega)) hr (by rfl) C_ahead_many.m C_ahead_many.kp (b_ahead_many F_ahead_many) .nil pass0 (fun _ => .nil) rfl (ta_cons (te_var (i := 2) rfl (by first | exact .inl rfl | exact .inr (.inl rfl) | exact .inr (.inr rfl))) (ta_cons te_int (ta_cons te_int ta_nil)))) (ta_cons (te_callK0 (ks := ["order", "one", "other"]) (gT := gt_ahead_many_0_order_one_other) (C_ahead_many.at (by first | decide | omega)) hr (by rfl) C_ahead_many.m C_ahead_many.kp kb_ahead_many_0_order_one_other (kg_sel (dts := []) (dvs := []) [0, 1, 2] (fun _ => .nil)) pass0 rfl (tk_cons (te_var (i := 2) rfl (by first | exact .inl rfl | exact .inr (.inl rfl) | exact .inr (.inr rfl))) (tk_cons te_int (tk_cons te_int tk_nil)))) ta_nil))))) (ta_cons (te_lst (ta_cons (te_tup (ta_cons (te_tup (ta_cons te_int (ta_cons te_int (ta_cons te_int ta_nil)))) (ta_cons (te_tup (ta_cons te_int (ta_cons te_int (ta_cons te_int ta_nil)))) (ta_cons (te_tup (ta_cons te_int (ta_cons te_int (ta_cons te_int ta_nil)))) ta_nil)))) (ta_cons te_int (ta_cons te_int (ta_cons te_int ta_nil))))) ta_nil))))) (tss_one (ts_ret te_bl)) tss_nil)
      (tss_cons (ts_if (tt_not (tt_val (te_call (dts := []) (C__law_is.at (by first | decide | omega)) hr (by rfl) C__law_is.m C__law_is.kp (b__law_is F__law_is) .nil pass0 (fun _ => .nil) rfl (ta_cons (te_lst (ta_cons (te_call (dts := []) (C_common_ties.at (by first | decide | omega)) hr (by rfl) C_common_ties.m C_common_ties.kp (b_common_ties F_common_ties) .nil pass0 (fun _ => .nil) rfl (ta_cons te_int (ta_cons (te_tup (ta_cons (te_tup (ta_cons te_int (ta_cons te_int (ta_cons te_int ta_nil)))) (ta_cons (te_tup (ta_cons te_int (ta_cons te_int (ta_cons te_int ta_nil)))) ta_nil))) ta_nil))) (ta_cons (te_callK0 (ks := ["many", "some"]) (gT := gt_common_ties_0_many_some) (C_common_ties.at (by first | decide | omega)) hr (by rfl) C_common_ties.m C_common_ties.kp kb_common_ties_0_many_some (kg_sel (dts := []) (dvs := []) [0, 1] (fun _ => .nil)) pass0 rfl (tk_cons te_int (tk_cons (te_lst (ta_cons (te_tup (ta_cons te_int (ta_cons te_int ta_nil))) ta_nil)) tk_nil))) ta_nil))) (ta_cons (te_lst (ta_cons (te_tup (ta_cons (te_tup (ta_cons te_int (ta_cons te_int ta_nil))) ta_nil)) (ta_cons (te_tup (ta_cons (te_tup (ta_cons te_int (ta_cons te_int ta_nil))) ta_nil)) ta_nil))) ta_nil))))) (tss_one (ts_ret te_bl)) tss_nil)
      (tss_cons (ts_for PassesOwn.never rfl (ti_range1 (by rfl) z_range (ta_cons (te_op ot_add te_int (te_cb (ct_min rfl) (by rfl) z_min bt_min (tr_cons (te_lenScr hA rfl (by first | exact .inl rfl | exact .inr (.inl rfl) | exact .inr (.inr rfl)) (by rfl) z_len) (tr_cons te_int tr_nil)))) ta_nil)) (tg_name (i := 3) sc_law.nd rfl (by first | exact .inl rfl | exact .inr rfl)) (tss_cons (ts_set (i := 4) sc_law.nd rfl (by first | exact .inl rfl | exact .inr rfl) (te_callS (M := M) (i := 1) (C__law_any_order.at (by first | decide | omega)) hr (by rfl) C__law_any_order.m C__law_any_order.kp (b__law_any_order F__law_any_order) pass0 rfl hcap (ta_cons (te_st rfl rfl (by first | exact .inl rfl | exact .inr (.inl rfl) | exact .inr (.inr rfl))) ta_nil)))
      (tss_cons (ts_set (i := 5) sc_law.nd rfl (by first | exact .inl rfl | exact .inr rfl) (te_call (dts := []) (C__law_all_lines.at (by first | decide | omega)) hr (by rfl) C__law_all_lines.m C__law_all_lines.kp (b__law_all_lines F__law_all_lines) .nil pass0 (fun _ => .nil) rfl (ta_cons (te_var (i := 4) rfl (by first | exact .inl rfl | exact .inr (.inl rfl) | exact .inr (.inr rfl))) ta_nil)))
      (tss_cons (ts_if (tw_or (tt_not (tt_val (te_call (dts := []) (C__law_is.at (by first | decide | omega)) hr (by rfl) C__law_is.m C__law_is.kp (b__law_is F__law_is) .nil pass0 (fun _ => .nil) rfl (ta_cons (te_callK0 (ks := ["order"]) (gT := gt_lines_0_order) (C_lines.at (by first | decide | omega)) hr (by rfl) C_lines.m C_lines.kp kb_lines_0_order (kg_sel (dts := []) (dvs := []) [0] (fun _ => .nil)) pass0 rfl (tk_cons (te_var (i := 4) rfl (by first | exact .inl rfl | exact .inr (.inl rfl) | exact .inr (.inr rfl))) tk_nil)) (ta_cons (te_ct ct_tuple (by rfl) z_tuple bt_tuple (tr_cons (te_var (i := 5) rfl (by first | exact .inl rfl | exact .inr (.inl rfl) | exact .inr (.inr rfl))) tr_nil)) ta_nil))))) (tw_or (tt_not (tt_val (te_call (dts := []) (C__law_is.at (by first | decide | omega)) hr (by rfl) C__law_is.m C__law_is.kp (b__law_is F__law_is) .nil pass0 (fun _ => .nil) rfl (ta_cons (te_callK0 (ks := ["order"]) (gT := gt_count_lines_0_order) (C_count_lines.at (by first | decide | omega)) hr (by rfl) C_count_lines.m C_count_lines.kp kb_count_lines_0_order (kg_sel (dts := []) (dvs := []) [0] (fun _ => .nil)) pass0 rfl (tk_cons (te_var (i := 4) rfl (by first | exact .inl rfl | exact .inr (.inl rfl) | exact .inr (.inr rfl))) tk_nil)) (ta_cons (te_cb ct_len (by rfl) z_len bt_len (tr_cons (te_var (i := 5) rfl (by first | exact .inl rfl | exact .inr (.inl rfl) | exact .inr (.inr rfl))) tr_nil)) ta_nil))))) (tw_or1 (tt_not (tt_val (te_call (dts := []) (C__law_is.at (by first | decide | omega)) hr (by rfl) C__law_is.m C__law_is.kp (b__law_is F__law_is) .nil pass0 (fun _ => .nil) rfl (ta_cons (te_call (dts := []) (C_common_ties.at (by first | decide | omega)) hr (by rfl) C_common_ties.m C_common_ties.kp (b_common_ties F_common_ties) .nil pass0 (fun _ => .nil) rfl (ta_cons (te_ix hr.room (te_var (i := 4) rfl (by first | exact .inl rfl | exact .inr (.inl rfl) | exact .inr (.inr rfl))) te_int (fun _ _ => rfl)) (ta_cons (te_ct ct_tuple (by rfl) z_tuple bt_tuple (tr_cons (te_var (i := 5) rfl (by first | exact .inl rfl | exact .inr (.inl rfl) | exact .inr (.inr rfl))) tr_nil)) ta_nil))) (ta_cons (te_ix hr.room (te_var (i := 4) rfl (by first | exact .inl rfl | exact .inr (.inl rfl) | exact .inr (.inr rfl))) te_int (fun _ _ => rfl)) ta_nil)))))))).pt (tss_one (ts_ret te_bl)) tss_nil)
      (tss_cons (ts_if (tt_cmp ot_gt (te_ix hr.room (te_var (i := 4) rfl (by first | exact .inl rfl | exact .inr (.inl rfl) | exact .inr (.inr rfl))) te_int (fun _ _ => rfl)) te_int (nomark _)) (tss_cons (ts_asg (te_slice (te_callS (M := M) (i := 1) (C__law_shuffled.at (by first | decide | omega)) hr (by rfl) C__law_shuffled.m C__law_shuffled.kp (b__law_shuffled F__law_shuffled) pass0 rfl hcap (ta_cons (te_st rfl rfl (by first | exact .inl rfl | exact .inr (.inl rfl) | exact .inr (.inr rfl))) (ta_cons (te_new (tn_listRg rfl (by rfl) z_list (trg_1 (by rfl) z_range (te_ix hr.room (te_var (i := 4) rfl (by first | exact .inl rfl | exact .inr (.inl rfl) | exact .inr (.inr rfl))) te_int (fun _ _ => rfl))))) ta_nil))) to_none (to_some te_int)) (tg_ll (n := 2) rfl (tgs_cons (tg_name (i := 6) sc_law.nd rfl (by first | exact .inl rfl | exact .inr rfl)) (tgs_cons (tg_name (i := 7) sc_law.nd rfl (by first | exact .inl rfl | exact .inr rfl)) tgs_nil))))
      (tss_cons (ts_set (i := 8) sc_law.nd rfl (by first | exact .inl rfl | exact .inr rfl) (te_cb ct_len (by rfl) z_len bt_len (tr_cons (te_new (tn_lc (own := [("line", 9)]) rfl sc_law.nd (ti_seq (te_var (i := 5) rfl (by first | exact .inl rfl | exact .inr (.inl rfl) | exact .inr (.inr rfl)))) (blkOk_by (by kernel_rfl)) (by decide) (fun l _ _ _ _ _ => (tg_name (i := 9) sc_law.nd rfl (by first | exact .inl rfl | exact .inr rfl))) (fun l _ _ _ _ _ => (tts_one (tt_cmp (ot_ltA hr) (te_index hr.room (te_var (i := 9) rfl (by first | exact .inl rfl | exact .inr (.inl rfl) | exact .inr (.inr rfl))) (tr_cons (te_var (i := 6) rfl (by first | exact .inl rfl | exact .inr (.inl rfl) | exact .inr (.inr rfl))) tr_nil)) (te_index hr.room (te_var (i := 9) rfl (by first | exact .inl rfl | exact .inr (.inl rfl) | exact .inr (.inr rfl))) (tr_cons (te_var (i := 7) rfl (by first | exact .inl rfl | exact .inr (.inl rfl) | exact .inr (.inr rfl))) tr_nil)) (nomark _)))) (fun l _ _ _ _ _ => (te_var (i := 9) rfl (by first | exact .inl rfl | exact .inr (.inl rfl) | exact .inr (.inr rfl)))))) tr_nil)))
      (tss_one (ts_if (tt_not (tt_val (te_call (dts := []) (C__law_is.at (by first | decide | omega)) hr (by rfl) C__law_is.m C__law_is.kp (b__law_is F__law_is) .nil pass0 (fun _ => .nil) rfl (ta_cons (te_lst (ta_cons (te_call (dts := []) (C_ahead_many.at (by first | decide | omega)) hr (by rfl) C_ahead_many.m C_ahead_many.kp (b_ahead_many F_ahead_many) .nil pass0 (fun _ => .nil) rfl (ta_cons (te_var (i := 4) rfl (by first | exact .inl rfl | exact .inr (.inl rfl) | exact .inr (.inr rfl))) (ta_cons (te_var (i := 6) rfl (by first | exact .inl rfl | exact .inr (.inl rfl) | exact .inr (.inr rfl))) (ta_cons (te_var (i := 7) rfl (by first | exact .inl rfl | exact .inr (.inl rfl) | exact .inr (.inr rfl))) ta_nil)))) (ta_cons (te_call (dts := []) (C_ahead_many.at (by first | decide | omega)) hr (by rfl) C_ahead_many.m C_ahead_many.kp (b_ahead_many F_ahead_many) .nil pass0 (fun _ => .nil) rfl (ta_cons (te_var (i := 4) rfl (by first | exact .inl rfl | exact .inr (.inl rfl) | exact .inr (.inr rfl))) (ta_cons (te_var (i := 7) rfl (by first | exact .inl rfl | exact .inr (.inl rfl) | exact .inr (.inr rfl))) (ta_cons (te_var (i := 6) rfl (by first | exact .inl rfl | exact .inr (.inl rfl) | exact .inr (.inr rfl))) ta_nil)))) ta_nil))) (ta_cons (te_lst (ta_cons (te_var (i := 8) rfl (by first | exact .inl rfl | exact .inr (.inl rfl) | exact .inr (.inr rfl))) (ta_cons (te_op ot_sub (te_cb ct_len (by rfl) z_len bt_len (tr_cons (te_var (i := 5) rfl (by first | exact .inl rfl | exact .inr (.inl rfl) | exact .inr (.inr rfl))) tr_nil)) (te_var (i := 8) rfl (by first | exact .inl rfl | exact .inr (.inl rfl) | exact .inr (.inr rfl)))) ta_nil))) ta_nil))))) (tss_one (ts_ret te_bl)) tss_nil)))) tss_nil)
      (tss_cons (ts_setLcS (i := 10) (own := [("turn", 11)]) rfl sc_law.nd rfl rfl (sw_true rfl rfl rfl rfl) (ti_range1 (by rfl) z_range (ta_cons (te_op ot_add te_int (te_callS (M := M) (i := 1) (C__law_draw.at (by first | decide | omega)) hr (by rfl) C__law_draw.m C__law_draw.kp (b__law_draw F__law_draw) pass0 rfl hcap (ta_cons (te_st rfl rfl (by first | exact .inl rfl | exact .inr (.inl rfl) | exact .inr (.inr rfl))) (ta_cons te_int ta_nil)))) ta_nil)) (blkOk_by (by kernel_rfl)) (by decide) (fun l _ _ _ _ _ => (tg_name (i := 11) sc_law.nd rfl (by first | exact .inl rfl | exact .inr rfl))) (fun l _ _ _ _ _ => tts_nil) (fun l _ _ _ _ _ => (te_callS (M := M) (i := 1) (C__law_pick.at (by first | decide | omega)) hr (by rfl) C__law_pick.m C__law_pick.kp (b__law_pick F__law_pick) pass0 rfl hcap (ta_cons (te_st rfl rfl (by first | exact .inl rfl | exact .inr (.inl rfl) | exact .inr (.inr rfl))) (ta_cons (te_var (i := 5) rfl (by first | exact .inl rfl | exact .inr (.inl rfl) | exact .inr (.inr rfl))) ta_nil)))))
      (tss_cons (ts_setLcS (i := 12) (own := [("turn", 11)]) rfl sc_law.nd rfl rfl (sw_true rfl rfl rfl rfl) (ti_range1 (by rfl) z_range (ta_cons (te_op ot_add te_int (te_callS (M := M) (i := 1) (C__law_draw.at (by first | decide | omega)) hr (by rfl) C__law_draw.m C__law_draw.kp (b__law_draw F__law_draw) pass0 rfl hcap (ta_cons (te_st rfl rfl (by first | exact .inl rfl | exact .inr (.inl rfl) | exact .inr (.inr rfl))) (ta_cons te_int ta_nil)))) ta_nil)) (blkOk_by (by kernel_rfl)) (by decide) (fun l _ _ _ _ _ => (tg_name (i := 11) sc_law.nd rfl (by first | exact .inl rfl | exact .inr rfl))) (fun l _ _ _ _ _ => tts_nil) (fun l _ _ _ _ _ => (te_ct ct_tuple (by rfl) z_tuple bt_tuple (tr_cons (te_callS (M := M) (i := 1) (C__law_shuffled.at (by first | decide | omega)) hr (by rfl) C__law_shuffled.m C__law_shuffled.kp (b__law_shuffled F__law_shuffled) pass0 rfl hcap (ta_cons (te_st rfl rfl (by first | exact .inl rfl | exact .inr (.inl rfl) | exact .inr (.inr rfl))) (ta_cons (te_new (tn_listRg rfl (by rfl) z_list (trg_1 (by rfl) z_range (te_ix hr.room (te_var (i := 4) rfl (by first | exact .inl rfl | exact .inr (.inl rfl) | exact .inr (.inr rfl))) te_int (fun _ _ => rfl))))) ta_nil))) tr_nil))))
      (tss_one (ts_for PassesOwn.never rfl (ti_seq (te_lst (ta_cons (te_var (i := 10) rfl (by first | exact .inl rfl | exact .inr (.inl rfl) | exact .inr (.inr rfl))) (ta_cons (te_var (i := 12) rfl (by first | exact .inl rfl | exact .inr (.inl rfl) | exact .inr (.inr rfl))) ta_nil)))) (tg_name (i := 13) sc_law.nd rfl (by first | exact .inl rfl | exact .inr rfl)) (tss_cons (ts_set (i := 14) sc_law.nd rfl (by first | exact .inl rfl | exact .inr rfl) (te_lst ta_nil))
      (tss_cons (ts_for PassesOwn.never rfl (ti_range1 (by rfl) z_range (ta_cons (te_ix hr.room (te_var (i := 4) rfl (by first | exact .inl rfl | exact .inr (.inl rfl) | exact .inr (.inr rfl))) te_int (fun _ _ => rfl)) ta_nil)) (tg_name (i := 15) sc_law.nd rfl (by first | exact .inl rfl | exact .inr rfl)) (tss_one (ts_set (i := 14) sc_law.nd rfl (by first | exact .inl rfl | exact .inr rfl) (te_op ot_add (te_var (i := 14) rfl (by first | exact .inl rfl | exact .inr (.inl rfl) | exact .inr (.inr rfl))) (te_new (tn_lc (own := [("j", 16)]) rfl sc_law.nd (ti_range1 (by rfl) z_range (ta_cons (te_ix hr.room (te_var (i := 4) rfl (by first | exact .inl rfl | exact .inr (.inl rfl) | exact .inr (.inr rfl))) te_int (fun _ _ => rfl)) ta_nil)) (blkOk_by (by kernel_rfl)) (by decide) (fun l _ _ _ _ _ => (tg_name (i := 16) sc_law.nd rfl (by first | exact .inl rfl | exact .inr rfl))) (fun l _ _ _ _ _ => (tts_one (tw_and (tt_cmp (ot_neA hr) (te_var (i := 15) rfl (by first | exact .inl rfl | exact .inr (.inl rfl) | exact .inr (.inr rfl))) (te_var (i := 16) rfl (by first | exact .inl rfl | exact .inr (.inl rfl) | exact .inr (.inr rfl))) (nomark _)) (tw_and1 (tt_cmp (ot_eqA hr) (te_new (tn_lc (own := [("row", 17)]) rfl sc_law.nd (ti_seq (te_var (i := 13) rfl (by first | exact .inl rfl | exact .inr (.inl rfl) | exact .inr (.inr rfl)))) (blkOk_by (by kernel_rfl)) (by decide) (fun l _ _ _ _ _ => (tg_name (i := 17) sc_law.nd rfl (by first | exact .inl rfl | exact .inr rfl))) (fun l _ _ _ _ _ => (tts_one (tt_cmp ot_gt (te_index hr.room (te_var (i := 17) rfl (by first | exact .inl rfl | exact .inr (.inl rfl) | exact .inr (.inr rfl))) (tr_cons (te_var (i := 15) rfl (by first | exact .inl rfl | exact .inr (.inl rfl) | exact .inr (.inr rfl))) tr_nil)) (te_index hr.room (te_var (i := 17) rfl (by first | exact .inl rfl | exact .inr (.inl rfl) | exact .inr (.inr rfl))) (tr_cons (te_var (i := 16) rfl (by first | exact .inl rfl | exact .inr (.inl rfl) | exact .inr (.inr rfl))) tr_nil)) (nomark _)))) (fun l _ _ _ _ _ => (te_var (i := 17) rfl (by first | exact .inl rfl | exact .inr (.inl rfl) | exact .inr (.inr rfl)))))) (te_lst ta_nil) (nomark _)))).pt)) (fun l _ _ _ _ _ => (te_tup (ta_cons (te_var (i := 15) rfl (by first | exact .inl rfl | exact .inr (.inl rfl) | exact .inr (.inr rfl))) (ta_cons (te_var (i := 16) rfl (by first | exact .inl rfl | exact .inr (.inl rfl) | exact .inr (.inr rfl))) ta_nil))))))))))
      (tss_one (ts_if (tt_not (tt_val (te_call (dts := []) (C__law_is.at (by first | decide | omega)) hr (by rfl) C__law_is.m C__law_is.kp (b__law_is F__law_is) .nil pass0 (fun _ => .nil) rfl (ta_cons (te_lst (ta_cons (te_call (dts := []) (C_common_ties.at (by first | decide | omega)) hr (by rfl) C_common_ties.m C_common_ties.kp (b_common_ties F_common_ties) .nil pass0 (fun _ => .nil) rfl (ta_cons (te_ix hr.room (te_var (i := 4) rfl (by first | exact .inl rfl | exact .inr (.inl rfl) | exact .inr (.inr rfl))) te_int (fun _ _ => rfl)) (ta_cons (te_var (i := 13) rfl (by first | exact .inl rfl | exact .inr (.inl rfl) | exact .inr (.inr rfl))) ta_nil))) (ta_cons (te_call (dts := []) (C_common_ties.at (by first | decide | omega)) hr (by rfl) C_common_ties.m C_common_ties.kp (b_common_ties F_common_ties) .nil pass0 (fun _ => .nil) rfl (ta_cons (te_ix hr.room (te_var (i := 4) rfl (by first | exact .inl rfl | exact .inr (.inl rfl) | exact .inr (.inr rfl))) te_int (fun _ _ => rfl)) (ta_cons (te_ct ct_tuple (by rfl) z_tuple bt_tuple (tr_cons (te_var (i := 13) rfl (by first | exact .inl rfl | exact .inr (.inl rfl) | exact .inr (.inr rfl))) tr_nil)) ta_nil))) ta_nil))) (ta_cons (te_op ot_mul (te_lst (ta_cons (te_ct ct_tuple (by rfl) z_tuple bt_tuple (tr_cons (te_var (i := 14) rfl (by first | exact .inl rfl | exact .inr (.inl rfl) | exact .inr (.inr rfl))) tr_nil)) ta_nil)) te_int) ta_nil))))) (tss_one (ts_ret te_bl)) tss_nil)))))))))))))
      (tss_one (ts_ret te_bl))))))
end TL
set_option Elab.async false
set_option linter.all false
set_option maxRecDepth 100000
set_option autoImplicit false
set_option maxHeartbeats 4000000
/-! all defs joined -/
namespace TL
open PySem PySem.Spec PyProof.Rows L2
def dd_is_whole : He.DefD := ⟨("is_whole", none), "is_whole", "is_whole", defArgs s_is_whole, defBody s_is_whole, defScope s_is_whole, [], []⟩
def dd_are_rising : He.DefD := ⟨("are_rising", none), "are_rising", "are_rising", defArgs s_are_rising, defBody s_are_rising, defScope s_are_rising, [], []⟩
def dd_are_pairs : He.DefD := ⟨("are_pairs", none), "are_pairs", "are_pairs", defArgs s_are_pairs, defBody s_are_pairs, defScope s_are_pairs, [], []⟩
def dd_is_closed : He.DefD := ⟨("is_closed", none), "is_closed", "is_closed", defArgs s_is_closed, defBody s_is_closed, defScope s_is_closed, [], []⟩
def dd_pairs_of : He.DefD := ⟨("pairs_of", none), "pairs_of", "pairs_of", defArgs s_pairs_of, defBody s_pairs_of, defScope s_pairs_of, [], []⟩
def dd_all_lines : He.DefD := ⟨("all_lines", none), "all_lines", "all_lines", defArgs s_all_lines, defBody s_all_lines, defScope s_all_lines, [], []⟩
def dd_counts_by : He.DefD := ⟨("counts_by", none), "counts_by", "counts_by", defArgs s_counts_by, defBody s_counts_by, defScope s_counts_by, [], []⟩
def dd_ahead_by : He.DefD := ⟨("ahead_by", none), "ahead_by", "ahead_by", defArgs s_ahead_by, defBody s_ahead_by, defScope s_ahead_by, [], []⟩
def dd__law_begun : He.DefD := ⟨("_law_begun", none), "_law_begun", "_law_begun", defArgs s__law_begun, defBody s__law_begun, defScope s__law_begun, [], []⟩
def dd__law_mixed : He.DefD := ⟨("_law_mixed", none), "_law_mixed", "_law_mixed", defArgs s__law_mixed, defBody s__law_mixed, defScope s__law_mixed, [], []⟩
def dd__law_tied : He.DefD := ⟨("_law_tied", none), "_law_tied", "_law_tied", defArgs s__law_tied, defBody s__law_tied, defScope s__law_tied, [], []⟩
def dd__law_all_lines : He.DefD := ⟨("_law_all_lines", none), "_law_all_lines", "_law_all_lines", defArgs s__law_all_lines, defBody s__law_all_lines, defScope s__law_all_lines, [], []⟩
def dd_is_below : He.DefD := ⟨("is_below", none), "is_below", "is_below", defArgs s_is_below, defBody s_is_below, defScope s_is_below, [], []⟩
def dd_pairs_in : He.DefD := ⟨("pairs_in", none), "pairs_in", "pairs_in", defArgs s_pairs_in, defBody s_pairs_in, defScope s_pairs_in, [], []⟩
def dd__law_draw : He.DefD := ⟨("_law_draw", none), "_law_draw", "_law_draw", defArgs s__law_draw, defBody s__law_draw, defScope s__law_draw, [], []⟩
def dd_is_count : He.DefD := ⟨("is_count", none), "is_count", "is_count", defArgs s_is_count, defBody s_is_count, defScope s_is_count, [], []⟩
def dd_are_ties : He.DefD := ⟨("are_ties", none), "are_ties", "are_ties", defArgs s_are_ties, defBody s_are_ties, defScope s_are_ties, [(.int 15)], []⟩
def dd_is_line : He.DefD := ⟨("is_line", none), "is_line", "is_line", defArgs s_is_line, defBody s_is_line, defScope s_is_line, [], []⟩
def dd_common_pairs : He.DefD := ⟨("common_pairs", none), "common_pairs", "common_pairs", defArgs s_common_pairs, defBody s_common_pairs, defScope s_common_pairs, [], []⟩
def dd__law_pick : He.DefD := ⟨("_law_pick", none), "_law_pick", "_law_pick", defArgs s__law_pick, defBody s__law_pick, defScope s__law_pick, [], []⟩
def dd__law_shuffled : He.DefD := ⟨("_law_shuffled", none), "_law_shuffled", "_law_shuffled", defArgs s__law_shuffled, defBody s__law_shuffled, defScope s__law_shuffled, [], []⟩
def dd__law_some_order : He.DefD := ⟨("_law_some_order", none), "_law_some_order", "_law_some_order", defArgs s__law_some_order, defBody s__law_some_order, defScope s__law_some_order, [], []⟩
def dd_is_order : He.DefD := ⟨("is_order", none), "is_order", "is_order", defArgs s_is_order, defBody s_is_order, defScope s_is_order, [], []⟩
def dd_common_ties : He.DefD := ⟨("common_ties", none), "common_ties", "common_ties", defArgs s_common_ties, defBody s_common_ties, defScope s_common_ties, [], []⟩
def dd__law_any_order : He.DefD := ⟨("_law_any_order", none), "_law_any_order", "_law_any_order", defArgs s__law_any_order, defBody s__law_any_order, defScope s__law_any_order, [], []⟩
def dd_need_order : He.DefD := ⟨("need_order", none), "need_order", "need_order", defArgs s_need_order, defBody s_need_order, defScope s_need_order, [], []⟩
def dd_lines : He.DefD := ⟨("lines", none), "lines", "lines", defArgs s_lines, defBody s_lines, defScope s_lines, [], []⟩
def dd_count_lines : He.DefD := ⟨("count_lines", none), "count_lines", "count_lines", defArgs s_count_lines, defBody s_count_lines, defScope s_count_lines, [], []⟩
def dd_ahead_many : He.DefD := ⟨("ahead_many", none), "ahead_many", "ahead_many", defArgs s_ahead_many, defBody s_ahead_many, defScope s_ahead_many, [], []⟩
def dd__law_plain : He.DefD := ⟨("_law_plain", none), "_law_plain", "_law_plain", defArgs s__law_plain, defBody s__law_plain, defScope s__law_plain, [], []⟩
def dd__law_is : He.DefD := ⟨("_law_is", none), "_law_is", "_law_is", defArgs s__law_is, defBody s__law_is, defScope s__law_is, [], []⟩
def dd_law : He.DefD := ⟨("law", none), "law", "law", defArgs s_law, defBody s_law, defScope s_law, [], []⟩
def fnAll : List He.DefD := [dd_is_whole, dd_are_rising, dd_are_pairs, dd_is_closed, dd_pairs_of, dd_all_lines, dd_counts_by, dd_ahead_by, dd__law_begun, dd__law_mixed, dd__law_tied, dd__law_all_lines, dd_is_below, dd_pairs_in, dd__law_draw, dd_is_count, dd_are_ties, dd_is_line, dd_common_pairs, dd__law_pick, dd__law_shuffled, dd__law_some_order, dd_is_order, dd_common_ties, dd__law_any_order, dd_need_order, dd_lines, dd_count_lines, dd_ahead_many, dd__law_plain, dd__law_is, dd_law]
def faAll : List He.Fa := [.glo "is_whole", .glo "are_rising", .glo "are_pairs", .glo "is_closed", .glo "pairs_of", .glo "all_lines", .glo "counts_by", .glo "ahead_by", .glo "_law_begun", .glo "_law_mixed", .glo "_law_tied", .glo "_law_all_lines", .glo "is_below", .glo "pairs_in", .glo "_law_draw", .glo "is_count", .glo "are_ties", .glo "is_line", .glo "common_pairs", .glo "_law_pick", .glo "_law_shuffled", .glo "_law_some_order", .glo "is_order", .glo "common_ties", .glo "_law_any_order", .glo "need_order", .glo "lines", .glo "count_lines", .glo "ahead_many", .glo "_law_plain", .glo "_law_is", .glo "law", .free "bool", .free "isinstance", .free "int", .free "zip", .free "all", .free "len", .free "tuple", .free "enumerate", .free "range", .free "sorted", .free "list", .free "str", .free "dict", .free "repr", .free "min", .free "abs", .int "MOST_PLACES_orders1" 6, .int "MOST_PLACES_lines5" 6, .int "MOST_LINES" 720]
structure Facts (K : PySem.W.Frag) (mg : Str → Option Value) : Prop where
  F_is_whole : ∃ fd, FD K "is_whole" s_is_whole [] (He.ga K "is_whole") fd
  m_is_whole : mg "is_whole" = some (.ref (He.ga K "is_whole"))
  F_are_rising : ∃ fd, FD K "are_rising" s_are_rising [] (He.ga K "are_rising") fd
  m_are_rising : mg "are_rising" = some (.ref (He.ga K "are_rising"))
  F_are_pairs : ∃ fd, FD K "are_pairs" s_are_pairs [] (He.ga K "are_pairs") fd
  m_are_pairs : mg "are_pairs" = some (.ref (He.ga K "are_pairs"))
  F_is_closed : ∃ fd, FD K "is_closed" s_is_closed [] (He.ga K "is_closed") fd
  m_is_closed : mg "is_closed" = some (.ref (He.ga K "is_closed"))
  F_pairs_of : ∃ fd, FD K "pairs_of" s_pairs_of [] (He.ga K "pairs_of") fd
  m_pairs_of : mg "pairs_of" = some (.ref (He.ga K "pairs_of"))
  F_all_lines : ∃ fd, FD K "all_lines" s_all_lines [] (He.ga K "all_lines") fd
  m_all_lines : mg "all_lines" = some (.ref (He.ga K "all_lines"))
  F_counts_by : ∃ fd, FD K "counts_by" s_counts_by [] (He.ga K "counts_by") fd
  m_counts_by : mg "counts_by" = some (.ref (He.ga K "counts_by"))
  F_ahead_by : ∃ fd, FD K "ahead_by" s_ahead_by [] (He.ga K "ahead_by") fd
  m_ahead_by : mg "ahead_by" = some (.ref (He.ga K "ahead_by"))
  F__law_begun : ∃ fd, FD K "_law_begun" s__law_begun [] (He.ga K "_law_begun") fd
  m__law_begun : mg "_law_begun" = some (.ref (He.ga K "_law_begun"))
  F__law_mixed : ∃ fd, FD K "_law_mixed" s__law_mixed [] (He.ga K "_law_mixed") fd
  m__law_mixed : mg "_law_mixed" = some (.ref (He.ga K "_law_mixed"))
  F__law_tied : ∃ fd, FD K "_law_tied" s__law_tied [] (He.ga K "_law_tied") fd
  m__law_tied : mg "_law_tied" = some (.ref (He.ga K "_law_tied"))
  F__law_all_lines : ∃ fd, FD K "_law_all_lines" s__law_all_lines [] (He.ga K "_law_all_lines") fd
  m__law_all_lines : mg "_law_all_lines" = some (.ref (He.ga K "_law_all_lines"))
  F_is_below : ∃ fd, FD K "is_below" s_is_below [] (He.ga K "is_below") fd
  m_is_below : mg "is_below" = some (.ref (He.ga K "is_below"))
  F_pairs_in : ∃ fd, FD K "pairs_in" s_pairs_in [] (He.ga K "pairs_in") fd
  m_pairs_in : mg "pairs_in" = some (.ref (He.ga K "pairs_in"))
  F__law_draw : ∃ fd, FD K "_law_draw" s__law_draw [] (He.ga K "_law_draw") fd
  m__law_draw : mg "_law_draw" = some (.ref (He.ga K "_law_draw"))
  F_is_count : ∃ fd, FD K "is_count" s_is_count [] (He.ga K "is_count") fd
  m_is_count : mg "is_count" = some (.ref (He.ga K "is_count"))
  F_are_ties : ∃ fd, FD K "are_ties" s_are_ties [(V.int 15)] (He.ga K "are_ties") fd
  m_are_ties : mg "are_ties" = some (.ref (He.ga K "are_ties"))
  F_is_line : ∃ fd, FD K "is_line" s_is_line [] (He.ga K "is_line") fd
  m_is_line : mg "is_line" = some (.ref (He.ga K "is_line"))
  F_common_pairs : ∃ fd, FD K "common_pairs" s_common_pairs [] (He.ga K "common_pairs") fd
  m_common_pairs : mg "common_pairs" = some (.ref (He.ga K "common_pairs"))
  F__law_pick : ∃ fd, FD K "_law_pick" s__law_pick [] (He.ga K "_law_pick") fd
  m__law_pick : mg "_law_pick" = some (.ref (He.ga K "_law_pick"))
  F__law_shuffled : ∃ fd, FD K "_law_shuffled" s__law_shuffled [] (He.ga K "_law_shuffled") fd
  m__law_shuffled : mg "_law_shuffled" = some (.ref (He.ga K "_law_shuffled"))
  F__law_some_order : ∃ fd, FD K "_law_some_order" s__law_some_order [] (He.ga K "_law_some_order") fd
  m__law_some_order : mg "_law_some_order" = some (.ref (He.ga K "_law_some_order"))
  F_is_order : ∃ fd, FD K "is_order" s_is_order [] (He.ga K "is_order") fd
  m_is_order : mg "is_order" = some (.ref (He.ga K "is_order"))
  F_common_ties : ∃ fd, FD K "common_ties" s_common_ties [] (He.ga K "common_ties") fd
  m_common_ties : mg "common_ties" = some (.ref (He.ga K "common_ties"))
  F__law_any_order : ∃ fd, FD K "_law_any_order" s__law_any_order [] (He.ga K "_law_any_order") fd
  m__law_any_order : mg "_law_any_order" = some (.ref (He.ga K "_law_any_order"))
  F_need_order : ∃ fd, FD K "need_order" s_need_order [] (He.ga K "need_order") fd
  m_need_order : mg "need_order" = some (.ref (He.ga K "need_order"))
  F_lines : ∃ fd, FD K "lines" s_lines [] (He.ga K "lines") fd
  m_lines : mg "lines" = some (.ref (He.ga K "lines"))
  F_count_lines : ∃ fd, FD K "count_lines" s_count_lines [] (He.ga K "count_lines") fd
  m_count_lines : mg "count_lines" = some (.ref (He.ga K "count_lines"))
  F_ahead_many : ∃ fd, FD K "ahead_many" s_ahead_many [] (He.ga K "ahead_many") fd
  m_ahead_many : mg "ahead_many" = some (.ref (He.ga K "ahead_many"))
  F__law_plain : ∃ fd, FD K "_law_plain" s__law_plain [] (He.ga K "_law_plain") fd
  m__law_plain : mg "_law_plain" = some (.ref (He.ga K "_law_plain"))
  F__law_is : ∃ fd, FD K "_law_is" s__law_is [] (He.ga K "_law_is") fd
  m__law_is : mg "_law_is" = some (.ref (He.ga K "_law_is"))
  F_law : ∃ fd, FD K "law" s_law [] (He.ga K "law") fd
  m_law : mg "law" = some (.ref (He.ga K "law"))
  z_bool : mg "bool" = none
  z_isinstance : mg "isinstance" = none
  z_int : mg "int" = none
  z_zip : mg "zip" = none
  z_all : mg "all" = none
  z_len : mg "len" = none
  z_tuple : mg "tuple" = none
  z_enumerate : mg "enumerate" = none
  z_range : mg "range" = none
  z_sorted : mg "sorted" = none
  z_list : mg "list" = none
  z_str : mg "str" = none
  z_dict : mg "dict" = none
  z_repr : mg "repr" = none
  z_min : mg "min" = none
  z_abs : mg "abs" = none
  m_MOST_PLACES_orders1 : ∃ t, mg "MOST_PLACES_orders1" = some (.int 6 t)
  m_MOST_PLACES_lines5 : ∃ t, mg "MOST_PLACES_lines5" = some (.int 6 t)
  m_MOST_LINES : ∃ t, mg "MOST_LINES" = some (.int 720 t)
theorem facts_of {K : PySem.W.Frag} {h : Heap} {mg : Str → Option Value} (X : K.In h) (G : h.Ns mainGlobals mg) (c : He.SaysD faAll fnAll K) : Facts K mg where
  F_is_whole := c.def_ 0 (d := dd_is_whole) rfl
  m_is_whole := He.glo_ok X G (c.fact 0 (f := .glo "is_whole") rfl)
  F_are_rising := c.def_ 1 (d := dd_are_rising) rfl
  m_are_rising := He.glo_ok X G (c.fact 1 (f := .glo "are_rising") rfl)
  F_are_pairs := c.def_ 2 (d := dd_are_pairs) rfl
  m_are_pairs := He.glo_ok X G (c.fact 2 (f := .glo "are_pairs") rfl)
  F_is_closed := c.def_ 3 (d := dd_is_closed) rfl
  m_is_closed := He.glo_ok X G (c.fact 3 (f := .glo "is_closed") rfl)
  F_pairs_of := c.def_ 4 (d := dd_pairs_of) rfl
  m_pairs_of := He.glo_ok X G (c.fact 4 (f := .glo "pairs_of") rfl)
  F_all_lines := c.def_ 5 (d := dd_all_lines) rfl
  m_all_lines := He.glo_ok X G (c.fact 5 (f := .glo "all_lines") rfl)
  F_counts_by := c.def_ 6 (d := dd_counts_by) rfl
  m_counts_by := He.glo_ok X G (c.fact 6 (f := .glo "counts_by") rfl)
  F_ahead_by := c.def_ 7 (d := dd_ahead_by) rfl
  m_ahead_by := He.glo_ok X G (c.fact 7 (f := .glo "ahead_by") rfl)
  F__law_begun := c.def_ 8 (d := dd__law_begun) rfl
  m__law_begun := He.glo_ok X G (c.fact 8 (f := .glo "_law_begun") rfl)
  F__law_mixed := c.def_ 9 (d := dd__law_mixed) rfl
  m__law_mixed := He.glo_ok X G (c.fact 9 (f := .glo "_law_mixed") rfl)
  F__law_tied := c.def_ 10 (d := dd__law_tied) rfl
  m__law_tied := He.glo_ok X G (c.fact 10 (f := .glo "_law_tied") rfl)
  F__law_all_lines := c.def_ 11 (d := dd__law_all_lines) rfl
  m__law_all_lines := He.glo_ok X G (c.fact 11 (f := .glo "_law_all_lines") rfl)
  F_is_below := c.def_ 12 (d := dd_is_below) rfl
  m_is_below := He.glo_ok X G (c.fact 12 (f := .glo "is_below") rfl)
  F_pairs_in := c.def_ 13 (d := dd_pairs_in) rfl
  m_pairs_in := He.glo_ok X G (c.fact 13 (f := .glo "pairs_in") rfl)
  F__law_draw := c.def_ 14 (d := dd__law_draw) rfl
  m__law_draw := He.glo_ok X G (c.fact 14 (f := .glo "_law_draw") rfl)
  F_is_count := c.def_ 15 (d := dd_is_count) rfl
  m_is_count := He.glo_ok X G (c.fact 15 (f := .glo "is_count") rfl)
  F_are_ties := c.def_ 16 (d := dd_are_ties) rfl
  m_are_ties := He.glo_ok X G (c.fact 16 (f := .glo "are_ties") rfl)
  F_is_line := c.def_ 17 (d := dd_is_line) rfl
  m_is_line := He.glo_ok X G (c.fact 17 (f := .glo "is_line") rfl)
  F_common_pairs := c.def_ 18 (d := dd_common_pairs) rfl
  m_common_pairs := He.glo_ok X G (c.fact 18 (f := .glo "common_pairs") rfl)
  F__law_pick := c.def_ 19 (d := dd__law_pick) rfl
  m__law_pick := He.glo_ok X G (c.fact 19 (f := .glo "_law_pick") rfl)
  F__law_shuffled := c.def_ 20 (d := dd__law_shuffled) rfl
  m__law_shuffled := He.glo_ok X G (c.fact 20 (f := .glo "_law_shuffled") rfl)
  F__law_some_order := c.def_ 21 (d := dd__law_some_order) rfl
  m__law_some_order := He.glo_ok X G (c.fact 21 (f := .glo "_law_some_order") rfl)
  F_is_order := c.def_ 22 (d := dd_is_order) rfl
  m_is_order := He.glo_ok X G (c.fact 22 (f := .glo "is_order") rfl)
  F_common_ties := c.def_ 23 (d := dd_common_ties) rfl
  m_common_ties := He.glo_ok X G (c.fact 23 (f := .glo "common_ties") rfl)
  F__law_any_order := c.def_ 24 (d := dd__law_any_order) rfl
  m__law_any_order := He.glo_ok X G (c.fact 24 (f := .glo "_law_any_order") rfl)
  F_need_order := c.def_ 25 (d := dd_need_order) rfl
  m_need_order := He.glo_ok X G (c.fact 25 (f := .glo "need_order") rfl)
  F_lines := c.def_ 26 (d := dd_lines) rfl
  m_lines := He.glo_ok X G (c.fact 26 (f := .glo "lines") rfl)
  F_count_lines := c.def_ 27 (d := dd_count_lines) rfl
  m_count_lines := He.glo_ok X G (c.fact 27 (f := .glo "count_lines") rfl)
  F_ahead_many := c.def_ 28 (d := dd_ahead_many) rfl
  m_ahead_many := He.glo_ok X G (c.fact 28 (f := .glo "ahead_many") rfl)
  F__law_plain := c.def_ 29 (d := dd__law_plain) rfl
  m__law_plain := He.glo_ok X G (c.fact 29 (f := .glo "_law_plain") rfl)
  F__law_is := c.def_ 30 (d := dd__law_is) rfl
  m__law_is := He.glo_ok X G (c.fact 30 (f := .glo "_law_is") rfl)
  F_law := c.def_ 31 (d := dd_law) rfl
  m_law := He.glo_ok X G (c.fact 31 (f := .glo "law") rfl)
  z_bool := He.free_ok X G (c.fact 32 (f := .free "bool") rfl)
  z_isinstance := He.free_ok X G (c.fact 33 (f := .free "isinstance") rfl)
  z_int := He.free_ok X G (c.fact 34 (f := .free "int") rfl)
  z_zip := He.free_ok X G (c.fact 35 (f := .free "zip") rfl)
  z_all := He.free_ok X G (c.fact 36 (f := .free "all") rfl)
  z_len := He.free_ok X G (c.fact 37 (f := .free "len") rfl)
  z_tuple := He.free_ok X G (c.fact 38 (f := .free "tuple") rfl)
  z_enumerate := He.free_ok X G (c.fact 39 (f := .free "enumerate") rfl)
  z_range := He.free_ok X G (c.fact 40 (f := .free "range") rfl)
  z_sorted := He.free_ok X G (c.fact 41 (f := .free "sorted") rfl)
  z_list := He.free_ok X G (c.fact 42 (f := .free "list") rfl)
  z_str := He.free_ok X G (c.fact 43 (f := .free "str") rfl)
  z_dict := He.free_ok X G (c.fact 44 (f := .free "dict") rfl)
  z_repr := He.free_ok X G (c.fact 45 (f := .free "repr") rfl)
  z_min := He.free_ok X G (c.fact 46 (f := .free "min") rfl)
  z_abs := He.free_ok X G (c.fact 47 (f := .free "abs") rfl)
  m_MOST_PLACES_orders1 := He.int_ok X G (c.fact 48 (f := .int "MOST_PLACES_orders1" 6) rfl)
  m_MOST_PLACES_lines5 := He.int_ok X G (c.fact 49 (f := .int "MOST_PLACES_lines5" 6) rfl)
  m_MOST_LINES := He.int_ok X G (c.fact 50 (f := .int "MOST_LINES" 720) rfl)
structure Gx (K : PySem.W.Frag) (sc : Addr) where
  st : Addr
  gr : Addr
  ce : Addr
  H0 : Hp
  ok : ScrAt K ⟨(famO st gr ce).W turns, H0, fun _ => none, []⟩ sc
section
variable {P : Program} {w : World} {K : PySem.W.Frag} {mg : Str → Option Value}
theorem vac_plain {f : Addr} {fd : FuncData} {W : Wd} {k : Nat} {base : Heap} : FnG P w K mg base CX0 k f fd ["value"] (liftSp ⟨P, w, K⟩ W (sp_plain 0)) :=
  ⟨fun vs H Q E ⟨_, _, _, _, _, r, ⟨_, e, _⟩, _⟩ => by rw [r.length, e]; rfl, fun A outer s H args us vs Q E _ _ _ _ ⟨_, _, _, _, _, _, ⟨_, _, h, _⟩, _⟩ => by cases h⟩
theorem law_fn (A0 : Facts K mg) : ∃ fd, (∀ (s : Shared) (v : Value), BindsTo s fd ⟨[v], []⟩ [("script", v)]) ∧ ∀ base : Heap, FnG P w K mg base CX0 12 (He.ga K "law") fd ["script"] (sp_lawG K) := by
  obtain ⟨fd_is_whole, F_is_whole⟩ := A0.F_is_whole
  obtain ⟨fd_are_rising, F_are_rising⟩ := A0.F_are_rising
  obtain ⟨fd_are_pairs, F_are_pairs⟩ := A0.F_are_pairs
  obtain ⟨fd_is_closed, F_is_closed⟩ := A0.F_is_closed
  obtain ⟨fd_pairs_of, F_pairs_of⟩ := A0.F_pairs_of
  obtain ⟨fd_all_lines, F_all_lines⟩ := A0.F_all_lines
  obtain ⟨fd_counts_by, F_counts_by⟩ := A0.F_counts_by
  obtain ⟨fd_ahead_by, F_ahead_by⟩ := A0.F_ahead_by
  obtain ⟨fd__law_begun, F__law_begun⟩ := A0.F__law_begun
  obtain ⟨fd__law_mixed, F__law_mixed⟩ := A0.F__law_mixed
  obtain ⟨fd__law_tied, F__law_tied⟩ := A0.F__law_tied
  obtain ⟨fd__law_all_lines, F__law_all_lines⟩ := A0.F__law_all_lines
  obtain ⟨fd_is_below, F_is_below⟩ := A0.F_is_below
  obtain ⟨fd_pairs_in, F_pairs_in⟩ := A0.F_pairs_in
  obtain ⟨fd__law_draw, F__law_draw⟩ := A0.F__law_draw
  obtain ⟨fd_is_count, F_is_count⟩ := A0.F_is_count
  obtain ⟨fd_are_ties, F_are_ties⟩ := A0.F_are_ties
  obtain ⟨fd_is_line, F_is_line⟩ := A0.F_is_line
  obtain ⟨fd_common_pairs, F_common_pairs⟩ := A0.F_common_pairs
  obtain ⟨fd__law_pick, F__law_pick⟩ := A0.F__law_pick
  obtain ⟨fd__law_shuffled, F__law_shuffled⟩ := A0.F__law_shuffled
  obtain ⟨fd__law_some_order, F__law_some_order⟩ := A0.F__law_some_order
  obtain ⟨fd_is_order, F_is_order⟩ := A0.F_is_order
  obtain ⟨fd_common_ties, F_common_ties⟩ := A0.F_common_ties
  obtain ⟨fd__law_any_order, F__law_any_order⟩ := A0.F__law_any_order
  obtain ⟨fd_need_order, F_need_order⟩ := A0.F_need_order
  obtain ⟨fd_lines, F_lines⟩ := A0.F_lines
  obtain ⟨fd_count_lines, F_count_lines⟩ := A0.F_count_lines
  obtain ⟨fd_ahead_many, F_ahead_many⟩ := A0.F_ahead_many
  obtain ⟨fd__law_plain, F__law_plain⟩ := A0.F__law_plain
  obtain ⟨fd__law_is, F__law_is⟩ := A0.F__law_is
  obtain ⟨fd_law, F_law⟩ := A0.F_law
  refine ⟨fd_law, fun s v => FunD.bindsA (ps := ["script"]) F_law (fun _ _ _ _ _ _ us hl => match us, hl with | [_], _ => rfl) s [v] rfl, fun base => ?_⟩
  have okm : FnG P w K mg base CX0 1 (He.ga K "_law_mixed") fd__law_mixed ["state"] sp_mixed := ok_mixed F__law_mixed A0.z_int
  have okb : FnG P w K mg base CX0 1 (He.ga K "_law_begun") fd__law_begun ["script"] (sp_begun K) := ok_begun F__law_begun A0.z_abs
  have C__law_draw : ∀ st gr ce : Addr, CalS P w K mg base (famO st gr ce) 2 "_law_draw" (He.ga K "_law_draw") fd__law_draw ["state", "room"] sp__law_draw := fun st gr ce => ⟨A0.m__law_draw, F__law_draw.kp, ok_draw st gr ce F__law_draw F__law_mixed A0.m__law_mixed F__law_mixed.kp okm A0.z_int⟩
  have C_is_whole : ∀ W : Wd, Cal P w K mg base W 1 "is_whole" (He.ga K "is_whole") fd_is_whole ["thing"] sp_is_whole := fun W => ⟨A0.m_is_whole, F_is_whole.kp, ok_is_whole W F_is_whole A0.z_bool A0.z_isinstance A0.z_int⟩
  have C_are_rising : ∀ W : Wd, Cal P w K mg base W 1 "are_rising" (He.ga K "are_rising") fd_are_rising ["things"] sp_are_rising := fun W => ⟨A0.m_are_rising, F_are_rising.kp, ok_are_rising W F_are_rising A0.z_zip A0.z_all⟩
  have C_are_pairs : ∀ W : Wd, Cal P w K mg base W 1 "are_pairs" (He.ga K "are_pairs") fd_are_pairs ["thing", "most"] sp_are_pairs := fun W => ⟨A0.m_are_pairs, F_are_pairs.kp, ok_are_pairs W F_are_pairs A0.z_len A0.z_tuple A0.z_isinstance A0.z_all⟩
  have C_is_closed : ∀ W : Wd, Cal P w K mg base W 1 "is_closed" (He.ga K "is_closed") fd_is_closed ["ties"] sp_is_closed := fun W => ⟨A0.m_is_closed, F_is_closed.kp, ok_is_closed W F_is_closed A0.z_all⟩
  have C_pairs_of : ∀ W : Wd, Cal P w K mg base W 1 "pairs_of" (He.ga K "pairs_of") fd_pairs_of ["places"] sp_pairs_of := fun W => ⟨A0.m_pairs_of, F_pairs_of.kp, ok_pairs_of W F_pairs_of A0.z_enumerate⟩
  have C_all_lines : ∀ W : Wd, Cal P w K mg base W 1 "all_lines" (He.ga K "all_lines") fd_all_lines ["order"] sp_all_lines := fun W => ⟨A0.m_all_lines, F_all_lines.kp, ok_all_lines W F_all_lines A0.z_range A0.z_all A0.z_sorted⟩
  have C_counts_by : ∀ W : Wd, Cal P w K mg base W 1 "counts_by" (He.ga K "counts_by") fd_counts_by ["order"] sp_counts_by := fun W => ⟨A0.m_counts_by, F_counts_by.kp, ok_counts_by W F_counts_by A0.z_range A0.z_all A0.z_sorted A0.z_tuple⟩
  have C_ahead_by : ∀ W : Wd, Cal P w K mg base W 1 "ahead_by" (He.ga K "ahead_by") fd_ahead_by ["some", "one", "other"] sp_ahead_by := fun W => ⟨A0.m_ahead_by, F_ahead_by.kp, ok_ahead_by W F_ahead_by A0.z_len⟩
  have C__law_tied : ∀ W : Wd, Cal P w K mg base W 1 "_law_tied" (He.ga K "_law_tied") fd__law_tied ["order", "i", "j"] sp__law_tied := fun W => ⟨A0.m__law_tied, F__law_tied.kp, ok__law_tied W F__law_tied A0.z_range A0.z_list A0.z_sorted A0.z_tuple⟩
  have C__law_all_lines : ∀ W : Wd, Cal P w K mg base W 1 "_law_all_lines" (He.ga K "_law_all_lines") fd__law_all_lines ["order"] sp__law_all_lines := fun W => ⟨A0.m__law_all_lines, F__law_all_lines.kp, ok__law_all_lines W F__law_all_lines A0.z_range A0.z_len A0.z_sorted⟩
  have C_is_below : ∀ W : Wd, Cal P w K mg base W 2 "is_below" (He.ga K "is_below") fd_is_below ["thing", "many"] sp_is_below := fun W => ⟨A0.m_is_below, F_is_below.kp, ok_is_below W F_is_below F_is_whole (C_is_whole W)⟩
  have C_pairs_in : ∀ W : Wd, Cal P w K mg base W 2 "pairs_in" (He.ga K "pairs_in") fd_pairs_in ["line"] sp_pairs_in := fun W => ⟨A0.m_pairs_in, F_pairs_in.kp, ok_pairs_in W F_pairs_in F_pairs_of (C_pairs_of W)⟩
  have C_is_count : ∀ W : Wd, Cal P w K mg base W 3 "is_count" (He.ga K "is_count") fd_is_count ["thing"] sp_is_count := fun W => ⟨A0.m_is_count, F_is_count.kp, ok_is_count W F_is_count F_is_below (C_is_below W) A0.m_MOST_PLACES_orders1⟩
  have C_are_ties : ∀ W : Wd, Cal P w K mg base W 3 "are_ties" (He.ga K "are_ties") fd_are_ties ["many", "thing", "most"] sp_are_ties := fun W => ⟨A0.m_are_ties, F_are_ties.kp, ok_are_ties W F_are_ties F_are_pairs (C_are_pairs W) F_is_below (C_is_below W) F_are_rising (C_are_rising W) A0.z_all⟩
  have C_is_line : ∀ W : Wd, Cal P w K mg base W 3 "is_line" (He.ga K "is_line") fd_is_line ["many", "thing"] sp_is_line := fun W => ⟨A0.m_is_line, F_is_line.kp, ok_is_line W F_is_line F_is_below (C_is_below W) A0.z_all A0.z_len A0.z_tuple A0.z_isinstance A0.z_sorted A0.z_range A0.z_list⟩
  have C_common_pairs : ∀ W : Wd, Cal P w K mg base W 3 "common_pairs" (He.ga K "common_pairs") fd_common_pairs ["some"] sp_common_pairs := fun W => ⟨A0.m_common_pairs, F_common_pairs.kp, ok_common_pairs W F_common_pairs F_pairs_of (C_pairs_of W) F_pairs_in (C_pairs_in W) A0.z_sorted⟩
  have C__law_pick : ∀ st gr ce : Addr, CalS P w K mg base (famO st gr ce) 3 "_law_pick" (He.ga K "_law_pick") fd__law_pick ["state", "some"] sp__law_pick := fun st gr ce => ⟨A0.m__law_pick, F__law_pick.kp, ok__law_pick (famO st gr ce) F__law_pick F__law_draw (C__law_draw st gr ce) A0.z_len⟩
  have C__law_shuffled : ∀ st gr ce : Addr, CalS P w K mg base (famO st gr ce) 3 "_law_shuffled" (He.ga K "_law_shuffled") fd__law_shuffled ["state", "some"] sp__law_shuffled := fun st gr ce => ⟨A0.m__law_shuffled, F__law_shuffled.kp, ok__law_shuffled (famO st gr ce) F__law_shuffled F__law_draw (C__law_draw st gr ce) A0.z_list A0.z_len⟩
  have C__law_some_order : ∀ st gr ce : Addr, CalS P w K mg base (famO st gr ce) 3 "_law_some_order" (He.ga K "_law_some_order") fd__law_some_order ["state", "many"] sp__law_some_order := fun st gr ce => ⟨A0.m__law_some_order, F__law_some_order.kp, ok__law_some_order (famO st gr ce) F__law_some_order F__law_draw (C__law_draw st gr ce) F__law_tied (C__law_tied ((famO st gr ce).W 0)) A0.z_range⟩
  have C_is_order : ∀ W : Wd, Cal P w K mg base W 4 "is_order" (He.ga K "is_order") fd_is_order ["thing"] sp_is_order := fun W => ⟨A0.m_is_order, F_is_order.kp, ok_is_order W F_is_order F_is_closed (C_is_closed W) F_are_ties (C_are_ties W) F_is_count (C_is_count W) A0.z_str A0.z_isinstance A0.z_len A0.z_tuple⟩
  have C_common_ties : ∀ W : Wd, Cal P w K mg base W 4 "common_ties" (He.ga K "common_ties") fd_common_ties ["many", "some"] sp_common_ties := fun W => ⟨A0.m_common_ties, F_common_ties.kp, ok_common_ties W F_common_ties F_is_whole (C_is_whole W) F_is_line (C_is_line W) F_common_pairs (C_common_pairs W) A0.z_len A0.z_list A0.z_tuple A0.z_isinstance A0.z_all A0.m_MOST_PLACES_lines5 A0.m_MOST_LINES⟩
  have C__law_any_order : ∀ st gr ce : Addr, CalS P w K mg base (famO st gr ce) 4 "_law_any_order" (He.ga K "_law_any_order") fd__law_any_order ["state"] sp__law_any_order := fun st gr ce => ⟨A0.m__law_any_order, F__law_any_order.kp, ok__law_any_order (famO st gr ce) F__law_any_order F__law_some_order (C__law_some_order st gr ce) F__law_draw (C__law_draw st gr ce)⟩
  have C_need_order : ∀ W : Wd, Cal P w K mg base W 5 "need_order" (He.ga K "need_order") fd_need_order ["order"] sp_need_order := fun W => ⟨A0.m_need_order, F_need_order.kp, ok_need_order W F_need_order F_is_order (C_is_order W)⟩
  have C_lines : ∀ W : Wd, Cal P w K mg base W 6 "lines" (He.ga K "lines") fd_lines ["order"] sp_lines := fun W => ⟨A0.m_lines, F_lines.kp, ok_lines W F_lines F_need_order (C_need_order W) F_all_lines (C_all_lines W) A0.z_tuple⟩
  have C_count_lines : ∀ W : Wd, Cal P w K mg base W 6 "count_lines" (He.ga K "count_lines") fd_count_lines ["order"] sp_count_lines := fun W => ⟨A0.m_count_lines, F_count_lines.kp, ok_count_lines W F_count_lines F_need_order (C_need_order W) F_counts_by (C_counts_by W) A0.z_range A0.z_tuple⟩
  have C_ahead_many : ∀ W : Wd, Cal P w K mg base W 6 "ahead_many" (He.ga K "ahead_many") fd_ahead_many ["order", "one", "other"] sp_ahead_many := fun W => ⟨A0.m_ahead_many, F_ahead_many.kp, ok_ahead_many W F_ahead_many F_need_order (C_need_order W) F_is_below (C_is_below W) F_ahead_by (C_ahead_by W) F_all_lines (C_all_lines W)⟩
  have R0 : ∀ W : Wd, Cal P w K mg base W 0 "_law_plain" (He.ga K "_law_plain") fd__law_plain ["value"] (sp_plain 0) := fun W => ⟨A0.m__law_plain, F__law_plain.kp, vac_plain⟩
  have R1 : ∀ W : Wd, Cal P w K mg base W 1 "_law_plain" (He.ga K "_law_plain") fd__law_plain ["value"] (sp_plain 1) := fun W => ⟨A0.m__law_plain, F__law_plain.kp, ok__law_plain W F__law_plain A0.z_tuple A0.z_list A0.z_isinstance A0.z_dict A0.z_str A0.z_int 0 (by decide) (R0 W) ar1 (read_plain 0)⟩
  have R2 : ∀ W : Wd, Cal P w K mg base W 2 "_law_plain" (He.ga K "_law_plain") fd__law_plain ["value"] (sp_plain 2) := fun W => ⟨A0.m__law_plain, F__law_plain.kp, ok__law_plain W F__law_plain A0.z_tuple A0.z_list A0.z_isinstance A0.z_dict A0.z_str A0.z_int 1 (by decide) (R1 W) ar1 (read_plain 1)⟩
  have R3 : ∀ W : Wd, Cal P w K mg base W 3 "_law_plain" (He.ga K "_law_plain") fd__law_plain ["value"] (sp_plain 3) := fun W => ⟨A0.m__law_plain, F__law_plain.kp, ok__law_plain W F__law_plain A0.z_tuple A0.z_list A0.z_isinstance A0.z_dict A0.z_str A0.z_int 2 (by decide) (R2 W) ar1 (read_plain 2)⟩
  have R4 : ∀ W : Wd, Cal P w K mg base W 4 "_law_plain" (He.ga K "_law_plain") fd__law_plain ["value"] (sp_plain 4) := fun W => ⟨A0.m__law_plain, F__law_plain.kp, ok__law_plain W F__law_plain A0.z_tuple A0.z_list A0.z_isinstance A0.z_dict A0.z_str A0.z_int 3 (by decide) (R3 W) ar1 (read_plain 3)⟩
  have R5 : ∀ W : Wd, Cal P w K mg base W 5 "_law_plain" (He.ga K "_law_plain") fd__law_plain ["value"] (sp_plain 5) := fun W => ⟨A0.m__law_plain, F__law_plain.kp, ok__law_plain W F__law_plain A0.z_tuple A0.z_list A0.z_isinstance A0.z_dict A0.z_str A0.z_int 4 (by decide) (R4 W) ar1 (read_plain 4)⟩
  have R6 : ∀ W : Wd, Cal P w K mg base W 6 "_law_plain" (He.ga K "_law_plain") fd__law_plain ["value"] (sp_plain 6) := fun W => ⟨A0.m__law_plain, F__law_plain.kp, ok__law_plain W F__law_plain A0.z_tuple A0.z_list A0.z_isinstance A0.z_dict A0.z_str A0.z_int 5 (by decide) (R5 W) ar1 (read_plain 5)⟩
  have R7 : ∀ W : Wd, Cal P w K mg base W 7 "_law_plain" (He.ga K "_law_plain") fd__law_plain ["value"] (sp_plain 7) := fun W => ⟨A0.m__law_plain, F__law_plain.kp, ok__law_plain W F__law_plain A0.z_tuple A0.z_list A0.z_isinstance A0.z_dict A0.z_str A0.z_int 6 (by decide) (R6 W) ar1 (read_plain 6)⟩
  have R8 : ∀ W : Wd, Cal P w K mg base W 8 "_law_plain" (He.ga K "_law_plain") fd__law_plain ["value"] (sp_plain 8) := fun W => ⟨A0.m__law_plain, F__law_plain.kp, ok__law_plain W F__law_plain A0.z_tuple A0.z_list A0.z_isinstance A0.z_dict A0.z_str A0.z_int 7 (by decide) (R7 W) ar1 (read_plain 7)⟩
  have R9 : ∀ W : Wd, Cal P w K mg base W 9 "_law_plain" (He.ga K "_law_plain") fd__law_plain ["value"] (sp_plain 9) := fun W => ⟨A0.m__law_plain, F__law_plain.kp, ok__law_plain W F__law_plain A0.z_tuple A0.z_list A0.z_isinstance A0.z_dict A0.z_str A0.z_int 8 (by decide) (R8 W) ar1 (read_plain 8)⟩
  have C__law_plain : ∀ W : Wd, Cal P w K mg base W 10 "_law_plain" (He.ga K "_law_plain") fd__law_plain ["value"] sp__law_plain := fun W => ⟨A0.m__law_plain, F__law_plain.kp, (R9 W).at (by decide)⟩
  have C__law_is : ∀ W : Wd, Cal P w K mg base W 11 "_law_is" (He.ga K "_law_is") fd__law_is ["found", "due"] sp__law_is := fun W => ⟨A0.m__law_is, F__law_is.kp, ok__law_is W F__law_is F__law_plain (C__law_plain W) A0.z_repr⟩
  refine okH F_law sc_law (fun vs H Q E ⟨_, _, e, _⟩ => by rw [e]; rfl) fun cdv A outer s H vs Q E hr ⟨sc, ns, e, hS, hl, q⟩ => ?_
  subst e
  refine ⟨_, pss_cons (ps_set (i := 1) sc_law.nd rfl (by first | exact .inl rfl | exact .inr rfl) (pe_callG (okb.mono (by decide)) hr (by rfl) A0.m__law_begun F__law_begun.kp (b__law_begun F__law_begun) .nil pass0 (pa_cons (pv 0) pa_nil) (by decide) (by rfl) (by rfl)))
    (PSs_ex fun x : Gx K sc => ok_law (famO x.st x.gr x.ce) (Nat.le_refl turns) F__law_is (C__law_is ((famO x.st x.gr x.ce).W 0)) F_ahead_many (C_ahead_many ((famO x.st x.gr x.ce).W 0)) F_count_lines (C_count_lines ((famO x.st x.gr x.ce).W 0)) F_lines (C_lines ((famO x.st x.gr x.ce).W 0)) F_common_ties (C_common_ties ((famO x.st x.gr x.ce).W 0)) F__law_any_order (C__law_any_order x.st x.gr x.ce) F__law_all_lines (C__law_all_lines ((famO x.st x.gr x.ce).W 0)) F__law_shuffled (C__law_shuffled x.st x.gr x.ce) F__law_draw (C__law_draw x.st x.gr x.ce) F__law_pick (C__law_pick x.st x.gr x.ce) A0.z_len A0.z_min A0.z_range A0.z_tuple A0.z_list cdv A outer s H (fun _ => none) x.H0 E hr x.ok), ?_⟩
  refine ⟨.ref sc, rfl, sc, ns, rfl, hS, hl, fun H' st gr ce gs cs sm n1 n2 n3 h1 h2 h3 => ?_⟩
  have own : ∀ a, ((famO st gr ce).W turns).own a = true → H a = none := fun a ha => by
    have ha2 : ownO st gr ce a = true := ha
    simp only [ownO, Bool.or_eq_true, beq_iff_eq] at ha2
    rcases ha2 with (z | z) | z
    · rw [z]; exact n1
    · rw [z]; exact n2
    · rw [z]; exact n3
  have ok0 : (famO st gr ce).ok 0 H' := ⟨gs, cs, 0, 0, h1, h2, h3, Nat.le_refl 0⟩
  refine ⟨⟨st, gr, ce, H', scrAt_of hS hl sm own⟩, _, _, { nx := fun _ => T.non = .bl true, rt := fun t => t = .bl true }, rel_law (c := capL) ok0 (by decide) 16, read_law st sc capL (by decide), ?_, ?_, fun _ _ _ _ _ _ z => z.elim, fun _ _ _ _ _ _ z => z.elim⟩
  · exact fun _ _ _ _ _ _ z => by cases z
  · intro v σ' H2 ρ' F2 t R s2 rv et
    subst et
    cases rv
    exact q H2
end
end TL
set_option Elab.async false
set_option linter.all false
set_option maxRecDepth 100000
set_option maxHeartbeats 0
/-! ### the end -/
namespace TL
open PySem PySem.Spec PyProof.Rows L2
def loose0 : List PySem.Str := ["OrderError", "NoNumber", "NoPlace", "NoOrder", "NoLines", "is_whole", "is_below", "are_rising", "are_pairs", "MOST_PLACES_orders1", "MOST_TIES", "is_count", "is_closed", "are_ties", "is_order", "need_order", "pairs_of", "MOST_PLACES_lines5", "MOST_LINES", "all_lines"]
def loose1 : List PySem.Str := ["lines", "counts_by", "count_lines", "ahead_by", "ahead_many", "is_line", "pairs_in", "common_pairs", "common_ties", "_law_begun", "_law_mixed", "_law_draw", "_law_pick", "_law_shuffled", "_law_plain", "_law_is", "_law_tied", "_law_some_order", "_law_any_order", "_law_all_lines"]
def looseA : List PySem.Str := loose0 ++ loose1
abbrev RowA : PySem.W.OpenRow := PySem.W.OpenLaw.row PySem.Challenge.rw_orderbook_k68_whole_lines_of_orders
abbrev hkA : PySem.W.Hook := He.hookD 4 faAll fnAll
def obA (s : PySem.W.SharedT) : He.AlD := He.obsDG 4 faAll fnAll (HandSHeadRun.getT s)
theorem obA_eq (s : PySem.W.SharedT) : obA s = hkA.obs s.abs := He.obsDG_eq (HandSHeadRun.getT_eq s)
theorem runA (w : World) : HandSHeadRun.RunEq RowA (PySem.W.view RowA.prog [46]) hkA obA 4000 looseA w := by
  intro os
  kernel_rfl
end TL
open PySem PySem.W PySem.Calls PyProof.Rows
set_option maxHeartbeats 0 in
theorem PySem.Challenge.cw_orderbook_k68_whole_lines_of_orders_holds : PySem.Challenge.rw_orderbook_k68_whole_lines_of_orders.Holds := by
  w_on; o_law
  refine HandSHeadRun.head_any (r := OpenLaw.row PySem.Challenge.rw_orderbook_k68_whole_lines_of_orders) (q := view (OpenLaw.row PySem.Challenge.rw_orderbook_k68_whole_lines_of_orders).prog [46]) (H := TL.hkA) (ob := TL.obA) (M := 4000) (loose := TL.looseA) (d := HandSHeadRun.topDef (OpenLaw.row PySem.Challenge.rw_orderbook_k68_whole_lines_of_orders).prog 46) (kwd := []) TL.obA_eq
    (by kernel_rfl) (fun s => by kernel_rfl) TL.runA (by kernel_rfl) (by kernel_rfl) (by kernel_rfl) (by rfl) (by first | assumption | decide +kernel) (by decide +kernel) ⟨rfl, rfl, rfl, rfl, rfl, by decide +kernel⟩ ?hw ?hc
  case hw => w_witness2
  case hc =>
    refine TL.walk_ofG (l := PySem.Challenge.rw_orderbook_k68_whole_lines_of_orders) (n := 63) (k := 12) (x := "script") rfl (by decide) (by kernel_rfl) ⟨⟨rfl, by decide, by decide⟩, rfl⟩ ?F
    intro w mg fa h Y G hm0
    obtain ⟨K, KX, c⟩ := Y
    have hm : mg ("law" : PySem.Str) = some (.ref fa) := by
      have e : (HandSHeadRun.topDef (OpenLaw.row PySem.Challenge.rw_orderbook_k68_whole_lines_of_orders).prog 46).name = ("law" : PySem.Str) := by kernel_rfl
      rw [← e]
      exact hm0
    have A0 := TL.facts_of KX G c
    have e2 := hm.symm.trans A0.m_law
    cases e2
    obtain ⟨fd, hb, hF⟩ := TL.law_fn (P := (PySem.Challenge.rw_orderbook_k68_whole_lines_of_orders).prog) (w := w) A0
    exact ⟨K, fd, TL.sp_lawG K, KX, hb, TL.lawG_says, fun base _ _ => hF base⟩
