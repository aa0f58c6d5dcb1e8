import PyProof.Rows.All
import Wide.All
import OpenK.AllK
import Wide.FinOn
import KE.KStateDown
import HandS.ForMost
import HandS.Defaults
import HandS.Property
import HandS.IsInst
import HandS.Star
import HandS.Evl
import HandS.Steps
import HandS.More
import HandS.Head0
import HandS.Head1
import HandS.Head2
import HandS.HeadEnd
import HandS.HeadHook1
import HandS.HeadHook2
import HandS.HeadHook3
import HandS.HeadHook4
import HandS.HeadNt
import KE.KCallOwn
import HandS.Text
import HandS.ExcInit
import HandS.ExcField
import HandS.ExcIs
import HandS.ExcSuper
import KE.KExcSuper
import KE.KSuper
import HandS.ExcOwn
import KE.KExcIs
import HandS.Style
import HandS.SortInts
import HandS.ClsMeth
import HandS.SetFor
import HandS.Deep
import HandS.TryMany
import HandS.Iter
import PySem.Challenge.RW_waitworks_k04_texts_of_rows
set_option Elab.async false
set_option linter.all false
set_option maxRecDepth 100000
set_option maxHeartbeats 4000000
namespace WW
open PySem PySem.Spec PyProof.Rows L2

/-! ### defs of the module by name -/
structure FnAt (P : Program) (w : World) (K : PySem.W.Frag) (mg : Str → Option Value) (base : Heap) (CX : CXT) (k : Nat) (x : Str) (ps : List Str) (sp : Sp) : Prop where
  ex : ∃ fd, FnOk P w K mg base CX k (He.ga K x) fd ps sp ∧ Binds K fd ps []
  kp : PySem.W.keepIn K (.ref (He.ga K x)) = true
  g : mg x = some (.ref (He.ga K x))
section
variable {X : Cx} {CX : CXT} {k j : Nat} {x : Str} {ps : List Str} {sp : Sp} {e : Expr} {es : List Expr} {t : TA} {p pos : Pos}
theorem pe_fn (F : FnAt X.prog X.w X.K X.mg X.base CX0 k x ps sp) (hr : Room j X.A) (hg : Gl X x) (ha : PA X (e :: es) t) (hk : k ≤ j := by decide)
    (hdb : (x == ("__debug__" : Str)) = false := by decide) (he : starEach (e :: es) X.env = (false, eval e X.env) :: starEach es X.env := by rfl) (hpl : (backTo pos (starEach es X.env)).any (·.1) = false := by rfl) :
    PE X (.Call (.Name x p) (e :: es) [] pos) (tCall sp [] E0 t) := by
  obtain ⟨fd, F1, b⟩ := F.ex
  exact pe_call F1 (hr.mono hk) hg F.g F.kp b .nil pass0 ha hdb he hpl
theorem pe_fn0 (F : FnAt X.prog X.w X.K X.mg X.base CX0 k x ps sp) (hr : Room j X.A) (hg : Gl X x) (hk : k ≤ j := by decide)
    (hdb : (x == ("__debug__" : Str)) = false := by decide) :
    PE X (.Call (.Name x p) [] [] pos) (tCall sp [] E0 tNil) := by
  obtain ⟨fd, F1, b⟩ := F.ex
  exact pe_call0 F1 (hr.mono hk) hg F.g F.kp b .nil pass0 hdb
end
/-! ### lists or tuples -/
def Sq (K : PySem.W.Frag) (H : Hp) (a : Addr) (xs : List V) : Prop := SqL K H a xs ∨ SqT K H a xs
theorem Sq.ex {K : PySem.W.Frag} {H H' : Hp} {a : Addr} {xs : List V} (e : Same H H') (h : Sq K H a xs) : Sq K H' a xs := by
  rcases h with h | h
  · exact .inl (Evl.ex_l e h)
  · exact .inr (Evl.ex_t e h)
theorem Sq.l {K : PySem.W.Frag} {H : Hp} {a : Addr} {xs : List V} (h : H a = some (.lst xs)) : Sq K H a xs := .inl (Evl.sq_of h)
theorem Sq.t {K : PySem.W.Frag} {H : Hp} {a : Addr} {xs : List V} (h : H a = some (.tup xs)) : Sq K H a xs := .inr (Evl.st_of h)
def rIxQ (K : PySem.W.Frag) : R2 := fun x y H Q => ∃ p xs i v, x = .ref p ∧ y = .int i ∧ Sq K H p xs ∧ atI xs i = some v ∧ Q v H
section
variable {X : Cx}
theorem ix_sq : IxR X (rIxQ X.K) := by
  intro value slice pins s σ H x y v u Q I rx ry h hs
  obtain ⟨p, xs, i, z, ex, ey, hq | hq, he, q⟩ := h
  · exact ix_list value slice pins s σ H x y v u Q I rx ry ⟨p, xs, i, z, ex, ey, hq, he, q⟩ hs
  · exact ix_tup value slice pins s σ H x y v u Q I rx ry ⟨p, xs, i, z, ex, ey, hq, he, q⟩ hs
/-- for .. in a list or a tuple -/
def iSeq (K : PySem.W.Frag) (tl : TE) : TI := fun σ H R => tl σ H fun x H1 => ∃ a, x = .ref a ∧ (((∃ xs, SqL K H1 a xs) ∧ R (Itl K a) H1) ∨ ((∃ xs, SqT K H1 a xs) ∧ R (Itt K a) H1))
theorem pi_seq {tg l : Expr} {tl : TE} (hl : PE X l tl) : PI X tg l (iSeq X.K tl) := by
  refine ⟨fun pins s0 σ H R I0 h0 => thn (hl.run pins s0 σ H _ I0 h0) fun v s ⟨x, Hx, I, rx, a, ex, qa⟩ => ?_⟩
  subst ex
  cases rx
  have sz : ∀ b ∈ [s.heap.objs.size], FpOk X pins Hx b := fun b hb => by
    rw [List.mem_singleton.mp hb]
    exact I.fpOk (Nat.le_refl _) (I.hok.fresh (Nat.le_refl _))
  rcases qa with ⟨⟨xs, hq⟩, qa⟩ | ⟨⟨xs, hq⟩, qa⟩
  · obtain ⟨its, _, pl, _⟩ := I.list hq
    exact wpAny_pyIter_list pl.isList ⟨_, [s.heap.objs.size], _, _, Hx, rfl, I.kept (t' := s.toks) fun b o eo => Heap.get?_push_of_some _ eo, turn_list a _, ⟨_, Heap.get?_push_size _ rfl, rfl, rfl⟩, sz, qa⟩
  · obtain ⟨its, _, pl, _⟩ := I.tuple hq
    exact wpAny_pyIter_tuple (show s.heap.IsTuple a its.toArray from pl) ⟨_, [s.heap.objs.size], _, _, Hx, rfl, I.kept (t' := s.toks) fun b o eo => Heap.get?_push_of_some _ eo, turn_tuple a _, ⟨_, Heap.get?_push_size _ rfl, rfl, rfl⟩, sz, qa⟩
end
theorem at_toNat {α : Type} {xs : List α} {d : Int} (h0 : 0 ≤ d) (h : d.toNat < xs.length) : atI xs d = some xs[d.toNat] := by
  have e : d = (d.toNat : Int) := by omega
  have q : atI xs (d.toNat : Int) = some xs[d.toNat] := atI_nat (List.getElem?_eq_getElem h)
  rw [← e] at q
  exact q
/-! ### a tuple's whole slice is the tuple -/
section
variable {prog : Program} {w : World} {A : Around} {E : Value → Shared → Prop} {s : Shared}
theorem tup_all {a c : Addr} {its : Array Value} {u1 u2 : Value} {lo hi : Option Int} {R : Value → Shared → Prop} (hT : IsTup s.heap a its) (hc : s.heap.IsSliceOf c u1 u2 .none) (p1 : IsPart u1 lo) (p2 : IsPart u2 hi)
    (hall : HT.sIx its.size 0 lo = 0 ∧ HT.sIx its.size its.size hi = its.size) (q : R (.ref a) s) : wpAny (model prog w) A (getItem (.ref a) (.ref c)) R E s := by
  obtain ⟨oc, e1, e2, e3⟩ := id hc
  have tc : s.TypeIs (.ref c) "slice" := ⟨oc, e1, e2⟩
  unfold getItem
  try with_reducible refine wpAny_holding ?_
  first | (refine wpAny_bind (wpAny_pure ?_)) | skip
  refine wpAny_bind (wpAny_sequenceKey hT.typeIs (by decide) ?_)
  refine wpAny_bind (wpAny_callSpecial?_slot (name := Str.ofString "__getitem__") hT.typeIs slot_tuple_getitem
    (wpAny_call_entry slot_tuple_getitem hT.typeIs PyProof.Rows.entry_tuple_getitem ?_ (PyProof.Rows.args_tuple_getitem _ _)))
  show wpAny _ _ (Builtin.Tuple.tupleItemsOf (.ref a) >>= _) _ _ s
  refine wpAny_bind (tupleItemsOf_ hT (wpAny_bind (wpAny_typeOf tc ?_)))
  rw [if_pos (by decide)]
  refine wpAny_bind (HT.sliceApplied_gen hc p1 p2 ?_)
  have hy : (((HT.sIx its.size 0 lo : Nat) : Int) == 0 && (1 : Int) == 1 && (HT.sIx its.size its.size hi - HT.sIx its.size 0 lo) == its.size) = true := by
    rw [hall.1, hall.2]
    simp
  show wpAny _ _ (if (((HT.sIx its.size 0 lo : Nat) : Int) == 0 && (1 : Int) == 1 && (HT.sIx its.size its.size hi - HT.sIx its.size 0 lo) == its.size) = true then _ else _) _ _ s
  rw [if_pos hy]
  unfold Builtin.Tuple.tupleIsExact
  refine wpAny_bind (wpAny_bind (wpAny_typeOf hT.typeIs (wpAny_pure ?_)))
  rw [if_pos (by decide)]
  refine wpAny_bind (wpAny_rule ?_)
  exact wpAny_pure ⟨_, rfl, wpAny_pure q⟩
end
/-! ### rules with the written part named -/
def rSlW (K : PySem.W.Frag) : V → Option Int → Option Int → Hp → VK → Prop := fun x lo hi H Q => ∃ a xs, x = .ref a ∧ SqT K H a xs ∧
  (HT.sIx xs.length 0 lo = 0 ∧ HT.sIx xs.length xs.length hi = xs.length) ∧ Q (.ref a) H
def rSlQ (K : PySem.W.Frag) : V → Option Int → Option Int → Hp → VK → Prop := fun x lo hi H Q => rSlL K x lo hi H Q ∨ rSlT K x lo hi H Q ∨ rSlW K x lo hi H Q
def rLenQ (K : PySem.W.Frag) : List V → Hp → VK → Prop := fun xs H Q => ∃ p ys, xs = [.ref p] ∧ Sq K H p ys ∧ Q (.int ys.length) H
def rListQ (K : PySem.W.Frag) : List V → Hp → VK → Prop := fun xs H Q => ∃ p ys, xs = [.ref p] ∧ Sq K H p ys ∧ ∀ l, H l = none → Q (.ref l) (upd H l (.lst ys))
inductive rTupQ (K : PySem.W.Frag) (xs : List V) (H : Hp) (Q : VK) : Prop
  | mk (h : ∃ p ys, xs = [.ref p] ∧ ((SqL K H p ys ∧ ∀ l, H l = none → Q (.ref l) (upd H l (.tup ys))) ∨ (SqT K H p ys ∧ Q (.ref p) H))) : rTupQ K xs H Q
section
variable {X : Cx}
theorem sl_whole : SlR X (rSlW X.K) := by
  intro pins s σ H x v vl vu lo hi sl Q I rx hs pl pu h
  obtain ⟨a, xs, rfl, hx, hw, q⟩ := h
  cases rx
  obtain ⟨its, r, hT, hz⟩ := I.tuple hx
  have hn : its.toArray.size = xs.length := by rw [List.size_toArray]; exact r.length.symm
  refine ⟨"tuple", _, slot_tuple_getitem.lookup, hT.typeIs, ?_⟩
  exact tup_all hT hs pl pu (by rw [hn]; exact hw) ⟨.ref a, H, I, rfl, q⟩
variable (K : PySem.W.Frag)
theorem ix_sqK (h : X.K = K := by rfl) : IxR X (rIxQ K) := by
  subst h
  exact ix_sq
theorem sl_sqK (h : X.K = K := by rfl) : SlR X (rSlQ K) := by
  subst h
  exact sl_list.or (sl_tup.or sl_whole)
theorem pi_seqK {tg l : Expr} {tl : TE} (hl : PE X l tl) (h : X.K = K := by rfl) : PI X tg l (iSeq K tl) := by
  subst h
  exact pi_seq hl
theorem call_lenK (h : X.K = K := by rfl) : CallR X (.builtin "len") (rLenQ K) := by
  subst h
  exact call_len_seq
theorem call_listK (h : X.K = K := by rfl) : CallR X (.type "list") (rListQ K) := by
  subst h
  exact call_list_of
theorem call_tupleK (h : X.K = K := by rfl) : CallR X (.type "tuple") (rTupQ K) := by
  subst h
  intro pins s σ H xs us Q I r ⟨q⟩
  exact call_tuple_of pins s σ H xs us Q I r q
theorem call_isiK1 (h : X.K = K := by rfl) : CallR X (.builtin "isinstance") (rIsi K) := by
  subst h
  exact call_isi
theorem call_isiTK (h : X.K = K := by rfl) : CallR X (.builtin "isinstance") (rIsiT K) := by
  subst h
  exact call_isiT
theorem cr_anyK (hc : X.calm = true := by rfl) (h : X.K = K := by rfl) : CallR X (.builtin "any") (rAny K) := by
  subst h
  exact cr_any hc
theorem cr_allK (hc : X.calm = true := by rfl) (h : X.K = K := by rfl) : CallR X (.builtin "all") (rAll K) := by
  subst h
  exact cr_all hc
theorem cr_maxK (hc : X.calm = true := by rfl) (h : X.K = K := by rfl) : CallR X (.builtin "max") (rMax K) := by
  subst h
  exact cr_max hc
theorem pa_starK {e : Expr} {es : List Expr} {p : Pos} {te : TE} {t : TA} (he : PE X e te) (hr : PA X es t) (h : X.K = K := by rfl) (hs : starEach (.Starred e p :: es) X.env = (true, eval e X.env) :: starEach es X.env := by rfl) : PA X (.Starred e p :: es) (StX.tStar K te t) := by
  subst h
  exact StX.pa_star he hr hs
theorem pe_fldK {e : Expr} {f : Str} {pos : Pos} {ta : TE} (he : PE X e ta) (hb : attributeBase e f X.env (eval e X.env) = eval e X.env) (h : X.K = K := by rfl) : PE X (.Attribute e f pos) (tFld K ta f) := by
  subst h
  exact pe_fld he hb
end
/-- o.f = .., as a target -/
def gFld (K : PySem.W.Frag) (ta : TE) (f : Str) : TG := fun v σ H Q => ta σ H fun x H1 => ∃ a C dx fs, x = .ref a ∧ H1 a = some (.ins C dx fs) ∧ Cls K C ∧ NoAttr K C f ∧ fs.length < 1000 ∧ Q σ (upd H1 a (.ins C dx (putF f v fs)))
theorem pg_fld {X : Cx} (K : PySem.W.Frag) {o : Expr} {f : Str} {pos : Pos} {ta : TE} (ho : PE X o ta) (hK : X.K = K := by rfl) : PG X (.Attribute o f pos) (gFld K ta f) := by
  subst hK
  refine ⟨fun pins s σ H v u Q I r h => ?_⟩
  rw [assign_Attribute]
  refine wpAny_bind (wpAny_holding (thn (ho.run pins s σ H _ I h) fun ov s1 ⟨x, H1, I1, r1, a, C, dx, fs, ex, ea, c, n, l, q⟩ => ?_))
  subst ex
  cases r1
  refine wpAny_bind (wpAny_standAt (wpAny_bind (wpAny_holding (setattr_ok I1 ea c n l r fun s2 I2 => ?_))))
  exact wpAny_release ⟨σ, _, I2, q⟩
theorem pg_tupK {X : Cx} (K : PySem.W.Frag) {es : List Expr} {k : Nat} {t : TGs} {n : Nat} {pos : Pos} (hc : X.calm = true) (h : PGs X es t)
    (hn : (assignEach es X.env).length = n := by rfl) (hst : (assignEach es X.env).findIdx? (·.1) = none := by rfl) (hK : X.K = K := by rfl) : PG X (.Tuple es k pos) (gTup K n t) := by
  subst hK
  exact pg_tup hc h hn hst
/-! ### making an object -/
structure MkAt (P : Program) (w : World) (K : PySem.W.Frag) (mg : Str → Option Value) (base : Heap) (CX : CXT) (k : Nat) (x : Str) (ps : List Str) (sp : Sp) (dvs : List V) : Prop where
  ex : ∃ f fd ds, Mk K (He.ga K x) f ∧ FnOk P w K mg base CX k f fd ps sp ∧ Vals dvs ds ∧ Binds K fd ps ds
  g : mg x = some (.ref (He.ga K x))
section
variable {X : Cx} {CX : CXT} {k j : Nat} {x : Str} {ps : List Str} {sp : Sp} {e : Expr} {es : List Expr} {t : TA} {p pos : Pos} {dvs : List V}
theorem pe_mkr (F : MkAt X.prog X.w X.K X.mg X.base CX0 k x ps sp dvs) (hr : Room j X.A) (hg : Gl X x) (ha : PA X (e :: es) t) (hk : k + 1 ≤ j := by decide)
    (hdb : (x == ("__debug__" : Str)) = false := by decide) (he : starEach (e :: es) X.env = (false, eval e X.env) :: starEach es X.env := by rfl) (hpl : (backTo pos (starEach es X.env)).any (·.1) = false := by rfl) :
    PE X (.Call (.Name x p) (e :: es) [] pos) (tMake (He.ga X.K x) sp dvs E0 t) := by
  obtain ⟨f, fd, ds, M, F1, v, b⟩ := F.ex
  exact pe_make M F1 (hr.mono hk) hg F.g b v pass0 ha hdb he hpl
end
/-! ### methods, properties -/
structure MthAt (P : Program) (w : World) (K : PySem.W.Frag) (mg : Str → Option Value) (base : Heap) (CX : CXT) (k : Nat) (C : Addr) (m : Str) (ps : List Str) (sp : Sp) : Prop where
  ex : ∃ f fd, Meth K C m f ∧ FnOk P w K mg base CX k f fd ps sp ∧ Binds K fd ps []
structure PrpAt (P : Program) (w : World) (K : PySem.W.Frag) (mg : Str → Option Value) (base : Heap) (CX : CXT) (k : Nat) (C : Addr) (m : Str) (ps : List Str) (sp : Sp) : Prop where
  ex : ∃ pr f fd, PropOf K C m pr f ∧ FnOk P w K mg base CX k f fd ps sp ∧ Binds K fd ps []
section
variable {X : Cx} {CX : CXT} {k j : Nat} {C : Addr} {m : Str} {ps : List Str} {sp : Sp} {o e : Expr} {es : List Expr} {ta : TE} {t : TA} {apos pos : Pos}
theorem pe_mth {pl : Sem Bool} (c : Cls X.K C) (F : MthAt X.prog X.w X.K X.mg X.base CX0 k C m ps sp) (hr : Room j X.A) (ho : PE X o ta) (ha : PA X (e :: es) t) (hk : k ≤ j := by decide)
    (hst : starEach (e :: es) X.env = (false, eval e X.env) :: starEach es X.env := by rfl) (hpl : (backTo pos (starEach es X.env)).any (·.1) = false := by rfl)
    (ht : eval (.Call (.Attribute o m apos) (e :: es) [] pos) X.env = (do let ov ← eval o X.env; standAt apos.atName; let (f, first) ← holding [ov] (getMethod ov m pl); callWith pos f first (backTo pos (starEach (e :: es) X.env)) (backToKw pos (keywordEach [] X.env))) := by rfl) : PE X (.Call (.Attribute o m apos) (e :: es) [] pos) (tMeth C m sp [] E0 ta t) := by
  obtain ⟨f, fd, M, F1, b⟩ := F.ex
  exact pe_meth ho c M F1 (hr.mono hk) b .nil pass0 ha hst hpl ht
theorem pe_mth0 {pl : Sem Bool} (c : Cls X.K C) (F : MthAt X.prog X.w X.K X.mg X.base CX0 k C m ps sp) (hr : Room j X.A) (ho : PE X o ta) (hk : k ≤ j := by decide)
    (ht : eval (.Call (.Attribute o m apos) [] [] pos) X.env = (do let ov ← eval o X.env; standAt apos.atName; let (f, first) ← holding [ov] (getMethod ov m pl); callWith pos f first (backTo pos (starEach [] X.env)) (backToKw pos (keywordEach [] X.env))) := by rfl) : PE X (.Call (.Attribute o m apos) [] [] pos) (tMeth C m sp [] E0 ta tNil) := by
  obtain ⟨f, fd, M, F1, b⟩ := F.ex
  exact pe_meth0 ho c M F1 (hr.mono hk) b .nil pass0 ht
theorem pe_prp (c : Cls X.K C) (F : PrpAt X.prog X.w X.K X.mg X.base CX0 k C m ps sp) (hr : Room j X.A) (ho : PE X o ta) (hk : k + 1 ≤ j := by decide)
    (hab : attributeBase o m X.env (eval o X.env) = eval o X.env := by rfl) : PE X (.Attribute o m pos) (tProp C sp [] E0 ta) := by
  obtain ⟨pr, f, fd, M, F1, b⟩ := F.ex
  exact pe_prop ho c M F1 (hr.mono hk) b .nil pass0 hab
theorem op_neDK (K : PySem.W.Frag) (hr : Room j X.A) (h : X.K = K := by rfl) : OpR X (compareOp .NotEq) (rNeD K) := by
  subst h
  exact op_neD (by have := hr.un; omega)
theorem op_eqDK (K : PySem.W.Frag) (hr : Room j X.A) (h : X.K = K := by rfl) : OpR X (compareOp .Eq) (rEqD K) := by
  subst h
  exact op_eqD (by have := hr.un; omega)
/-- repr of an integer, of nothing -/
inductive rRepr (xs : List V) (H : Hp) (Q : VK) : Prop
  | int (i : Int) (h : xs = [.int i]) (hz : i.natAbs.log2 < 1920) (q : Q (.str (toString i)) H) : rRepr xs H Q
  | non (h : xs = [.non]) (q : Q (.str "None") H) : rRepr xs H Q
theorem call_repr : CallR X (.builtin "repr") rRepr := by
  intro pins s σ H xs us Q I r h
  cases h with
  | int i h hz q =>
    subst h
    obtain ⟨u, rfl, t, rfl⟩ := vals1 r
    exact PySem.P.repr_of_int hz ⟨.str _, H, I.tok _, ⟨_, rfl⟩, q⟩
  | non h q =>
    subst h
    obtain ⟨u, rfl, rfl⟩ := vals1 r
    exact PySem.P.repr_of_none ⟨.str _, H, I.tok _, ⟨_, rfl⟩, q⟩
end
/-- a slice of a list or a tuple: some sequence of these items -/
theorem slq {K : PySem.W.Frag} {H : Hp} {a : Addr} {xs : List V} {lo hi : Option Int} {Q : VK} (h : Sq K H a xs) (k : ∀ p H', Same H H' → Sq K H' p (cutV xs lo hi) → Q (.ref p) H') : rSlQ K (.ref a) lo hi H Q := by
  have new : ∀ {o : HO} {p : Addr}, H p = none → Same H (upd H p o) := fun hp b u hb => (upd_ne (ne_of_none hb hp)).trans hb
  rcases h with h | h
  · exact .inl ⟨a, xs, rfl, h, fun p hp => k p _ (new hp) (.l upd_same)⟩
  · by_cases hw : HT.sIx xs.length 0 lo = 0 ∧ HT.sIx xs.length xs.length hi = xs.length
    · refine .inr (.inr ⟨a, xs, rfl, h, hw, k a H (Same.refl H) ?_⟩)
      have e : cutV xs lo hi = xs := by
        unfold cutV
        rw [hw.1, hw.2]
        simp
      rw [e]
      exact .inr h
    · exact .inr (.inl ⟨a, xs, rfl, h, hw, fun p hp => k p _ (new hp) (.t upd_same)⟩)
/-! ### the box of draws -/
def bx (x y z : Int) : HO := .lst [.int x, .int y, .int z]
def Box (H : Hp) (b : Addr) : Prop := ∃ x y z : Int, H b = some (bx x y z)
/-- take(box, many): a number below many; the box is another one -/
def spTake : Sp := fun vs H Q _ => ∃ (b : Addr) (m : Int), vs = [.ref b, .int m] ∧ Box H b ∧ 0 < m ∧ m < 1073741824 ∧
  ∀ x y z d : Int, 0 ≤ d → d < m → Q (.int d) (upd H b (bx x y z))
/-- pick(box, some) -/
def spPick (K : PySem.W.Frag) : Sp := fun vs H Q _ => ∃ (b l : Addr) (xs : List V), vs = [.ref b, .ref l] ∧ Box H b ∧ Sq K H l xs ∧ l ≠ b ∧ 0 < xs.length ∧ xs.length < 1000 ∧
  ∀ (x y z : Int) (v : V), v ∈ xs → Q v (upd H b (bx x y z))
theorem Sq.upd {K : PySem.W.Frag} {H : Hp} {a b : Addr} {o : HO} {xs : List V} (hn : a ≠ b) (h : Sq K H a xs) : Sq K (upd H b o) a xs := by
  rcases h with h | h
  · rcases h with h | h
    · refine .inl (.inl ?_)
      rcases h with h | ⟨u, h⟩
      · exact .inl ((upd_ne hn).trans h)
      · exact .inr ⟨u, (upd_ne hn).trans h⟩
    · exact .inl (.inr h)
  · rcases h with h | h
    · refine .inr (.inl ?_)
      rcases h with h | ⟨u, h⟩
      · exact .inl ((upd_ne hn).trans h)
      · exact .inr ⟨u, (upd_ne hn).trans h⟩
    · exact .inr (.inr h)

/-! ### values -/
def isIntV : V → Bool
  | .int _ => true
  | _ => false
/-- what isinstance tells of a value: whether it is an integer, whether it is a list or a tuple -/
def HasT (K : PySem.W.Frag) (H : Hp) (x : V) (sq : Bool) : Prop := ∃ (t : Value) (b1 b2 : Bool), TyX K H x t ∧ PySem.W.kitOne K t (.type "int") = some b1 ∧ PySem.W.kitOne K t (.type "bool") = some b2 ∧ (b1 && !b2) = isIntV x ∧
  PySem.W.kitAny K t [.type "list", .type "tuple"] = some sq
section
variable {K : PySem.W.Frag} {H : Hp}
theorem hasT_non : HasT K H .non false := ⟨_, false, false, .base .non, kit_ty (by decide +kernel), kit_ty (by decide +kernel), rfl, by rw [kitAny_cons (kit_ty (b := "list") (r := false) (by decide +kernel)) (fun _ => kitAny_cons (kit_ty (b := "tuple") (r := false) (by decide +kernel)) (fun _ => rfl) (fun z => nomatch z)) (fun z => nomatch z)]⟩
theorem hasT_bl (b : Bool) : HasT K H (.bl b) false := ⟨_, true, true, .base (.bl b), kit_ty (by decide +kernel), kit_ty (by decide +kernel), rfl, by rw [kitAny_cons (kit_ty (b := "list") (r := false) (by decide +kernel)) (fun _ => kitAny_cons (kit_ty (b := "tuple") (r := false) (by decide +kernel)) (fun _ => rfl) (fun z => nomatch z)) (fun z => nomatch z)]⟩
theorem hasT_int (i : Int) : HasT K H (.int i) false := ⟨_, true, false, .base (.int i), kit_ty (by decide +kernel), kit_ty (by decide +kernel), rfl, by rw [kitAny_cons (kit_ty (b := "list") (r := false) (by decide +kernel)) (fun _ => kitAny_cons (kit_ty (b := "tuple") (r := false) (by decide +kernel)) (fun _ => rfl) (fun z => nomatch z)) (fun z => nomatch z)]⟩
theorem hasT_str (z : Str) : HasT K H (.str z) false := ⟨_, false, false, .base (.str z), kit_ty (by decide +kernel), kit_ty (by decide +kernel), rfl, by rw [kitAny_cons (kit_ty (b := "list") (r := false) (by decide +kernel)) (fun _ => kitAny_cons (kit_ty (b := "tuple") (r := false) (by decide +kernel)) (fun _ => rfl) (fun z => nomatch z)) (fun z => nomatch z)]⟩
theorem hasT_l {x : V} (h : TyX K H x (.type "list")) (hx : isIntV x = false) : HasT K H x true := ⟨_, false, false, h, kit_ty (by decide +kernel), kit_ty (by decide +kernel), hx.symm, by rw [kitAny_cons (kit_ty (b := "list") (r := true) (by decide +kernel)) (fun z => nomatch z) (fun z => rfl)]⟩
theorem hasT_t {x : V} (h : TyX K H x (.type "tuple")) (hx : isIntV x = false) : HasT K H x true := ⟨_, false, false, h, kit_ty (by decide +kernel), kit_ty (by decide +kernel), hx.symm, by rw [kitAny_cons (kit_ty (b := "list") (r := false) (by decide +kernel)) (fun _ => kitAny_cons (kit_ty (b := "tuple") (r := true) (by decide +kernel)) (fun z => nomatch z) (fun z => rfl)) (fun z => nomatch z)]⟩
theorem Sq.hasT {a : Addr} {xs : List V} (h : Sq K H a xs) : HasT K H (.ref a) true := by
  rcases h with h | h
  · refine hasT_l ?_ rfl
    rcases h with (h | ⟨o, h⟩) | ⟨o, its, n, h1, h2, _⟩
    · exact .base (.lst h)
    · exact .base (.frz h)
    · exact .kList h1 h2
  · refine hasT_t ?_ rfl
    rcases h with (h | ⟨o, h⟩) | ⟨o, its, n, h1, h2, _⟩
    · exact .base (.tup h)
    · exact .fTuple h
    · exact .kTuple h1 h2
end
theorem tyx_same {K : PySem.W.Frag} {H H' : Hp} {x : V} {t : Value} (e : Same H H') (h : TyX K H x t) : TyX K H' x t := by
  cases h with
  | base b =>
    cases b with
    | non => exact .base .non
    | bl y => exact .base (.bl y)
    | int i => exact .base (.int i)
    | str y => exact .base (.str y)
    | flt y => exact .base (.flt y)
    | lst ea => exact .base (.lst (e _ _ ea))
    | frz ea => exact .base (.frz (e _ _ ea))
    | tup ea => exact .base (.tup (e _ _ ea))
    | dK ea => exact .base (.dK (e _ _ ea))
    | dT ea => exact .base (.dT (e _ _ ea))
    | ins ea cl ha hn htk hm => exact .base (.ins (e _ _ ea) cl ha hn htk hm)
  | byt y => exact .byt y
  | set ea => exact .set (e _ _ ea)
  | kList a c => exact .kList a c
  | kTuple a c => exact .kTuple a c
  | kDict a c => exact .kDict a c
  | fTuple ea => exact .fTuple (e _ _ ea)
  | fDict ea => exact .fDict (e _ _ ea)
theorem HasT.ex {K : PySem.W.Frag} {H H' : Hp} {x : V} {sq : Bool} (e : Same H H') (h : HasT K H x sq) : HasT K H' x sq := by
  obtain ⟨t, b1, b2, ty, r⟩ := h
  exact ⟨t, b1, b2, tyx_same e ty, r⟩
/-! ### readings opened one step -/
section
variable {σ : L2.St} {H : Hp} {Q : VK} {D : Ends} {te : TE} {t : TA} {tu tz : TS} {g : TG} {r : List V → Hp → VK → Prop}
theorem q_seq (h : tu { D with nx := tz D } σ H) : tSeq tu tz D σ H := h
theorem q_asg (h : te σ H (fun x H1 => g x σ H1 D.nx)) : tAsg te g D σ H := h
theorem q_if {tc : TT} (h : tc σ H (fun c H1 => if c = true then tu D σ H1 else tz D σ H1)) : tIfS tc tu tz D σ H := h
theorem q_name {i : Nat} {v : V} {R : L2.St → Hp → Prop} (h : R (σ.set i (some v)) H) : gName i v σ H R := h
theorem q_ret (h : te σ H D.rt) : tRet te D σ H := h
theorem q_cb (h : t σ H (fun vs H1 => r vs H1 Q)) : tCB r t σ H Q := h
theorem q_one {R : List V → Hp → Prop} (h : te σ H (fun x H1 => R [x] H1)) : tCons te tNil σ H R := h
theorem q_cons {R : List V → Hp → Prop} (h : te σ H (fun x H1 => t σ H1 fun xs H2 => R (x :: xs) H2)) : tCons te t σ H R := h
theorem q_call {sp : Sp} {dvs : List V} {E : XK} (h : t σ H (fun vs H1 => sp (vs ++ dvs) H1 Q E)) : tCall sp dvs E t σ H Q := h
end
/-! ### comprehensions -/
theorem wipe1 {σ : L2.St} {j : Nat} {x : Option V} : wipe ((wipe σ [j]).set j x) [j] = wipe σ [j] := by
  show ((σ.set j none).set j x).set j none = σ.set j none
  rw [List.set_set, List.set_set]
theorem same_app {H H' : Hp} {D : Addr} {xs : List V} (e : Same H H') (h : H D = none) : Same H (upd H' D (.lst xs)) := fun a o ha => by
  rw [upd_ne (ne_of_none ha h)]
  exact e a o ha
/-- [e for x in xs], e a value of x; xs evaluated on the way -/
theorem lc_sqG {K : PySem.W.Frag} {σ : L2.St} {H : Hp} {Q : VK} {tl te : TE} {j : Nat} {xs : List V} (φ : V → V) (hv : ∀ R : VK, (∀ a H', Same H H' → Sq K H' a xs → R (.ref a) H') → tl σ H R) (hl : xs.length ≤ 100000)
    (he : ∀ x ∈ xs, ∀ H1, Same H H1 → ∀ R : VK, (∀ H2, Same H1 H2 → R (φ x) H2) → te ((wipe σ [j]).set j (some x)) H1 R)
    (k : ∀ D H', Same H H' → H D = none → H' D = some (.lst (xs.map φ)) → Q (.ref D) H') : tLc (iSeq K tl) (gName j) tYes te [j] σ H Q := by
  refine hv _ fun a H0 s0 hq => ⟨a, rfl, ?_⟩
  have turn : ∀ (D : Addr), H0 D = none → ∀ i x Hc, xs[i]? = some x → (Same H0 Hc ∧ Hc D = some (.lst ((xs.take i).map φ))) → gName j x (wipe σ [j]) Hc fun σ2 H2 => wipe σ2 [j] = wipe σ [j] ∧ tYes σ2 H2 fun b H3 =>
      if b = true then te σ2 H3 fun y H4 => ∃ acc, H4 D = some (.lst acc) ∧ acc.length < sizeLine ∧ (Same H0 (upd H4 D (.lst (acc ++ [y]))) ∧ (upd H4 D (.lst (acc ++ [y]))) D = some (.lst ((xs.take (i + 1)).map φ))) else (Same H0 H3 ∧ H3 D = some (.lst ((xs.take (i + 1)).map φ))) := by
    intro D hD i x Hc hx ⟨sm, hd⟩
    refine ⟨wipe1, ?_⟩
    refine he x (List.mem_of_getElem? hx) Hc (s0.trans sm) _ fun H2 s2 => ⟨_, s2 _ _ hd, ?_, same_app (sm.trans s2) hD, ?_⟩
    · rw [List.length_map, List.length_take]
      exact Nat.lt_of_le_of_lt (Nat.le_trans (Nat.min_le_right _ _) hl) (by decide)
    · rw [upd_same, List.take_add_one, hx, List.map_append]
      rfl
  rcases hq with hq | hq
  · refine .inl ⟨⟨xs, hq⟩, fun D hD => ?_⟩
    refine lc_list (K := K) (a := a) (xs := xs) (fun i Hc => Same H0 Hc ∧ Hc D = some (.lst ((xs.take i).map φ))) ⟨same_app (Same.refl H0) hD, upd_same⟩ (fun i Hc _ p => Evl.ex_l p.1 hq) (turn D hD) fun Hc p => ?_
    rw [List.take_length] at p
    exact k D Hc (s0.trans p.1) (s0.free hD) p.2
  · refine .inr ⟨⟨xs, hq⟩, fun D hD => ?_⟩
    refine lc_tup (K := K) (a := a) (xs := xs) (fun i Hc => Same H0 Hc ∧ Hc D = some (.lst ((xs.take i).map φ))) ⟨same_app (Same.refl H0) hD, upd_same⟩ (fun i Hc _ p => Evl.ex_t p.1 hq) (turn D hD) fun Hc p => ?_
    rw [List.take_length] at p
    exact k D Hc (s0.trans p.1) (s0.free hD) p.2
theorem lc_sq {K : PySem.W.Frag} {σ : L2.St} {H : Hp} {Q : VK} {tl te : TE} {a : Addr} {j : Nat} {xs : List V} (φ : V → V) (hv : ∀ R : VK, R (.ref a) H → tl σ H R) (hq : Sq K H a xs) (hl : xs.length ≤ 100000)
    (he : ∀ x ∈ xs, ∀ H1, Same H H1 → ∀ R : VK, (∀ H2, Same H1 H2 → R (φ x) H2) → te ((wipe σ [j]).set j (some x)) H1 R)
    (k : ∀ D H', Same H H' → H D = none → H' D = some (.lst (xs.map φ)) → Q (.ref D) H') : tLc (iSeq K tl) (gName j) tYes te [j] σ H Q :=
  lc_sqG φ (fun R r => hv R (r a H (Same.refl H) hq)) hl he k
/-- [e for x in range(..)] -/
theorem lc_rg {σ : L2.St} {H : Hp} {Qd : Hp → Prop} {te : TE} {j n : Nat} {lo : Int} {D : Addr} (φ : Nat → V) (hl : n ≤ 100000) (hD : H D = none)
    (he : ∀ i, i < n → ∀ H1, Same H H1 → ∀ R : VK, (∀ H2, Same H1 H2 → R (φ i) H2) → te ((wipe σ [j]).set j (some (.int (lo + i)))) H1 R)
    (k : ∀ H', Same H H' → H' D = some (.lst ((List.range n).map φ)) → Qd H') :
    ∃ W : Nat → Nat → Hp → Prop, (∃ m, W 0 m (upd H D (.lst []))) ∧ ∀ i m H, W i m H →
      ((Itr lo n).stop i H ∧ Qd H) ∨ ((Itr lo n).go i H ∧ ∃ Nx : Hp → Prop, (∀ H', Nx H' → ∃ m', m' < m ∧ W (i + 1) m' H') ∧ ∀ x H', (Itr lo n).yld i H x H' → gName j x (wipe σ [j]) H' fun σ2 H2 => wipe σ2 [j] = wipe σ [j] ∧ tYes σ2 H2 fun b H3 =>
        if b = true then te σ2 H3 fun y H4 => ∃ acc, H4 D = some (.lst acc) ∧ acc.length < sizeLine ∧ Nx (upd H4 D (.lst (acc ++ [y]))) else Nx H3) := by
  refine lc_range (fun i Hc => Same H Hc ∧ Hc D = some (.lst ((List.range i).map φ))) ⟨same_app (Same.refl H) hD, upd_same⟩ (fun i Hc hi ⟨sm, hd⟩ => ⟨wipe1, ?_⟩) fun Hc p => k Hc p.1 p.2
  refine he i hi Hc sm _ fun H2 s2 => ⟨_, s2 _ _ hd, ?_, same_app (sm.trans s2) hD, ?_⟩
  · rw [List.length_map, List.length_range]
    exact Nat.lt_of_lt_of_le (Nat.lt_of_lt_of_le hi hl) (by decide)
  · rw [upd_same, List.range_succ, List.map_append]
    rfl
/-- [e for x in range(..) if test] -/
theorem lc_rgF {σ : L2.St} {H : Hp} {Qd : Hp → Prop} {tt : TT} {te : TE} {j n : Nat} {lo : Int} {D : Addr} (p : Nat → Bool) (φ : Nat → V) (hl : n ≤ 100000) (hD : H D = none)
    (ht : ∀ i, i < n → ∀ H1, Same H H1 → ∀ R : Bool → Hp → Prop, (∀ H2, Same H1 H2 → R (p i) H2) → tt ((wipe σ [j]).set j (some (.int (lo + i)))) H1 R)
    (he : ∀ i, i < n → ∀ H1, Same H H1 → ∀ R : VK, (∀ H2, Same H1 H2 → R (φ i) H2) → te ((wipe σ [j]).set j (some (.int (lo + i)))) H1 R)
    (k : ∀ H', Same H H' → H' D = some (.lst (((List.range n).filter p).map φ)) → Qd H') :
    ∃ W : Nat → Nat → Hp → Prop, (∃ m, W 0 m (upd H D (.lst []))) ∧ ∀ i m H, W i m H →
      ((Itr lo n).stop i H ∧ Qd H) ∨ ((Itr lo n).go i H ∧ ∃ Nx : Hp → Prop, (∀ H', Nx H' → ∃ m', m' < m ∧ W (i + 1) m' H') ∧ ∀ x H', (Itr lo n).yld i H x H' → gName j x (wipe σ [j]) H' fun σ2 H2 => wipe σ2 [j] = wipe σ [j] ∧ tt σ2 H2 fun b H3 =>
        if b = true then te σ2 H3 fun y H4 => ∃ acc, H4 D = some (.lst acc) ∧ acc.length < sizeLine ∧ Nx (upd H4 D (.lst (acc ++ [y]))) else Nx H3) := by
  refine lc_range (fun i Hc => Same H Hc ∧ Hc D = some (.lst (((List.range i).filter p).map φ))) ⟨same_app (Same.refl H) hD, upd_same⟩ (fun i Hc hi ⟨sm, hd⟩ => ⟨wipe1, ?_⟩) fun Hc q => k Hc q.1 q.2
  refine ht i hi Hc sm _ fun H1 s1 => ?_
  cases hp : p i with
  | false =>
    refine ⟨sm.trans s1, ?_⟩
    rw [List.range_succ, List.filter_append, List.filter_cons, if_neg (by rw [hp]; decide), List.filter_nil, List.append_nil]
    exact s1 _ _ hd
  | true =>
    refine he i hi H1 (sm.trans s1) _ fun H2 s2 => ⟨_, s2 _ _ (s1 _ _ hd), ?_, same_app ((sm.trans s1).trans s2) hD, ?_⟩
    · rw [List.length_map]
      have e := List.length_filter_le p (List.range i)
      rw [List.length_range] at e
      exact Nat.lt_of_le_of_lt e (Nat.lt_of_lt_of_le (Nat.lt_of_lt_of_le hi hl) (by decide))
    · rw [upd_same, List.range_succ, List.filter_append, List.filter_cons, if_pos hp, List.filter_nil, List.map_append]
      rfl
/-- [x for x in xs if test] -/
theorem lc_sqF {K : PySem.W.Frag} {σ : L2.St} {H : Hp} {Q : VK} {tl te : TE} {tt : TT} {j : Nat} {xs : List V} (p : V → Bool) (hv : ∀ R : VK, (∀ a H', Same H H' → Sq K H' a xs → R (.ref a) H') → tl σ H R) (hl : xs.length ≤ 100000)
    (ht : ∀ x ∈ xs, ∀ H1, Same H H1 → ∀ R : Bool → Hp → Prop, (∀ H2, Same H1 H2 → R (p x) H2) → tt ((wipe σ [j]).set j (some x)) H1 R)
    (he : ∀ x ∈ xs, ∀ H1, Same H H1 → ∀ R : VK, (∀ H2, Same H1 H2 → R x H2) → te ((wipe σ [j]).set j (some x)) H1 R)
    (k : ∀ D H', Same H H' → H D = none → H' D = some (.lst (xs.filter p)) → Q (.ref D) H') : tLc (iSeq K tl) (gName j) tt te [j] σ H Q := by
  refine hv _ fun a H0 s0 hq => ⟨a, rfl, ?_⟩
  have turn : ∀ (D : Addr), H0 D = none → ∀ i x Hc, xs[i]? = some x → (Same H0 Hc ∧ Hc D = some (.lst ((xs.take i).filter p))) → gName j x (wipe σ [j]) Hc fun σ2 H2 => wipe σ2 [j] = wipe σ [j] ∧ tt σ2 H2 fun b H3 =>
      if b = true then te σ2 H3 fun y H4 => ∃ acc, H4 D = some (.lst acc) ∧ acc.length < sizeLine ∧ (Same H0 (upd H4 D (.lst (acc ++ [y]))) ∧ (upd H4 D (.lst (acc ++ [y]))) D = some (.lst ((xs.take (i + 1)).filter p))) else (Same H0 H3 ∧ H3 D = some (.lst ((xs.take (i + 1)).filter p))) := by
    intro D hD i x Hc hx ⟨sm, hd⟩
    refine ⟨wipe1, ?_⟩
    have mx := List.mem_of_getElem? hx
    refine ht x mx Hc (s0.trans sm) _ fun H1 s1 => ?_
    cases hp : p x with
    | false =>
      refine ⟨sm.trans s1, ?_⟩
      rw [List.take_add_one, hx, List.filter_append]
      show H1 D = some (.lst ((xs.take i).filter p ++ [x].filter p))
      rw [List.filter_cons, if_neg (by rw [hp]; decide), List.filter_nil, List.append_nil]
      exact s1 _ _ hd
    | true =>
      refine he x mx H1 (s0.trans (sm.trans s1)) _ fun H2 s2 => ⟨_, s2 _ _ (s1 _ _ hd), ?_, same_app ((sm.trans s1).trans s2) hD, ?_⟩
      · have e := List.length_filter_le p (xs.take i)
        rw [List.length_take] at e
        exact Nat.lt_of_le_of_lt (Nat.le_trans e (Nat.le_trans (Nat.min_le_right _ _) hl)) (by decide)
      · rw [upd_same, List.take_add_one, hx, List.filter_append]
        show some (HO.lst ((xs.take i).filter p ++ [x])) = some (.lst ((xs.take i).filter p ++ [x].filter p))
        rw [List.filter_cons, if_pos hp, List.filter_nil]
  rcases hq with hq | hq
  · refine .inl ⟨⟨xs, hq⟩, fun D hD => ?_⟩
    refine lc_list (K := K) (a := a) (xs := xs) (fun i Hc => Same H0 Hc ∧ Hc D = some (.lst ((xs.take i).filter p))) ⟨same_app (Same.refl H0) hD, upd_same⟩ (fun i Hc _ r => Evl.ex_l r.1 hq) (turn D hD) fun Hc r => ?_
    rw [List.take_length] at r
    exact k D Hc (s0.trans r.1) (s0.free hD) r.2
  · refine .inr ⟨⟨xs, hq⟩, fun D hD => ?_⟩
    refine lc_tup (K := K) (a := a) (xs := xs) (fun i Hc => Same H0 Hc ∧ Hc D = some (.lst ((xs.take i).filter p))) ⟨same_app (Same.refl H0) hD, upd_same⟩ (fun i Hc _ r => Evl.ex_t r.1 hq) (turn D hD) fun Hc r => ?_
    rw [List.take_length] at r
    exact k D Hc (s0.trans r.1) (s0.free hD) r.2
theorem same_new {H : Hp} {p : Addr} {o : HO} (h : H p = none) : Same H (upd H p o) := fun _ _ ha => (upd_ne (ne_of_none ha h)).trans ha
/-! ### the head's facts -/
section
def obsW (n : Nat) (fa : List He.Fa) (fn : List He5.DefA) (ex : PySem.W.Frag → Bool) (g : Addr → Option Obj) : He.AlD × Bool := (He5.obsA fa fn (He.frG g (He.asD g n)), ex (He.frG g (He.asD g n)))
def SaysW (fa : List He.Fa) (fn : List He5.DefA) (ex : PySem.W.Frag → Bool) (K : PySem.W.Frag) : Prop := He5.SaysA fa fn K ∧ ex K = true
def hookW (n : Nat) (fa : List He.Fa) (fn : List He5.DefA) (ex : PySem.W.Frag → Bool) : PySem.W.Hook where
  α := He.AlD × Bool
  obs := fun s => obsW n fa fn ex s.heap.get?
  val := fun _ => (He5.valA fn, true)
  says := fun _ h => ∃ K : PySem.W.Frag, K.In h ∧ SaysW fa fn ex K
  of := fun _ s e => ⟨He.frG s.heap.get? (He.asD s.heap.get? n), He.frG_in, congrArg Prod.fst e, congrArg Prod.snd e⟩
  keeps := fun _ _ _ ⟨K, hK, c⟩ k => ⟨K, PySem.W.Frag.In.keeps hK k, c⟩
theorem obsW_eq {n : Nat} {fa : List He.Fa} {fn : List He5.DefA} {ex : PySem.W.Frag → Bool} {g : Addr → Option Obj} {s : Shared} (h : ∀ a, g a = s.heap.get? a) : obsW n fa fn ex g = (hookW n fa fn ex).obs s := by
  rw [show g = s.heap.get? from funext h]
  rfl
/-- a property of a class, as the head tells it -/
def propB (K : PySem.W.Frag) (C : Addr) (f : Str) : Bool :=
  He.eqO (PySem.W.findIn K (.ref C) f) (some (some (.ref (He.ma K C f)))) && (He.eqO (PySem.W.specialIn K (.ref (He.ma K C f)) "__get__") (some (some (.builtin "property.__get__"))) && (decide (PySem.W.takesIn K (.ref (He.ma K C f)) = some true) &&
    (match PySem.W.recIn K (He.ma K C f) "property" with
      | some (.ref _ :: _) => true
      | _ => false)))
theorem propB_ok {K : PySem.W.Frag} {C : Addr} {f : Str} (h : propB K C f = true) : PropOf K C f (He.ma K C f) (He5.wf K C "property" f) := by
  obtain ⟨h1, h⟩ := He.ba h
  obtain ⟨h2, h⟩ := He.ba h
  obtain ⟨h3, h4⟩ := He.ba h
  refine ⟨He.eqO_ok h1, He.eqO_ok h2, of_decide_eq_true h3, ?_⟩
  unfold He5.wf
  revert h4
  cases e : PySem.W.recIn K (He.ma K C f) "property" with
  | none => exact fun z => nomatch z
  | some l =>
    cases l with
    | nil => exact fun z => nomatch z
    | cons v r =>
      cases v with
      | ref g => exact fun _ => ⟨r, rfl⟩
      | _ => exact fun z => nomatch z
end
section
variable {X : Cx} {o e : Expr} {es : List Expr} {to : TE} {t : TA} {name : Str} {apos cpos : Pos} {T id : String} {r : V → List V → Hp → VK → Prop}
theorem pe_bm0K (K : PySem.W.Frag) (pa : PlainAttrs T) (slot : Slot T name id) (hty : typeOf (.builtin id) = pure (.type "method_descriptor")) (hm : MtR X id r) (ho : PE X o to)
    (hbase : attributeBase o name X.env (eval o X.env) = eval o X.env := by rfl) (hline : (apos.endLine == cpos.line) = true := by rfl) (hK : X.K = K := by rfl) : PE X (.Call (.Attribute o name apos) [] [] cpos) (tBM0 K T r to) := by
  subst hK
  exact pe_bm0 pa slot hty hm ho hbase hline
theorem pe_bmK (K : PySem.W.Frag) (pa : PlainAttrs T) (slot : Slot T name id) (hty : typeOf (.builtin id) = pure (.type "method_descriptor")) (hm : MtR X id r) (ho : PE X o to) (ha : PA X (e :: es) t)
    (hbase : attributeBase o name X.env (eval o X.env) = eval o X.env := by rfl)
    (hfew : ((backTo cpos (starEach (e :: es) X.env)).all (fun x => !x.1) && (backToKw cpos (keywordEach [] X.env)).all (fun x => x.1.isSome)
      && decide ((e :: es).length + ([] : List Keyword).length + (if ([] : List Keyword).isEmpty then 0 else 1) < 30)) = true := by rfl)
    (hline : (apos.endLine == cpos.line) = true := by rfl) (hs : starEach (e :: es) X.env = (false, eval e X.env) :: starEach es X.env := by rfl) (hplain : (backTo cpos (starEach es X.env)).any (·.1) = false := by rfl) (hK : X.K = K := by rfl) :
    PE X (.Call (.Attribute o name apos) (e :: es) [] cpos) (tBM K T r to t) := by
  subst hK
  exact pe_bm pa slot hty hm ho ha hbase hfew hline hs hplain
end
end WW

set_option Elab.async false
set_option linter.all false
set_option maxRecDepth 100000
set_option maxHeartbeats 4000000
namespace WW
open PySem PySem.Spec PyProof.Rows L2
/-! ### == and != by an own __eq__ -/
section
variable {X : Cx} {CX : CXT} {k : Nat} {C f : Addr} {fd : FuncData} {ps : List Str} {sp : Sp}
/-- the def at f called with two values, somewhere below the body -/
theorem run2 {A : Around} {pins : List (Addr × Obj)} {σ : L2.St} {H : Hp} {s : Shared} {Q : VK} {x y : V} {u v : Value} (F : FnOk X.prog X.w X.K X.mg X.base CX0 k f fd ps sp) (hA : Room k A) (hf : A.frames = X.A.frames) (b : Binds X.K fd ps [])
    (I : Inv X pins σ H s) (rx : RelV x u) (ry : RelV y v) (h : sp [x, y] H Q E0) : wpAny (model X.prog X.w) A (call (.ref f) [u, v]) (EP X pins σ Q) X.xe s := by
  have i0 := I.env0
  have i1 : Env0 X.prog X.w X.K X.mg X.base A X.stack s H := ⟨hf.trans i0.frames, i0.mod, i0.bs, i0.bsz, i0.funs, i0.frf, i0.hok, i0.bare⟩
  have n2 : [u, v].length = ps.length := (show [u, v].length = [x, y].length from rfl).trans (F.len _ _ _ _ h)
  have bt : BindsTo s fd ⟨[u, v], []⟩ (ps.zip [u, v]) := by
    have z := b s [u, v] I.kIn (by rw [List.append_nil]; exact n2)
    rw [List.append_nil] at z
    exact z
  refine wpAny_call (codeAny_mono (F.run A X.stack s H ⟨[u, v], []⟩ [u, v] [x, y] Q E0 hA i1 bt (.cons rx (.cons ry .nil)) h) fun r s' hq => ?_)
  cases r with
  | error e => exact (pass0 (X := X) pins σ H s e s' I hq)
  | ok fl =>
    cases fl with
    | ret z => exact I.after hq
    | next => exact hq.elim
    | brk => exact hq.elim
    | cont => exact hq.elim
/-- the class at C has its own __eq__ (at f) and no __ne__ -/
structure EqC (K : PySem.W.Frag) (C f : Addr) : Prop where
  eq : PySem.W.findIn K (.ref C) "__eq__" = some (some (.ref f))
  fn : PySem.W.isFn K (.ref f) = true
  ne : PySem.W.findIn K (.ref C) "__ne__" = some (some (.builtin "object.__ne__"))
  ob : PySem.W.mroIn K C (.type "object") = some true
structure EqAtC (P : Program) (w : World) (K : PySem.W.Frag) (mg : Str → Option Value) (base : Heap) (CX : CXT) (k : Nat) (C : Addr) (ps : List Str) (sp : Sp) : Prop where
  ex : ∃ f fd, EqC K C f ∧ FnOk P w K mg base CX k f fd ps sp ∧ Binds K fd ps []
/-- x == y, x != y, x an instance of the class at C -/
inductive rOwn (K : PySem.W.Frag) (C : Addr) (sp : Sp) (neg : Bool) (x y : V) (H : Hp) (Q : VK) : Prop
  | mk (a dx : Addr) (fs : List (Str × V)) (t : Value) (e : x = .ref a) (ha : H a = some (.ins C dx fs)) (ht : TyX K H y t) (hn : PySem.W.notFirst K C t = true) (h : sp [x, y] H (fun v H' => ∃ b, v = .bl b ∧ Q (.bl (if neg then !b else b)) H') E0) : rOwn K C sp neg x y H Q
theorem op_eqO (K : PySem.W.Frag) {j : Nat} (F : EqAtC X.prog X.w X.K X.mg X.base CX0 k C ps sp) (hr : Room j X.A) (hk : k ≤ j := by decide) (hK : X.K = K := by rfl) : OpR X (compareOp .Eq) (rOwn K C sp false) := by
  subst hK
  obtain ⟨f, fd, ec, FN, b⟩ := F.ex
  intro pins s σ H x y u v Q I rx ry h
  cases h with
  | mk a dx fs t e ha ht hn h =>
    subst e
    cases rx
    obtain ⟨mA, O, _⟩ := ins_get I.hok ha
    obtain ⟨od, J, _⟩ := O.look
    obtain ⟨Pk, Z, pz, _⟩ := kit_of I ry ht
    obtain ⟨m, hF⟩ := I.fr
    unfold compareOp
    refine PySem.W.cmp_K (op := .Eq) (tb := t) (by have := hr.un; omega) hF I.ok.mod.kin J (Z.ty _ _ I.kIn pz) hn ec.eq ec.fn (wpAny_mono (run2 (x := .ref a) FN (hr.mono hk) rfl b I rfl ry h) (fun z s' hz => ?_) fun _ _ e => e)
    obtain ⟨w1, H1, I1, r1, b1, rfl, q1⟩ := hz
    cases r1
    exact ⟨.bl b1, H1, I1, rfl, q1⟩
theorem ne_bound {M : Model} {A : Around} {E : Value → Shared → Prop} {s : Shared} {K : PySem.W.Frag} {x : Addr} {ox : Obj} {od : Option Obj} {rest : List Value} {R : Option Value → Shared → Prop} (hK : K.In s.heap) (J : PySem.W.InstAt s.heap x ox C od) (hc : PySem.W.findIn K (.ref C) "__ne__" = some (some (.builtin "object.__ne__")))
    (q : wpAny M A (call (.builtin "object.__ne__") (.ref x :: rest)) (fun v => R (some v)) E s) : wpAny M A (callSpecialIfBound? (.ref x) "__ne__" rest) R E s := by
  simp only [callSpecialIfBound?, bindSpecialIfBound?]
  refine wpAny_holding (wpAny_bind (wpAny_bind (wpAny_bind (J.type.here ((PySem.W.looks_findIn hK hc).here (wpAny_bind (wpAny_askSetting (wpAny_ite ?_))))))))
  have last : wpAny M A (call (.builtin "object.__ne__") ([.ref x] ++ rest) >>= fun v => pure (some v)) R E s := wpAny_bind (wpAny_mono q (fun v s' hv => wpAny_pure hv) fun _ _ z => z)
  split
  · exact wpAny_bind (wpAny_of_eq (F.cmp_object.ne.bind _) (wpAny_pure (by exact last)))
  · exact wpAny_tryCatch (wpAny_bind (wpAny_of_eq (F.cmp_object.ne.bind _) (wpAny_pure (by exact last))))
theorem ne_entry {prog : Program} {w : World} {A : Around} {E : Value → Shared → Prop} {s : Shared} {K : PySem.W.Frag} {x : Addr} {v : Value} {ox : Obj} {od : Option Obj} {R : Fin → Shared → Prop} (hu : A.units < cLine) (hK : K.In s.heap) (J : PySem.W.InstAt s.heap x ox C od) (ec : EqC K C f)
    (q : wpAny (model prog w) A (call (.ref f) [.ref x, v]) (fun r s' => ∃ b, r = .bool b ∧ R (.done (.ret (.bool (!b)))) s') E s) : wpAny (model prog w) A (Builtin.«object.__ne__» ⟨[.ref x, v], []⟩) R E s := by
  unfold Builtin.«object.__ne__»
  repeat (first
    | with_reducible refine wpAny_cRoomFor hu ?_
    | (refine wpAny_bind (m := callSpecialIfBound? (.ref x) (Str.ofString "__eq__") [v]) (PySem.W.ifBound_K hK J ec.eq ec.fn (wpAny_mono q (fun r s' hr => by
          obtain ⟨b, rfl, hq⟩ := hr
          repeat (first | exact hq | exact wpAny_pure hq | exact wpAny_truthy_bool hq | (refine wpAny_bind (m := truthy (.bool _)) (wpAny_truthy_bool ?_)) | wp_step)) fun _ _ e => e)))
    | wp_step)
theorem op_neO (K : PySem.W.Frag) {j : Nat} (F : EqAtC X.prog X.w X.K X.mg X.base CX0 k C ps sp) (hr : Room j X.A) (hk : k + 1 ≤ j := by decide) (hK : X.K = K := by rfl) : OpR X (compareOp .NotEq) (rOwn K C sp true) := by
  subst hK
  obtain ⟨f, fd, ec, FN, b⟩ := F.ex
  intro pins s σ H x y u v Q I rx ry h
  cases h with
  | mk a dx fs t e ha ht hn h =>
    subst e
    cases rx
    obtain ⟨mA, O, _⟩ := ins_get I.hok ha
    obtain ⟨od, J, _⟩ := O.look
    obtain ⟨Pk, Z, pz, _⟩ := kit_of I ry ht
    have hu : X.A.units + 1 < cLine := by have := hr.un; omega
    have go : wpAny (model X.prog X.w) X.A (tryCompare (.ref a) "__ne__" v) (fun r s' => ∃ b1, r = some (.bool (!b1)) ∧ EP X pins σ Q (.bool (!b1)) s') X.xe s := by
      unfold tryCompare
      refine wpAny_bind (ne_bound I.kIn J ec.ne (wpAny_call (codeAny_call_builtin PySem.F.cmp_object.ne.plain PySem.F.cmpEntry_ne (PySem.W.check_slot PySem.F.cmpKind_ne PySem.F.cmpSplit_ne (J.type.andThen (PySem.W.looks_mroIn I.kIn ec.ob)) (PySem.F.cmpArgs_ne _ _)
        (ne_entry (A := X.A.in1) hu I.kIn J ec (wpAny_mono (run2 (x := .ref a) FN (hr.mono hk).in1 rfl b I rfl ry h) (fun z s' hz => ?_) fun _ _ e => e))))))
      obtain ⟨w1, H1, I1, r1, b1, rfl, q1⟩ := hz
      cases r1
      exact ⟨b1, rfl, wpAny_pure ⟨b1, rfl, .bl (!b1), H1, I1, rfl, q1⟩⟩
    unfold compareOp richCompare
    simp only [oneThing_ref]
    refine wpAny_holding (wpAny_bind (wpAny_cRoomFor (by omega) ?_))
    refine wpAny_bind (J.type.here (wpAny_bind ((Z.ty _ _ I.kIn pz).here ?_)))
    split
    · rename_i c0
      have sf : PySem.W.subIn X.K t (.ref C) = some false := by
        rcases Bool.or_eq_true_iff.mp hn with e | e
        · rw [beq_iff_eq.mp e] at c0
          simp at c0
        · exact beq_iff_eq.mp e
      refine wpAny_bind ((PySem.W.looks_subIn I.kIn sf).here ?_)
      simp only [Bool.false_eq_true, if_false]
      refine wpAny_bind (wpAny_mono go (fun r s1 z => ?_) fun _ _ e => e)
      obtain ⟨b1, rfl, h1⟩ := z
      exact wpAny_pure h1
    · refine wpAny_bind (wpAny_pure ?_)
      simp only [Bool.false_eq_true, if_false]
      refine wpAny_bind (wpAny_mono go (fun r s1 z => ?_) fun _ _ e => e)
      obtain ⟨b1, rfl, h1⟩ := z
      exact wpAny_pure h1
end
end WW

set_option Elab.async false
set_option linter.all false
set_option maxRecDepth 100000
set_option maxHeartbeats 4000000
namespace WW
open PySem PySem.Spec PyProof.Rows L2
/-! ### str(x) by an own __str__ -/
section
variable {X : Cx} {CX : CXT} {k : Nat} {C f : Addr} {fd : FuncData} {ps : List Str} {sp : Sp}
theorem run1 {A : Around} {pins : List (Addr × Obj)} {σ : L2.St} {H : Hp} {s : Shared} {Q : VK} {x : V} {u : Value} (F : FnOk X.prog X.w X.K X.mg X.base CX0 k f fd ps sp) (hA : Room k A) (hf : A.frames = X.A.frames) (b : Binds X.K fd ps [])
    (I : Inv X pins σ H s) (rx : RelV x u) (h : sp [x] H Q E0) : wpAny (model X.prog X.w) A (call (.ref f) [u]) (EP X pins σ Q) X.xe s := by
  have i0 := I.env0
  have i1 : Env0 X.prog X.w X.K X.mg X.base A X.stack s H := ⟨hf.trans i0.frames, i0.mod, i0.bs, i0.bsz, i0.funs, i0.frf, i0.hok, i0.bare⟩
  have n2 : [u].length = ps.length := (show [u].length = [x].length from rfl).trans (F.len _ _ _ _ h)
  have bt : BindsTo s fd ⟨[u], []⟩ (ps.zip [u]) := by
    have z := b s [u] I.kIn (by rw [List.append_nil]; exact n2)
    rw [List.append_nil] at z
    exact z
  refine wpAny_call (codeAny_mono (F.run A X.stack s H ⟨[u], []⟩ [u] [x] Q E0 hA i1 bt (.cons rx .nil) h) fun r s' hq => ?_)
  cases r with
  | error e => exact (pass0 (X := X) pins σ H s e s' I hq)
  | ok fl =>
    cases fl with
    | ret z => exact I.after hq
    | next => exact hq.elim
    | brk => exact hq.elim
    | cont => exact hq.elim
structure StrAtC (P : Program) (w : World) (K : PySem.W.Frag) (mg : Str → Option Value) (base : Heap) (CX : CXT) (k : Nat) (C : Addr) (ps : List Str) (sp : Sp) : Prop where
  ex : ∃ f fd, PySem.W.findIn K (.ref C) "__str__" = some (some (.ref f)) ∧ PySem.W.isFn K (.ref f) = true ∧ FnOk P w K mg base CX k f fd ps sp ∧ Binds K fd ps []
inductive rStrO (C : Addr) (sp : Sp) (xs : List V) (H : Hp) (Q : VK) : Prop
  | mk (a dx : Addr) (fs : List (Str × V)) (e : xs = [.ref a]) (ha : H a = some (.ins C dx fs)) (h : sp [.ref a] H (fun v H' => ∃ z, v = .str z ∧ Q (.str z) H') E0) : rStrO C sp xs H Q
theorem call_strO {j : Nat} (F : StrAtC X.prog X.w X.K X.mg X.base CX0 k C ps sp) (hr : Room j X.A) (hk : k + 2 ≤ j := by decide) : CallR X (.type "str") (rStrO C sp) := by
  obtain ⟨f, fd, e1, e2, FN, b⟩ := F.ex
  intro pins s σ H xs us Q I r h
  cases h with
  | mk a dx fs e ha h =>
    subst e
    obtain ⟨u, rfl, ru⟩ := vals1 r
    cases ru
    obtain ⟨mA, O, _⟩ := ins_get I.hok ha
    obtain ⟨od, J, _⟩ := O.look
    have r2 := (hr.mono hk).in1.in1
    refine PySem.W.kso_call (by have := r2.un; omega) I.kIn J e1 e2 (wpAny_mono (run1 (x := .ref a) FN r2 rfl b I rfl h) (fun z s' hz => ?_) fun _ _ e => e)
    obtain ⟨w1, H1, I1, r1, z1, rfl, q1⟩ := hz
    obtain ⟨t, rfl⟩ := r1
    exact ⟨.str z1, H1, I1, ⟨t, rfl⟩, q1⟩
end
/-! ### sep.join(..) with the written part named -/
inductive rJoin (K : PySem.W.Frag) (x : V) (xs : List V) (H : Hp) (Q : VK) : Prop
  | mk (a : Str) (p : Addr) (ys : List Str) (e : x = .str a) (e2 : xs = [.ref p]) (h : Sq K H p (ys.map V.str)) (hz : (ys.map (·.length)).sum + ys.length * a.length ≤ 16777216) (q : Q (.str (Txt.join a ys)) H) : rJoin K x xs H Q
theorem mt_joinK {X : Cx} (K : PySem.W.Frag) (h : X.K = K := by rfl) : MtR X "str.join" (rJoin K) := by
  subst h
  intro pins s σ H x xs v us Q I rx rs h
  cases h with
  | mk a p ys e e2 h hz q => exact mt_join pins s σ H x xs v us Q I rx rs ⟨a, p, ys, e, e2, h, hz, q⟩
theorem pe_joinK {X : Cx} (K : PySem.W.Frag) {o e : Expr} {to te : TE} {apos pos : Pos} (ho : PE X o to) (he : PE X e te) (hK : X.K = K := by rfl) (hs : starEach [e] X.env = [(false, eval e X.env)] := by rfl) (hbase : attributeBase o "join" X.env (eval o X.env) = eval o X.env := by rfl) (hline : (apos.endLine == pos.line) = true := by rfl) :
    PE X (.Call (.Attribute o "join" apos) [e] [] pos) (tM1 (rJoin K) to te) :=
  pe_m1 F.slot_str_join F.type_str_join (mt_joinK K hK) ho he hs hbase hline
theorem q_star {K : PySem.W.Frag} {σ : L2.St} {H : Hp} {te : TE} {t : TA} {R : List V → Hp → Prop} (h : te σ H fun x H1 => ∃ p xs, x = V.ref p ∧ (SqT K H1 p xs ∨ SqL K H1 p xs) ∧ t σ H1 fun ys H2 => R (xs ++ ys) H2) : StX.tStar K te t σ H R := h
theorem q_c {σ : L2.St} {H : Hp} {v : V} {R : VK} (h : R v H) : tC v σ H R := h
theorem q_ifE {σ : L2.St} {H : Hp} {R : VK} {tt : TT} {ta tb : TE} (h : tt σ H fun c H1 => if c = true then ta σ H1 R else tb σ H1 R) : tIf tt ta tb σ H R := h
theorem q_tst {σ : L2.St} {H : Hp} {te : TE} {R : Bool → Hp → Prop} (h : te σ H fun x H1 => ∃ b, x = .bl b ∧ R b H1) : tTest te σ H R := h
theorem q_op {σ : L2.St} {H : Hp} {ta tb : TE} {r : R2} {R : VK} (h : ta σ H fun x H1 => tb σ H1 fun y H2 => r x y H2 R) : tOp r ta tb σ H R := h
theorem q_next {D : Ends} {σ : L2.St} {H : Hp} (h : D.nx σ H) : tNext D σ H := h
/-- a test that fails -/
theorem q_no {D : Ends} {σ : L2.St} {H : Hp} {b : Bool} {u : Prop} (hb : b = false) (h : D.nx σ H) : if b = true then u else tNext D σ H := by
  subst hb
  exact h
/-! ### what the head tells of a class with its own __eq__ -/
structure TyC (K : PySem.W.Frag) (C : Addr) : Prop where
  cl : PySem.W.findIn K (.ref C) "__class__" = some (some (.builtin "object.__class__"))
  ge : PySem.W.specialIn K (.builtin "object.__class__") "__get__" = some (some (.builtin "getset_descriptor.__get__"))
  tk : PySem.W.takesIn K (.builtin "object.__class__") = some true
  ob : PySem.W.mroIn K C (.type "object") = some true
  own : PySem.W.kitOne K (.ref C) (.ref C) = some true
def tyB (K : PySem.W.Frag) (C : Addr) : Bool :=
  He.eqO (PySem.W.findIn K (.ref C) "__class__") (some (some (.builtin "object.__class__"))) && (He.eqO (PySem.W.specialIn K (.builtin "object.__class__") "__get__") (some (some (.builtin "getset_descriptor.__get__"))) && (decide (PySem.W.takesIn K (.builtin "object.__class__") = some true) &&
    (decide (PySem.W.mroIn K C (.type "object") = some true) && decide (PySem.W.kitOne K (.ref C) (.ref C) = some true))))
theorem tyB_ok {K : PySem.W.Frag} {C : Addr} (h : tyB K C = true) : TyC K C := by
  obtain ⟨h1, h⟩ := He.ba h
  obtain ⟨h2, h⟩ := He.ba h
  obtain ⟨h3, h⟩ := He.ba h
  obtain ⟨h4, h5⟩ := He.ba h
  exact ⟨He.eqO_ok h1, He.eqO_ok h2, of_decide_eq_true h3, of_decide_eq_true h4, of_decide_eq_true h5⟩
/-- a type that is not the class at C -/
structure Apart (K : PySem.W.Frag) (C : Addr) (t : String) : Prop where
  no : PySem.W.kitOne K (.type t) (.ref C) = some false
  nf : PySem.W.notFirst K C (.type t) = true
def apB (K : PySem.W.Frag) (C : Addr) (t : String) : Bool := decide (PySem.W.kitOne K (.type t) (.ref C) = some false) && PySem.W.notFirst K C (.type t)
theorem apB_ok {K : PySem.W.Frag} {C : Addr} {t : String} (h : apB K C t = true) : Apart K C t := by
  obtain ⟨h1, h2⟩ := He.ba h
  exact ⟨of_decide_eq_true h1, h2⟩
def eqB (K : PySem.W.Frag) (C : Addr) : Bool :=
  He.eqO (PySem.W.findIn K (.ref C) "__eq__") (some (some (.ref (He.ma K C "__eq__")))) && (PySem.W.isFn K (.ref (He.ma K C "__eq__")) && (He.eqO (PySem.W.findIn K (.ref C) "__ne__") (some (some (.builtin "object.__ne__"))) && decide (PySem.W.mroIn K C (.type "object") = some true)))
theorem eqB_ok {K : PySem.W.Frag} {C : Addr} (h : eqB K C = true) : EqC K C (He.ma K C "__eq__") := by
  obtain ⟨h1, h⟩ := He.ba h
  obtain ⟨h2, h⟩ := He.ba h
  obtain ⟨h3, h4⟩ := He.ba h
  exact ⟨He.eqO_ok h1, h2, He.eqO_ok h3, of_decide_eq_true h4⟩
def strB (K : PySem.W.Frag) (C : Addr) : Bool := He.eqO (PySem.W.findIn K (.ref C) "__str__") (some (some (.ref (He.ma K C "__str__")))) && PySem.W.isFn K (.ref (He.ma K C "__str__"))
theorem notFirst_self {K : PySem.W.Frag} {C : Addr} : PySem.W.notFirst K C (.ref C) = true := by
  unfold PySem.W.notFirst
  simp
/-! ### equal things -/
def dT : V → PyData
  | .int i => .int i
  | _ => .none
def isTh : V → Bool
  | .non => true
  | .int _ => true
  | _ => false
theorem dp_all {K : PySem.W.Frag} {H : Hp} : ∀ {xs : List V}, (∀ y ∈ xs, isTh y = true) → DpAll K H xs (xs.map dT)
  | [], _ => .nil
  | x :: r, h => by
    refine .cons ?_ (dp_all fun y hy => h y (List.mem_cons_of_mem _ hy))
    have := h x List.mem_cons_self
    revert this
    cases x with
    | non => exact fun _ => .non
    | int i => exact fun _ => .int i
    | _ => exact fun z => nomatch z
theorem eqv_th {x y : V} (hx : isTh x = true) (hy : isTh y = true) : PyData.eqv (dT x) (dT y) = decide (x = y) := by
  revert hx hy
  cases x with
  | non =>
    cases y with
    | non => exact fun _ _ => rfl
    | int j => exact fun _ _ => (decide_eq_false (p := V.non = V.int j) (fun z => by cases z)).symm
    | _ => exact fun _ z => nomatch z
  | int i =>
    cases y with
    | non => exact fun _ _ => (decide_eq_false (p := V.int i = V.non) (fun z => by cases z)).symm
    | int j =>
      intro _ _
      show (i == j) = decide (V.int i = V.int j)
      by_cases c : i = j
      · subst c
        simp
      · rw [decide_eq_false (fun z => c (by injection z)), beq_eq_false_iff_ne.mpr c]
    | _ => exact fun _ z => nomatch z
  | _ => exact fun z => nomatch z
theorem eqv_ths : ∀ {xs ys : List V}, (∀ y ∈ xs, isTh y = true) → (∀ y ∈ ys, isTh y = true) → PyData.eqvAll (xs.map dT) (ys.map dT) = decide (xs = ys)
  | [], [], _, _ => rfl
  | x :: r, y :: q, h, k => by
    show (PyData.eqv (dT x) (dT y) && PyData.eqvAll (r.map dT) (q.map dT)) = _
    rw [eqv_th (h x List.mem_cons_self) (k y List.mem_cons_self), eqv_ths (fun z hz => h z (List.mem_cons_of_mem _ hz)) fun z hz => k z (List.mem_cons_of_mem _ hz)]
    by_cases c1 : x = y
    · by_cases c2 : r = q
      · simp [c1, c2]
      · simp [c1, c2]
    · simp [c1]
  | [], y :: q, _, _ => by
    show false = _
    simp
  | x :: r, [], _, _ => by
    show false = _
    simp
theorem can_th (x : V) : PyData.canLay0 (dT x) = true := by
  cases x <;> simp [dT, PyData.canLay0]
theorem dep_th (x : V) : PyData.depth (dT x) = 0 := by
  cases x <;> simp [dT, PyData.depth]
theorem can_ths : ∀ xs : List V, PyData.canLayAll0 (xs.map dT) = true
  | [] => by simp [PyData.canLayAll0]
  | x :: r => by
    rw [List.map_cons, PyData.canLayAll0, can_th, can_ths r]
    rfl
theorem dep_ths : ∀ xs : List V, PyData.depthAll (xs.map dT) = 0
  | [] => by simp [PyData.depthAll]
  | x :: r => by
    rw [List.map_cons, PyData.depthAll, dep_th, dep_ths r]
    rfl
theorem shaped_list (xs : List V) : SeqAt.shaped (.list (xs.map dT)) = true := by
  unfold SeqAt.shaped
  rw [PyData.canLay0, PyData.depth, can_ths, dep_ths]
  rfl
theorem shaped_th (x : V) : SeqAt.shaped (dT x) = true := by
  unfold SeqAt.shaped
  rw [can_th, dep_th]
  rfl
/-- the parts of a row as data -/
def partsD (fs ys : List V) (m : Int) : PyData := .tuple [.tuple (fs.map dT), .tuple (ys.map dT), .int m]
theorem shaped_parts (fs ys : List V) (m : Int) : SeqAt.shaped (partsD fs ys m) = true := by
  unfold SeqAt.shaped partsD
  simp only [PyData.canLay0, PyData.canLayAll0, PyData.depth, PyData.depthAll, can_ths, dep_ths]
  rfl
theorem eqv_parts {fs ys gs zs : List V} {m k : Int} (h1 : ∀ y ∈ fs, isTh y = true) (h2 : ∀ y ∈ ys, isTh y = true) (h3 : ∀ y ∈ gs, isTh y = true) (h4 : ∀ y ∈ zs, isTh y = true) : PyData.eqv (partsD fs ys m) (partsD gs zs k) = decide (fs = gs ∧ ys = zs ∧ m = k) := by
  unfold partsD
  simp only [PyData.eqv, PyData.eqvAll]
  rw [eqv_ths h1 h3, eqv_ths h2 h4]
  by_cases c1 : fs = gs <;> by_cases c2 : ys = zs <;> by_cases c3 : m = k <;> simp [c1, c2, c3]
theorem dp_parts {K : PySem.W.Frag} {H : Hp} {p p1 p2 : Addr} {fs ys : List V} {m : Int} (h : H p = some (.tup [.ref p1, .ref p2, .int m])) (h1 : H p1 = some (.tup fs)) (h2 : H p2 = some (.tup ys)) (t1 : ∀ y ∈ fs, isTh y = true) (t2 : ∀ y ∈ ys, isTh y = true) : Dp K H (.ref p) (partsD fs ys m) :=
  .tup (.inl (.inl h)) (.cons (.tup (.inl (.inl h1)) (dp_all t1)) (.cons (.tup (.inl (.inl h2)) (dp_all t2)) (.cons (.int m) .nil)))
theorem dp_list {K : PySem.W.Frag} {H : Hp} {p : Addr} {xs : List V} (h : H p = some (.lst xs)) (t : ∀ y ∈ xs, isTh y = true) : Dp K H (.ref p) (.list (xs.map dT)) := .lst (.inl (.inl h)) (dp_all t)
theorem eqv_list {xs ys : List V} (h : ∀ y ∈ xs, isTh y = true) (k : ∀ y ∈ ys, isTh y = true) : PyData.eqv (.list (xs.map dT)) (.list (ys.map dT)) = decide (xs = ys) := by
  rw [PyData.eqv, eqv_ths h k]
theorem dp_th {K : PySem.W.Frag} {H : Hp} {x : V} (h : isTh x = true) : Dp K H x (dT x) := by
  revert h
  cases x with
  | non => exact fun _ => .non
  | int i => exact fun _ => .int i
  | _ => exact fun z => nomatch z
end WW

set_option Elab.async false
set_option linter.all false
set_option maxRecDepth 100000
set_option maxHeartbeats 4000000
namespace WW
open PySem PySem.Spec PyProof.Rows L2
/-- super().__init__(text); self.f = x -/
def supBody (p0 p1 p2 p3 p4 p5 p6 p7 p8 p9 : Pos) (j : Nat) (txt fld px : Str) : List Stmt :=
  [.Expr (.Call (.Attribute (.Call (.Name "super" p0) [] [] p1) "__init__" p2) [.Constant (.str txt) j p9] [] p3) p4, .Assign [.Attribute (.Name "self" p5) fld p6] (.Name px p7) p8]
structure SupScope (scope : Scope) (params : Arguments) (px : Str) : Prop where
  ks : scope.names.lookup ("super" : Str) = some .globalImplicit
  kc : scope.names.lookup ("__class__" : Str) = some .free
  kself : scope.names.lookup ("self" : Str) = some .local
  kx : scope.names.lookup px = some .local
  kind : scope.kind = .function
  co : scope.isCoroutine = false
  gen : scope.isGenerator = false
  nocell : ∀ x ∈ scope.names, x.2 ≠ .cell
  hd : ∃ ar, (params.posonlyargs ++ params.args).head? = some ar ∧ ar.arg = ("self" : Str)
  ne : px ≠ ("self" : Str)
  dbg : (px == ("__debug__" : Str)) = false
/-- what the written part says of such a class -/
structure SupC (P : Program) (K : PySem.W.Frag) (C fI : Addr) (qual : Str) (params : Arguments) (body : List Stmt) (scope : Scope) : Prop where
  oex : OexC K C
  ini : PySem.W.findIn K (.ref C) "__init__" = some (some (.ref fI))
  tyI : PySem.W.typeIn K (.ref fI) = some (.type "function")
  fn : ∃ (nm : Str) (oc : Value) (od : Option Addr) (kV doc pm : Value) (an : Option Addr) (cda cc : Addr) (ct : Value) (osl : Array (Option Value)) (ccl : Value) (cdd : Option Addr) (vs : Array Value) (ccs : Array (Option Value)) (file : Str) (tf : Tok) (cl : Value) (cld : Option Addr) (csl : Array (Option Value)),
    K.lookup fI = some ⟨oc, od, .func (PySem.W.ksFn nm qual params body scope .none kV doc pm an (.ref cda) ct cc), osl⟩ ∧ PySem.W.codeIn K (.ref cda) qual = true ∧ K.lookup cda = some ⟨ccl, cdd, .fields vs, ccs⟩ ∧ vs[2]? = some (.str file tf) ∧ ((P.main.file : Str) == file) = true ∧ K.lookup cc = some ⟨cl, cld, .cell (some (.ref C)), csl⟩
  sup : PySem.W.ks_superIn K C C "__init__" = some (some (.builtin "ValueError.__init__"))
  sub : PySem.W.mroIn K C (.ref C) = some true
  ve : PySem.W.subIn K (.ref C) (.type "ValueError") = some true
  opq : PySem.W.nsIn K cStatics "thirdparty.any" = some none
  top : (P.main.scope.names.lookup ("super" : Str)).isSome = false
theorem sup_code {prog : Program} {w : World} {A : Around} {K : PySem.W.Frag} {mg : Str → Option Value} {base hp : Heap} {g : Array GenState} {d : PySem.Drawn} {t : Nat} {os : OsState} {C fI a t0 : Addr} {qual : Str} {params : Arguments} {scope : Scope} {u : Value} {R : Result → Shared → Prop}
    {p0 p1 p2 p3 p4 p5 p6 p7 p8 p9 : Pos} {j : Nat} {txt fld px : Str}
    (SC : SupC prog K C fI qual params (supBody p0 p1 p2 p3 p4 p5 p6 p7 p8 p9 j txt fld px) scope) (SS : SupScope scope params px) (M0 : Mod K mg base) (kb : ∀ b o, base.get? b = some o → hp.get? b = some o) (hab : base.get? a = none) (hsup : mg "super" = none)
    (hroom : A.depth < recursionLimit) (hno : PySem.W.findIn K (.ref C) fld = some none) {pl : Env → Sem Bool}
    (hev : ∀ env : Env, eval (.Call (.Attribute (.Call (.Name "super" p0) [] [] p1) "__init__" p2) [.Constant (.str txt) j p9] [] p3) env = (do
      let ov ← attributeBase (.Call (.Name "super" p0) [] [] p1) "__init__" env (eval (.Call (.Name "super" p0) [] [] p1) env)
      standAt p2.atName
      let (f, first) ← holding [ov] (getMethod ov "__init__" (pl env))
      callWith p3 f first (backTo p3 (starEach [.Constant (.str txt) j p9] env)) []))
    (hbind : ∀ (nm : Str) (kV doc pm : Value) (an : Option Addr) (cdv ct : Value) (cc : Addr) (us : List Value), us.length = 2 → bindArgs (PySem.W.ksFn nm qual params (supBody p0 p1 p2 p3 p4 p5 p6 p7 p8 p9 j txt fld px) scope .none kV doc pm an cdv ct cc) ⟨us, []⟩ = pure ((["self", px] : List Str).zip us))
    (hx : hp.get? a = some (PySem.HandSPX.excO C t0))
    (hq : ∀ h' tk' dx t1, (∀ b o, b ≠ a → hp.get? b = some o → h'.get? b = some o) → hp.objs.size ≤ dx → dx ≠ a → h'.get? a = some ({ cls := .ref C, dict := some dx, data := .fields #[.ref t1, .none, .none, .none, .bool false, .none] } : Obj) →
      h'.Ns1 dx (fun y => if y = fld then some u else none) → R (.ok (.ret .none)) ⟨h', g, d, tk', os⟩) :
    codeAny (model prog w) A (.call (.ref fI) ⟨[.ref a, u], []⟩) R ⟨hp, g, d, t, os⟩ := by
  obtain ⟨nm, oc, od, kV, doc, pm, an, cda, cc, ct, osl, ccl, cdd, vs, ccs, file, tf, cl, cld, csl, hf, hcd, hcode, hvs, hfile, hcell⟩ := SC.fn
  have X : K.In hp := M0.kin.keeps kb
  have bt : BindsTo ⟨hp, g, d, t, os⟩ (PySem.W.ksFn nm qual params (supBody p0 p1 p2 p3 p4 p5 p6 p7 p8 p9 j txt fld px) scope .none kV doc pm an (.ref cda) ct cc) ⟨[.ref a, u], []⟩ [(("self" : Str), .ref a), (px, u)] := by
    intro M A Q E hQ
    rw [hbind _ _ _ _ _ _ _ _ [.ref a, u] rfl]
    exact wpAny_pure hQ
  refine PySem.ks_codeAny_call_defAt hroom (X _ _ hf) rfl (M0.nolimit.keeps kb) (PySem.W.codeRec_of X hcd) rfl bt SS.nocell ?_ (fun h₀ hns k0 => ?_) SS.co SS.gen SS.kind
  · intro x hx
    simp only [List.mem_cons, List.not_mem_nil, or_false] at hx
    rcases hx with rfl | rfl
    · exact SS.kself
    · exact SS.kx
  have X0 : K.In h₀ := X.keeps k0
  have hx0 : h₀.get? a = some (PySem.HandSPX.excO C t0) := k0 _ _ hx
  obtain ⟨ar, har, hself⟩ := SS.hd
  obtain ⟨mb, hb1, hb2⟩ := M0.blt
  obtain ⟨nm', q', N', bs', bm', sn', sub', ab', col', dd', e0, e1, e2, e3, e5, hC, hbm⟩ := SC.oex.cls
  have hcl : PySem.W.clsIn K C = some { name := nm', bases := bs', mro := .ref C :: bm', ns := N', qualname := q', hasDict := true, slotNames := sn', subclasses := sub', abstract := ab', collection := col', hasDel := false } := by unfold PySem.W.clsIn; rw [hC] <;> rfl
  have kbh : ∀ b o, base.get? b = some o → h₀.get? b = some o := fun b o e => k0 b o (kb b o e)
  have v1 : (fun x => [(("self" : Str), Value.ref a), (px, u)].reverse.lookup x) ("self" : Str) = some (.ref a) := by
    show ([(px, u), (("self" : Str), Value.ref a)] : List (Str × Value)).lookup ("self" : Str) = _
    have n : ((("self" : Str) == px) = false) := by
      rw [beq_eq_false_iff_ne]
      exact Ne.symm SS.ne
    simp [List.lookup, n]
  have v2 : (fun x => [(("self" : Str), Value.ref a), (px, u)].reverse.lookup x) px = some u := by
    show ([(px, u), (("self" : Str), Value.ref a)] : List (Str × Value)).lookup px = _
    simp [List.lookup]
  generalize (fun x => [(("self" : Str), Value.ref a), (px, u)].reverse.lookup x) = m at hns v1 v2
  show PySem.wpAt (model prog w) (A.deeper (PySem.W.ksEnv qual scope hp.objs.size fI (.ref cda) cc)) (.func (supBody p0 p1 p2 p3 p4 p5 p6 p7 p8 p9 j txt fld px) (PySem.W.ksEnv qual scope hp.objs.size fI (.ref cda) cc)) (execs [.Expr (.Call (.Attribute (.Call (.Name "super" p0) [] [] p1) "__init__" p2) [.Constant (.str txt) j p9] [] p3) p4, .Assign [.Attribute (.Name "self" p5) fld p6] (.Name px p7) p8] (PySem.W.ksEnv qual scope hp.objs.size fI (.ref cda) cc)) _ _ ⟨h₀, g, d, t + 2, os⟩
  refine PySem.ks_wpAt_execs_cons (PySem.ks_wpAt_Expr_any (PySem.ks_wpAt_MethodCall ?_ (hev _)) (by show (scope.kind == .module && _) = false; rw [SS.kind]; rfl))
  refine PySem.ks_wpAt_super_base (env := PySem.W.ksEnv qual scope hp.objs.size fI (.ref cda) cc) SS.ks SS.kc (by decide) rfl (X0 _ _ hf) rfl har rfl (X0 _ _ hcode) rfl hvs hfile SC.top ?_
  refine PySem.W.ks_loadName_global SS.kind SS.ks (Calls.loadGlobal_builtin (env := PySem.W.ksEnv qual scope hp.objs.size fI (.ref cda) cc) (M0.glob.keeps kbh) hsup (hb1.keeps kbh) ((hb2 _ (by decide)).trans (by kernel_rfl)) ⟨rfl, ?_⟩)
  refine wpAny_loadName_free SS.kind SS.kc rfl ⟨_, X0 _ _ hcell, rfl⟩ ?_
  rw [hself]
  refine wpAny_loadName_local SS.kind SS.kself hns v1 ?_
  refine PySem.ks_wpAny_isType_cls (X0 _ _ hC) rfl ⟨rfl, ?_⟩
  refine PySem.ks_wpAny_call_super (X0 _ _ hC) rfl hx0 rfl (fun c e => nomatch e) (PySem.W.looks_mroIn X0 SC.sub) (fun h1 hso k1 => ?_)
  have X1 : K.In h1 := X0.keeps k1
  have hx1 := k1 _ _ hx0
  have I1 : PySem.W.InstAt h1 a (PySem.HandSPX.excO C t0) C none := ⟨hx1, rfl, rfl, trivial⟩
  have hsI : PySem.W.alongIn K "__init__" (((Value.ref C :: bm').dropWhile (· != .ref C)).drop 1) = some (some (.builtin "ValueError.__init__")) := by
    have z := SC.sup
    unfold PySem.W.ks_superIn at z
    rw [hcl] at z
    exact z
  refine PySem.W.kxs_getMethod PySem.W.kxs_ValueError hso (PySem.W.looks_opaque X1 SC.opq) (l₀ := Value.ref C :: bm') ?_ rfl X1 hsI (I1.type.andThen (PySem.W.looks_subIn X1 SC.ve)) (PySem.W.ks_ne X1 I1 hcl) (by decide) ?_
  · exact fun A Q E s k q => wpAny_bind ((PySem.W.looks_clsIn X1 hcl) A _ E s k (wpAny_pure q))
  have hu : (h1.push (PySem.W.kxs_mw "ValueError.__init__" a)).get? h1.objs.size = some (PySem.W.kxs_mw "ValueError.__init__" a) := Heap.get?_push_at rfl rfl
  have k2 : ∀ b o, h1.get? b = some o → (h1.push (PySem.W.kxs_mw "ValueError.__init__" a)).get? b = some o := fun b o e => Heap.get?_push_of_some _ e
  generalize h1.push (PySem.W.kxs_mw "ValueError.__init__" a) = h2 at hu k2
  have hse : starEach [Expr.Constant (Const.str txt) j p9] (PySem.W.ksEnv qual scope hp.objs.size fI (.ref cda) cc) = (false, eval (Expr.Constant (Const.str txt) j p9) (PySem.W.ksEnv qual scope hp.objs.size fI (.ref cda) cc)) :: starEach [] (PySem.W.ksEnv qual scope hp.objs.size fI (.ref cda) cc) := rfl
  dsimp only
  refine PySem.W.kxs_callWith (i := "ValueError.__init__") (x := a) rfl ?_
  rw [hse]
  refine Calls.evalArgs_plain ?_
  show wpAny _ _ (spliced (backTo p3 (starEach [Expr.Constant (Const.str txt) j p9] (PySem.W.ksEnv qual scope hp.objs.size fI (.ref cda) cc)))) _ _ _
  refine PyProof.Rows.args_cons (wpAny_Constant_str (PyProof.Rows.args_nil ⟨hu, ?_⟩)) hse
  have X2 : K.In h2 := X1.keeps k2
  have hx2 := k2 _ _ hx1
  refine wpAny_call (codeAny_of_tree ?_)
  show wpAny _ _ (callAny (.ref h1.objs.size) ⟨[] ++ [Value.str txt _], []⟩) _ _ _
  simp only [callAny]
  refine wpAny_bind (wpAny_load hu ?_)
  simp only [PySem.W.kxs_mw, show (Value.type "method-wrapper" == Value.type "method" || Value.type "method-wrapper" == Value.type "builtin_function_or_method" || Value.type "method-wrapper" == Value.type "method-wrapper") = true by decide, if_true]
  refine PySem.W.KFB.if_so (by decide) ?_
  refine wpAny_bind (PySem.W.check_bound_init F.excBase_ValueError.toExcCallFacts (X2 _ _ hC) hx2 rfl ?_)
  refine wpAny_bind (wpAny_pure (wpAny_pure ?_))
  refine ⟨plainId_quiet F.excBase_ValueError.init.plain _, codeAny_builtin F.excBase_ValueError.initEntry ?_⟩
  refine PySem.W.exc_init_tree (cls := .ref C) (t0 := t0) (dv := none) (c2 := .none) (c3 := .none) (b4 := .bool false) hx2 (by show 1 ≤ sizeLine; decide) (fun h3 k3 hx3 ht3 => ?_)
  have hLa : hp.objs.size ≠ a := Ne.symm (Nat.ne_of_lt (Heap.lt_size hx))
  have k03 : ∀ b o, b ≠ a → h₀.get? b = some o → h3.get? b = some o := fun b o hb e => k3 b o hb (k2 _ _ (k1 _ _ e))
  have X3 : K.In h3 := M0.kin.keeps fun b o e => k03 b o (fun z => by rw [z, hab] at e; cases e) (kbh b o e)
  have hns3 : h3.Ns hp.objs.size m := by
    obtain ⟨oL, es, ep, hL, r⟩ := hns
    exact ⟨oL, es, ep, k03 _ _ hLa hL, r⟩
  show PySem.wpAt _ _ _ (execs [Stmt.Assign [(Expr.Name "self" p5).Attribute fld p6] (Expr.Name px p7) p8] (PySem.W.ksEnv qual scope hp.objs.size fI (.ref cda) cc)) _ _ _
  refine PySem.ks_wpAt_execs_cons (PySem.ks_wpAt_Assign_Attr (wpAt_of_wpAny (PySem.ESX.ldL (env := PySem.W.ksEnv qual scope hp.objs.size fI (.ref cda) cc) hns3 v2 (PySem.ESX.ldL (env := PySem.W.ksEnv qual scope hp.objs.size fI (.ref cda) cc) hns3 v1 ?_ SS.kind SS.kself (by decide)) SS.kind SS.kx SS.dbg)))
  refine PySem.W.set_plain X3 (ox := { cls := .ref C, dict := none, data := .fields #[.ref h2.objs.size, .none, .none, .none, .bool false, .none] }) (od := none) ⟨hx3, rfl, rfl, trivial⟩ SC.oex.sa ?_
  refine PySem.HandSPX.exc_osa X3 hx3 hcl (show PySem.HandSPX.refsVE (.ref C :: bm') = true from hbm) rfl hno (fun h' tk' dx k dn dne hx' hn => ?_)
  refine wpAt_of_wpAny (wpAny_execs_nil ?_)
  refine hq h' _ dx _ (fun b o hb e => k b o hb (k03 b o hb (k0 _ _ e))) ?_ dne hx' hn
  obtain ⟨oL, es, ep, hL, r⟩ := hns3
  exact Nat.le_trans (Nat.le_of_lt (Heap.lt_size hL)) dn
/-- an own exception class by its name: super().__init__(text); self.fld = x -/
structure SupAt (P : Program) (K : PySem.W.Frag) (mg : Str → Option Value) (x fld : Str) : Prop where
  ex : ∃ (fI : Addr) (qual : Str) (params : Arguments) (scope : Scope) (p0 p1 p2 p3 p4 p5 p6 p7 p8 p9 : Pos) (j : Nat) (txt px : Str) (pl : Env → Sem Bool),
    SupC P K (He.ga K x) fI qual params (supBody p0 p1 p2 p3 p4 p5 p6 p7 p8 p9 j txt fld px) scope ∧ SupScope scope params px ∧
    (∀ env : Env, eval (.Call (.Attribute (.Call (.Name "super" p0) [] [] p1) "__init__" p2) [.Constant (.str txt) j p9] [] p3) env = (do
      let ov ← attributeBase (.Call (.Name "super" p0) [] [] p1) "__init__" env (eval (.Call (.Name "super" p0) [] [] p1) env)
      standAt p2.atName
      let (f, first) ← holding [ov] (getMethod ov "__init__" (pl env))
      callWith p3 f first (backTo p3 (starEach [.Constant (.str txt) j p9] env)) [])) ∧
    (∀ (nm : Str) (kV doc pm : Value) (an : Option Addr) (cdv ct : Value) (cc : Addr) (us : List Value), us.length = 2 → bindArgs (PySem.W.ksFn nm qual params (supBody p0 p1 p2 p3 p4 p5 p6 p7 p8 p9 j txt fld px) scope .none kV doc pm an cdv ct cc) ⟨us, []⟩ = pure ((["self", px] : List Str).zip us))
  no : PySem.W.findIn K (.ref (He.ga K x)) fld = some none
  g : mg x = some (.ref (He.ga K x))
  sup : mg "super" = none
/-- C(e), C such a class -/
def tMkS (C : Addr) (fld : Str) (te : TE) : L2.St → Hp → XK → Prop := fun σ H Q => te σ H fun y H1 => ∀ d, H1 d = none → Q (.ref C) (some d) (upd H1 d (.xd [(fld, y)]))
section
variable {X : Cx} {e : Expr} {te : TE} {p pos : Pos}
theorem pmk_sup {x fld : Str} {k : Nat} (S : SupAt X.prog X.K X.mg x fld) (hr : Room k X.A) (hg : Gl X x) (ha : PE X e te) (hk : 1 ≤ k := by decide)
    (hdb : (x == ("__debug__" : Str)) = false := by decide) (he : starEach [e] X.env = (false, eval e X.env) :: starEach [] X.env := by rfl) :
    PMk X (.Call (.Name x p) [e] [] pos) (tMkS (He.ga X.K x) fld te) := by
  intro pins s σ H Q I h
  obtain ⟨fI, qual, params, scope, p0, p1, p2, p3, p4, p5, p6, p7, p8, p9, j, txt, px, pl, SC, SS, hev, hbind⟩ := S.ex
  have T := SC.oex
  obtain ⟨nm, q, N, bs, bm, sn, sub, ab, col, dd, k0, k1, k2, k3, k5, hC, hbm⟩ := T.cls
  refine wpAny_Call_Name_kw (ld_glob I hg S.g ?_ hdb)
  refine PySem.W.callWith_K (h₀ := X.base) I.ok.mod.kin T.kC (PyProof.Rows.args_cons (thn (ha.run pins s σ H _ I h) fun u s1 ⟨y, H1, I1, ry, q1⟩ => PyProof.Rows.args_nil ⟨I1.kIn, ?_⟩) he) he rfl
  show wpAny _ _ (call (.ref (He.ga X.K x)) [u]) _ _ _
  obtain ⟨hp, g, dr, tk, os⟩ := s1
  have hsz : hp.objs.size ≤ hp.objs.size + 1 := Nat.le_succ _
  have hn : H1 (hp.objs.size + 1) = none := I1.hok.fresh hsz
  have kk : ∀ b o, hp.get? b = some o → ((hp.push (PySem.W.kdv_tup [u])).push (PySem.HandSPX.excO (He.ga X.K x) hp.objs.size)).get? b = some o := fun b o e => Heap.get?_push_of_some _ (Heap.get?_push_of_some _ e)
  have hget : ((hp.push (PySem.W.kdv_tup [u])).push (PySem.HandSPX.excO (He.ga X.K x) hp.objs.size)).get? (hp.objs.size + 1) = some (PySem.HandSPX.excO (He.ga X.K x) hp.objs.size) := by heap_get
  have hsz2 : hp.objs.size ≤ ((hp.push (PySem.W.kdv_tup [u])).push (PySem.HandSPX.excO (He.ga X.K x) hp.objs.size)).objs.size := Nat.le_of_lt (Nat.lt_trans (Nat.lt_succ_self _) (Heap.lt_size hget))
  have hab : X.base.get? (hp.objs.size + 1) = none := by
    cases z : X.base.get? (hp.objs.size + 1) with
    | none => rfl
    | some o => exact absurd (Heap.lt_size (I1.bk _ _ z)) (by show ¬ hp.objs.size + 1 < hp.objs.size; omega)
  refine wpAny_call (PySem.HandSPX.call_own F.excBase_ValueError (fun Y => PySem.HandSPX.refsVE_contains Y bm hbm) (I1.kIn _ _ hC) (PySem.W.looks_findIn I1.kIn SC.ini) (fun self => PySem.W.bind_fn I1.kIn self SC.tyI) (by show 1 ≤ sizeLine; decide)
    (sup_code SC SS I.ok.mod (fun b o e => kk b o (I1.bk b o e)) hab S.sup ((hr.mono hk).make (He.ga X.K x) [u] []).depth S.no hev hbind hget (fun h' tk' dx t1 k dn dne hx hns => ?_)))
  refine ⟨rfl, ?_⟩
  have hnd : H1 dx = none := I1.hok.fresh (Nat.le_trans hsz2 dn)
  generalize ea0 : hp.objs.size + 1 = a at *
  generalize eC : He.ga X.K x = C at *
  generalize (hp.push (PySem.W.kdv_tup [u])).push (PySem.HandSPX.excO C hp.objs.size) = hp2 at *
  have I2 : Inv X pins σ (upd H1 a (exo a C none)) ⟨hp2, g, dr, tk, os⟩ := I1.laid (t' := tk) (a := a) (o := exo a C none) (h' := hp2) kk hsz (exo_ok hget)
  have e : (upd H1 a (exo a C none)) a = some (exo a C none) := upd_same
  have hnd2 : (upd H1 a (exo a C none)) dx = none := (upd_ne dne).trans hnd
  have nd : ∀ {b : Addr} {o : Obj}, hp2.get? b = some o → b ≠ dx := fun {b o} q => Nat.ne_of_lt (Nat.lt_of_lt_of_le (Heap.lt_size q) dn)
  have na : ∀ {b : Addr}, (upd H1 a (exo a C none)) b = none → b ≠ a := fun {b} n z => by
    rw [z, e] at n
    cases n
  generalize hH : upd H1 a (exo a C none) = HH at *
  have Un1 : Un (frs X.stack) [] HH (upd (upd HH dx (exd dx [(fld, y)])) a (exo a C (some dx))) hp2 h' := {
    keep := fun b o q n _ _ => k b o (na n) q
    slot := fun b o q n _ _ => ⟨o.slots, k b o (na n) q⟩
    free := fun b o q n _ => by rw [upd_ne (na n), upd_ne (nd q)]; exact n
    there := fun b o q _ => by
      by_cases hb : b = a
      · exact ⟨_, by rw [hb]; exact hx⟩
      · exact ⟨o, k b o hb q⟩
    tups := fun b xs q => by rw [upd_ne (at_ne e q exo_tup), upd_ne (ne_of_none q hnd2)]; exact q
    frzs := fun b o v q => by rw [upd_ne (at_ne e q exo_frz), upd_ne (ne_of_none q hnd2)]; exact q
    tbls := fun b ps q => ⟨#[], by rw [upd_ne (at_ne e q exo_tbl), upd_ne (ne_of_none q hnd2), q]; simp⟩ }
  have hok2 : HOk X.prog X.w (upd (upd HH dx (exd dx [(fld, y)])) a (exo a C (some dx))) h' := fun b o q => by
    by_cases hb : b = a
    · subst hb
      rw [upd_same] at q
      cases q
      exact exo_ok hx
    · rw [upd_ne hb] at q
      by_cases hd : b = dx
      · subst hd
        rw [upd_same] at q
        cases q
        exact exd_ok hns (relO_put (fs := []) ry fun g => True.intro)
      · rw [upd_ne hd] at q
        exact (I2.hok b o q).stay (fun c v hc z => k c v (by
            rcases hc with hc | hc
            · rw [hc]
              exact hb
            · exact at_ne e hc exo_own) z)
          (fun c hc => by rw [upd_ne (at_ne e hc exo_own), upd_ne (ne_of_none hc hnd2)]; exact hc) (fun c xs hc => by rw [upd_ne (at_ne e hc exo_tup), upd_ne (ne_of_none hc hnd2)]; exact hc)
  have ea : (upd (upd HH dx (exd dx [(fld, y)])) a (exo a C (some dx))) a = some (exo a C (some dx)) := upd_same
  have ed : (upd (upd HH dx (exd dx [(fld, y)])) a (exo a C (some dx))) dx = some (exd dx [(fld, y)]) := (upd_ne dne).trans upd_same
  have eF : upd (del (upd (upd HH dx (exd dx [(fld, y)])) a (exo a C (some dx))) a) dx (.xd [(fld, y)]) = upd H1 dx (.xd [(fld, y)]) := by
    funext b
    by_cases hd : b = dx
    · rw [hd, upd_same, upd_same]
    · rw [upd_ne hd, upd_ne hd]
      by_cases hb : b = a
      · rw [hb, del_same, hn]
      · rw [del_ne hb, upd_ne hb, upd_ne hd, ← hH, upd_ne hb]
  rw [← hH] at Un1
  refine mk_end (raises_own T.exC T.tyC) I1 hsz kk Un1 (by rw [hH]; exact hok2) rfl I1.bare (by rw [hH]; exact ea) (by rw [hH]; exact ed) hnd ?_
  rw [hH, eF]
  exact q1 dx hnd
end
end WW

set_option Elab.async false
set_option linter.all false
set_option maxRecDepth 100000
set_option maxHeartbeats 4000000
namespace WW
open PySem PySem.Spec PyProof.Rows L2
/-- isinstance(e, c), isinstance(e, (c, ..)), e the exception that the suite holds -/
def rIsX (K : PySem.W.Frag) (D a : Addr) : List V → Hp → VK → Prop := fun xs H Q => ∃ (c : V) (u : Value) (b : Bool), xs = [.ref a, c] ∧ ClsV c u ∧ PySem.W.kitOne K (.ref D) u = some b ∧ Q (.bl b) H
def rIsXT (K : PySem.W.Frag) (D a : Addr) : List V → Hp → VK → Prop := fun xs H Q => ∃ (tp : Addr) (cs : List V) (us : List Value) (b : Bool), xs = [.ref a, .ref tp] ∧ H tp = some (.tup cs) ∧ Paired ClsV cs us ∧ PySem.W.kitAny K (.ref D) us = some b ∧ Q (.bl b) H
section
variable {X : Cx} {a D : Addr} {oe : Obj} {cls : Value} {d : Option Addr} {pn : List (Addr × Obj)}
theorem inst_x {pins : List (Addr × Obj)} {σ : L2.St} {H : Hp} {s : Shared} (hz : Zc (.ref D) d oe) (hf : ∃ vs, oe.data = .fields vs) (hd : ∀ dd, d = some dd → ∃ fs, H dd = some (.xd fs)) (I : Inv (X.suite a ((a, oe) :: pn)) pins σ H s) : ∃ od, PySem.W.InstAt s.heap a oe D od := by
  obtain ⟨hget, _⟩ := I.pin (a, oe) (List.mem_append.mpr (.inl List.mem_cons_self))
  obtain ⟨vs, hv⟩ := hf
  have hn : PySem.W.notCls oe = true := by unfold PySem.W.notCls; rw [hv] <;> rfl
  cases hd' : d with
  | none => exact ⟨none, hget, hz.1, hn, by rw [hz.2, hd']; trivial⟩
  | some dd =>
    obtain ⟨fs, e⟩ := hd dd hd'
    have hx : ObjOk X.prog X.w H s.heap dd (.xd fs) := I.hok dd _ e
    obtain ⟨mA, ⟨o, es, ep, ho, _⟩, _⟩ := hx
    exact ⟨some o, hget, hz.1, hn, by rw [hz.2, hd']; exact ho⟩
theorem call_isX (K : PySem.W.Frag) (C : ExcC X.K D) (hz : Zc cls d oe) (hf : ∃ vs, oe.data = .fields vs) (hK : X.K = K := by rfl) : CallR (X.suite a ((a, oe) :: pn)) (.builtin "isinstance") (fun xs H Q => cls = .ref D ∧ (∀ dd, d = some dd → ∃ fs, H dd = some (.xd fs)) ∧ rIsX K D a xs H Q) := by
  subst hK
  intro pins s σ H xs us Q I r h
  obtain ⟨ec, hd, c, u, b, rfl, k, e, q⟩ := h
  subst ec
  obtain ⟨u1, u2, rfl, r1, r2⟩ := vals2 r
  have e2 := k.eq r2
  subst e2
  cases r1
  obtain ⟨od, J⟩ := inst_x hz hf hd I
  exact PySem.W.kia_one (PySem.W.kitx_exc (by obtain ⟨cd, hc, _⟩ := PySem.W.any_some C.hd; rw [hc]; rfl) C.hg C.hk C.hs C.ha C.hn C.ht C.hm) I.kIn J e (fun z => nomatch z) fun tk => ⟨.bl b, H, I.tok tk, rfl, q⟩
theorem call_isXT (K : PySem.W.Frag) (C : ExcC X.K D) (hz : Zc cls d oe) (hf : ∃ vs, oe.data = .fields vs) (hK : X.K = K := by rfl) : CallR (X.suite a ((a, oe) :: pn)) (.builtin "isinstance") (fun xs H Q => cls = .ref D ∧ (∀ dd, d = some dd → ∃ fs, H dd = some (.xd fs)) ∧ rIsXT K D a xs H Q) := by
  subst hK
  intro pins s σ H xs us Q I r h
  obtain ⟨ec, hd, tp, cs, ws, b, rfl, hT, k, e, q⟩ := h
  subst ec
  obtain ⟨u1, u2, rfl, r1, r2⟩ := vals2 r
  cases (show u2 = Value.ref tp from r2)
  cases r1
  obtain ⟨od, J⟩ := inst_x hz hf hd I
  obtain ⟨_, its, rv, o, h1, h2, n, h3⟩ := (show ObjOk X.prog X.w H s.heap tp (.tup cs) from I.hok tp _ hT)
  have e3 := ClsV.all k rv
  subst e3
  obtain ⟨oc, od', dt, sl⟩ := o
  simp only at h2 h3
  subst h2 h3
  exact PySem.W.kia_tup (PySem.W.kitx_exc (by obtain ⟨cd, hc, _⟩ := PySem.W.any_some C.hd; rw [hc]; rfl) C.hg C.hk C.hs C.ha C.hn C.ht C.hm) I.kIn J h1 e (fun z => nomatch z) fun tk => ⟨.bl b, H, I.tok tk, rfl, q⟩
end
theorem takes_no {X : Cx} : Takes X (fun _ _ _ _ => False) := fun u s' x => by
  obtain ⟨_, _, _, _, _, _, _, _, _, _, _, _, _, _, _, _, w⟩ := x
  exact w.elim
/-! ### making an object, by an __init__ that may raise -/
structure MkAtX (P : Program) (w : World) (K : PySem.W.Frag) (mg : Str → Option Value) (base : Heap) (k : Nat) (x : Str) (ps : List Str) (sp : Sp) (dvs : List V) : Prop where
  ex : ∃ f fd ds, Mk K (He.ga K x) f ∧ FnOk P w K mg base (L2.CX P w) k f fd ps sp ∧ Vals dvs ds ∧ Binds K fd ps ds
  g : mg x = some (.ref (He.ga K x))
def tMakeS (C : Addr) (sp : Sp) (dvs : List V) (E : L2.St → XK) (t : TA) : TE := fun σ H Q => t σ H fun vs H1 => ∀ x dx, H1 x = none → H1 dx = none → dx ≠ x → sp (.ref x :: (vs ++ dvs)) (upd (upd H1 dx (.own x)) x (.ins C dx [])) (fun v H2 => v = .non ∧ Q (.ref x) H2) (E σ)
section
variable {X : Cx} {k j : Nat} {x : Str} {ps : List Str} {sp : Sp} {e : Expr} {es : List Expr} {t : TA} {p pos : Pos} {dvs : List V} {W : WX}
theorem pe_mkrX (K : PySem.W.Frag) (F : MkAtX X.prog X.w K X.mg X.base k x ps sp dvs) (tk : Takes X W) (hr : Room j X.A) (hg : Gl X x) (ha : PA X (e :: es) t) (hk : k + 1 ≤ j := by decide) (hK : X.K = K := by rfl)
    (hdb : (x == ("__debug__" : Str)) = false := by decide) (he : starEach (e :: es) X.env = (false, eval e X.env) :: starEach es X.env := by rfl) (hpl : (backTo pos (starEach es X.env)).any (·.1) = false := by rfl) :
    PE X (.Call (.Name x p) (e :: es) [] pos) (tMakeS (He.ga K x) sp dvs (WE W) t) := by
  subst hK
  obtain ⟨f, fd, ds, M, F1, hd, hb⟩ := F.ex
  refine ⟨fun pins s0 σ H0 Q I0 h0 => ?_⟩
  refine wpAny_Call_Name_kw (ld_glob I0 hg F.g ?_ hdb)
  refine PySem.W.callWith_K (h₀ := X.base) I0.ok.mod.kin M.kp (thn (ha.run pos pins s0 σ H0 _ I0 h0) fun us s ⟨vs, H, I, r, h⟩ => ⟨I.kIn, ?_⟩) he hpl
  have hq := h (s.heap.objs.size + 1) s.heap.objs.size (I.hok.fresh (Nat.le_succ _)) (I.hok.fresh (Nat.le_refl _)) (Nat.ne_of_lt (Nat.lt_succ_self _))
  have I2 := Inv.made (C := He.ga X.K x) I
  have r2 : Vals (V.ref (s.heap.objs.size + 1) :: (vs ++ dvs)) (Value.ref (s.heap.objs.size + 1) :: (us ++ ds)) := .cons rfl (r.append hd)
  have hl : (Value.ref (s.heap.objs.size + 1) :: us ++ ds).length = ps.length := by
    have e := r2.length
    rw [F1.len _ _ _ _ hq] at e
    exact e.symm
  show wpAny _ _ (call (.ref (He.ga X.K x)) us) _ _ _
  refine wpAny_call (make_map (f := f) I.kIn M.makes M.init (beq_iff_eq.mp M.fn) (codeAny_mono (F1.run _ X.stack _ _ ⟨Value.ref (s.heap.objs.size + 1) :: us, []⟩ (Value.ref (s.heap.objs.size + 1) :: (us ++ ds)) _ _ (WE W σ) ((hr.mono hk).make (He.ga X.K x) us [])
    (I2.env0.make (He.ga X.K x) us []) (hb _ (Value.ref (s.heap.objs.size + 1) :: us) I2.kIn hl) r2 hq) fun r s' hq' => ?_))
  cases r with
  | error e => exact passAt tk σ pins _ _ e s' I2 hq'
  | ok fl =>
    cases fl with
    | ret u =>
      obtain ⟨v, H', I3, rv, ev, q3⟩ := I2.after hq'
      subst ev
      exact ⟨rv, ⟨V.ref (s.heap.objs.size + 1), H', I3, rfl, q3⟩⟩
    | next => exact False.elim hq'
    | brk => exact False.elim hq'
    | cont => exact False.elim hq'
end
end WW

set_option Elab.async false
set_option linter.all false
set_option maxRecDepth 100000
set_option maxHeartbeats 4000000
namespace WW
open PySem PySem.Spec PyProof.Rows L2
/-! ### typed values: what a value stands for, told by the stable heap -/
class Enc (α : Type) where
  rep : PySem.W.Frag → Hp → V → α → Prop
  mono : ∀ {K : PySem.W.Frag} {H H' : Hp} {v : V} {a : α}, Same H H' → rep K H v a → rep K H' v a
def BIG : Nat := 1000000
theorem big_line : BIG ≤ sizeLine := by decide
instance : Enc Int := ⟨fun _ _ v i => v = .int i, fun _ h => h⟩
instance : Enc Bool := ⟨fun _ _ v b => v = .bl b, fun _ h => h⟩
instance : Enc Unit := ⟨fun _ _ v _ => v = .non, fun _ h => h⟩
instance : Enc Str := ⟨fun _ _ v z => v = .str z, fun _ h => h⟩
instance {α : Type} [Enc α] : Enc (Option α) where
  rep K H v o := match o with
    | none => v = .non
    | some a => Enc.rep K H v a
  mono {K H H' v a} e h := by
    cases a with
    | none => exact h
    | some a => exact Enc.mono e h
theorem Paired.at {α β : Type} {F : α → β → Prop} : ∀ {l : List α} {r : List β} {i : Nat} {b : β}, Paired F l r → r[i]? = some b → ∃ a, l[i]? = some a ∧ F a b
  | _, _, _, _, .nil, e => by simp at e
  | _, _, 0, _, .cons f _, e => by
    simp at e
    subst e
    exact ⟨_, rfl, f⟩
  | _, _, i + 1, b, .cons _ t, e => by
    obtain ⟨u, h1, h2⟩ := Paired.at (i := i) (b := b) t (by simpa using e)
    exact ⟨u, by simpa using h1, h2⟩
theorem Paired.app {α β : Type} {F : α → β → Prop} : ∀ {l l' : List α} {r r' : List β}, Paired F l r → Paired F l' r' → Paired F (l ++ l') (r ++ r')
  | _, _, _, _, .nil, h => h
  | _, _, _, _, .cons f t, h => .cons f (Paired.app t h)
theorem Paired.tk {α β : Type} {F : α → β → Prop} : ∀ {l : List α} {r : List β} (n : Nat), Paired F l r → Paired F (l.take n) (r.take n)
  | _, _, 0, _ => by simp; exact .nil
  | _, _, _ + 1, .nil => .nil
  | _, _, n + 1, .cons f t => .cons f (Paired.tk n t)
theorem Paired.dr {α β : Type} {F : α → β → Prop} : ∀ {l : List α} {r : List β} (n : Nat), Paired F l r → Paired F (l.drop n) (r.drop n)
  | _, _, 0, h => h
  | _, _, _ + 1, .nil => .nil
  | _, _, n + 1, .cons _ t => Paired.dr n t
/-- a list or a tuple -/
instance {α : Type} [Enc α] : Enc (List α) where
  rep K H v xs := xs.length ≤ BIG ∧ ∃ p vs, v = .ref p ∧ Sq K H p vs ∧ Paired (Enc.rep K H) vs xs
  mono e h := by
    obtain ⟨hl, p, vs, r, hq, hp⟩ := h
    exact ⟨hl, p, vs, r, hq.ex e, Paired.mono (fun _ _ => Enc.mono e) hp⟩
/-- surely a list; surely a tuple -/
def L (α : Type) := List α
def U (α : Type) := List α
instance {α : Type} [Enc α] : Enc (L α) where
  rep K H v xs := List.length xs ≤ BIG ∧ ∃ p vs, v = .ref p ∧ H p = some (.lst vs) ∧ Paired (Enc.rep K H) vs xs
  mono e h := by
    obtain ⟨hl, p, vs, r, hq, hp⟩ := h
    exact ⟨hl, p, vs, r, e _ _ hq, Paired.mono (fun _ _ => Enc.mono e) hp⟩
instance {α : Type} [Enc α] : Enc (U α) where
  rep K H v xs := List.length xs ≤ BIG ∧ ∃ p vs, v = .ref p ∧ SqT K H p vs ∧ Paired (Enc.rep K H) vs xs
  mono e h := by
    obtain ⟨hl, p, vs, r, hq, hp⟩ := h
    exact ⟨hl, p, vs, r, Evl.ex_t e hq, Paired.mono (fun _ _ => Enc.mono e) hp⟩
instance {α β : Type} [Enc α] [Enc β] : Enc (α × β) where
  rep K H v ab := ∃ p v1 v2, v = .ref p ∧ SqT K H p [v1, v2] ∧ Enc.rep K H v1 ab.1 ∧ Enc.rep K H v2 ab.2
  mono e h := by
    obtain ⟨p, v1, v2, r, hq, h1, h2⟩ := h
    exact ⟨p, v1, v2, r, Evl.ex_t e hq, Enc.mono e h1, Enc.mono e h2⟩
structure T3 (α β γ : Type) where
  a : α
  b : β
  c : γ
instance {α β γ : Type} [Enc α] [Enc β] [Enc γ] : Enc (T3 α β γ) where
  rep K H v t := ∃ p v1 v2 v3, v = .ref p ∧ SqT K H p [v1, v2, v3] ∧ Enc.rep K H v1 t.a ∧ Enc.rep K H v2 t.b ∧ Enc.rep K H v3 t.c
  mono e h := by
    obtain ⟨p, v1, v2, v3, r, hq, h1, h2, h3⟩ := h
    exact ⟨p, v1, v2, v3, r, Evl.ex_t e hq, Enc.mono e h1, Enc.mono e h2, Enc.mono e h3⟩
/-! ### the stable heap S within the heap H; boxes B may change -/
def IsBx (o : Option HO) : Prop := ∃ x y z : Int, o = some (bx x y z)
structure Ext (B : Addr → Prop) (S H S' H' : Hp) : Prop where
  s : Same S S'
  i : Same S' H'
  p : ∀ a, S a = none → H a ≠ none → S' a = none ∧ (H' a = H a ∨ (B a ∧ IsBx (H' a)))
section
variable {B : Addr → Prop} {S H S1 H1 S2 H2 : Hp}
theorem IsBx.ne {o : Option HO} (h : IsBx o) : o ≠ none := by
  obtain ⟨x, y, z, e⟩ := h
  rw [e]
  exact fun q => nomatch q
theorem Ext.refl (h : Same S H) : Ext B S H S H := ⟨Same.refl S, h, fun a h _ => ⟨h, .inl rfl⟩⟩
theorem Ext.trans (a : Ext B S H S1 H1) (b : Ext B S1 H1 S2 H2) : Ext B S H S2 H2 := by
  refine ⟨a.s.trans b.s, b.i, fun x h1 h2 => ?_⟩
  obtain ⟨q1, q2⟩ := a.p x h1 h2
  have n1 : H1 x ≠ none := by
    rcases q2 with q2 | ⟨_, q2⟩
    · rw [q2]
      exact h2
    · exact q2.ne
  obtain ⟨r1, r2⟩ := b.p x q1 n1
  refine ⟨r1, ?_⟩
  rcases r2 with r2 | r2
  · rcases q2 with q2 | ⟨k, q2⟩
    · exact .inl (r2.trans q2)
    · exact .inr ⟨k, by rw [r2]; exact q2⟩
  · exact .inr r2
/-- what is free behind was free ahead -/
theorem Ext.free (e : Ext B S H S1 H1) (i : Same S H) {a : Addr} (h : H1 a = none) : H a = none := by
  cases q : S a with
  | some o => rw [e.i _ _ (e.s _ _ q)] at h; cases h
  | none =>
    cases r : H a with
    | none => rfl
    | some o =>
      rcases (e.p a q (by rw [r]; exact fun z => nomatch z)).2 with z | ⟨_, z⟩
      · rw [z, r] at h; cases h
      · exact absurd h z.ne
/-- something new, stable -/
theorem Ext.new {p : Addr} {o : HO} (i : Same S H) (h : H p = none) : Ext B S H (upd S p o) (upd H p o) := by
  have sn := i.free h
  refine ⟨same_new sn, fun a u e => ?_, fun a h1 h2 => ?_⟩
  · by_cases z : a = p
    · subst z
      rw [upd_same] at e ⊢
      exact e
    · rw [upd_ne z] at e ⊢
      exact i _ _ e
  · have z : a ≠ p := fun z => h2 (by rw [z]; exact h)
    rw [upd_ne z, upd_ne z]
    exact ⟨h1, .inl rfl⟩
/-- something new, private -/
theorem Ext.priv {p : Addr} {o : HO} (i : Same S H) (h : H p = none) : Ext B S H S (upd H p o) := by
  refine ⟨Same.refl S, i.trans (same_new h), fun a h1 h2 => ⟨h1, .inl (upd_ne fun z => h2 (by rw [z]; exact h))⟩⟩
/-- garbage -/
theorem Ext.grow (i : Same S H) (h : Same H H1) : Ext B S H S H1 := by
  refine ⟨Same.refl S, i.trans h, fun a h1 h2 => ⟨h1, .inl ?_⟩⟩
  cases q : H a with
  | none => exact absurd q h2
  | some o => exact h _ _ q
/-- what was private and new becomes stable -/
theorem Ext.frz {p : Addr} {o : HO} (e : Ext B S H S1 H1) (h : H p = none) (i : Same S H) (h1 : H1 p = some o) (h2 : S1 p = none) : Ext B S H (upd S1 p o) H1 := by
  refine ⟨e.s.trans (same_new h2), fun a u q => ?_, fun a q1 q2 => ?_⟩
  · by_cases z : a = p
    · subst z
      rw [upd_same] at q
      cases q
      exact h1
    · rw [upd_ne z] at q
      exact e.i _ _ q
  · have z : a ≠ p := fun z => q2 (by rw [z]; exact h)
    rw [upd_ne z]
    exact e.p a q1 q2
end
/-! ### slots -/
inductive Slot : Type 1
  | no | box
  | val {α : Type} [e : Enc α] (a : α)
  | own {α : Type} [e : Enc α] (xs : List α)
def Slot.isOwn : Slot → Bool
  | @Slot.own _ _ _ => true
  | _ => false
/-- H0: the heap at the def's start (what is owned is new since) -/
def SlotOk (K : PySem.W.Frag) (B : Addr → Prop) (H0 S H : Hp) : Option V → Slot → Prop
  | _, .no => True
  | some v, @Slot.val _ e a => e.rep K S v a
  | some v, @Slot.own _ e xs => xs.length ≤ BIG ∧ ∃ p vs, v = .ref p ∧ H0 p = none ∧ S p = none ∧ H p = some (.lst vs) ∧ Paired (e.rep K S) vs xs
  | some v, .box => ∃ p, v = .ref p ∧ B p
  | none, _ => False
structure En (K : PySem.W.Frag) (B : Addr → Prop) (S0 H0 S H : Hp) (σ : L2.St) (ρ : List Slot) : Prop where
  i0 : Same S0 H0
  bx : ∀ p, B p → S p = none ∧ IsBx (H p) ∧ H0 p ≠ none
  ext : Ext B S0 H0 S H
  len : σ.length = ρ.length
  at' : ∀ (i : Nat) (s : Slot), ρ[i]? = some s → ∃ o, σ[i]? = some o ∧ SlotOk K B H0 S H o s
  ne : ∀ (i j : Nat) (s u : Slot), i ≠ j → ρ[i]? = some s → ρ[j]? = some u → s.isOwn = true → u.isOwn = true → σ[i]? ≠ σ[j]?
section
variable {K : PySem.W.Frag} {B : Addr → Prop} {S0 H0 S H S1 H1 : Hp} {σ : L2.St} {ρ : List Slot}
theorem En.i (E : En K B S0 H0 S H σ ρ) : Same S H := E.ext.i
theorem SlotOk.ext {o : Option V} {s : Slot} (e : Ext B S H S1 H1) (hb : ∀ p, B p → H0 p ≠ none) (h : SlotOk K B H0 S H o s) : SlotOk K B H0 S1 H1 o s := by
  cases s with
  | no => cases o <;> trivial
  | box =>
    cases o with
    | none => cases h
    | some v => exact h
  | val a =>
    cases o with
    | none => cases h
    | some v => exact Enc.mono e.s h
  | own xs =>
    cases o with
    | none => cases h
    | some v =>
      obtain ⟨hl, p, vs, r, h0, hs, hh, hp⟩ := h
      obtain ⟨q1, q2⟩ := e.p p hs (by rw [hh]; exact fun z => nomatch z)
      refine ⟨hl, p, vs, r, h0, q1, ?_, Paired.mono (fun _ _ => Enc.mono e.s) hp⟩
      rcases q2 with q2 | ⟨q2, _⟩
      · rw [q2]
        exact hh
      · exact absurd h0 (hb p q2)
theorem En.go (E : En K B S0 H0 S H σ ρ) (e : Ext B S H S1 H1) : En K B S0 H0 S1 H1 σ ρ := by
  refine ⟨E.i0, fun p hp => ?_, E.ext.trans e, E.len, fun i s h => ?_, E.ne⟩
  · obtain ⟨h1, h2, h3⟩ := E.bx p hp
    obtain ⟨q1, q2⟩ := e.p p h1 h2.ne
    refine ⟨q1, ?_, h3⟩
    rcases q2 with q2 | ⟨_, q2⟩
    · rw [q2]
      exact h2
    · exact q2
  · obtain ⟨o, h1, h2⟩ := E.at' i s h
    exact ⟨o, h1, h2.ext e fun p hp => (E.bx p hp).2.2⟩
theorem En.val {i : Nat} {α : Type} [Enc α] {a : α} (E : En K B S0 H0 S H σ ρ) (h : ρ[i]? = some (.val a)) : ∃ v, σ[i]? = some (some v) ∧ Enc.rep K S v a := by
  obtain ⟨o, h1, h2⟩ := E.at' i _ h
  cases o with
  | none => cases h2
  | some v => exact ⟨v, h1, h2⟩
theorem En.own {i : Nat} {α : Type} [Enc α] {xs : List α} (E : En K B S0 H0 S H σ ρ) (h : ρ[i]? = some (.own xs)) : xs.length ≤ BIG ∧ ∃ p vs, σ[i]? = some (some (.ref p)) ∧ H0 p = none ∧ S p = none ∧ H p = some (.lst vs) ∧ Paired (Enc.rep K S) vs xs := by
  obtain ⟨o, h1, h2⟩ := E.at' i _ h
  cases o with
  | none => cases h2
  | some v =>
    obtain ⟨hl, p, vs, rfl, r⟩ := h2
    exact ⟨hl, p, vs, h1, r⟩
theorem En.box {i : Nat} (E : En K B S0 H0 S H σ ρ) (h : ρ[i]? = some .box) : ∃ p, σ[i]? = some (some (.ref p)) ∧ B p := by
  obtain ⟨o, h1, h2⟩ := E.at' i _ h
  cases o with
  | none => cases h2
  | some v =>
    obtain ⟨p, rfl, hb⟩ := h2
    exact ⟨p, h1, hb⟩
/-- a slot is set to something that is not owned -/
theorem En.set {i : Nat} {o : Option V} {s : Slot} (E : En K B S0 H0 S H σ ρ) (h : SlotOk K B H0 S H o s) (hs : s.isOwn = false) : En K B S0 H0 S H (σ.set i o) (ρ.set i s) := by
  refine ⟨E.i0, E.bx, E.ext, by rw [List.length_set, List.length_set]; exact E.len, fun j u hj => ?_, fun j k u w n hj hk ju kw => ?_⟩
  · rw [List.getElem?_set] at hj ⊢
    by_cases z : i = j
    · subst z
      rw [if_pos rfl] at hj ⊢
      rw [E.len]
      by_cases q : i < ρ.length
      · rw [if_pos q] at hj ⊢
        cases hj
        exact ⟨o, rfl, h⟩
      · rw [if_neg q] at hj
        cases hj
    · rw [if_neg z] at hj ⊢
      exact E.at' j u hj
  · rw [List.getElem?_set] at hj hk
    have z1 : i ≠ j := fun z => by
      rw [if_pos z] at hj
      split at hj
      · cases hj
        rw [hs] at ju
        cases ju
      · cases hj
    have z2 : i ≠ k := fun z => by
      rw [if_pos z] at hk
      split at hk
      · cases hk
        rw [hs] at kw
        cases kw
      · cases hk
    rw [if_neg z1] at hj
    rw [if_neg z2] at hk
    rw [List.getElem?_set_ne z1, List.getElem?_set_ne z2]
    exact E.ne j k u w n hj hk ju kw
theorem En.setV {i : Nat} {v : V} {α : Type} [Enc α] {a : α} (E : En K B S0 H0 S H σ ρ) (h : Enc.rep K S v a) : En K B S0 H0 S H (σ.set i (some v)) (ρ.set i (.val a)) := E.set h rfl
/-- an owned address is no other's -/
theorem En.ownNe {i j : Nat} {s u : Slot} {p q : Addr} (E : En K B S0 H0 S H σ ρ) (n : i ≠ j) (h1 : ρ[i]? = some s) (h2 : ρ[j]? = some u) (o1 : s.isOwn = true) (o2 : u.isOwn = true) (e1 : σ[i]? = some (some (.ref p))) (e2 : σ[j]? = some (some (.ref q))) : p ≠ q := fun z => E.ne i j s u n h1 h2 o1 o2 (by rw [e1, e2, z])
/-- a slot is set to something new that is owned -/
theorem En.setO {i : Nat} {p : Addr} {vs : List V} {α : Type} [Enc α] {xs : List α} (E : En K B S0 H0 S H σ ρ) (e : Ext B S H S1 H1) (hp : H p = none) (hs : S1 p = none) (hh : H1 p = some (.lst vs)) (r : Paired (Enc.rep K S1) vs xs) (hl : xs.length ≤ BIG) :
    En K B S0 H0 S1 H1 (σ.set i (some (.ref p))) (ρ.set i (.own xs)) := by
  have E1 := E.go e
  have h0 : H0 p = none := E.ext.free E.i0 hp
  refine ⟨E1.i0, E1.bx, E1.ext, by rw [List.length_set, List.length_set]; exact E1.len, fun j u hj => ?_, fun j k u w n hj hk ju kw => ?_⟩
  · rw [List.getElem?_set] at hj ⊢
    by_cases z : i = j
    · subst z
      rw [if_pos rfl] at hj ⊢
      rw [E.len]
      by_cases q : i < ρ.length
      · rw [if_pos q] at hj ⊢
        cases hj
        exact ⟨_, rfl, hl, p, vs, rfl, h0, hs, hh, r⟩
      · rw [if_neg q] at hj
        cases hj
    · rw [if_neg z] at hj ⊢
      exact E1.at' j u hj
  · have old : ∀ (j : Nat) (u : Slot), ρ[j]? = some u → u.isOwn = true → σ[j]? ≠ some (some (V.ref p)) := fun j u hu ou z => by
      obtain ⟨o, h1, h2⟩ := E.at' j u hu
      rw [z] at h1
      cases h1
      cases u with
      | own xs =>
        obtain ⟨_, q, vs, z1, _, _, z2, _⟩ := h2
        cases z1
        rw [hp] at z2
        cases z2
      | _ => cases ou
    rw [List.getElem?_set] at hj hk
    by_cases z1 : i = j
    · have z2 : i ≠ k := fun z => n (z1.symm.trans z)
      rw [if_neg z2] at hk
      subst z1
      rw [List.getElem?_set_ne z2]
      have il : i < σ.length := by
        rw [if_pos rfl] at hj
        split at hj
        · rw [E.len]; assumption
        · cases hj
      rw [List.getElem?_set_self il]
      exact fun z => old k w hk kw z.symm
    · rw [if_neg z1] at hj
      rw [List.getElem?_set_ne z1]
      by_cases z2 : i = k
      · subst z2
        have il : i < σ.length := by
          rw [if_pos rfl] at hk
          split at hk
          · rw [E.len]; assumption
          · cases hk
        rw [List.getElem?_set_self il]
        exact old j u hj ju
      · rw [if_neg z2] at hk
        rw [List.getElem?_set_ne z2]
        exact E.ne j k u w n hj hk ju kw
/-- an owned list is changed -/
theorem En.chg {i : Nat} {p : Addr} {vs : List V} {α β : Type} [Enc α] [Enc β] {xs : List α} {ys : List β} (E : En K B S0 H0 S H σ ρ) (hi : ρ[i]? = some (.own xs)) (hσ : σ[i]? = some (some (.ref p))) (r : Paired (Enc.rep K S) vs ys) (hl : ys.length ≤ BIG) :
    En K B S0 H0 S (upd H p (.lst vs)) σ (ρ.set i (.own ys)) := by
  obtain ⟨_, p', ws, e1, h0, hs, hh, _⟩ := E.own hi
  rw [hσ] at e1
  cases e1
  have nb : ∀ q, B q → q ≠ p := fun q hq z => (E.bx q hq).2.2 (by rw [z]; exact h0)
  refine ⟨E.i0, fun q hq => ?_, ⟨E.ext.s, fun a u q => ?_, fun a q1 q2 => ?_⟩, by rw [List.length_set]; exact E.len, fun j u hj => ?_, fun j k u w n hj hk ju kw => ?_⟩
  · rw [upd_ne (nb q hq)]
    exact E.bx q hq
  · rw [upd_ne (fun z => by rw [z, hs] at q; cases q)]
    exact E.i _ _ q
  · rw [upd_ne (fun z => q2 (by rw [z]; exact h0))]
    exact E.ext.p a q1 q2
  · rw [List.getElem?_set] at hj
    by_cases z : i = j
    · subst z
      rw [if_pos rfl] at hj
      split at hj
      · cases hj
        exact ⟨_, hσ, hl, p, vs, rfl, h0, hs, upd_same, r⟩
      · cases hj
    · rw [if_neg z] at hj
      obtain ⟨o, h1, h2⟩ := E.at' j u hj
      refine ⟨o, h1, ?_⟩
      cases u with
      | no => cases o <;> trivial
      | box =>
        cases o with
        | none => cases h2
        | some v => exact h2
      | val a =>
        cases o with
        | none => cases h2
        | some v => exact h2
      | own zs =>
        cases o with
        | none => cases h2
        | some v =>
          obtain ⟨hl, q, us, rfl, g0, gs, gh, gr⟩ := h2
          refine ⟨hl, q, us, rfl, g0, gs, ?_, gr⟩
          rw [upd_ne (fun y => E.ownNe z hi hj rfl rfl hσ h1 y.symm)]
          exact gh
  · have up : ∀ (j : Nat) (u : Slot), (ρ.set i (.own ys))[j]? = some u → u.isOwn = true → ∃ s : Slot, ρ[j]? = some s ∧ s.isOwn = true := fun j u hj ju => by
      rw [List.getElem?_set] at hj
      by_cases z : i = j
      · subst z
        exact ⟨_, hi, rfl⟩
      · rw [if_neg z] at hj
        exact ⟨u, hj, ju⟩
    obtain ⟨s, h1, h2⟩ := up j u hj ju
    obtain ⟨t, h3, h4⟩ := up k w hk kw
    exact E.ne j k s t n h1 h3 h2 h4
/-- an owned list becomes a value -/
theorem En.frz {i : Nat} {α : Type} [Enc α] {xs : List α} (E : En K B S0 H0 S H σ ρ) (hi : ρ[i]? = some (.own xs)) : ∃ S1, Ext B S0 H0 S1 H ∧ Same S S1 ∧ En K B S0 H0 S1 H σ (ρ.set i (.val (α := L α) xs)) := by
  obtain ⟨hl, p, vs, e1, h0, hs, hh, r⟩ := E.own hi
  have sm : Same S (upd S p (.lst vs)) := same_new hs
  have ex : Ext B S0 H0 (upd S p (.lst vs)) H := E.ext.frz h0 E.i0 hh hs
  refine ⟨_, ex, sm, ⟨E.i0, fun q hq => ?_, ex, by rw [List.length_set]; exact E.len, fun j u hj => ?_, fun j k u w n hj hk ju kw => ?_⟩⟩
  · rw [upd_ne (fun z => (E.bx q hq).2.2 (by rw [z]; exact h0))]
    exact E.bx q hq
  · rw [List.getElem?_set] at hj
    by_cases z : i = j
    · subst z
      rw [if_pos rfl] at hj
      split at hj
      · cases hj
        exact ⟨_, e1, hl, p, vs, rfl, upd_same, Paired.mono (fun _ _ => Enc.mono sm) r⟩
      · cases hj
    · rw [if_neg z] at hj
      obtain ⟨o, h1, h2⟩ := E.at' j u hj
      refine ⟨o, h1, ?_⟩
      cases u with
      | no => cases o <;> trivial
      | box =>
        cases o with
        | none => cases h2
        | some v => exact h2
      | val a =>
        cases o with
        | none => cases h2
        | some v => exact Enc.mono sm h2
      | own zs =>
        cases o with
        | none => cases h2
        | some v =>
          obtain ⟨hl, q, us, rfl, g0, gs, gh, gr⟩ := h2
          refine ⟨hl, q, us, rfl, g0, ?_, gh, Paired.mono (fun _ _ => Enc.mono sm) gr⟩
          rw [upd_ne (fun y => E.ownNe z hi hj rfl rfl e1 h1 y.symm)]
          exact gs
  · have up : ∀ (j : Nat) (u : Slot), (ρ.set i (.val (α := L α) xs))[j]? = some u → u.isOwn = true → ρ[j]? = some u := fun j u hj ju => by
      rw [List.getElem?_set] at hj
      by_cases z : i = j
      · subst z
        rw [if_pos rfl] at hj
        split at hj
        · cases hj
          cases ju
        · cases hj
      · rw [if_neg z] at hj
        exact hj
    exact E.ne j k u w n (up j u hj ju) (up k w hk kw) ju kw
end
end WW

set_option Elab.async false
set_option linter.all false
set_option maxRecDepth 100000
set_option maxHeartbeats 4000000
namespace WW
open PySem PySem.Spec PyProof.Rows L2
/-! ### judgements over typed slots -/
inductive ArgsOk (K : PySem.W.Frag) (B : Addr → Prop) (H0 S H : Hp) : List V → List Slot → Prop
  | nil : ArgsOk K B H0 S H [] []
  | cons {v : V} {s : Slot} {vs : List V} {ss : List Slot} : SlotOk K B H0 S H (some v) s → s.isOwn = false → ArgsOk K B H0 S H vs ss → ArgsOk K B H0 S H (v :: vs) (s :: ss)
section
variable (K : PySem.W.Frag) (B : Addr → Prop)
/-- an expression: a value; one of some values; a new list of one's own; a test; arguments; a slice's part; what is walked; a target -/
def DE {α : Type} [Enc α] (te : TE) (ρ : List Slot) (a : α) : Prop := ∀ S0 H0 S H σ, En K B S0 H0 S H σ ρ → ∀ Q : VK, (∀ v S' H', Ext B S H S' H' → Enc.rep K S' v a → Q v H') → te σ H Q
def DN {α : Type} [Enc α] (te : TE) (ρ : List Slot) (P : α → Prop) : Prop := ∀ S0 H0 S H σ, En K B S0 H0 S H σ ρ → ∀ Q : VK, (∀ v a S' H', P a → Ext B S H S' H' → Enc.rep K S' v a → Q v H') → te σ H Q
def DO {α : Type} [Enc α] (te : TE) (ρ : List Slot) (xs : List α) : Prop := ∀ S0 H0 S H σ, En K B S0 H0 S H σ ρ → ∀ Q : VK, (∀ p vs S' H', Ext B S H S' H' → H p = none → S' p = none → H' p = some (.lst vs) → Paired (Enc.rep K S') vs xs → xs.length ≤ BIG → Q (.ref p) H') → te σ H Q
def DT (tt : TT) (ρ : List Slot) (b : Bool) : Prop := ∀ S0 H0 S H σ, En K B S0 H0 S H σ ρ → ∀ Q : Bool → Hp → Prop, (∀ S' H', Ext B S H S' H' → Q b H') → tt σ H Q
def DA (ta : TA) (ρ : List Slot) (ss : List Slot) : Prop := ∀ S0 H0 S H σ, En K B S0 H0 S H σ ρ → ∀ Q : List V → Hp → Prop, (∀ vs S' H', Ext B S H S' H' → ArgsOk K B H0 S' H' vs ss → Q vs H') → ta σ H Q
def DP (to : TO) (ρ : List Slot) (o : Option Int) : Prop := ∀ S0 H0 S H σ, En K B S0 H0 S H σ ρ → ∀ Q : Option Int → Hp → Prop, (∀ S' H', Ext B S H S' H' → Q o H') → to σ H Q
def Yld {α : Type} [Enc α] (J : It) (S : Hp) (xs : List α) : Prop := ∀ S1 H1, Same S S1 → Same S1 H1 →
  (∀ i x, xs[i]? = some x → J.go i H1 ∧ ∀ v H2, J.yld i H1 v H2 → ∃ S2, Ext B S1 H1 S2 H2 ∧ Enc.rep K S2 v x) ∧ J.stop xs.length H1
def DI {α : Type} [Enc α] (wi : TI) (ρ : List Slot) (xs : List α) : Prop := ∀ S0 H0 S H σ, En K B S0 H0 S H σ ρ → ∀ R : It → Hp → Prop, (∀ J S' H', Ext B S H S' H' → Yld K B J S' xs → R J H') → wi σ H R
def DG {α : Type} [Enc α] (g : TG) (a : α) (ρ ρ' : List Slot) (js : List Nat) : Prop := ∀ S0 H0 S H σ v, En K B S0 H0 S H σ ρ → Enc.rep K S v a → ∀ R : L2.St → Hp → Prop, (∀ σ', En K B S0 H0 S H σ' ρ' → σ'.length = σ.length → (∀ i, i ∉ js → σ'[i]? = σ[i]?) → R σ' H) → g v σ H R
structure Post where
  nx : List Slot → Prop
  rt : Slot → Prop
  bk : List Slot → Prop := fun _ => False
  ct : List Slot → Prop := fun _ => False
  px : Hp → Hp → Prop := fun _ _ => True
def DS (ts : TS) (ρ : List Slot) (Φ : Post) : Prop := ∀ S0 H0 S H σ (D : Ends), En K B S0 H0 S H σ ρ → Φ.px S0 H0 →
  (∀ ρ' σ' S' H', Φ.nx ρ' → Same S S' → En K B S0 H0 S' H' σ' ρ' → D.nx σ' H') → (∀ s v S' H', Φ.rt s → Ext B S0 H0 S' H' → SlotOk K B H0 S' H' (some v) s → D.rt v H') →
  (∀ ρ' σ' S' H', Φ.bk ρ' → Same S S' → En K B S0 H0 S' H' σ' ρ' → D.bk σ' H') → (∀ ρ' σ' S' H', Φ.ct ρ' → Same S S' → En K B S0 H0 S' H' σ' ρ' → D.ct σ' H') → ts D σ H
end
section
variable {K : PySem.W.Frag} {B : Addr → Prop} {ρ ρ' ρ1 : List Slot} {ta tb tc te : TE} {t u : TT} {α β γ : Type} {e_α : Enc α} {e_β : Enc β} {e_γ : Enc γ} {a : α} {b : β} {i j : Int}
/-! ### expressions -/
theorem DE.is {a' : α} (h : DE K B te ρ a) (e : a = a') : DE K B te ρ a' := e ▸ h
theorem d_var {n : Nat} (h : ρ[n]? = some (.val a)) : DE K B (tVar n) ρ a := fun S0 H0 S H σ E Q q => by
  obtain ⟨v, h1, h2⟩ := E.val h
  exact ⟨v, h1, q v S H (Ext.refl E.i) h2⟩
theorem d_get {n : Nat} (h : ρ[n]? = some (.val (some a))) : DE K B (tVar n) ρ a := fun S0 H0 S H σ E Q q => by
  obtain ⟨v, h1, h2⟩ := E.val h
  exact ⟨v, h1, q v S H (Ext.refl E.i) h2⟩
theorem d_some (h : DE K B te ρ a) : DE K B te ρ (some a) := h
theorem d_int : DE K B (tC (.int i)) ρ i := fun _ _ S H _ E Q q => q _ S H (Ext.refl E.i) rfl
theorem d_bl {b : Bool} : DE K B (tC (.bl b)) ρ b := fun _ _ S H _ E Q q => q _ S H (Ext.refl E.i) rfl
theorem d_str {z : Str} : DE K B (tC (.str z)) ρ z := fun _ _ S H _ E Q q => q _ S H (Ext.refl E.i) rfl
theorem d_none : DE K B (tC .non) ρ (none : Option α) := fun _ _ S H _ E Q q => q _ S H (Ext.refl E.i) rfl
theorem d_unit : DE K B (tC .non) ρ () := fun _ _ S H _ E Q q => q _ S H (Ext.refl E.i) rfl
/-- two parts, one behind the other -/
theorem d_op {r : R2} {c : γ} (ha : DE K B ta ρ a) (hb : DE K B tb ρ b) (hr : ∀ x y S H, Same S H → Enc.rep K S x a → Enc.rep K S y b → ∀ Q : VK, (∀ v S' H', Ext B S H S' H' → Enc.rep K S' v c → Q v H') → r x y H Q) : DE K B (tOp r ta tb) ρ c := fun S0 H0 S H σ E Q q =>
  ha S0 H0 S H σ E _ fun x S1 H1 e1 r1 => hb S0 H0 S1 H1 σ (E.go e1) _ fun y S2 H2 e2 r2 => hr x y S2 H2 e2.i (Enc.mono e2.s r1) r2 Q fun v S3 H3 e3 r3 => q v S3 H3 ((e1.trans e2).trans e3) r3
theorem d_un {r : V → Hp → VK → Prop} {c : γ} (ha : DE K B ta ρ a) (hr : ∀ x S H, Same S H → Enc.rep K S x a → ∀ Q : VK, (∀ v S' H', Ext B S H S' H' → Enc.rep K S' v c → Q v H') → r x H Q) : DE K B (tUn r ta) ρ c := fun S0 H0 S H σ E Q q =>
  ha S0 H0 S H σ E _ fun x S1 H1 e1 r1 => hr x S1 H1 e1.i r1 Q fun v S3 H3 e3 r3 => q v S3 H3 (e1.trans e3) r3
theorem d_add (ha : DE K B ta ρ i) (hb : DE K B tb ρ j) : DE K B (tOp (rI0 fun i j => .int (i + j)) ta tb) ρ (i + j) :=
  d_op ha hb fun x y S H hi r1 r2 Q q => ⟨i, j, r1, r2, q _ S H (Ext.refl hi) rfl⟩
theorem d_sub (ha : DE K B ta ρ i) (hb : DE K B tb ρ j) : DE K B (tOp (rI0 fun i j => .int (i - j)) ta tb) ρ (i - j) :=
  d_op ha hb fun x y S H hi r1 r2 Q q => ⟨i, j, r1, r2, q _ S H (Ext.refl hi) rfl⟩
theorem d_mul (ha : DE K B ta ρ i) (hb : DE K B tb ρ j) (hc : CMul i j) : DE K B (tOp (rI CMul fun i j => .int (i * j)) ta tb) ρ (i * j) :=
  d_op ha hb fun x y S H hi r1 r2 Q q => ⟨i, j, r1, r2, hc, q _ S H (Ext.refl hi) rfl⟩
theorem d_fdiv (ha : DE K B ta ρ i) (hb : DE K B tb ρ j) (hc : CDiv i j) : DE K B (tOp (rI CDiv fun i j => .int (i / j)) ta tb) ρ (i / j) :=
  d_op ha hb fun x y S H hi r1 r2 Q q => ⟨i, j, r1, r2, hc, q _ S H (Ext.refl hi) rfl⟩
theorem d_mod (ha : DE K B ta ρ i) (hb : DE K B tb ρ j) (hc : 0 < j) : DE K B (tOp (rI (fun _ j => 0 < j) fun i j => .int (i % j)) ta tb) ρ (i % j) :=
  d_op ha hb fun x y S H hi r1 r2 Q q => ⟨i, j, r1, r2, hc, q _ S H (Ext.refl hi) rfl⟩
theorem d_neg (ha : DE K B ta ρ i) : DE K B (tUn (rU fun i => .int (-i)) ta) ρ (-i) :=
  d_un ha fun x S H hi r1 Q q => ⟨i, r1, q _ S H (Ext.refl hi) rfl⟩
theorem d_lt (ha : DE K B ta ρ i) (hb : DE K B tb ρ j) : DE K B (tOp (rI0 fun i j => .bl (decide (i < j))) ta tb) ρ (decide (i < j)) :=
  d_op ha hb fun x y S H hi r1 r2 Q q => ⟨i, j, r1, r2, q _ S H (Ext.refl hi) rfl⟩
theorem d_le (ha : DE K B ta ρ i) (hb : DE K B tb ρ j) : DE K B (tOp (rI0 fun i j => .bl (decide (i ≤ j))) ta tb) ρ (decide (i ≤ j)) :=
  d_op ha hb fun x y S H hi r1 r2 Q q => ⟨i, j, r1, r2, q _ S H (Ext.refl hi) rfl⟩
theorem d_gt (ha : DE K B ta ρ i) (hb : DE K B tb ρ j) : DE K B (tOp (rI0 fun i j => .bl (decide (j < i))) ta tb) ρ (decide (j < i)) :=
  d_op ha hb fun x y S H hi r1 r2 Q q => ⟨i, j, r1, r2, q _ S H (Ext.refl hi) rfl⟩
theorem d_ge (ha : DE K B ta ρ i) (hb : DE K B tb ρ j) : DE K B (tOp (rI0 fun i j => .bl (decide (j ≤ i))) ta tb) ρ (decide (j ≤ i)) :=
  d_op ha hb fun x y S H hi r1 r2 Q q => ⟨i, j, r1, r2, q _ S H (Ext.refl hi) rfl⟩
/-- == of plain things: told by one place -/
class Flat (α : Type) [Enc α] [DecidableEq α] : Prop where
  eq : ∀ {K : PySem.W.Frag} {S : Hp} {x y : V} {a b : α}, Enc.rep K S x a → Enc.rep K S y b → scal x y = true ∧ decide (x = y) = decide (a = b)
instance : Flat Int where
  eq h1 h2 := by
    cases h1
    cases h2
    exact ⟨rfl, by simp⟩
instance : Flat Bool where
  eq h1 h2 := by
    cases h1
    cases h2
    exact ⟨rfl, by simp⟩
instance : Flat Str where
  eq h1 h2 := by
    cases h1
    cases h2
    exact ⟨rfl, by simp⟩
instance : Flat (Option Int) where
  eq {K S x y a b} h1 h2 := by
    cases a <;> cases b <;> cases h1 <;> cases h2 <;> exact ⟨rfl, by simp⟩
instance : Flat (Option Str) where
  eq {K S x y a b} h1 h2 := by
    cases a <;> cases b <;> cases h1 <;> cases h2 <;> exact ⟨rfl, by simp⟩
theorem d_eq {a a' : α} (ha : DE K B ta ρ a) (hb : DE K B tb ρ a') (inst : DecidableEq α) (fl : Flat α) : DE K B (tOp rEq ta tb) ρ (decide (a = a')) :=
  d_op ha hb fun x y S H hi r1 r2 Q q => by
    obtain ⟨h1, h2⟩ := Flat.eq r1 r2
    refine ⟨h1, ?_⟩
    rw [h2]
    exact q _ S H (Ext.refl hi) rfl
theorem d_ne {a a' : α} (ha : DE K B ta ρ a) (hb : DE K B tb ρ a') (inst : DecidableEq α) (fl : Flat α) : DE K B (tOp rNe ta tb) ρ (!decide (a = a')) :=
  d_op ha hb fun x y S H hi r1 r2 Q q => by
    obtain ⟨h1, h2⟩ := Flat.eq r1 r2
    refine ⟨h1, ?_⟩
    rw [h2]
    exact q _ S H (Ext.refl hi) rfl
/-- what is never None -/
class NotN (α : Type) [Enc α] : Prop where
  ne : ∀ {K : PySem.W.Frag} {S : Hp} {x : V} {a : α}, Enc.rep K S x a → x ≠ .non
instance : NotN Int := ⟨fun h => by cases h; exact fun z => nomatch z⟩
instance : NotN Bool := ⟨fun h => by cases h; exact fun z => nomatch z⟩
instance : NotN Str := ⟨fun h => by cases h; exact fun z => nomatch z⟩
instance : NotN (List α) := ⟨fun h => by obtain ⟨_, p, vs, rfl, _⟩ := h; exact fun z => nomatch z⟩
instance : NotN (L α) := ⟨fun h => by obtain ⟨_, p, vs, rfl, _⟩ := h; exact fun z => nomatch z⟩
instance : NotN (U α) := ⟨fun h => by obtain ⟨_, p, vs, rfl, _⟩ := h; exact fun z => nomatch z⟩
instance : NotN (α × β) := ⟨fun h => by obtain ⟨p, v1, v2, rfl, _⟩ := h; exact fun z => nomatch z⟩
instance : NotN (T3 α β γ) := ⟨fun h => by obtain ⟨p, v1, v2, v3, rfl, _⟩ := h; exact fun z => nomatch z⟩
theorem rep_isN {S : Hp} {x : V} {o : Option α} (h : Enc.rep K S x o) (hn : NotN α) : decide (x = .non) = o.isNone := by
  cases o with
  | none => cases h; rfl
  | some a => exact decide_eq_false (NotN.ne (a := a) h)
theorem d_isN {o : Option α} (ha : DE K B ta ρ o) (hn : NotN α) : DE K B (tOp (fun x y H Q => y = .non ∧ Q (.bl (decide (x = .non))) H) ta (tC .non)) ρ o.isNone :=
  d_op ha d_unit fun x y S H hi r1 r2 Q q => ⟨r2, by rw [rep_isN r1 hn]; exact q _ S H (Ext.refl hi) rfl⟩
theorem d_notN {o : Option α} (ha : DE K B ta ρ o) (hn : NotN α) : DE K B (tOp (fun x y H Q => y = .non ∧ Q (.bl (!decide (x = .non))) H) ta (tC .non)) ρ (!o.isNone) :=
  d_op ha d_unit fun x y S H hi r1 r2 Q q => ⟨r2, by rw [rep_isN r1 hn]; exact q _ S H (Ext.refl hi) rfl⟩
/-! ### tests -/
theorem DT.is {b c : Bool} (h : DT K B t ρ b) (e : b = c) : DT K B t ρ c := e ▸ h
theorem dt_test {b : Bool} (h : DE K B te ρ b) : DT K B (tTest te) ρ b := fun S0 H0 S H σ E Q q => h S0 H0 S H σ E _ fun v S1 H1 e r => ⟨b, r, q S1 H1 e⟩
theorem dt_B {b : Bool} (h : DE K B te ρ b) : DT K B (tB te) ρ b := fun S0 H0 S H σ E Q q => h S0 H0 S H σ E _ fun v S1 H1 e r => ⟨b, r, q S1 H1 e⟩
theorem dt_not {b : Bool} (h : DT K B t ρ b) : DT K B (tNot t) ρ (!b) := fun S0 H0 S H σ E Q q => h S0 H0 S H σ E _ fun S1 H1 e => q S1 H1 e
theorem dt_yes : DT K B tYes ρ true := fun _ _ S H _ E Q q => q S H (Ext.refl E.i)
theorem dt_and {b c : Bool} (h1 : DT K B t ρ b) (h2 : b = true → DT K B u ρ c) : DT K B (tAnd t u) ρ (b && c) := fun S0 H0 S H σ E Q q => h1 S0 H0 S H σ E _ fun S1 H1 e => by
  cases b with
  | true => exact h2 rfl S0 H0 S1 H1 σ (E.go e) Q fun S2 H2 e2 => q S2 H2 (e.trans e2)
  | false => exact q S1 H1 e
theorem dt_or {b c : Bool} (h1 : DT K B t ρ b) (h2 : b = false → DT K B u ρ c) : DT K B (tOr t u) ρ (b || c) := fun S0 H0 S H σ E Q q => h1 S0 H0 S H σ E _ fun S1 H1 e => by
  cases b with
  | true => exact q S1 H1 e
  | false => exact h2 rfl S0 H0 S1 H1 σ (E.go e) Q fun S2 H2 e2 => q S2 H2 (e.trans e2)
theorem d_andV {b c : Bool} (h1 : DE K B ta ρ b) (h2 : b = true → DE K B tb ρ c) : DE K B (tAndV ta tb) ρ (b && c) := fun S0 H0 S H σ E Q q => h1 S0 H0 S H σ E _ fun v S1 H1 e r => ⟨b, r, by
  cases b with
  | true => exact h2 rfl S0 H0 S1 H1 σ (E.go e) Q fun v S2 H2 e2 r2 => q v S2 H2 (e.trans e2) r2
  | false => exact q _ S1 H1 e rfl⟩
theorem d_orV {b c : Bool} (h1 : DE K B ta ρ b) (h2 : b = false → DE K B tb ρ c) : DE K B (tOrV ta tb) ρ (b || c) := fun S0 H0 S H σ E Q q => h1 S0 H0 S H σ E _ fun v S1 H1 e r => ⟨b, r, by
  cases b with
  | true => exact q _ S1 H1 e rfl
  | false => exact h2 rfl S0 H0 S1 H1 σ (E.go e) Q fun v S2 H2 e2 r2 => q v S2 H2 (e.trans e2) r2⟩
theorem d_orT (h1 : DE K B ta ρ true) : DE K B (tOrV ta tb) ρ true := d_orV (c := false) h1 fun h => nomatch h
theorem d_andF (h1 : DE K B ta ρ false) : DE K B (tAndV ta tb) ρ false := d_andV (c := false) h1 fun h => nomatch h
theorem dt_orT (h1 : DT K B t ρ true) : DT K B (tOr t u) ρ true := dt_or (c := false) h1 fun h => nomatch h
theorem dt_andF (h1 : DT K B t ρ false) : DT K B (tAnd t u) ρ false := dt_and (c := false) h1 fun h => nomatch h
theorem d_notV {b : Bool} (h1 : DE K B ta ρ b) : DE K B (tNotV ta) ρ (!b) := fun S0 H0 S H σ E Q q => h1 S0 H0 S H σ E _ fun v S1 H1 e r => ⟨b, r, q _ S1 H1 e rfl⟩
theorem d_if {c : Bool} {a1 a2 : α} (h : DT K B t ρ c) (h1 : c = true → DE K B ta ρ a1) (h2 : c = false → DE K B tb ρ a2) : DE K B (tIf t ta tb) ρ (if c = true then a1 else a2) := fun S0 H0 S H σ E Q q => h S0 H0 S H σ E _ fun S1 H1 e => by
  cases c with
  | true => exact h1 rfl S0 H0 S1 H1 σ (E.go e) Q fun v S2 H2 e2 r2 => q v S2 H2 (e.trans e2) r2
  | false => exact h2 rfl S0 H0 S1 H1 σ (E.go e) Q fun v S2 H2 e2 r2 => q v S2 H2 (e.trans e2) r2
/-- x if t else y: both ways are a -/
theorem d_ifE {c : Bool} (h : DT K B t ρ c) (h1 : c = true → DE K B ta ρ a) (h2 : c = false → DE K B tb ρ a) : DE K B (tIf t ta tb) ρ a := fun S0 H0 S H σ E Q q => h S0 H0 S H σ E _ fun S1 H1 e => by
  cases c with
  | true => exact h1 rfl S0 H0 S1 H1 σ (E.go e) Q fun v S2 H2 e2 r2 => q v S2 H2 (e.trans e2) r2
  | false => exact h2 rfl S0 H0 S1 H1 σ (E.go e) Q fun v S2 H2 e2 r2 => q v S2 H2 (e.trans e2) r2
theorem d_chain {r r' : R2} {x : β} {y : γ} {k c : Bool} (ha : DE K B ta ρ a) (hb : DE K B tb ρ x) (hc : k = true → DE K B tc ρ y)
    (hr : ∀ v w S H, Same S H → Enc.rep K S v a → Enc.rep K S w x → ∀ Q : VK, Q (.bl k) H → r v w H Q) (hr' : ∀ v w S H, Same S H → Enc.rep K S v x → Enc.rep K S w y → ∀ Q : VK, Q (.bl c) H → r' v w H Q) : DE K B (tChain r r' ta tb tc) ρ (k && c) := fun S0 H0 S H σ E Q q =>
  ha S0 H0 S H σ E _ fun v S1 H1 e1 r1 => hb S0 H0 S1 H1 σ (E.go e1) _ fun w S2 H2 e2 r2 => hr v w S2 H2 e2.i (Enc.mono e2.s r1) r2 _ ⟨k, rfl, by
    cases k with
    | true => exact hc rfl S0 H0 S2 H2 σ (E.go (e1.trans e2)) _ fun z S3 H3 e3 r3 => hr' w z S3 H3 e3.i (Enc.mono e3.s r2) r3 Q (q _ S3 H3 ((e1.trans e2).trans e3) rfl)
    | false => exact q _ S2 H2 (e1.trans e2) rfl⟩
theorem r_lt {v w : V} {S H : Hp} (h1 : Enc.rep K S v i) (h2 : Enc.rep K S w j) (Q : VK) (q : Q (.bl (decide (i < j))) H) : (rI0 fun i j => .bl (decide (i < j))) v w H Q := ⟨i, j, h1, h2, q⟩
theorem r_le {v w : V} {S H : Hp} (h1 : Enc.rep K S v i) (h2 : Enc.rep K S w j) (Q : VK) (q : Q (.bl (decide (i ≤ j))) H) : (rI0 fun i j => .bl (decide (i ≤ j))) v w H Q := ⟨i, j, h1, h2, q⟩
theorem d_chLtLe {k : Int} (ha : DE K B ta ρ i) (hb : DE K B tb ρ j) (hc : DE K B tc ρ k) : DE K B (tChain (rI0 fun i j => .bl (decide (i < j))) (rI0 fun i j => .bl (decide (i ≤ j))) ta tb tc) ρ (decide (i < j) && decide (j ≤ k)) :=
  d_chain ha hb (fun _ => hc) (fun v w S H _ h1 h2 Q q => ⟨i, j, h1, h2, q⟩) fun v w S H _ h1 h2 Q q => ⟨j, k, h1, h2, q⟩
theorem d_chLtLt {k : Int} (ha : DE K B ta ρ i) (hb : DE K B tb ρ j) (hc : DE K B tc ρ k) : DE K B (tChain (rI0 fun i j => .bl (decide (i < j))) (rI0 fun i j => .bl (decide (i < j))) ta tb tc) ρ (decide (i < j) && decide (j < k)) :=
  d_chain ha hb (fun _ => hc) (fun v w S H _ h1 h2 Q q => ⟨i, j, h1, h2, q⟩) fun v w S H _ h1 h2 Q q => ⟨j, k, h1, h2, q⟩
theorem d_chLeLt {k : Int} (ha : DE K B ta ρ i) (hb : DE K B tb ρ j) (hc : DE K B tc ρ k) : DE K B (tChain (rI0 fun i j => .bl (decide (i ≤ j))) (rI0 fun i j => .bl (decide (i < j))) ta tb tc) ρ (decide (i ≤ j) && decide (j < k)) :=
  d_chain ha hb (fun _ => hc) (fun v w S H _ h1 h2 Q q => ⟨i, j, h1, h2, q⟩) fun v w S H _ h1 h2 Q q => ⟨j, k, h1, h2, q⟩
/-! ### arguments -/
theorem da_nil : DA K B tNil ρ [] := fun _ _ S H _ E Q q => q [] S H (Ext.refl E.i) .nil
theorem da_cons {tr : TA} {ss : List Slot} (h : DE K B te ρ a) (hr : DA K B tr ρ ss) : DA K B (tCons te tr) ρ (.val a :: ss) := fun S0 H0 S H σ E Q q =>
  h S0 H0 S H σ E _ fun v S1 H1 e1 r1 => hr S0 H0 S1 H1 σ (E.go e1) _ fun vs S2 H2 e2 r2 => q _ S2 H2 (e1.trans e2) (.cons (Enc.mono e2.s r1) rfl r2)
theorem da_box {n : Nat} {tr : TA} {ss : List Slot} (h : ρ[n]? = some .box) (hr : DA K B tr ρ ss) : DA K B (tCons (tVar n) tr) ρ (.box :: ss) := fun S0 H0 S H σ E Q q => by
  obtain ⟨p, h1, h2⟩ := E.box h
  exact ⟨_, h1, hr S0 H0 S H σ E _ fun vs S2 H2 e2 r2 => q _ S2 H2 e2 (.cons ⟨p, rfl, h2⟩ rfl r2)⟩
/-- all arguments of one type -/
def DL {α : Type} [Enc α] (K : PySem.W.Frag) (B : Addr → Prop) (ta : TA) (ρ : List Slot) (xs : List α) : Prop := ∀ S0 H0 S H σ, En K B S0 H0 S H σ ρ → ∀ Q : List V → Hp → Prop, (∀ vs S' H', Ext B S H S' H' → Paired (Enc.rep K S') vs xs → Q vs H') → ta σ H Q
theorem dl_nil : DL K B tNil ρ ([] : List α) := fun _ _ S H _ E Q q => q [] S H (Ext.refl E.i) .nil
theorem dl_cons {tr : TA} {xs : List α} (h : DE K B te ρ a) (hr : DL K B tr ρ xs) : DL K B (tCons te tr) ρ (a :: xs) := fun S0 H0 S H σ E Q q =>
  h S0 H0 S H σ E _ fun v S1 H1 e1 r1 => hr S0 H0 S1 H1 σ (E.go e1) _ fun vs S2 H2 e2 r2 => q _ S2 H2 (e1.trans e2) (.cons (Enc.mono e2.s r1) r2)
theorem dl_star {tr : TA} {xs ys : List α} (h : DE K B te ρ xs) (hr : DL K B tr ρ ys) : DL K B (StX.tStar K te tr) ρ (xs ++ ys) := fun S0 H0 S H σ E Q q =>
  h S0 H0 S H σ E _ fun v S1 H1 e1 r1 => by
    obtain ⟨hl, p, vs, rfl, hq, hp⟩ := r1
    exact ⟨p, vs, rfl, Or.symm (hq.ex e1.i), hr S0 H0 S1 H1 σ (E.go e1) _ fun ws S2 H2 e2 r2 => q _ S2 H2 (e1.trans e2) (Paired.app (Paired.mono (fun _ _ => Enc.mono e2.s) hp) r2)⟩
/-! ### displays -/
theorem d_pair (ha : DE K B ta ρ a) (hb : DE K B tb ρ b) : DE K B (tTup (tCons ta (tCons tb tNil))) ρ (a, b) := fun S0 H0 S H σ E Q q =>
  ha S0 H0 S H σ E _ fun x S1 H1 e1 r1 => hb S0 H0 S1 H1 σ (E.go e1) _ fun y S2 H2 e2 r2 => ⟨by show 2 ≤ sizeLine; decide, fun p hp => by
    have e3 : Ext B S2 H2 (upd S2 p (.tup [x, y])) (upd H2 p (.tup [x, y])) := Ext.new e2.i hp
    exact q _ _ _ ((e1.trans e2).trans e3) ⟨p, x, y, rfl, .inl (.inl upd_same), Enc.mono (e2.s.trans e3.s) r1, Enc.mono e3.s r2⟩⟩
theorem d_triple {c : γ} (ha : DE K B ta ρ a) (hb : DE K B tb ρ b) (hc : DE K B tc ρ c) : DE K B (tTup (tCons ta (tCons tb (tCons tc tNil)))) ρ (T3.mk a b c) := fun S0 H0 S H σ E Q q =>
  ha S0 H0 S H σ E _ fun x S1 H1 e1 r1 => hb S0 H0 S1 H1 σ (E.go e1) _ fun y S2 H2 e2 r2 => hc S0 H0 S2 H2 σ (E.go (e1.trans e2)) _ fun z S3 H3 e3 r3 => ⟨by show 3 ≤ sizeLine; decide, fun p hp => by
    have e4 : Ext B S3 H3 (upd S3 p (.tup [x, y, z])) (upd H3 p (.tup [x, y, z])) := Ext.new e3.i hp
    exact q _ _ _ (((e1.trans e2).trans e3).trans e4) ⟨p, x, y, z, rfl, .inl (.inl upd_same), Enc.mono ((e2.s.trans e3.s).trans e4.s) r1, Enc.mono (e3.s.trans e4.s) r2, Enc.mono e4.s r3⟩⟩
theorem d_tupU {tr : TA} {xs : List α} (h : DL K B tr ρ xs) (hl : xs.length ≤ BIG) : DE K B (tTup tr) ρ (α := U α) xs := fun S0 H0 S H σ E Q q =>
  h S0 H0 S H σ E _ fun vs S1 H1 e1 r1 => ⟨by rw [r1.length]; exact Nat.le_trans hl big_line, fun p hp => by
    have e2 : Ext B S1 H1 (upd S1 p (.tup vs)) (upd H1 p (.tup vs)) := Ext.new e1.i hp
    exact q _ _ _ (e1.trans e2) ⟨hl, p, vs, rfl, .inl (.inl upd_same), Paired.mono (fun _ _ => Enc.mono e2.s) r1⟩⟩
theorem do_lst {tr : TA} {xs : List α} (h : DL K B tr ρ xs) (hl : xs.length ≤ BIG) : DO K B (tLst tr) ρ xs := fun S0 H0 S H σ E Q q =>
  h S0 H0 S H σ E _ fun vs S1 H1 e1 r1 => ⟨by rw [r1.length]; exact Nat.le_trans hl big_line, fun p hp => q p vs S1 _ (e1.trans (Ext.priv e1.i hp)) (e1.free E.i hp) (e1.i.free hp) upd_same r1 hl⟩
/-- an own list as a value -/
theorem DO.l {xs : List α} (h : DO K B te ρ xs) : DE K B te ρ (α := L α) xs := fun S0 H0 S H σ E Q q =>
  h S0 H0 S H σ E _ fun p vs S1 H1 e1 hp hs hh r hl => q _ _ _ (e1.frz hp E.i hh hs) ⟨hl, p, vs, rfl, upd_same, Paired.mono (fun _ _ => Enc.mono (same_new hs)) r⟩
theorem d_Lq {xs : List α} (h : DE K B te ρ (α := L α) xs) : DE K B te ρ xs := fun S0 H0 S H σ E Q q =>
  h S0 H0 S H σ E _ fun v S1 H1 e1 ⟨hl, p, vs, e, hh, r⟩ => q v S1 H1 e1 ⟨hl, p, vs, e, .l hh, r⟩
theorem d_Uq {xs : List α} (h : DE K B te ρ (α := U α) xs) : DE K B te ρ xs := fun S0 H0 S H σ E Q q =>
  h S0 H0 S H σ E _ fun v S1 H1 e1 ⟨hl, p, vs, e, hh, r⟩ => q v S1 H1 e1 ⟨hl, p, vs, e, .inr hh, r⟩
theorem DO.q {xs : List α} (h : DO K B te ρ xs) : DE K B te ρ xs := d_Lq h.l
/-! ### sequences -/
theorem d_len {xs : List α} (h : DE K B te ρ xs) : DE K B (tCB (rLenQ K) (tCons te tNil)) ρ (xs.length : Int) := fun S0 H0 S H σ E Q q =>
  h S0 H0 S H σ E _ fun v S1 H1 e1 ⟨hl, p, vs, e, hh, r⟩ => by
    subst e
    refine ⟨p, vs, rfl, hh.ex e1.i, ?_⟩
    rw [r.length]
    exact q _ S1 H1 e1 rfl
/-- len of one's own list -/
theorem d_lenO {n : Nat} {xs : List α} (h : ρ[n]? = some (.own xs)) : DE K B (tCB (rLenQ K) (tCons (tVar n) tNil)) ρ (xs.length : Int) := fun S0 H0 S H σ E Q q => by
  obtain ⟨hl, p, vs, e1, h0, hs, hh, r⟩ := E.own h
  refine ⟨_, e1, p, vs, rfl, .l hh, ?_⟩
  rw [r.length]
  exact q _ S H (Ext.refl E.i) rfl
/-- the place that an index tells -/
def atZ {α : Type} [Inhabited α] (xs : List α) (i : Int) : α := (atI xs i).getD default
theorem paired_atI {S : Hp} : ∀ {vs : List V} {xs : List α} {i : Int} {x : α}, Paired (Enc.rep K S) vs xs → atI xs i = some x → ∃ v, atI vs i = some v ∧ Enc.rep K S v x := fun {vs xs i x} r h => by
  unfold atI at h ⊢
  rw [r.length]
  cases q : ixN xs.length i with
  | none => rw [q] at h; cases h
  | some j =>
    rw [q] at h
    exact Paired.at r h
theorem d_ix {xs : List α} {x : α} (h : DE K B ta ρ xs) (hi : DE K B tb ρ i) (hx : atI xs i = some x) : DE K B (tOp (rIxQ K) ta tb) ρ x :=
  d_op h hi fun v w S H sm ⟨hl, p, vs, e, hh, r⟩ r2 Q q => by
    obtain ⟨y, h1, h2⟩ := paired_atI r hx
    exact ⟨p, vs, i, y, e, r2, hh.ex sm, h1, q y S H (Ext.refl sm) h2⟩
theorem d_ixO {n : Nat} {xs : List α} {x : α} (h : ρ[n]? = some (.own xs)) (hi : DE K B tb ρ i) (hx : atI xs i = some x) : DE K B (tOp (rIxQ K) (tVar n) tb) ρ x := fun S0 H0 S H σ E Q q => by
  obtain ⟨hl, p, vs, e1, h0, hs, hh, r⟩ := E.own h
  refine ⟨_, e1, ?_⟩
  refine hi S0 H0 S H σ E _ fun w S1 H1 ex r1 => ?_
  obtain ⟨_, p', vs', e1', _, _, hh', r'⟩ := (E.go ex).own h
  rw [e1] at e1'
  cases e1'
  obtain ⟨y, h1, h2⟩ := paired_atI r' hx
  exact ⟨p, vs', i, y, rfl, r1, .l hh', h1, q y S1 H1 ex h2⟩
theorem d_fst {p : α × β} (h : DE K B ta ρ p) : DE K B (tOp (rIxQ K) ta (tC (.int 0))) ρ p.1 :=
  d_op h d_int fun v w S H sm ⟨a, v1, v2, e, hh, r1, r2⟩ rw Q q => ⟨a, [v1, v2], 0, v1, e, rw, .inr (Evl.ex_t sm hh), rfl, q v1 S H (Ext.refl sm) r1⟩
theorem d_snd {p : α × β} (h : DE K B ta ρ p) : DE K B (tOp (rIxQ K) ta (tC (.int 1))) ρ p.2 :=
  d_op h d_int fun v w S H sm ⟨a, v1, v2, e, hh, r1, r2⟩ rw Q q => ⟨a, [v1, v2], 1, v2, e, rw, .inr (Evl.ex_t sm hh), rfl, q v2 S H (Ext.refl sm) r2⟩
theorem d_t3a {p : T3 α β γ} (h : DE K B ta ρ p) : DE K B (tOp (rIxQ K) ta (tC (.int 0))) ρ p.a :=
  d_op h d_int fun v w S H sm ⟨a, v1, v2, v3, e, hh, r1, r2, r3⟩ rw Q q => ⟨a, [v1, v2, v3], 0, v1, e, rw, .inr (Evl.ex_t sm hh), rfl, q v1 S H (Ext.refl sm) r1⟩
theorem d_t3b {p : T3 α β γ} (h : DE K B ta ρ p) : DE K B (tOp (rIxQ K) ta (tC (.int 1))) ρ p.b :=
  d_op h d_int fun v w S H sm ⟨a, v1, v2, v3, e, hh, r1, r2, r3⟩ rw Q q => ⟨a, [v1, v2, v3], 1, v2, e, rw, .inr (Evl.ex_t sm hh), rfl, q v2 S H (Ext.refl sm) r2⟩
theorem d_t3c {p : T3 α β γ} (h : DE K B ta ρ p) : DE K B (tOp (rIxQ K) ta (tC (.int 2))) ρ p.c :=
  d_op h d_int fun v w S H sm ⟨a, v1, v2, v3, e, hh, r1, r2, r3⟩ rw Q q => ⟨a, [v1, v2, v3], 2, v3, e, rw, .inr (Evl.ex_t sm hh), rfl, q v3 S H (Ext.refl sm) r3⟩
/-- slices -/
def cutA {α : Type} (xs : List α) (lo hi : Option Int) : List α := (xs.drop (HT.sIx xs.length 0 lo)).take (HT.sIx xs.length xs.length hi - HT.sIx xs.length 0 lo)
theorem cutA_len {α : Type} (xs : List α) (lo hi : Option Int) : (cutA xs lo hi).length ≤ xs.length := by
  unfold cutA
  rw [List.length_take, List.length_drop]
  omega
theorem paired_cut {S : Hp} {vs : List V} {xs : List α} {lo hi : Option Int} (r : Paired (Enc.rep K S) vs xs) : Paired (Enc.rep K S) (cutV vs lo hi) (cutA xs lo hi) := by
  unfold cutV cutA
  rw [r.length]
  exact Paired.tk _ (Paired.dr _ r)
theorem dp_none : DP K B tNoPart ρ none := fun _ _ S H _ E Q q => q S H (Ext.refl E.i)
theorem dp_some (h : DE K B te ρ i) : DP K B (tPart te) ρ (some i) := fun S0 H0 S H σ E Q q => h S0 H0 S H σ E _ fun v S1 H1 e r => ⟨i, r, q S1 H1 e⟩
theorem d_slice {tl th : TO} {xs : List α} {lo hi : Option Int} (h : DE K B te ρ xs) (hl : DP K B tl ρ lo) (hh : DP K B th ρ hi) : DE K B (tSl (rSlQ K) te tl th) ρ (cutA xs lo hi) := fun S0 H0 S H σ E Q q =>
  h S0 H0 S H σ E _ fun v S1 H1 e1 r1 => hl S0 H0 S1 H1 σ (E.go e1) _ fun S2 H2 e2 => hh S0 H0 S2 H2 σ (E.go (e1.trans e2)) _ fun S3 H3 e3 => by
    have e13 := (e1.trans e2).trans e3
    obtain ⟨hl, p, vs, rfl, hq, r⟩ := Enc.mono (e2.s.trans e3.s) r1
    have lc : (cutA xs lo hi).length ≤ BIG := Nat.le_trans (cutA_len _ _ _) hl
    rcases hq with hq | hq
    · refine .inl ⟨p, vs, rfl, Evl.ex_l e3.i hq, fun w hw => ?_⟩
      have e4 : Ext B S3 H3 (upd S3 w (.lst (cutV vs lo hi))) (upd H3 w (.lst (cutV vs lo hi))) := Ext.new e3.i hw
      exact q _ _ _ (e13.trans e4) ⟨lc, w, _, rfl, .l upd_same, Paired.mono (fun _ _ => Enc.mono e4.s) (paired_cut r)⟩
    · by_cases hw : HT.sIx vs.length 0 lo = 0 ∧ HT.sIx vs.length vs.length hi = vs.length
      · refine .inr (.inr ⟨p, vs, rfl, Evl.ex_t e3.i hq, hw, q _ S3 H3 e13 ⟨lc, p, vs, rfl, .inr hq, ?_⟩⟩)
        have ev : cutV vs lo hi = vs := by
          unfold cutV
          rw [hw.1, hw.2]
          simp
        have r' := paired_cut (lo := lo) (hi := hi) r
        rw [ev] at r'
        exact r'
      · refine .inr (.inl ⟨p, vs, rfl, Evl.ex_t e3.i hq, hw, fun w hw => ?_⟩)
        have e4 : Ext B S3 H3 (upd S3 w (.tup (cutV vs lo hi))) (upd H3 w (.tup (cutV vs lo hi))) := Ext.new e3.i hw
        exact q _ _ _ (e13.trans e4) ⟨lc, w, _, rfl, .t upd_same, Paired.mono (fun _ _ => Enc.mono e4.s) (paired_cut r)⟩
/-- tuple(xs), list(xs) -/
theorem d_tuple {xs : List α} (h : DE K B te ρ xs) : DE K B (tCB (rTupQ K) (tCons te tNil)) ρ (α := U α) xs := fun S0 H0 S H σ E Q q =>
  h S0 H0 S H σ E _ fun v S1 H1 e1 ⟨hl, p, vs, e, hh, r⟩ => by
    subst e
    rcases hh with hh | hh
    · refine ⟨⟨p, vs, rfl, .inl ⟨Evl.ex_l e1.i hh, fun w hw => ?_⟩⟩⟩
      have e4 : Ext B S1 H1 (upd S1 w (.tup vs)) (upd H1 w (.tup vs)) := Ext.new e1.i hw
      exact q _ _ _ (e1.trans e4) ⟨hl, w, _, rfl, .inl (.inl upd_same), Paired.mono (fun _ _ => Enc.mono e4.s) r⟩
    · exact ⟨⟨p, vs, rfl, .inr ⟨Evl.ex_t e1.i hh, q _ S1 H1 e1 ⟨hl, p, vs, rfl, hh, r⟩⟩⟩⟩
theorem do_list {xs : List α} (h : DE K B te ρ xs) : DO K B (tCB (rListQ K) (tCons te tNil)) ρ xs := fun S0 H0 S H σ E Q q =>
  h S0 H0 S H σ E _ fun v S1 H1 e1 ⟨hl, p, vs, e, hh, r⟩ => by
    subst e
    exact ⟨p, vs, rfl, hh.ex e1.i, fun w hw => q w vs S1 _ (e1.trans (Ext.priv e1.i hw)) (e1.free E.i hw) (e1.i.free hw) upd_same r hl⟩
/-- lists of one's own, put together; so many times -/
theorem do_cat {xs ys : List α} (h1 : DE K B ta ρ (α := L α) xs) (h2 : DE K B tb ρ (α := L α) ys) (hl : xs.length + ys.length ≤ BIG) : DO K B (tOp rCat ta tb) ρ (xs ++ ys) := fun S0 H0 S H σ E Q q =>
  h1 S0 H0 S H σ E _ fun v S1 H1 e1 r1 => h2 S0 H0 S1 H1 σ (E.go e1) _ fun w S2 H2 e2 ⟨l2, p2, vs2, z2, hh2, r2⟩ => by
    obtain ⟨l1, p1, vs1, z1, hh1, r1'⟩ := Enc.mono e2.s r1
    subst z1
    subst z2
    have r := Paired.app r1' r2
    refine ⟨p1, p2, vs1, vs2, rfl, rfl, e2.i _ _ hh1, e2.i _ _ hh2, ?_, fun p hp => q p _ S2 _ ((e1.trans e2).trans (Ext.priv e2.i hp)) ((e1.trans e2).free E.i hp) (e2.i.free hp) upd_same r ?_⟩
    · rw [r1'.length, r2.length]
      exact Nat.le_trans hl big_line
    · rw [List.length_append]
      exact hl
theorem paired_flat {S : Hp} {vs : List V} {xs : List α} (r : Paired (Enc.rep K S) vs xs) : ∀ n : Nat, Paired (Enc.rep K S) (List.replicate n vs).flatten (List.replicate n xs).flatten
  | 0 => .nil
  | n + 1 => by
    rw [List.replicate_succ, List.replicate_succ, List.flatten_cons, List.flatten_cons]
    exact Paired.app r (paired_flat r n)
end
end WW

set_option Elab.async false
set_option linter.all false
set_option maxRecDepth 100000
set_option maxHeartbeats 4000000
namespace WW
open PySem PySem.Spec PyProof.Rows L2
def wipeS (ρ : List Slot) : List Nat → List Slot
  | [] => ρ
  | v :: vs => (wipeS ρ vs).set v .no
theorem wipe_off {σ : L2.St} {i : Nat} : ∀ {vs : List Nat}, i ∉ vs → (wipe σ vs)[i]? = σ[i]?
  | [], _ => rfl
  | v :: vs, h => by
    rw [List.mem_cons, not_or] at h
    show ((wipe σ vs).set v none)[i]? = σ[i]?
    rw [List.getElem?_set_ne (Ne.symm h.1)]
    exact wipe_off h.2
theorem wipe_on {σ : L2.St} {i : Nat} (hi : i < σ.length) : ∀ {vs : List Nat}, i ∈ vs → (wipe σ vs)[i]? = some none
  | v :: vs, h => by
    show ((wipe σ vs).set v none)[i]? = some none
    by_cases z : v = i
    · subst z
      rw [List.getElem?_set_self (by rw [wipe_length]; exact hi)]
    · rw [List.getElem?_set_ne z]
      exact wipe_on hi ((List.mem_cons.mp h).resolve_left (Ne.symm z))
theorem wipe_eq {σ σ' : L2.St} {vs : List Nat} (hl : σ'.length = σ.length) (h : ∀ i, i ∉ vs → σ'[i]? = σ[i]?) : wipe σ' vs = wipe σ vs := by
  refine List.ext_getElem? fun i => ?_
  by_cases hi : i < σ.length
  · by_cases hv : i ∈ vs
    · rw [wipe_on hi hv, wipe_on (by rw [hl]; exact hi) hv]
    · rw [wipe_off hv, wipe_off hv, h i hv]
  · rw [List.getElem?_eq_none (by rw [wipe_length, hl]; omega), List.getElem?_eq_none (by rw [wipe_length]; omega)]
theorem wipe_wipe {σ : L2.St} {vs : List Nat} : wipe (wipe σ vs) vs = wipe σ vs := wipe_eq (wipe_length σ vs) fun i hi => wipe_off hi
section
variable {K : PySem.W.Frag} {B : Addr → Prop} {ρ ρ' ρ1 : List Slot} {ta tb tc te : TE} {t u : TT} {α β γ : Type} {e_α : Enc α} {e_β : Enc β} {e_γ : Enc γ} {a : α} {b : β} {i j : Int}
theorem En.wp {S0 H0 S H : Hp} {σ : L2.St} (E : En K B S0 H0 S H σ ρ) : ∀ vs : List Nat, En K B S0 H0 S H (wipe σ vs) (wipeS ρ vs)
  | [] => E
  | v :: vs => (E.wp vs).set (i := v) (o := none) (s := .no) trivial rfl
theorem Ext.mut {S H S1 H1 : Hp} {D : Addr} {o : HO} (e : Ext B S H S1 H1) (h : H D = none) (h1 : S1 D = none) : Ext B S H S1 (upd H1 D o) := by
  refine ⟨e.s, fun a u q => ?_, fun a q1 q2 => ?_⟩
  · rw [upd_ne (fun z => by rw [z, h1] at q; cases q)]
    exact e.i _ _ q
  · rw [upd_ne (fun z => q2 (by rw [z]; exact h))]
    exact e.p a q1 q2
/-! ### what is walked -/
theorem di_seq {xs : List α} (h : DE K B te ρ xs) : DI K B (iSeq K te) ρ xs := fun S0 H0 S H σ E R q =>
  h S0 H0 S H σ E _ fun v S1 H1 e1 ⟨hl, p, vs, e, hh, r⟩ => by
    refine ⟨p, e, ?_⟩
    rcases hh with hh | hh
    · refine .inl ⟨⟨vs, Evl.ex_l e1.i hh⟩, q _ S1 H1 e1 fun S2 H2 s2 i2 => ⟨fun i x hx => ?_, vs, Evl.ex_l (s2.trans i2) hh, by rw [r.length]; exact Nat.le_refl _⟩⟩
      obtain ⟨w, h1, h2⟩ := Paired.at r hx
      refine ⟨⟨vs, w, Evl.ex_l (s2.trans i2) hh, h1⟩, fun v H3 hy => ⟨S2, ?_, ?_⟩⟩
      · rw [hy.1]
        exact Ext.refl i2
      · have z := hy.2 vs (Evl.ex_l (s2.trans i2) hh)
        rw [h1] at z
        cases z
        exact Enc.mono s2 h2
    · refine .inr ⟨⟨vs, Evl.ex_t e1.i hh⟩, q _ S1 H1 e1 fun S2 H2 s2 i2 => ⟨fun i x hx => ?_, vs, Evl.ex_t (s2.trans i2) hh, by rw [r.length]; exact Nat.le_refl _⟩⟩
      obtain ⟨w, h1, h2⟩ := Paired.at r hx
      refine ⟨⟨vs, w, Evl.ex_t (s2.trans i2) hh, h1⟩, fun v H3 hy => ⟨S2, ?_, ?_⟩⟩
      · rw [hy.1]
        exact Ext.refl i2
      · have z := hy.2 vs (Evl.ex_t (s2.trans i2) hh)
        rw [h1] at z
        cases z
        exact Enc.mono s2 h2
/-- lo, lo + 1, .. below hi -/
def rg (lo hi : Int) : List Int := (List.range (hi - lo).toNat).map fun i : Nat => lo + (i : Int)
theorem rg_len (lo hi : Int) : (rg lo hi).length = (hi - lo).toNat := by
  unfold rg
  rw [List.length_map, List.length_range]
theorem rg_at {lo hi : Int} {i : Nat} {x : Int} (h : (rg lo hi)[i]? = some x) : x = lo + i ∧ lo ≤ x ∧ x < hi := by
  unfold rg at h
  rw [List.getElem?_map] at h
  by_cases hi' : i < (hi - lo).toNat
  · rw [List.getElem?_range hi'] at h
    have h : some (lo + (i : Int)) = some x := h
    cases h
    omega
  · rw [List.getElem?_eq_none (by rw [List.length_range]; omega)] at h
    cases h
theorem rg_mem {lo hi x : Int} : x ∈ rg lo hi ↔ lo ≤ x ∧ x < hi := by
  unfold rg
  rw [List.mem_map]
  constructor
  · rintro ⟨i, h1, rfl⟩
    rw [List.mem_range] at h1
    omega
  · rintro ⟨h1, h2⟩
    exact ⟨(x - lo).toNat, List.mem_range.mpr (by omega), by omega⟩
theorem rg_get {lo hi : Int} {i : Nat} (h : (i : Int) < hi - lo) : (rg lo hi)[i]? = some (lo + i) := by
  unfold rg
  rw [List.getElem?_map, List.getElem?_range (by omega)]
  rfl
theorem yld_rg {lo hi : Int} {S : Hp} : Yld K B (Itr lo (hi - lo).toNat) S (rg lo hi) := fun S1 H1 _ i1 => by
  refine ⟨fun i x hx => ?_, by show (hi - lo).toNat ≤ _; rw [rg_len]; exact Nat.le_refl _⟩
  have l := (List.getElem?_eq_some_iff.mp hx).1
  rw [rg_len] at l
  refine ⟨l, fun v H2 hy => ⟨S1, ?_, ?_⟩⟩
  · rw [hy.1]
    exact Ext.refl i1
  · show v = .int x
    rw [hy.2, (rg_at hx).1]
theorem di_rng1 (h : DE K B te ρ j) (h1 : -(2 ^ 62) ≤ j) (h2 : j < 2 ^ 62) : DI K B (iRng1 (tCons te tNil)) ρ (rg 0 j) := fun S0 H0 S H σ E R q =>
  h S0 H0 S H σ E _ fun v S1 H1 e1 r => ⟨j, by cases r; rfl, h1, h2, by
    have z := q (Itr 0 (j - 0).toNat) S1 H1 e1 yld_rg
    rw [Int.sub_zero] at z
    exact z⟩
theorem di_rng2 (h : DE K B ta ρ i) (h' : DE K B tb ρ j) (h1 : -(2 ^ 62) ≤ i ∧ i < 2 ^ 62 ∧ -(2 ^ 62) ≤ j ∧ j < 2 ^ 62) : DI K B (iRng2 (tCons ta (tCons tb tNil))) ρ (rg i j) := fun S0 H0 S H σ E R q =>
  h S0 H0 S H σ E _ fun v S1 H1 e1 r => h' S0 H0 S1 H1 σ (E.go e1) _ fun w S2 H2 e2 r2 => ⟨i, j, by cases r; cases r2; rfl, h1, q _ S2 H2 (e1.trans e2) yld_rg⟩
/-! ### targets -/
theorem dg_name {n : Nat} : DG K B (gName n) a ρ (ρ.set n (.val a)) [n] := fun S0 H0 S H σ v E r R q =>
  q _ (E.setV r) (List.length_set ..) fun i hi => by
    rw [List.mem_singleton] at hi
    rw [List.getElem?_set_ne (Ne.symm hi)]
theorem DG.pair {g g' : TG} {ρ2 : List Slot} {js js' : List Nat} (h1 : DG K B g a ρ ρ1 js) (h2 : DG K B g' b ρ1 ρ2 js') : DG K B (gTup K 2 (gCons g (gCons g' gNil))) (a, b) ρ ρ2 (js ++ js') := fun S0 H0 S H σ v E r R q => by
  obtain ⟨p, v1, v2, rfl, hq, r1, r2⟩ := r
  refine ⟨p, [v1, v2], rfl, Evl.ex_t E.i hq, rfl, v1, [v2], rfl, ?_⟩
  refine h1 S0 H0 S H σ v1 E r1 _ fun σ1 E1 l1 f1 => ⟨v2, [], rfl, ?_⟩
  refine h2 S0 H0 S H σ1 v2 E1 r2 _ fun σ2 E2 l2 f2 => ⟨rfl, q σ2 E2 (l2.trans l1) fun i hi => ?_⟩
  rw [List.mem_append, not_or] at hi
  rw [f2 i hi.2, f1 i hi.1]
theorem DG.trip {g g' g'' : TG} {c : γ} {ρ2 ρ3 : List Slot} {js js' js'' : List Nat} (h1 : DG K B g a ρ ρ1 js) (h2 : DG K B g' b ρ1 ρ2 js') (h3 : DG K B g'' c ρ2 ρ3 js'') : DG K B (gTup K 3 (gCons g (gCons g' (gCons g'' gNil)))) (T3.mk a b c) ρ ρ3 (js ++ (js' ++ js'')) := fun S0 H0 S H σ v E r R q => by
  obtain ⟨p, v1, v2, v3, rfl, hq, r1, r2, r3⟩ := r
  refine ⟨p, [v1, v2, v3], rfl, Evl.ex_t E.i hq, rfl, v1, [v2, v3], rfl, ?_⟩
  refine h1 S0 H0 S H σ v1 E r1 _ fun σ1 E1 l1 f1 => ⟨v2, [v3], rfl, ?_⟩
  refine h2 S0 H0 S H σ1 v2 E1 r2 _ fun σ2 E2 l2 f2 => ⟨v3, [], rfl, ?_⟩
  refine h3 S0 H0 S H σ2 v3 E2 r3 _ fun σ3 E3 l3 f3 => ⟨rfl, q σ3 E3 ((l3.trans l2).trans l1) fun i hi => ?_⟩
  rw [List.mem_append, not_or, List.mem_append, not_or] at hi
  rw [f3 i hi.2.2, f2 i hi.2.1, f1 i hi.1]
/-! ### comprehensions -/
theorem do_lc {wi : TI} {g : TG} {vs : List Nat} {xs : List α} (p : α → Bool) (f : α → β) (hi : DI K B wi ρ xs) (hl : xs.length ≤ BIG)
    (h : ∀ x ∈ xs, ∃ ρ' js, DG K B g x (wipeS ρ vs) ρ' js ∧ (∀ i ∈ js, i ∈ vs) ∧ DT K B t ρ' (p x) ∧ (p x = true → DE K B te ρ' (f x))) : DO K B (tLc wi g t te vs) ρ ((xs.filter p).map f) := by
  intro S0 H0 S H σ E Q q
  refine hi S0 H0 S H σ E _ fun J S1 H1 e1 y D hD => ?_
  have hD0 : H D = none := e1.free E.i hD
  have nB : ¬ B D := fun z => (E.bx D z).2.2 (E.ext.free E.i0 hD0)
  let Pv : Nat → Hp → Prop := fun i Hc => ∃ Sc ws, Ext B S1 H1 Sc Hc ∧ Sc D = none ∧ Hc D = some (.lst ws) ∧ Paired (Enc.rep K Sc) ws (((xs.take i).filter p).map f)
  refine ⟨fun i m Hc => m = xs.length - i ∧ i ≤ xs.length ∧ Pv i Hc, ⟨xs.length, by simp, Nat.zero_le _, S1, [], Ext.priv e1.i hD, e1.i.free hD, upd_same, .nil⟩, ?_⟩
  rintro i m Hc ⟨rfl, hle, Sc, ws, ex, hs, hh, r⟩
  have yy := y Sc Hc ex.s ex.i
  by_cases hlt : i < xs.length
  · refine .inr ?_
    obtain ⟨x, hx⟩ : ∃ x, xs[i]? = some x := ⟨_, List.getElem?_eq_getElem hlt⟩
    obtain ⟨hgo, hy⟩ := yy.1 i x hx
    refine ⟨hgo, Pv (i + 1), fun H' hp => ⟨xs.length - (i + 1), by omega, rfl, hlt, hp⟩, fun v H' hyl => ?_⟩
    obtain ⟨S2, e2, r2⟩ := hy v H' hyl
    obtain ⟨ρ', js, hg, hjs, ht, he⟩ := h x (List.mem_of_getElem? hx)
    have lw : ws.length < sizeLine := by
      rw [r.length, List.length_map]
      have h1 := List.length_filter_le p (xs.take i)
      rw [List.length_take] at h1
      have := big_line
      omega
    refine hg S0 H0 S2 H' (wipe σ vs) v ((E.go ((e1.trans ex).trans e2)).wp vs) r2 _ fun σ2 E2 l2 f2 => ⟨?_, ?_⟩
    · have z := wipe_eq (vs := vs) l2 fun i hi => f2 i fun z => hi (hjs i z)
      rw [z, wipe_wipe]
    · refine ht S0 H0 S2 H' σ2 E2 _ fun S3 H3 e3 => ?_
      have e13 := (ex.trans e2).trans e3
      have st : ∀ S4 H4, Ext B Sc Hc S4 H4 → S4 D = none ∧ H4 D = some (.lst ws) := fun S4 H4 e => by
        obtain ⟨q1, q2⟩ := e.p D hs (by rw [hh]; exact fun z => nomatch z)
        refine ⟨q1, ?_⟩
        rcases q2 with q2 | ⟨q2, _⟩
        · rw [q2]
          exact hh
        · exact absurd q2 nB
      cases hp : p x with
      | false =>
        obtain ⟨a1, a2⟩ := st S3 H3 (e2.trans e3)
        refine ⟨S3, ws, e13, a1, a2, ?_⟩
        rw [List.take_add_one, hx, List.filter_append]
        have z : (Option.toList (some x)).filter p = [] := by
          show [x].filter p = []
          rw [List.filter_cons, if_neg (by rw [hp]; decide), List.filter_nil]
        rw [z, List.append_nil]
        exact Paired.mono (fun _ _ => Enc.mono (e2.s.trans e3.s)) r
      | true =>
        refine he hp S0 H0 S3 H3 σ2 (E2.go e3) _ fun w S4 H4 e4 r4 => ?_
        obtain ⟨a1, a2⟩ := st S4 H4 ((e2.trans e3).trans e4)
        refine ⟨ws, a2, lw, S4, ws ++ [w], (e13.trans e4).mut hD a1, a1, upd_same, ?_⟩
        rw [List.take_add_one, hx, List.filter_append]
        have z : (Option.toList (some x)).filter p = [x] := by
          show [x].filter p = [x]
          rw [List.filter_cons, if_pos hp, List.filter_nil]
        rw [z, List.map_append]
        exact Paired.app (Paired.mono (fun _ _ => Enc.mono ((e2.s.trans e3.s).trans e4.s)) r) (.cons r4 .nil)
  · refine .inl ⟨?_, ?_⟩
    · rw [show i = xs.length by omega]
      exact yy.2
    · rw [List.take_of_length_le (by omega)] at r
      refine q D ws Sc Hc (e1.trans ex) hD0 hs hh r ?_
      rw [List.length_map]
      exact Nat.le_trans (List.length_filter_le _ _) hl
theorem do_map {wi : TI} {g : TG} {vs : List Nat} {xs : List α} (f : α → β) (hi : DI K B wi ρ xs) (hl : xs.length ≤ BIG)
    (h : ∀ x ∈ xs, ∃ ρ' js, DG K B g x (wipeS ρ vs) ρ' js ∧ (∀ i ∈ js, i ∈ vs) ∧ DE K B te ρ' (f x)) : DO K B (tLc wi g tYes te vs) ρ (xs.map f) := by
  have z := do_lc (fun _ => true) f hi hl (t := tYes) (te := te) (g := g) (vs := vs) fun x hx => by
    obtain ⟨ρ', js, h1, h2, h3⟩ := h x hx
    exact ⟨ρ', js, h1, h2, dt_yes, fun _ => h3⟩
  rw [List.filter_eq_self.mpr (fun _ _ => rfl)] at z
  exact z
/-! ### calls -/
def spT (K : PySem.W.Frag) (dp : List Slot → (Slot → Prop) → Prop) : Sp := fun vs H Q _ => ∃ B S ss R, Same S H ∧ (∀ p, B p → S p = none ∧ IsBx (H p)) ∧ ArgsOk K B H S H vs ss ∧ dp ss R ∧ ∀ s v S' H', R s → Ext B S H S' H' → SlotOk K B H S' H' (some v) s → Q v H'
theorem SlotOk.base {H0 H1 S H : Hp} {o : Option V} {s : Slot} (h : SlotOk K B H0 S H o s) (hs : s.isOwn = false) : SlotOk K B H1 S H o s := by
  cases s with
  | no => cases o <;> trivial
  | box =>
    cases o with
    | none => cases h
    | some v => exact h
  | val a =>
    cases o with
    | none => cases h
    | some v => exact h
  | own xs => cases hs
theorem ArgsOk.base {H0 H1 S H : Hp} : ∀ {vs : List V} {ss : List Slot}, ArgsOk K B H0 S H vs ss → ArgsOk K B H1 S H vs ss
  | _, _, .nil => .nil
  | _, _, .cons h1 h2 h3 => .cons (h1.base h2) h2 h3.base
theorem ArgsOk.length {H0 S H : Hp} : ∀ {vs : List V} {ss : List Slot}, ArgsOk K B H0 S H vs ss → vs.length = ss.length
  | _, _, .nil => rfl
  | _, _, .cons _ _ h3 => by rw [List.length_cons, List.length_cons, h3.length]
theorem ArgsOk.at' {H0 S H : Hp} : ∀ {vs : List V} {ss : List Slot}, ArgsOk K B H0 S H vs ss → ∀ (i : Nat) (s : Slot), ss[i]? = some s → ∃ v, vs[i]? = some v ∧ SlotOk K B H0 S H (some v) s ∧ s.isOwn = false
  | _, _, .nil, i, s, e => by simp at e
  | _, _, .cons h1 h2 _, 0, s, e => by
    simp at e
    subst e
    exact ⟨_, rfl, h1, h2⟩
  | _, _, .cons _ _ h3, i + 1, s, e => by
    obtain ⟨v, q1, q2⟩ := h3.at' i s (by simpa using e)
    exact ⟨v, by simpa using q1, q2⟩
/-- the promise used: one of some values -/
theorem dn_call {dp : List Slot → (Slot → Prop) → Prop} {tr : TA} {ss : List Slot} {P : α → Prop} (h : DA K B tr ρ ss) (hd : dp ss fun s => ∃ a : α, P a ∧ s = .val a) : DN K B (tCall (spT K dp) [] E0 tr) ρ P := fun S0 H0 S H σ E Q q =>
  h S0 H0 S H σ E _ fun vs S1 H1 e1 r1 => by
    show spT K dp (vs ++ []) H1 Q E0
    rw [List.append_nil]
    refine ⟨B, S1, ss, _, e1.i, fun p hp => ⟨((E.go e1).bx p hp).1, ((E.go e1).bx p hp).2.1⟩, r1.base, hd, fun s v S2 H2 hs e2 ok => ?_⟩
    obtain ⟨a, pa, rfl⟩ := hs
    exact q v a S2 H2 pa (e1.trans e2) ok
theorem DN.e (h : DN K B te ρ fun x => x = a) : DE K B te ρ a := fun S0 H0 S H σ E Q q => h S0 H0 S H σ E Q fun v x S1 H1 e ex r => q v S1 H1 ex (e ▸ r)
theorem DE.n (h : DE K B te ρ a) : DN K B te ρ fun x => x = a := fun S0 H0 S H σ E Q q => h S0 H0 S H σ E Q fun v S1 H1 ex r => q v a S1 H1 rfl ex r
theorem DN.imp {P P' : α → Prop} (h : DN K B te ρ P) (f : ∀ a, P a → P' a) : DN K B te ρ P' := fun S0 H0 S H σ E Q q => h S0 H0 S H σ E Q fun v x S1 H1 e ex r => q v x S1 H1 (f x e) ex r
theorem d_call {dp : List Slot → (Slot → Prop) → Prop} {tr : TA} {ss : List Slot} (h : DA K B tr ρ ss) (hd : dp ss fun s => s = .val a) : DE K B (tCall (spT K dp) [] E0 tr) ρ a := fun S0 H0 S H σ E Q q =>
  h S0 H0 S H σ E _ fun vs S1 H1 e1 r1 => by
    show spT K dp (vs ++ []) H1 Q E0
    rw [List.append_nil]
    refine ⟨B, S1, ss, _, e1.i, fun p hp => ⟨((E.go e1).bx p hp).1, ((E.go e1).bx p hp).2.1⟩, r1.base, hd, fun s v S2 H2 hs e2 ok => ?_⟩
    cases hs
    exact q v S2 H2 (e1.trans e2) ok
/-- what a class of objects is -/
class OfCls (α : Type) [Enc α] where
  cn : Str
  fl : List Str
  is : ∀ {K : PySem.W.Frag} {S : Hp} {v : V} {a : α}, Enc.rep K S v a → ∃ x dx fs, v = .ref x ∧ S x = some (.ins (He.ga K cn) dx fs) ∧ fs.map Prod.fst = fl
theorem look_none {fs : List (Str × V)} {m : Str} : ∀ (_ : m ∉ fs.map Prod.fst), fs.lookup m = none := by
  induction fs with
  | nil => intro _; rfl
  | cons p fs ih =>
    intro h
    rw [List.map_cons, List.mem_cons, not_or] at h
    obtain ⟨k, v⟩ := p
    have z : (m == k) = false := by
      rw [beq_eq_false_iff_ne]
      exact h.1
    rw [List.lookup_cons, z]
    exact ih h.2
instance [OfCls α] : NotN α := ⟨fun h => by obtain ⟨x, dx, fs, rfl, _⟩ := OfCls.is h; exact fun z => nomatch z⟩
theorem d_meth [o : OfCls α] {m : Str} {dp : List Slot → (Slot → Prop) → Prop} {tr : TA} {ss : List Slot} (ho : DE K B te ρ a) (h : DA K B tr ρ ss) (hd : dp (.val a :: ss) fun s => s = .val b) (hm : m ∉ o.fl) : DE K B (tMeth (He.ga K o.cn) m (spT K dp) [] E0 te tr) ρ b := fun S0 H0 S H σ E Q q =>
  ho S0 H0 S H σ E _ fun x S1 H1 e1 r1 => by
    obtain ⟨y, dx, fs, rfl, hy, hf⟩ := OfCls.is r1
    refine ⟨y, dx, fs, rfl, e1.i _ _ hy, look_none (by rw [hf]; exact hm), ?_⟩
    refine h S0 H0 S1 H1 σ (E.go e1) _ fun vs S2 H2 e2 r2 => ?_
    rw [List.append_nil]
    refine ⟨B, S2, .val a :: ss, _, e2.i, fun p hp => ⟨((E.go (e1.trans e2)).bx p hp).1, ((E.go (e1.trans e2)).bx p hp).2.1⟩, .cons (Enc.mono e2.s r1) rfl r2.base, hd, fun s v S3 H3 hs e3 ok => ?_⟩
    cases hs
    exact q v S3 H3 ((e1.trans e2).trans e3) ok
theorem d_prop [o : OfCls α] {dp : List Slot → (Slot → Prop) → Prop} (ho : DE K B te ρ a) (hd : dp [.val a] fun s => s = .val b) : DE K B (tProp (He.ga K o.cn) (spT K dp) [] E0 te) ρ b := fun S0 H0 S H σ E Q q =>
  ho S0 H0 S H σ E _ fun x S1 H1 e1 r1 => by
    obtain ⟨y, dx, fs, rfl, hy, hf⟩ := OfCls.is r1
    refine ⟨y, dx, fs, rfl, e1.i _ _ hy, ?_⟩
    refine ⟨B, S1, [.val a], _, e1.i, fun p hp => ⟨((E.go e1).bx p hp).1, ((E.go e1).bx p hp).2.1⟩, .cons r1 rfl .nil, hd, fun s v S3 H3 hs e3 ok => ?_⟩
    cases hs
    exact q v S3 H3 (e1.trans e3) ok
end
/-! ### promises of typed defs -/
def dp0 {γ : Type} [Enc γ] (c : γ) : List Slot → (Slot → Prop) → Prop := fun ss R => ss = [] ∧ R (.val c)
def dp1 {α γ : Type} [Enc α] [Enc γ] (pre : α → Prop) (f : α → γ) : List Slot → (Slot → Prop) → Prop := fun ss R => ∃ x : α, ss = [.val x] ∧ pre x ∧ R (.val (f x))
def dp2 {α β γ : Type} [Enc α] [Enc β] [Enc γ] (pre : α → β → Prop) (f : α → β → γ) : List Slot → (Slot → Prop) → Prop := fun ss R => ∃ (x : α) (y : β), ss = [.val x, .val y] ∧ pre x y ∧ R (.val (f x y))
def dp3 {α β δ γ : Type} [Enc α] [Enc β] [Enc δ] [Enc γ] (pre : α → β → δ → Prop) (f : α → β → δ → γ) : List Slot → (Slot → Prop) → Prop := fun ss R => ∃ (x : α) (y : β) (z : δ), ss = [.val x, .val y, .val z] ∧ pre x y z ∧ R (.val (f x y z))
def dp4 {α β δ ε γ : Type} [Enc α] [Enc β] [Enc δ] [Enc ε] [Enc γ] (pre : α → β → δ → ε → Prop) (f : α → β → δ → ε → γ) : List Slot → (Slot → Prop) → Prop := fun ss R => ∃ (x : α) (y : β) (z : δ) (w : ε), ss = [.val x, .val y, .val z, .val w] ∧ pre x y z w ∧ R (.val (f x y z w))
/-- box, then so many; one of some answers -/
def dpb0 {γ : Type} [Enc γ] (P : γ → Prop) : List Slot → (Slot → Prop) → Prop := fun ss R => ss = [.box] ∧ ∀ c : γ, P c → R (.val c)
def dpb1 {α γ : Type} [Enc α] [Enc γ] (pre : α → Prop) (P : α → γ → Prop) : List Slot → (Slot → Prop) → Prop := fun ss R => ∃ x : α, ss = [.box, .val x] ∧ pre x ∧ ∀ c : γ, P x c → R (.val c)
def dpb2 {α β γ : Type} [Enc α] [Enc β] [Enc γ] (pre : α → β → Prop) (P : α → β → γ → Prop) : List Slot → (Slot → Prop) → Prop := fun ss R => ∃ (x : α) (y : β), ss = [.box, .val x, .val y] ∧ pre x y ∧ ∀ c : γ, P x y c → R (.val c)
def dpb3 {α β δ γ : Type} [Enc α] [Enc β] [Enc δ] [Enc γ] (pre : α → β → δ → Prop) (P : α → β → δ → γ → Prop) : List Slot → (Slot → Prop) → Prop := fun ss R => ∃ (x : α) (y : β) (z : δ), ss = [.box, .val x, .val y, .val z] ∧ pre x y z ∧ ∀ c : γ, P x y z c → R (.val c)
section
variable {K : PySem.W.Frag} {B : Addr → Prop} {ρ : List Slot} {ta tb tc td te : TE} {α β γ δ ε : Type} {e_α : Enc α} {e_β : Enc β} {e_γ : Enc γ} {e_δ : Enc δ} {e_ε : Enc ε} {x : α} {y : β} {z : δ} {w : ε}
theorem d_call0 {c : γ} : DE K B (tCall (spT K (dp0 c)) [] E0 tNil) ρ c := d_call da_nil ⟨rfl, rfl⟩
theorem d_call1 {pre : α → Prop} {f : α → γ} (h1 : DE K B ta ρ x) (hp : pre x) : DE K B (tCall (spT K (dp1 pre f)) [] E0 (tCons ta tNil)) ρ (f x) := d_call (da_cons h1 da_nil) ⟨x, rfl, hp, rfl⟩
theorem d_call2 {pre : α → β → Prop} {f : α → β → γ} (h1 : DE K B ta ρ x) (h2 : DE K B tb ρ y) (hp : pre x y) : DE K B (tCall (spT K (dp2 pre f)) [] E0 (tCons ta (tCons tb tNil))) ρ (f x y) := d_call (da_cons h1 (da_cons h2 da_nil)) ⟨x, y, rfl, hp, rfl⟩
theorem d_call3 {pre : α → β → δ → Prop} {f : α → β → δ → γ} (h1 : DE K B ta ρ x) (h2 : DE K B tb ρ y) (h3 : DE K B tc ρ z) (hp : pre x y z) : DE K B (tCall (spT K (dp3 pre f)) [] E0 (tCons ta (tCons tb (tCons tc tNil)))) ρ (f x y z) := d_call (da_cons h1 (da_cons h2 (da_cons h3 da_nil))) ⟨x, y, z, rfl, hp, rfl⟩
theorem d_call4 {pre : α → β → δ → ε → Prop} {f : α → β → δ → ε → γ} (h1 : DE K B ta ρ x) (h2 : DE K B tb ρ y) (h3 : DE K B tc ρ z) (h4 : DE K B td ρ w) (hp : pre x y z w) : DE K B (tCall (spT K (dp4 pre f)) [] E0 (tCons ta (tCons tb (tCons tc (tCons td tNil))))) ρ (f x y z w) := d_call (da_cons h1 (da_cons h2 (da_cons h3 (da_cons h4 da_nil)))) ⟨x, y, z, w, rfl, hp, rfl⟩
theorem d_meth0 [o : OfCls α] {m : Str} {pre : α → Prop} {f : α → γ} (h1 : DE K B ta ρ x) (hp : pre x) (hm : m ∉ o.fl) : DE K B (tMeth (He.ga K o.cn) m (spT K (dp1 pre f)) [] E0 ta tNil) ρ (f x) := d_meth h1 da_nil ⟨x, rfl, hp, rfl⟩ hm
theorem d_meth1 [o : OfCls α] {m : Str} {pre : α → β → Prop} {f : α → β → γ} (h1 : DE K B ta ρ x) (h2 : DE K B tb ρ y) (hp : pre x y) (hm : m ∉ o.fl) : DE K B (tMeth (He.ga K o.cn) m (spT K (dp2 pre f)) [] E0 ta (tCons tb tNil)) ρ (f x y) := d_meth h1 (da_cons h2 da_nil) ⟨x, y, rfl, hp, rfl⟩ hm
theorem d_meth2 [o : OfCls α] {m : Str} {pre : α → β → δ → Prop} {f : α → β → δ → γ} (h1 : DE K B ta ρ x) (h2 : DE K B tb ρ y) (h3 : DE K B tc ρ z) (hp : pre x y z) (hm : m ∉ o.fl) : DE K B (tMeth (He.ga K o.cn) m (spT K (dp3 pre f)) [] E0 ta (tCons tb (tCons tc tNil))) ρ (f x y z) := d_meth h1 (da_cons h2 (da_cons h3 da_nil)) ⟨x, y, z, rfl, hp, rfl⟩ hm
theorem d_prop1 [o : OfCls α] {pre : α → Prop} {f : α → γ} (h1 : DE K B ta ρ x) (hp : pre x) : DE K B (tProp (He.ga K o.cn) (spT K (dp1 pre f)) [] E0 ta) ρ (f x) := d_prop h1 ⟨x, rfl, hp, rfl⟩
/-- draws -/
theorem dn_callb0 {n : Nat} {P : γ → Prop} (hb : ρ[n]? = some .box) : DN K B (tCall (spT K (dpb0 P)) [] E0 (tCons (tVar n) tNil)) ρ P := dn_call (da_box hb da_nil) ⟨rfl, fun c hc => ⟨c, hc, rfl⟩⟩
theorem dn_callb1 {n : Nat} {pre : α → Prop} {P : α → γ → Prop} (hb : ρ[n]? = some .box) (h1 : DE K B ta ρ x) (hp : pre x) : DN K B (tCall (spT K (dpb1 pre P)) [] E0 (tCons (tVar n) (tCons ta tNil))) ρ (P x) := dn_call (da_box hb (da_cons h1 da_nil)) ⟨x, rfl, hp, fun c hc => ⟨c, hc, rfl⟩⟩
theorem dn_callb2 {n : Nat} {pre : α → β → Prop} {P : α → β → γ → Prop} (hb : ρ[n]? = some .box) (h1 : DE K B ta ρ x) (h2 : DE K B tb ρ y) (hp : pre x y) : DN K B (tCall (spT K (dpb2 pre P)) [] E0 (tCons (tVar n) (tCons ta (tCons tb tNil)))) ρ (P x y) := dn_call (da_box hb (da_cons h1 (da_cons h2 da_nil))) ⟨x, y, rfl, hp, fun c hc => ⟨c, hc, rfl⟩⟩
theorem dn_callb3 {n : Nat} {pre : α → β → δ → Prop} {P : α → β → δ → γ → Prop} (hb : ρ[n]? = some .box) (h1 : DE K B ta ρ x) (h2 : DE K B tb ρ y) (h3 : DE K B tc ρ z) (hp : pre x y z) : DN K B (tCall (spT K (dpb3 pre P)) [] E0 (tCons (tVar n) (tCons ta (tCons tb (tCons tc tNil))))) ρ (P x y z) := dn_call (da_box hb (da_cons h1 (da_cons h2 (da_cons h3 da_nil)))) ⟨x, y, z, rfl, hp, fun c hc => ⟨c, hc, rfl⟩⟩
/-- two parts, each one of some values -/
theorem dn_op {r : R2} {P : α → Prop} {P' : β → Prop} {R : γ → Prop} (ha : DN K B ta ρ P) (hb : DN K B tb ρ P') (hr : ∀ a b, P a → P' b → ∀ x y S H, Same S H → Enc.rep K S x a → Enc.rep K S y b → ∀ Q : VK, (∀ v c S' H', R c → Ext B S H S' H' → Enc.rep K S' v c → Q v H') → r x y H Q) : DN K B (tOp r ta tb) ρ R := fun S0 H0 S H σ E Q q =>
  ha S0 H0 S H σ E _ fun x a S1 H1 pa e1 r1 => hb S0 H0 S1 H1 σ (E.go e1) _ fun y b S2 H2 pb e2 r2 => hr a b pa pb x y S2 H2 e2.i (Enc.mono e2.s r1) r2 Q fun v c S3 H3 hc e3 r3 => q v c S3 H3 hc ((e1.trans e2).trans e3) r3
theorem dn_add {P P' : Int → Prop} (ha : DN K B ta ρ P) (hb : DN K B tb ρ P') : DN K B (tOp (rI0 fun i j => .int (i + j)) ta tb) ρ fun c : Int => ∃ a b, P a ∧ P' b ∧ c = a + b :=
  dn_op ha hb fun a b pa pb x y S H hi r1 r2 Q q => ⟨a, b, r1, r2, q _ (a + b) S H ⟨a, b, pa, pb, rfl⟩ (Ext.refl hi) rfl⟩
theorem dn_sub {P P' : Int → Prop} (ha : DN K B ta ρ P) (hb : DN K B tb ρ P') : DN K B (tOp (rI0 fun i j => .int (i - j)) ta tb) ρ fun c : Int => ∃ a b, P a ∧ P' b ∧ c = a - b :=
  dn_op ha hb fun a b pa pb x y S H hi r1 r2 Q q => ⟨a, b, r1, r2, q _ (a - b) S H ⟨a, b, pa, pb, rfl⟩ (Ext.refl hi) rfl⟩
theorem dn_mul {P P' : Int → Prop} (ha : DN K B ta ρ P) (hb : DN K B tb ρ P') (hc : ∀ a b, P a → P' b → CMul a b) : DN K B (tOp (rI CMul fun i j => .int (i * j)) ta tb) ρ fun c : Int => ∃ a b, P a ∧ P' b ∧ c = a * b :=
  dn_op ha hb fun a b pa pb x y S H hi r1 r2 Q q => ⟨a, b, r1, r2, hc a b pa pb, q _ (a * b) S H ⟨a, b, pa, pb, rfl⟩ (Ext.refl hi) rfl⟩
end
end WW

set_option Elab.async false
set_option linter.all false
set_option maxRecDepth 100000
set_option maxHeartbeats 4000000
namespace WW
open PySem PySem.Spec PyProof.Rows L2
section
variable {K : PySem.W.Frag} {B : Addr → Prop} {ρ ρ' ρ1 : List Slot} {ta tb tc te : TE} {t u : TT} {ts tu tz : TS} {Φ : Post} {α β γ : Type} {e_α : Enc α} {e_β : Enc β} {e_γ : Enc γ} {a : α} {b : β} {i j : Int}
/-! ### statements -/
theorem DS.imp {Φ' : Post} (h : DS K B ts ρ Φ) (h1 : ∀ r, Φ.nx r → Φ'.nx r) (h2 : ∀ s, Φ.rt s → Φ'.rt s) (h3 : ∀ r, Φ.bk r → Φ'.bk r) (h4 : ∀ r, Φ.ct r → Φ'.ct r) (h5 : ∀ S0 H0, Φ'.px S0 H0 → Φ.px S0 H0) : DS K B ts ρ Φ' := fun S0 H0 S H σ D E px n r b c =>
  h S0 H0 S H σ D E (h5 _ _ px) (fun ρ' σ' S' H' q => n ρ' σ' S' H' (h1 _ q)) (fun s v S' H' q => r s v S' H' (h2 _ q)) (fun ρ' σ' S' H' q => b ρ' σ' S' H' (h3 _ q)) (fun ρ' σ' S' H' q => c ρ' σ' S' H' (h4 _ q))
theorem ds_seq (h : DS K B tu ρ { Φ with nx := fun ρ' => DS K B tz ρ' Φ }) : DS K B (tSeq tu tz) ρ Φ := fun S0 H0 S H σ D E px n r b c =>
  h S0 H0 S H σ { D with nx := tz D } E px (fun ρ' σ' S' H' q sm E' => q S0 H0 S' H' σ' D E' px (fun ρ2 σ2 S2 H2 q2 sm2 E2 => n ρ2 σ2 S2 H2 q2 (sm.trans sm2) E2) r (fun ρ2 σ2 S2 H2 q2 sm2 E2 => b ρ2 σ2 S2 H2 q2 (sm.trans sm2) E2) (fun ρ2 σ2 S2 H2 q2 sm2 E2 => c ρ2 σ2 S2 H2 q2 (sm.trans sm2) E2)) r b c
/-- with a word between: what follows is shown once -/
theorem ds_cut (M : List Slot → Prop) (h : DS K B tu ρ { Φ with nx := M }) (k : ∀ ρ', M ρ' → DS K B tz ρ' Φ) : DS K B (Evl.tCut tu tz) ρ Φ := fun S0 H0 S H σ D E px n r b c =>
  ⟨fun σ' H' => ∃ ρ' S', M ρ' ∧ Same S S' ∧ En K B S0 H0 S' H' σ' ρ', h S0 H0 S H σ _ E px (fun ρ' σ' S' H' q sm E' => ⟨ρ', S', q, sm, E'⟩) r b c,
    fun σ' H' ⟨ρ', S', q, sm, E'⟩ => k ρ' q S0 H0 S' H' σ' D E' px (fun ρ2 σ2 S2 H2 q2 sm2 E2 => n ρ2 σ2 S2 H2 q2 (sm.trans sm2) E2) r (fun ρ2 σ2 S2 H2 q2 sm2 E2 => b ρ2 σ2 S2 H2 q2 (sm.trans sm2) E2) (fun ρ2 σ2 S2 H2 q2 sm2 E2 => c ρ2 σ2 S2 H2 q2 (sm.trans sm2) E2)⟩
theorem ds_next (h : Φ.nx ρ) : DS K B tNext ρ Φ := fun S0 H0 S H σ D E px n r b c => n ρ σ S H h (Same.refl S) E
theorem ds_break (h : Φ.bk ρ) : DS K B tBreak ρ Φ := fun S0 H0 S H σ D E px n r b c => b ρ σ S H h (Same.refl S) E
theorem ds_cont (h : Φ.ct ρ) : DS K B tCont ρ Φ := fun S0 H0 S H σ D E px n r b c => c ρ σ S H h (Same.refl S) E
/-- any target -/
theorem ds_asgG {g : TG} {js : List Nat} (h : DE K B te ρ a) (hg : DG K B g a ρ ρ' js) (k : Φ.nx ρ') : DS K B (tAsg te g) ρ Φ := fun S0 H0 S H σ D E px n r b c =>
  h S0 H0 S H σ E _ fun v S1 H1 e1 r1 => hg S0 H0 S1 H1 σ v (E.go e1) r1 _ fun σ' E' _ _ => n ρ' σ' S1 H1 k e1.s E'
theorem ds_asgGN {g : TG} {P : α → Prop} (h : DN K B te ρ P) (hg : ∀ a, P a → ∃ ρ' js, DG K B g a ρ ρ' js ∧ Φ.nx ρ') : DS K B (tAsg te g) ρ Φ := fun S0 H0 S H σ D E px n r b c =>
  h S0 H0 S H σ E _ fun v a S1 H1 pa e1 r1 => by
    obtain ⟨ρ', js, h1, h2⟩ := hg a pa
    exact h1 S0 H0 S1 H1 σ v (E.go e1) r1 _ fun σ' E' _ _ => n ρ' σ' S1 H1 h2 e1.s E'
theorem ds_asg {n : Nat} (h : DE K B te ρ a) (k : Φ.nx (ρ.set n (.val a))) : DS K B (tAsg te (gName n)) ρ Φ := ds_asgG h dg_name k
theorem ds_asgN {n : Nat} {P : α → Prop} (h : DN K B te ρ P) (k : ∀ a, P a → Φ.nx (ρ.set n (.val a))) : DS K B (tAsg te (gName n)) ρ Φ := ds_asgGN h fun a pa => ⟨_, _, dg_name, k a pa⟩
/-- a new list of one's own -/
theorem ds_asgO {n : Nat} {xs : List α} (h : DO K B te ρ xs) (k : Φ.nx (ρ.set n (.own xs))) : DS K B (tAsg te (gName n)) ρ Φ := fun S0 H0 S H σ D E px n r b c =>
  h S0 H0 S H σ E _ fun p vs S1 H1 e1 hp hs hh rr hl => n _ _ S1 H1 k e1.s (E.setO e1 hp hs hh rr hl)
theorem ds_par {n m : Nat} (h1 : DE K B ta ρ a) (h2 : DE K B tb ρ b) (k : Φ.nx ((ρ.set n (.val a)).set m (.val b))) : DS K B (tPar n m (tCons ta (tCons tb tNil))) ρ Φ := fun S0 H0 S H σ D E px n r b c =>
  h1 S0 H0 S H σ E _ fun v S1 H1 e1 r1 => h2 S0 H0 S1 H1 σ (E.go e1) _ fun w S2 H2 e2 r2 => ⟨v, w, rfl, n _ _ S2 H2 k (e1.s.trans e2.s) ((((E.go e1).go e2).setV (Enc.mono e2.s r1)).setV r2)⟩
theorem ds_parN {n m : Nat} {P : α → Prop} {P' : β → Prop} (h1 : DN K B ta ρ P) (h2 : DN K B tb ρ P') (k : ∀ a b, P a → P' b → Φ.nx ((ρ.set n (.val a)).set m (.val b))) : DS K B (tPar n m (tCons ta (tCons tb tNil))) ρ Φ := fun S0 H0 S H σ D E px n r b c =>
  h1 S0 H0 S H σ E _ fun v x S1 H1 px e1 r1 => h2 S0 H0 S1 H1 σ (E.go e1) _ fun w y S2 H2 py e2 r2 => ⟨v, w, rfl, n _ _ S2 H2 (k x y px py) (e1.s.trans e2.s) ((((E.go e1).go e2).setV (Enc.mono e2.s r1)).setV r2)⟩
/-- the second one's own -/
theorem ds_parO {n m : Nat} {xs : List β} (h1 : DE K B ta ρ a) (h2 : DO K B tb ρ xs) (k : Φ.nx ((ρ.set n (.val a)).set m (.own xs))) : DS K B (tPar n m (tCons ta (tCons tb tNil))) ρ Φ := fun S0 H0 S H σ D E px n r b c =>
  h1 S0 H0 S H σ E _ fun v S1 H1 e1 r1 => h2 S0 H0 S1 H1 σ (E.go e1) _ fun p vs S2 H2 e2 hp hs hh rr hl => ⟨v, _, rfl, n _ _ S2 H2 k (e1.s.trans e2.s) (((E.go e1).setV r1).setO e2 hp hs hh rr hl)⟩
theorem ds_parON {n m : Nat} {P : β → Prop} {xs : List α} (h1 : DO K B ta ρ xs) (h2 : DN K B tb ρ P) (hm : n ≠ m) (k : ∀ b, P b → Φ.nx ((ρ.set n (.own xs)).set m (.val b))) : DS K B (tPar n m (tCons ta (tCons tb tNil))) ρ Φ := fun S0 H0 S H σ D E px n r b c => by
  refine h1 S0 H0 S H σ E _ fun p vs S1 H1 e1 hp hs hh rr hl => h2 S0 H0 S1 H1 σ (E.go e1) _ fun w y S2 H2 py e2 r2 => ⟨_, w, rfl, n _ _ S2 H2 (k y py) (e1.s.trans e2.s) (En.setV (En.setO E (e1.trans e2) hp ?_ ?_ (Paired.mono (fun _ _ => Enc.mono e2.s) rr) hl) r2)⟩
  · exact (e2.p p hs (by rw [hh]; exact fun z => nomatch z)).1
  · rcases (e2.p p hs (by rw [hh]; exact fun z => nomatch z)).2 with z | ⟨z, _⟩
    · rw [z]
      exact hh
    · exact absurd (E.ext.free E.i0 hp) (E.bx p z).2.2
theorem ds_par3 {n m l : Nat} {c : γ} (h1 : DE K B ta ρ a) (h2 : DE K B tb ρ b) (h3 : DE K B tc ρ c) (k : Φ.nx (((ρ.set n (.val a)).set m (.val b)).set l (.val c))) : DS K B (tPar3 n m l (tCons ta (tCons tb (tCons tc tNil)))) ρ Φ := fun S0 H0 S H σ D E px n r b c =>
  h1 S0 H0 S H σ E _ fun v S1 H1 e1 r1 => h2 S0 H0 S1 H1 σ (E.go e1) _ fun w S2 H2 e2 r2 => h3 S0 H0 S2 H2 σ (E.go (e1.trans e2)) _ fun z S3 H3 e3 r3 =>
    ⟨v, w, z, rfl, n _ _ S3 H3 k ((e1.s.trans e2.s).trans e3.s) (((((E.go (e1.trans e2)).go e3).setV (Enc.mono (e2.s.trans e3.s) r1)).setV (Enc.mono e3.s r2)).setV r3)⟩
theorem ds_aug {n : Nat} (hx : ρ[n]? = some (.val i)) (h : DE K B te ρ j) (k : Φ.nx (ρ.set n (.val (i + j)))) : DS K B (tAug n te (ipI fun i j => i + j)) ρ Φ := fun S0 H0 S H σ D E px nx r b c => by
  obtain ⟨v, h1, h2⟩ := E.val hx
  refine ⟨v, h1, h S0 H0 S H σ E _ fun w S1 H1 e1 r1 => ⟨i, j, h2, r1, nx _ _ S1 H1 k e1.s ((E.go e1).setV rfl)⟩⟩
theorem ds_if {c : Bool} (h : DT K B t ρ c) (h1 : c = true → DS K B tu ρ Φ) (h2 : c = false → DS K B tz ρ Φ) : DS K B (tIfS t tu tz) ρ Φ := fun S0 H0 S H σ D E px n r b ct => h S0 H0 S H σ E _ fun S1 H1 e => by
  have n' : ∀ ρ' σ' S' H', Φ.nx ρ' → Same S1 S' → En K B S0 H0 S' H' σ' ρ' → D.nx σ' H' := fun ρ' σ' S' H' q sm E' => n ρ' σ' S' H' q (e.s.trans sm) E'
  have b' : ∀ ρ' σ' S' H', Φ.bk ρ' → Same S1 S' → En K B S0 H0 S' H' σ' ρ' → D.bk σ' H' := fun ρ' σ' S' H' q sm E' => b ρ' σ' S' H' q (e.s.trans sm) E'
  have c' : ∀ ρ' σ' S' H', Φ.ct ρ' → Same S1 S' → En K B S0 H0 S' H' σ' ρ' → D.ct σ' H' := fun ρ' σ' S' H' q sm E' => ct ρ' σ' S' H' q (e.s.trans sm) E'
  cases c with
  | true => exact h1 rfl S0 H0 S1 H1 σ D (E.go e) px n' r b' c'
  | false => exact h2 rfl S0 H0 S1 H1 σ D (E.go e) px n' r b' c'
theorem ds_ret (h : DE K B te ρ a) (k : Φ.rt (.val a)) : DS K B (tRet te) ρ Φ := fun S0 H0 S H σ D E px n r b c =>
  h S0 H0 S H σ E _ fun v S1 H1 e1 r1 => r _ v S1 H1 k (E.ext.trans e1) r1
theorem ds_retE {a' : α} (k : Φ.rt (.val a')) (h : DE K B te ρ a) (e : a = a') : DS K B (tRet te) ρ Φ := ds_ret (h.is e) k
theorem ds_retN {P : α → Prop} (h : DN K B te ρ P) (k : ∀ a, P a → Φ.rt (.val a)) : DS K B (tRet te) ρ Φ := fun S0 H0 S H σ D E px n r b c =>
  h S0 H0 S H σ E _ fun v a S1 H1 pa e1 r1 => r _ v S1 H1 (k a pa) (E.ext.trans e1) r1
/-- an own list becomes a value -/
theorem ds_frz {n : Nat} {xs : List α} (hx : ρ[n]? = some (.own xs)) (h : DS K B ts (ρ.set n (.val (α := L α) xs)) Φ) : DS K B ts ρ Φ := fun S0 H0 S H σ D E px nx r b c => by
  obtain ⟨S1, _, sm, E1⟩ := E.frz hx
  exact h S0 H0 S1 H σ D E1 px (fun ρ' σ' S' H' q s E' => nx ρ' σ' S' H' q (sm.trans s) E') r (fun ρ' σ' S' H' q s E' => b ρ' σ' S' H' q (sm.trans s) E') (fun ρ' σ' S' H' q s E' => c ρ' σ' S' H' q (sm.trans s) E')
theorem ds_drop (h : DE K B te ρ a) (k : Φ.nx ρ) : DS K B (tDrop te) ρ Φ := fun S0 H0 S H σ D E px n r b c => h S0 H0 S H σ E _ fun v S1 H1 e1 r1 => n ρ σ S1 H1 k e1.s (E.go e1)
theorem ds_append {n : Nat} {xs : List α} (hx : ρ[n]? = some (.own xs)) (h : DE K B te ρ a) (hl : xs.length < BIG) (k : Φ.nx (ρ.set n (.own (xs ++ [a])))) : DS K B (tDrop (tBM K "list" rAppend (tVar n) (tCons te tNil))) ρ Φ := fun S0 H0 S H σ D E px nx r b c => by
  obtain ⟨_, p, vs, e1, h0, hs, hh, rr⟩ := E.own hx
  refine ⟨_, e1, .inl ⟨rfl, vs, SqL.of hh⟩, ?_⟩
  refine h S0 H0 S H σ E _ fun w S1 H1 ex r1 => ?_
  have E1 := E.go ex
  obtain ⟨_, p', vs', e1', h0', hs', hh', rr'⟩ := E1.own hx
  rw [e1] at e1'
  cases e1'
  refine ⟨p, vs', w, rfl, rfl, hh', ?_, nx _ σ S1 _ k ex.s (E1.chg hx e1 (Paired.app rr' (.cons r1 .nil)) ?_)⟩
  · rw [rr'.length]
    exact Nat.lt_of_lt_of_le hl big_line
  · rw [List.length_append]
    exact hl
theorem ds_appendN {n : Nat} {xs : List α} {P : α → Prop} (hx : ρ[n]? = some (.own xs)) (h : DN K B te ρ P) (hl : xs.length < BIG) (k : ∀ a, P a → Φ.nx (ρ.set n (.own (xs ++ [a])))) : DS K B (tDrop (tBM K "list" rAppend (tVar n) (tCons te tNil))) ρ Φ := fun S0 H0 S H σ D E px nx r b c => by
  obtain ⟨_, p, vs, e1, h0, hs, hh, rr⟩ := E.own hx
  refine ⟨_, e1, .inl ⟨rfl, vs, SqL.of hh⟩, ?_⟩
  refine h S0 H0 S H σ E _ fun w a S1 H1 pa ex r1 => ?_
  have E1 := E.go ex
  obtain ⟨_, p', vs', e1', h0', hs', hh', rr'⟩ := E1.own hx
  rw [e1] at e1'
  cases e1'
  refine ⟨p, vs', w, rfl, rfl, hh', ?_, nx _ σ S1 _ (k a pa) ex.s (E1.chg hx e1 (Paired.app rr' (.cons r1 .nil)) ?_)⟩
  · rw [rr'.length]
    exact Nat.lt_of_lt_of_le hl big_line
  · rw [List.length_append]
    exact hl
theorem ds_extend {n : Nat} {xs ys : List α} (hx : ρ[n]? = some (.own xs)) (h : DE K B te ρ (α := L α) ys) (hl : xs.length + ys.length ≤ BIG) (k : Φ.nx (ρ.set n (.own (xs ++ ys)))) : DS K B (tDrop (tBM K "list" rExtend (tVar n) (tCons te tNil))) ρ Φ := fun S0 H0 S H σ D E px nx r b c => by
  obtain ⟨_, p, vs, e1, h0, hs, hh, rr⟩ := E.own hx
  refine ⟨_, e1, .inl ⟨rfl, vs, SqL.of hh⟩, ?_⟩
  refine h S0 H0 S H σ E _ fun w S1 H1 ex r1 => ?_
  obtain ⟨l2, p2, vs2, z2, hh2, r2⟩ := r1
  subst z2
  have E1 := E.go ex
  obtain ⟨_, p', vs', e1', h0', hs', hh', rr'⟩ := E1.own hx
  rw [e1] at e1'
  cases e1'
  refine ⟨p, p2, vs', vs2, rfl, rfl, hh', ex.i _ _ hh2, ?_, nx _ σ S1 _ k ex.s (E1.chg hx e1 (Paired.app rr' r2) ?_)⟩
  · rw [rr'.length, r2.length]
    exact Nat.le_trans hl big_line
  · rw [List.length_append]
    exact hl
theorem ds_for {wi : TI} {g : TG} {xs : List α} (hi : DI K B wi ρ xs) (I : Nat → List Slot → Prop) (h0 : I 0 ρ)
    (hs : ∀ i x ρ1, xs[i]? = some x → I i ρ1 → ∃ ρ2 js, DG K B g x ρ1 ρ2 js ∧ DS K B ts ρ2 ⟨I (i + 1), Φ.rt, Φ.nx, I (i + 1), Φ.px⟩) (hd : ∀ ρ1, I xs.length ρ1 → Φ.nx ρ1) : DS K B (tFor wi g ts) ρ Φ := fun S0 H0 S H σ D E px n r b c => by
  refine hi S0 H0 S H σ E _ fun J S1 H1 e1 y => ?_
  refine ⟨fun i m σ' Hc => m = xs.length - i ∧ i ≤ xs.length ∧ ∃ ρ' Sc, I i ρ' ∧ Same S1 Sc ∧ En K B S0 H0 Sc Hc σ' ρ', ⟨xs.length, by simp, Nat.zero_le _, ρ, S1, h0, Same.refl _, E.go e1⟩, ?_⟩
  rintro i m σ' Hc ⟨rfl, hle, ρ', Sc, hI, sm, E'⟩
  have yy := y Sc Hc sm E'.i
  by_cases hlt : i < xs.length
  · refine .inr ?_
    obtain ⟨x, hx⟩ : ∃ x, xs[i]? = some x := ⟨_, List.getElem?_eq_getElem hlt⟩
    obtain ⟨hgo, hy⟩ := yy.1 i x hx
    refine ⟨hgo, fun σ2 H2 => ∃ ρ2 S2, I (i + 1) ρ2 ∧ Same S1 S2 ∧ En K B S0 H0 S2 H2 σ2 ρ2, fun σ2 H2 hp => ⟨xs.length - (i + 1), by omega, rfl, hlt, hp⟩, fun v H' hyl => ?_⟩
    obtain ⟨S2, e2, r2⟩ := hy v H' hyl
    obtain ⟨ρ2, js, hg, hb⟩ := hs i x ρ' hx hI
    refine hg S0 H0 S2 H' σ' v (E'.go e2) r2 _ fun σ2 E2 _ _ => ?_
    refine hb S0 H0 S2 H' σ2 _ E2 px (fun ρ3 σ3 S3 H3 q s E3 => ⟨ρ3, S3, q, (sm.trans e2.s).trans s, E3⟩) r (fun ρ3 σ3 S3 H3 q s E3 => n ρ3 σ3 S3 H3 q (((e1.s.trans sm).trans e2.s).trans s) E3) (fun ρ3 σ3 S3 H3 q s E3 => ⟨ρ3, S3, q, (sm.trans e2.s).trans s, E3⟩)
  · refine .inl ⟨?_, ?_⟩
    · rw [show i = xs.length by omega]
      exact yy.2
    · rw [show i = xs.length by omega] at hI
      exact n ρ' σ' Sc Hc (hd ρ' hI) (e1.s.trans sm) E'
theorem ds_while (I : Nat → List Slot → Prop) (m0 : Nat) (h0 : I m0 ρ)
    (hs : ∀ m ρ1, I m ρ1 → ∃ c, DT K B t ρ1 c ∧ (c = true → DS K B ts ρ1 ⟨fun ρ2 => ∃ m', m' < m ∧ I m' ρ2, Φ.rt, Φ.nx, fun ρ2 => ∃ m', m' < m ∧ I m' ρ2, Φ.px⟩) ∧ (c = false → Φ.nx ρ1)) : DS K B (tWhile t ts) ρ Φ := fun S0 H0 S H σ D E px n r b c => by
  refine ⟨fun m σ' Hc => ∃ ρ' Sc, I m ρ' ∧ Same S Sc ∧ En K B S0 H0 Sc Hc σ' ρ', ⟨m0, ρ, S, h0, Same.refl _, E⟩, ?_⟩
  rintro m σ' Hc ⟨ρ', Sc, hI, sm, E'⟩
  obtain ⟨c, ht, h1, h2⟩ := hs m ρ' hI
  refine ht S0 H0 Sc Hc σ' E' _ fun S1 H1 e1 => ?_
  cases c with
  | true =>
    show ∃ N, _
    refine ⟨fun σ2 H2 => ∃ m', m' < m ∧ ∃ ρ2 S2, I m' ρ2 ∧ Same S S2 ∧ En K B S0 H0 S2 H2 σ2 ρ2, fun σ2 H2 h => h, ?_⟩
    refine h1 rfl S0 H0 S1 H1 σ' _ (E'.go e1) px (fun ρ3 σ3 S3 H3 ⟨m', hm, q⟩ s E3 => ⟨m', hm, ρ3, S3, q, (sm.trans e1.s).trans s, E3⟩) r (fun ρ3 σ3 S3 H3 q s E3 => n ρ3 σ3 S3 H3 q ((sm.trans e1.s).trans s) E3) (fun ρ3 σ3 S3 H3 ⟨m', hm, q⟩ s E3 => ⟨m', hm, ρ3, S3, q, (sm.trans e1.s).trans s, E3⟩)
  | false => exact n ρ' σ' S1 H1 (h2 rfl) (sm.trans e1.s) (E'.go e1)
/-! ### a statement and what follows it -/
theorem dq_asg {n : Nat} (h : DE K B te ρ a) (k : DS K B tz (ρ.set n (.val a)) Φ) : DS K B (tSeq (tAsg te (gName n)) tz) ρ Φ := ds_seq (ds_asg h k)
theorem dq_asgI {δ : Type} [Enc δ] {n : Nat} (a : δ) (h : DE K B te ρ a) (k : DS K B tz (ρ.set n (.val a)) Φ) : DS K B (tSeq (tAsg te (gName n)) tz) ρ Φ := ds_seq (ds_asg h k)
theorem dq_asgN {n : Nat} {P : α → Prop} (h : DN K B te ρ P) (k : ∀ a, P a → DS K B tz (ρ.set n (.val a)) Φ) : DS K B (tSeq (tAsg te (gName n)) tz) ρ Φ := ds_seq (ds_asgN h k)
theorem dq_asgO {n : Nat} {xs : List α} (h : DO K B te ρ xs) (k : DS K B tz (ρ.set n (.own xs)) Φ) : DS K B (tSeq (tAsg te (gName n)) tz) ρ Φ := ds_seq (ds_asgO h k)
theorem dq_asgG {g : TG} {js : List Nat} (h : DE K B te ρ a) (hg : DG K B g a ρ ρ' js) (k : DS K B tz ρ' Φ) : DS K B (tSeq (tAsg te g) tz) ρ Φ := ds_seq (ds_asgG h hg k)
theorem dq_par {n m : Nat} (h1 : DE K B ta ρ a) (h2 : DE K B tb ρ b) (k : DS K B tz ((ρ.set n (.val a)).set m (.val b)) Φ) : DS K B (tSeq (tPar n m (tCons ta (tCons tb tNil))) tz) ρ Φ := ds_seq (ds_par h1 h2 k)
theorem dq_par3 {n m l : Nat} {c : γ} (h1 : DE K B ta ρ a) (h2 : DE K B tb ρ b) (h3 : DE K B tc ρ c) (k : DS K B tz (((ρ.set n (.val a)).set m (.val b)).set l (.val c)) Φ) : DS K B (tSeq (tPar3 n m l (tCons ta (tCons tb (tCons tc tNil)))) tz) ρ Φ := ds_seq (ds_par3 h1 h2 h3 k)
theorem dq_aug {n : Nat} (hx : ρ[n]? = some (.val i)) (h : DE K B te ρ j) (k : DS K B tz (ρ.set n (.val (i + j))) Φ) : DS K B (tSeq (tAug n te (ipI fun i j => i + j)) tz) ρ Φ := ds_seq (ds_aug hx h k)
theorem dq_when {c : Bool} (h : DT K B t ρ c) (h1 : c = true → DS K B tu ρ { Φ with nx := fun ρ' => DS K B tz ρ' Φ }) (h2 : c = false → DS K B tz ρ Φ) : DS K B (tSeq (tIfS t tu tNext) tz) ρ Φ := ds_seq (ds_if h h1 fun z => ds_next (h2 z))
theorem dq_if {c : Bool} (h : DT K B t ρ c) (h1 : c = true → DS K B tu ρ { Φ with nx := fun ρ' => DS K B tz ρ' Φ }) (h2 : c = false → DS K B ts ρ { Φ with nx := fun ρ' => DS K B tz ρ' Φ }) : DS K B (tSeq (tIfS t tu ts) tz) ρ Φ := ds_seq (ds_if h h1 h2)
theorem dq_drop (h : DE K B te ρ a) (k : DS K B tz ρ Φ) : DS K B (tSeq (tDrop te) tz) ρ Φ := ds_seq (ds_drop h k)
theorem dq_append {n : Nat} {xs : List α} (hx : ρ[n]? = some (.own xs)) (h : DE K B te ρ a) (hl : xs.length < BIG) (k : DS K B tz (ρ.set n (.own (xs ++ [a]))) Φ) : DS K B (tSeq (tDrop (tBM K "list" rAppend (tVar n) (tCons te tNil))) tz) ρ Φ := ds_seq (ds_append hx h hl k)
theorem dq_for {wi : TI} {g : TG} {xs : List α} (hi : DI K B wi ρ xs) (I : Nat → List Slot → Prop) (h0 : I 0 ρ)
    (hs : ∀ i x ρ1, xs[i]? = some x → I i ρ1 → ∃ ρ2 js, DG K B g x ρ1 ρ2 js ∧ DS K B ts ρ2 ⟨I (i + 1), Φ.rt, fun ρ' => DS K B tz ρ' Φ, I (i + 1), Φ.px⟩) (hd : ∀ ρ1, I xs.length ρ1 → DS K B tz ρ1 Φ) : DS K B (tSeq (tFor wi g ts) tz) ρ Φ := ds_seq (ds_for hi I h0 hs hd)
theorem dq_while (I : Nat → List Slot → Prop) (m0 : Nat) (h0 : I m0 ρ)
    (hs : ∀ m ρ1, I m ρ1 → ∃ c, DT K B t ρ1 c ∧ (c = true → DS K B ts ρ1 ⟨fun ρ2 => ∃ m', m' < m ∧ I m' ρ2, Φ.rt, fun ρ' => DS K B tz ρ' Φ, fun ρ2 => ∃ m', m' < m ∧ I m' ρ2, Φ.px⟩) ∧ (c = false → DS K B tz ρ1 Φ)) : DS K B (tSeq (tWhile t ts) tz) ρ Φ := ds_seq (ds_while I m0 h0 hs)
/-! ### defs -/
def startS (N : List Str) (ss : List Slot) : List Slot := ss ++ List.replicate (N.length - ss.length) .no
theorem start_en {N : List Str} {S H : Hp} {vs : List V} {ss : List Slot} (hi : Same S H) (hb : ∀ p, B p → S p = none ∧ IsBx (H p)) (h : ArgsOk K B H S H vs ss) : En K B S H S H (start N vs) (startS N ss) := by
  have hl := h.length
  have noOwn : ∀ (i : Nat) (s : Slot), (startS N ss)[i]? = some s → s.isOwn = false := fun i s hs => by
    unfold startS at hs
    by_cases hlt : i < ss.length
    · rw [List.getElem?_append_left hlt] at hs
      obtain ⟨v, _, _, q⟩ := h.at' i s hs
      exact q
    · rw [List.getElem?_append_right (by omega), List.getElem?_replicate] at hs
      split at hs
      · cases hs
        rfl
      · cases hs
  refine ⟨hi, fun p hp => ⟨(hb p hp).1, (hb p hp).2, (hb p hp).2.ne⟩, Ext.refl hi, ?_, fun i s hs => ?_, fun i j s u _ h1 _ o1 _ => ?_⟩
  · unfold L2.start startS
    rw [List.length_append, List.length_append, List.length_map, List.length_replicate, List.length_replicate, hl]
  · unfold startS at hs
    unfold L2.start
    by_cases hlt : i < ss.length
    · rw [List.getElem?_append_left hlt] at hs
      obtain ⟨v, q1, q2, _⟩ := h.at' i s hs
      rw [List.getElem?_append_left (by rw [List.length_map, hl]; exact hlt), List.getElem?_map, q1]
      exact ⟨_, rfl, q2⟩
    · rw [List.getElem?_append_right (by omega), List.getElem?_replicate] at hs
      rw [List.getElem?_append_right (by rw [List.length_map]; omega), List.getElem?_replicate, List.length_map, hl]
      split at hs
      · cases hs
        rw [if_pos (by assumption)]
        exact ⟨_, rfl, trivial⟩
      · cases hs
  · rw [noOwn i s h1] at o1
    cases o1
end
theorem okT {P : Program} {w : World} {K : PySem.W.Frag} {mg : Str → Option Value} {base : Heap} {x qual : Str} {params : Arguments} {body : List Stmt} {scope : Scope} {dvs : List V} {kws : List (Str × V)} {f : Addr} {fd : FuncData} {N ps : List Str} {k : Nat} {dp : List Slot → (Slot → Prop) → Prop}
    (F : FunD K x qual params body scope dvs kws f fd) (S : FnScope N ps scope) (len : ∀ ss R, dp ss R → ss.length = ps.length)
    (hbody : ∀ (cdv : Value) (A : Around) (outer : List PySem.Env) (s : Shared) (H : Hp) (E : XK), Room k (A.deeper (envOfC qual scope s.heap.objs.size f cdv)) →
      ∃ t, PSs (cxOf CX0 P w K mg base N qual scope f cdv A outer s H E).nox body t ∧ ∀ (B : Addr → Prop) ss R, dp ss R → DS K B t (startS N ss) ⟨fun _ => R (.val ()), R, fun _ => False, fun _ => False, fun _ _ => True⟩) : FnOk P w K mg base CX0 (k + 1) f fd ps (spT K dp) := by
  refine F.ok S (fun vs H Q E h => ?_) (fun cdv A outer s H vs Q E hr h => ?_)
  · obtain ⟨B, S, ss, R, _, _, ha, hd, _⟩ := h
    rw [ha.length, len ss R hd]
  · obtain ⟨B, S, ss, R, hi, hb, ha, hd, q⟩ := h
    obtain ⟨t, h1, h2⟩ := hbody cdv A outer s H E hr
    refine ⟨t, PSs.nox h1, h2 B ss R hd S H S H _ _ (start_en hi hb ha) trivial (fun ρ' σ' S' H' r _ E' => q _ _ S' H' r E'.ext rfl) (fun s v S' H' r ex ok => q s v S' H' r ex ok) (fun _ _ _ _ h => h.elim) (fun _ _ _ _ h => h.elim)⟩
end WW

set_option Elab.async false
set_option linter.all false
set_option maxRecDepth 100000
set_option maxHeartbeats 4000000
namespace WW
open PySem PySem.Spec PyProof.Rows L2
/-! ### isinstance of typed values -/
class TyE (α : Type) [Enc α] where
  tn : α → String
  ty : ∀ {K : PySem.W.Frag} {S : Hp} {v : V} {a : α}, Enc.rep K S v a → TyX K S v (.type (tn a))
instance : TyE Int := ⟨fun _ => "int", fun {_ _ _ a} h => by cases h; exact .base (.int a)⟩
instance : TyE Bool := ⟨fun _ => "bool", fun {_ _ _ a} h => by cases h; exact .base (.bl a)⟩
instance : TyE Str := ⟨fun _ => "str", fun {_ _ _ a} h => by cases h; exact .base (.str a)⟩
instance : TyE Unit := ⟨fun _ => "NoneType", fun h => by cases h; exact .base .non⟩
instance {α : Type} [Enc α] [TyE α] : TyE (Option α) where
  tn o := match o with
    | none => "NoneType"
    | some a => TyE.tn a
  ty {K S v a} h := by
    cases a with
    | none => cases h; exact .base .non
    | some a => exact TyE.ty (α := α) h
theorem ty_t {K : PySem.W.Frag} {H : Hp} {a : Addr} {xs : List V} (h : SqT K H a xs) : TyX K H (.ref a) (.type "tuple") := by
  rcases h with (h | ⟨o, h⟩) | ⟨o, its, n, h1, h2, _⟩
  · exact .base (.tup h)
  · exact .fTuple h
  · exact .kTuple h1 h2
instance {α : Type} [Enc α] : TyE (L α) := ⟨fun _ => "list", fun h => by obtain ⟨_, p, vs, rfl, hh, _⟩ := h; exact .base (.lst hh)⟩
instance {α : Type} [Enc α] : TyE (U α) := ⟨fun _ => "tuple", fun h => by obtain ⟨_, p, vs, rfl, hh, _⟩ := h; exact ty_t hh⟩
instance {α β : Type} [Enc α] [Enc β] : TyE (α × β) := ⟨fun _ => "tuple", fun h => by obtain ⟨p, v1, v2, rfl, hh, _⟩ := h; exact ty_t hh⟩
instance {α β γ : Type} [Enc α] [Enc β] [Enc γ] : TyE (T3 α β γ) := ⟨fun _ => "tuple", fun h => by obtain ⟨p, v1, v2, v3, rfl, hh, _⟩ := h; exact ty_t hh⟩
section
variable {K : PySem.W.Frag} {B : Addr → Prop} {ρ ρ' ρ1 ρ2 : List Slot} {ta tb tc te : TE} {t u : TT} {ts tu tz : TS} {Φ : Post} {α β γ : Type} {e_α : Enc α} {e_β : Enc β} {e_γ : Enc γ} {a : α} {b : β} {i j : Int}
theorem d_isi {nm : String} {r : Bool} (h : DE K B te ρ a) (tt : TyE α) (hk : L2.kitB (tt.tn a) nm = some r) : DE K B (tCB (rIsi K) (tCons te (tCons (tC (.ty nm)) tNil))) ρ r := fun S0 H0 S H σ E Q q =>
  h S0 H0 S H σ E _ fun v S1 H1 e1 r1 => ⟨v, .ty nm, _, _, r, rfl, .ty nm, tyx_same e1.i (tt.ty r1), kit_ty hk, q _ S1 H1 e1 rfl⟩
/-- isinstance(x, (list, tuple)) -/
theorem d_isSq {xs : List α} (h : DE K B te ρ xs) : DE K B (tCB (rIsiT K) (tCons te (tCons (tTup (tCons (tC (.ty "list")) (tCons (tC (.ty "tuple")) tNil))) tNil))) ρ true := fun S0 H0 S H σ E Q q =>
  h S0 H0 S H σ E _ fun v S1 H1 e1 ⟨hl, p, vs, z, hh, r⟩ => ⟨by show 2 ≤ sizeLine; decide, fun w hw => by
    subst z
    obtain ⟨t, b1, b2, ty, k1, k2, z, k3⟩ := Sq.hasT hh
    exact ⟨_, w, _, t, _, true, rfl, upd_same, .cons (.ty "list") (.cons (.ty "tuple") .nil), tyx_same (e1.i.trans (same_new hw)) ty, k3, q _ S1 _ (e1.trans (Ext.grow e1.i (same_new hw))) rfl⟩⟩
/-! ### built-in calls -/
theorem vals_int {S : Hp} : ∀ {vs : List V} {xs : List Int}, Paired (Enc.rep K S) vs xs → vs = xs.map V.int
  | _, _, .nil => rfl
  | _, _, .cons h r => by cases h; rw [vals_int r]; rfl
theorem vals_bl {S : Hp} : ∀ {vs : List V} {xs : List Bool}, Paired (Enc.rep K S) vs xs → vs = xs.map V.bl
  | _, _, .nil => rfl
  | _, _, .cons h r => by cases h; rw [vals_bl r]; rfl
theorem d_any {bs : List Bool} (h : DE K B te ρ (α := L Bool) bs) : DE K B (tCB (rAny K) (tCons te tNil)) ρ (bs.any id) := fun S0 H0 S H σ E Q q =>
  h S0 H0 S H σ E _ fun v S1 H1 e1 ⟨hl, p, vs, z, hh, r⟩ => ⟨p, bs, by rw [z], .inl (.inl (by rw [← vals_bl r]; exact e1.i _ _ hh)), q _ S1 H1 e1 rfl⟩
theorem d_all {bs : List Bool} (h : DE K B te ρ (α := L Bool) bs) : DE K B (tCB (rAll K) (tCons te tNil)) ρ (bs.all id) := fun S0 H0 S H σ E Q q =>
  h S0 H0 S H σ E _ fun v S1 H1 e1 ⟨hl, p, vs, z, hh, r⟩ => ⟨p, bs, by rw [z], .inl (.inl (by rw [← vals_bl r]; exact e1.i _ _ hh)), q _ S1 H1 e1 rfl⟩
theorem d_sum {ns : List Int} (h : DE K B te ρ (α := L Int) ns) : DE K B (tCB (rSum K) (tCons te tNil)) ρ ns.sum := fun S0 H0 S H σ E Q q =>
  h S0 H0 S H σ E _ fun v S1 H1 e1 ⟨hl, p, vs, z, hh, r⟩ => ⟨p, ns, by rw [z], .inl (.inl (by rw [← vals_int r]; exact e1.i _ _ hh)), q _ S1 H1 e1 rfl⟩
theorem d_maxL {ns : List Int} (h : DE K B te ρ (α := L Int) ns) (hm : i ∈ ns) (hi : ∀ y ∈ ns, y ≤ i) : DE K B (tCB (rMax K) (tCons te tNil)) ρ i := fun S0 H0 S H σ E Q q =>
  h S0 H0 S H σ E _ fun v S1 H1 e1 ⟨hl, p, vs, z, hh, r⟩ => ⟨p, ns, by rw [z], .inl (.inl (by rw [← vals_int r]; exact e1.i _ _ hh)), List.length_pos_of_mem hm, fun m hm' hi' => by
    rw [show m = i from Int.le_antisymm (hi m hm') (hi' i hm)]
    exact q _ S1 H1 e1 rfl⟩
theorem d_minL {ns : List Int} (h : DE K B te ρ (α := L Int) ns) (hm : i ∈ ns) (hi : ∀ y ∈ ns, i ≤ y) : DE K B (tCB (rMin K) (tCons te tNil)) ρ i := fun S0 H0 S H σ E Q q =>
  h S0 H0 S H σ E _ fun v S1 H1 e1 ⟨hl, p, vs, z, hh, r⟩ => ⟨p, ns, by rw [z], .inl (.inl (by rw [← vals_int r]; exact e1.i _ _ hh)), List.length_pos_of_mem hm, fun m hm' hi' => by
    rw [show m = i from Int.le_antisymm (hi' i hm) (hi m hm')]
    exact q _ S1 H1 e1 rfl⟩
theorem paired_map {δ : Type} {S : Hp} {e : Enc δ} (g : δ → V) (hg : ∀ x, Enc.rep K S (g x) x) : ∀ xs : List δ, Paired (Enc.rep K S) (xs.map g) xs
  | [] => .nil
  | x :: r => .cons (hg x) (paired_map g hg r)
/-- sorted: some arrangement that rises -/
theorem d_sortI {ns ns' : List Int} (h : DE K B te ρ (α := L Int) ns) (hs : ∀ zs : List Int, zs.Perm ns → zs.Pairwise (· ≤ ·) → zs = ns') : DO K B (tCB (rSortedI K) (tCons te tNil)) ρ ns' := fun S0 H0 S H σ E Q q =>
  h S0 H0 S H σ E _ fun v S1 H1 e1 ⟨hl, p, vs, z, hh, r⟩ => ⟨p, ns, by rw [z], .inl (.inl (by rw [← vals_int r]; exact e1.i _ _ hh)), fun zs w hp hw hn => by
    have e := hs zs hp hw
    subst e
    exact q w _ S1 _ (e1.trans (Ext.priv e1.i hn)) (e1.free E.i hn) (e1.i.free hn) upd_same (paired_map V.int (fun _ => rfl) zs) (by rw [hp.length_eq]; exact hl)⟩
theorem d_abs (h : DE K B te ρ i) : DE K B (tCB (fun xs H Q => ∃ i, xs = [.int i] ∧ Q (.int (if i < 0 then -i else i)) H) (tCons te tNil)) ρ (if i < 0 then -i else i) := fun S0 H0 S H σ E Q q =>
  h S0 H0 S H σ E _ fun v S1 H1 e1 r => ⟨i, by cases r; rfl, q _ S1 H1 e1 rfl⟩
theorem d_intI (h : DE K B te ρ i) : DE K B (tCB (fun xs H Q => (∃ i, xs = [.int i] ∧ Q (.int i) H) ∨ ∃ k, xs = [.bl k] ∧ Q (.int (if k then 1 else 0)) H) (tCons te tNil)) ρ i := fun S0 H0 S H σ E Q q =>
  h S0 H0 S H σ E _ fun v S1 H1 e1 r => .inl ⟨i, by cases r; rfl, q _ S1 H1 e1 rfl⟩
theorem d_intB {k : Bool} (h : DE K B te ρ k) : DE K B (tCB (fun xs H Q => (∃ i, xs = [.int i] ∧ Q (.int i) H) ∨ ∃ k, xs = [.bl k] ∧ Q (.int (if k then 1 else 0)) H) (tCons te tNil)) ρ (if k then (1 : Int) else 0) := fun S0 H0 S H σ E Q q =>
  h S0 H0 S H σ E _ fun v S1 H1 e1 r => .inr ⟨k, by cases r; rfl, q _ S1 H1 e1 rfl⟩
theorem dn_intI {P : Int → Prop} (h : DN K B te ρ P) : DN K B (tCB (fun xs H Q => (∃ i, xs = [.int i] ∧ Q (.int i) H) ∨ ∃ k, xs = [.bl k] ∧ Q (.int (if k then 1 else 0)) H) (tCons te tNil)) ρ P := fun S0 H0 S H σ E Q q =>
  h S0 H0 S H σ E _ fun v i S1 H1 pi e1 r => .inl ⟨i, by cases r; rfl, q _ i S1 H1 pi e1 rfl⟩
theorem d_max2 (h : DE K B ta ρ i) (h' : DE K B tb ρ j) : DE K B (tCB (fun xs H Q => ∃ i j, xs = [.int i, .int j] ∧ Q (.int (if j > i then j else i)) H) (tCons ta (tCons tb tNil))) ρ (max i j) := fun S0 H0 S H σ E Q q =>
  h S0 H0 S H σ E _ fun v S1 H1 e1 r => h' S0 H0 S1 H1 σ (E.go e1) _ fun w S2 H2 e2 r2 => ⟨i, j, by cases r; cases r2; rfl, q _ S2 H2 (e1.trans e2) (by
    show V.int (if j > i then j else i) = V.int (max i j)
    congr 1
    split <;> omega)⟩
theorem d_min2 (h : DE K B ta ρ i) (h' : DE K B tb ρ j) : DE K B (tCB (fun xs H Q => ∃ i j, xs = [.int i, .int j] ∧ Q (.int (if j < i then j else i)) H) (tCons ta (tCons tb tNil))) ρ (min i j) := fun S0 H0 S H σ E Q q =>
  h S0 H0 S H σ E _ fun v S1 H1 e1 r => h' S0 H0 S1 H1 σ (E.go e1) _ fun w S2 H2 e2 r2 => ⟨i, j, by cases r; cases r2; rfl, q _ S2 H2 (e1.trans e2) (by
    show V.int (if j < i then j else i) = V.int (min i j)
    congr 1
    split <;> omega)⟩
/-- [x] * n -/
theorem do_rep (h : DE K B ta ρ (α := L α) [a]) (hi : DE K B tb ρ i) (h0 : 0 ≤ i) (hl : i ≤ BIG) : DO K B (tOp rRep ta tb) ρ (List.replicate i.toNat a) := fun S0 H0 S H σ E Q q =>
  h S0 H0 S H σ E _ fun v S1 H1 e1 r1 => hi S0 H0 S1 H1 σ (E.go e1) _ fun w S2 H2 e2 r2 => by
    obtain ⟨hl1, p, vs, z, hh, r⟩ := Enc.mono e2.s r1
    subst z
    cases r2
    cases r with
    | cons ra rn =>
      cases rn
      rename_i x
      have hb : i.toNat ≤ BIG := by omega
      have b62 : (BIG : Int) < 2 ^ 62 := by decide
      refine ⟨p, i, [x], rfl, rfl, e2.i _ _ hh, by omega, by omega, ?_, fun w hw => ?_⟩
      · rw [List.length_singleton, Nat.one_mul]
        exact Nat.le_trans hb big_line
      · have ef : (List.replicate i.toNat [x]).flatten = List.replicate i.toNat x := by
          generalize i.toNat = n
          induction n with
          | zero => rfl
          | succ n ih => rw [List.replicate_succ, List.flatten_cons, ih]; rfl
        rw [ef]
        refine q w _ S2 _ ((e1.trans e2).trans (Ext.priv e2.i hw)) ((e1.trans e2).free E.i hw) (e2.i.free hw) upd_same ?_ (by rw [List.length_replicate]; exact hb)
        generalize i.toNat = n
        induction n with
        | zero => exact .nil
        | succ n ih => rw [List.replicate_succ, List.replicate_succ]; exact .cons ra ih
/-! ### parts that change one's own lists -/
def DM {α : Type} [Enc α] (K : PySem.W.Frag) (B : Addr → Prop) (te : TE) (ρ ρ' : List Slot) (a : α) : Prop := ∀ S0 H0 S H σ, En K B S0 H0 S H σ ρ → ∀ Q : VK, (∀ v S' H', Same S S' → En K B S0 H0 S' H' σ ρ' → Enc.rep K S' v a → Q v H') → te σ H Q
def DML {α : Type} [Enc α] (K : PySem.W.Frag) (B : Addr → Prop) (ta : TA) (ρ ρ' : List Slot) (xs : List α) : Prop := ∀ S0 H0 S H σ, En K B S0 H0 S H σ ρ → ∀ Q : List V → Hp → Prop, (∀ vs S' H', Same S S' → En K B S0 H0 S' H' σ ρ' → Paired (Enc.rep K S') vs xs → Q vs H') → ta σ H Q
theorem DE.m (h : DE K B te ρ a) : DM K B te ρ ρ a := fun S0 H0 S H σ E Q q => h S0 H0 S H σ E _ fun v S1 H1 e1 r => q v S1 H1 e1.s (E.go e1) r
theorem DL.m {tr : TA} {xs : List α} (h : DL K B tr ρ xs) : DML K B tr ρ ρ xs := fun S0 H0 S H σ E Q q => h S0 H0 S H σ E _ fun v S1 H1 e1 r => q v S1 H1 e1.s (E.go e1) r
theorem dml_cons {tr : TA} {xs : List α} (h : DM K B te ρ ρ1 a) (h' : DML K B tr ρ1 ρ2 xs) : DML K B (tCons te tr) ρ ρ2 (a :: xs) := fun S0 H0 S H σ E Q q =>
  h S0 H0 S H σ E _ fun v S1 H1 s1 E1 r1 => h' S0 H0 S1 H1 σ E1 _ fun vs S2 H2 s2 E2 r2 => q _ S2 H2 (s1.trans s2) E2 (.cons (Enc.mono s2 r1) r2)
theorem dm_pop {n : Nat} {xs : List α} {x : α} (h : ρ[n]? = some (.own (xs ++ [x]))) : DM K B (tBM0 K "list" rPop (tVar n)) ρ (ρ.set n (.own xs)) x := fun S0 H0 S H σ E Q q => by
  obtain ⟨hl, p, vs, e1, h0, hs, hh, r⟩ := E.own h
  have hv : vs = vs.dropLast ++ vs.drop (vs.length - 1) := by rw [List.dropLast_eq_take, List.take_append_drop]
  have hlen := r.length
  rw [List.length_append, List.length_singleton] at hlen
  have ra : Paired (Enc.rep K S) vs.dropLast xs := by
    have z := Paired.tk xs.length r
    rw [List.take_left'  rfl] at z
    rw [List.dropLast_eq_take, hlen, Nat.add_sub_cancel]
    exact z
  obtain ⟨y, hy, ry⟩ := Paired.at (i := xs.length) (b := x) r (by rw [List.getElem?_append_right (Nat.le_refl _), Nat.sub_self]; rfl)
  refine ⟨_, e1, .inl ⟨rfl, vs, SqL.of hh⟩, p, vs, y, rfl, rfl, hh, by rw [hlen, Nat.add_sub_cancel]; exact hy, ?_⟩
  refine q y S _ (Same.refl S) (E.chg h e1 ra ?_) ry
  rw [List.length_append] at hl
  omega
theorem dm_popAt {n : Nat} {xs : List α} {x : α} {k : Nat} (h : ρ[n]? = some (.own xs)) (hi : DE K B te ρ (k : Int)) (hx : xs[k]? = some x) : DM K B (tBM K "list" rPopAt (tVar n) (tCons te tNil)) ρ (ρ.set n (.own (xs.eraseIdx k))) x := fun S0 H0 S H σ E Q q => by
  obtain ⟨hl, p, vs, e1, h0, hs, hh, r⟩ := E.own h
  refine ⟨_, e1, .inl ⟨rfl, vs, SqL.of hh⟩, ?_⟩
  refine hi S0 H0 S H σ E _ fun w S1 H1 ex r1 => ?_
  cases r1
  have E1 := E.go ex
  obtain ⟨_, p', vs', e1', h0', hs', hh', r'⟩ := E1.own h
  rw [e1] at e1'
  cases e1'
  obtain ⟨y, hy, ry⟩ := Paired.at r' hx
  have kl : k < xs.length := (List.getElem?_eq_some_iff.mp hx).1
  have er : ∀ {vs : List V} {xs : List α} (k : Nat), Paired (Enc.rep K S1) vs xs → Paired (Enc.rep K S1) (vs.eraseIdx k) (xs.eraseIdx k) := by
    intro vs xs k r
    induction r generalizing k with
    | nil => exact .nil
    | cons f t ih =>
      cases k with
      | zero => exact t
      | succ k => exact .cons f (ih k)
  have sq : seqIndex? (k : Int) vs'.length = some k := (L2.ixN_seq (show ixN vs'.length (k : Int) = some k by
    unfold ixN
    rw [if_pos (by omega), if_pos (by rw [r'.length]; omega)]
    simp)).1
  have b62 : (BIG : Int) < 2 ^ 62 := by decide
  refine ⟨p, vs', (k : Int), k, y, rfl, rfl, hh', by omega, by omega, sq, hy, q y S1 _ ex.s (E1.chg h e1 (er k r') ?_) ry⟩
  rw [List.length_eraseIdx]
  split <;> omega
theorem dml_lst {n : Nat} {tr : TA} {xs : List α} (h : DML K B tr ρ ρ1 xs) (hl : xs.length ≤ BIG) (k : Φ.nx (ρ1.set n (.own xs))) : DS K B (tAsg (tLst tr) (gName n)) ρ Φ := fun S0 H0 S H σ D E px nx r b c =>
  h S0 H0 S H σ E _ fun vs S1 H1 s1 E1 r1 => ⟨by rw [r1.length]; exact Nat.le_trans hl big_line, fun p hp => nx _ _ S1 _ k s1 (E1.setO (Ext.priv E1.i hp) hp (E1.i.free hp) upd_same r1 hl)⟩
theorem ds_asgM {n : Nat} (h : DM K B te ρ ρ1 a) (k : Φ.nx (ρ1.set n (.val a))) : DS K B (tAsg te (gName n)) ρ Φ := fun S0 H0 S H σ D E px nx r b c =>
  h S0 H0 S H σ E _ fun v S1 H1 s1 E1 r1 => nx _ _ S1 H1 k s1 (E1.setV r1)
/-! ### == of data -/
class DatE (α : Type) [Enc α] where
  d : α → PyData
  dp : ∀ {K : PySem.W.Frag} {S : Hp} {v : V} {a : α}, Enc.rep K S v a → Dp K S v (d a)
  can : ∀ a : α, PyData.canLay0 (d a) = true
  k : Nat
  dep : ∀ a : α, PyData.depth (d a) ≤ k
  inj : ∀ (a b : α), PyData.eqv (d a) (d b) = true ↔ a = b
theorem eqvAll_inj {δ : Type} {e : Enc δ} (dt : DatE δ) : ∀ (xs ys : List δ), PyData.eqvAll (xs.map dt.d) (ys.map dt.d) = true ↔ xs = ys
  | [], [] => by simp [PyData.eqvAll]
  | [], y :: q => by simp [PyData.eqvAll]
  | x :: r, [] => by simp [PyData.eqvAll]
  | x :: r, y :: q => by
    rw [List.map_cons, List.map_cons, PyData.eqvAll, Bool.and_eq_true, dt.inj, eqvAll_inj dt r q]
    simp
theorem canAll {δ : Type} {e : Enc δ} (dt : DatE δ) : ∀ xs : List δ, PyData.canLayAll0 (xs.map dt.d) = true
  | [] => by simp [PyData.canLayAll0]
  | x :: r => by rw [List.map_cons, PyData.canLayAll0, dt.can, canAll dt r]; rfl
theorem depAll {δ : Type} {e : Enc δ} (dt : DatE δ) : ∀ xs : List δ, PyData.depthAll (xs.map dt.d) ≤ dt.k
  | [] => by simp [PyData.depthAll]
  | x :: r => by rw [List.map_cons, PyData.depthAll]; exact Nat.max_le.mpr ⟨dt.dep x, depAll dt r⟩
theorem dpAll {δ : Type} {e : Enc δ} (dt : DatE δ) {S : Hp} : ∀ {vs : List V} {xs : List δ}, Paired (Enc.rep K S) vs xs → DpAll K S vs (xs.map dt.d)
  | _, _, .nil => .nil
  | _, _, .cons h r => .cons (dt.dp h) (dpAll dt r)
instance : DatE Int where
  d := .int
  dp h := by cases h; exact .int _
  can _ := by simp [PyData.canLay0]
  k := 0
  dep _ := by simp [PyData.depth]
  inj a b := by simp [PyData.eqv]
instance : DatE Bool where
  d := .bool
  dp h := by cases h; exact .bl _
  can _ := by simp [PyData.canLay0]
  k := 0
  dep _ := by simp [PyData.depth]
  inj a b := by simp [PyData.eqv]
instance : DatE (Option Int) where
  d o := match o with
    | none => .none
    | some i => .int i
  dp {K S v a} h := by
    cases a with
    | none => cases h; exact .non
    | some i => cases h; exact .int i
  can a := by cases a <;> simp [PyData.canLay0]
  k := 0
  dep a := by cases a <;> simp [PyData.depth]
  inj a b := by cases a <;> cases b <;> simp [PyData.eqv]
instance {δ : Type} [Enc δ] [dt : DatE δ] : DatE (U δ) where
  d xs := .tuple (List.map dt.d xs)
  dp h := by
    obtain ⟨_, p, vs, rfl, hh, r⟩ := h
    exact .tup hh (dpAll dt r)
  can xs := by rw [PyData.canLay0]; exact canAll dt xs
  k := dt.k + 1
  dep xs := by rw [PyData.depth]; exact Nat.succ_le_succ (depAll dt xs)
  inj a b := by rw [PyData.eqv]; exact eqvAll_inj dt a b
instance {δ : Type} [Enc δ] [dt : DatE δ] : DatE (L δ) where
  d xs := .list (List.map dt.d xs)
  dp h := by
    obtain ⟨_, p, vs, rfl, hh, r⟩ := h
    exact .lst (.inl (.inl hh)) (dpAll dt r)
  can xs := by rw [PyData.canLay0]; exact canAll dt xs
  k := dt.k + 1
  dep xs := by rw [PyData.depth]; exact Nat.succ_le_succ (depAll dt xs)
  inj a b := by rw [PyData.eqv]; exact eqvAll_inj dt a b
instance {δ ε : Type} [Enc δ] [Enc ε] [dt : DatE δ] [de : DatE ε] : DatE (δ × ε) where
  d p := .tuple [dt.d p.1, de.d p.2]
  dp h := by
    obtain ⟨p, v1, v2, rfl, hh, r1, r2⟩ := h
    exact .tup hh (.cons (dt.dp r1) (.cons (de.dp r2) .nil))
  can p := by simp [PyData.canLay0, PyData.canLayAll0, dt.can, de.can]
  k := max dt.k de.k + 1
  dep p := by
    simp only [PyData.depth, PyData.depthAll]
    have h1 := dt.dep p.1
    have h2 := de.dep p.2
    omega
  inj a b := by
    rw [PyData.eqv, PyData.eqvAll, PyData.eqvAll, PyData.eqvAll, Bool.and_eq_true, Bool.and_eq_true, dt.inj, de.inj]
    constructor
    · rintro ⟨h1, h2, _⟩
      exact Prod.ext h1 h2
    · rintro rfl
      exact ⟨rfl, rfl, rfl⟩
instance {δ ε ζ : Type} [Enc δ] [Enc ε] [Enc ζ] [dt : DatE δ] [de : DatE ε] [dz : DatE ζ] : DatE (T3 δ ε ζ) where
  d p := .tuple [dt.d p.a, de.d p.b, dz.d p.c]
  dp h := by
    obtain ⟨p, v1, v2, v3, rfl, hh, r1, r2, r3⟩ := h
    exact .tup hh (.cons (dt.dp r1) (.cons (de.dp r2) (.cons (dz.dp r3) .nil)))
  can p := by simp [PyData.canLay0, PyData.canLayAll0, dt.can, de.can, dz.can]
  k := max dt.k (max de.k dz.k) + 1
  dep p := by
    simp only [PyData.depth, PyData.depthAll]
    have h1 := dt.dep p.a
    have h2 := de.dep p.b
    have h3 := dz.dep p.c
    omega
  inj a b := by
    rw [PyData.eqv, PyData.eqvAll, PyData.eqvAll, PyData.eqvAll, PyData.eqvAll, Bool.and_eq_true, Bool.and_eq_true, Bool.and_eq_true, dt.inj, de.inj, dz.inj]
    obtain ⟨a1, a2, a3⟩ := a
    obtain ⟨b1, b2, b3⟩ := b
    constructor
    · rintro ⟨h1, h2, h3, _⟩
      cases h1
      cases h2
      cases h3
      rfl
    · rintro ⟨⟩
      exact ⟨rfl, rfl, rfl, rfl⟩
theorem eqv_dec {δ : Type} {e : Enc δ} (dt : DatE δ) (inst : DecidableEq δ) (x y : δ) : PyData.eqv (dt.d x) (dt.d y) = decide (x = y) := by
  rw [Bool.eq_iff_iff, dt.inj, decide_eq_true_iff]
theorem shaped_d {δ : Type} {e : Enc δ} (dt : DatE δ) (hk : dt.k ≤ 64) (x : δ) : SeqAt.shaped (dt.d x) = true := by
  unfold SeqAt.shaped
  rw [dt.can, Bool.true_and]
  exact decide_eq_true (Nat.le_trans (dt.dep x) hk)
theorem d_eqD {a b : α} (ha : DE K B ta ρ a) (hb : DE K B tb ρ b) (inst : DecidableEq α) (dt : DatE α) (hk : dt.k ≤ 64) : DE K B (tOp (rEqD K) ta tb) ρ (decide (a = b)) :=
  d_op ha hb fun x y S H hi r1 r2 Q q => ⟨_, _, dt.dp (Enc.mono hi r1), dt.dp (Enc.mono hi r2), shaped_d dt hk a, shaped_d dt hk b, by rw [eqv_dec dt inst]; exact q _ S H (Ext.refl hi) rfl⟩
theorem d_neD {a b : α} (ha : DE K B ta ρ a) (hb : DE K B tb ρ b) (inst : DecidableEq α) (dt : DatE α) (hk : dt.k ≤ 64) : DE K B (tOp (rNeD K) ta tb) ρ (!decide (a = b)) :=
  d_op ha hb fun x y S H hi r1 r2 Q q => ⟨_, _, dt.dp (Enc.mono hi r1), dt.dp (Enc.mono hi r2), shaped_d dt hk a, shaped_d dt hk b, by rw [eqv_dec dt inst]; exact q _ S H (Ext.refl hi) rfl⟩
end
end WW

set_option Elab.async false
set_option linter.all false
set_option maxRecDepth 100000
set_option maxHeartbeats 4000000
namespace WW
open PySem PySem.Spec PyProof.Rows L2 ClX
/-! ### list.count of plain things -/
def rCntF (K : PySem.W.Frag) : V → List V → Hp → VK → Prop := fun x xs H Q => ∃ (a : Addr) (ys : List V) (y : V), x = .ref a ∧ xs = [y] ∧ SqL K H a ys ∧ flatV y = true ∧ ys.all flatV = true ∧ Q (.int (ys.countP (fun z => eqV z y) : Nat)) H
theorem countU {y : V} : ∀ {ys : List V} {us : List Value}, Vals ys us → ys.all flatV = true → us.countP (eqU y) = ys.countP fun z => eqV z y
  | _, _, .nil, _ => rfl
  | _, _, .cons r t, h => by
    rw [List.all_cons, Bool.and_eq_true] at h
    rw [List.countP_cons, List.countP_cons, countU t h.2, eqU_of r h.1]
theorem mt_lcountF {X : Cx} (K : PySem.W.Frag) (hK : X.K = K := by rfl) : MtR X "list.count" (rCntF K) := by
  subst hK
  intro pins s σ H x xs v us Q I rx rxs h
  obtain ⟨a, ys, y, rfl, rfl, hs, fy, fys, q⟩ := h
  cases rx
  obtain ⟨uy, rfl, ry⟩ := rxs.one
  obtain ⟨its, rv, ⟨⟨cls, dd, data, sl⟩, n, ho, hc, hdn, hd⟩, hlen⟩ := I.list hs
  simp only at hc hd
  subst hc hd
  refine call_meets PySem.F.slot_list_count ⟨_, ho, rfl⟩ PySem.F.entry_list_count (PySem.F.args_list_count_2 _ _)
    (SeqAt.list_countAt a its.toArray n dd sl uy (eqU y)) ⟨ho, fun u' hu' => mem_eqAt ry fy rv fys u' (by simpa using hu'), ?_⟩
  have ec : its.toArray.toList.countP (eqU y) = ys.countP fun z => eqV z y := countU rv fys
  refine ⟨.int (ys.countP (fun z => eqV z y) : Nat), H, I.tok _, ⟨s.toks, ?_⟩, q⟩
  show Value.int ((its.toArray.toList.countP (eqU y) : Nat) : Int) s.toks = Value.int ((ys.countP (fun z => eqV z y) : Nat) : Int) s.toks
  rw [ec]
/-! ### a classmethod called where an error may be caught -/
structure CmAt (P : Program) (w : World) (K : PySem.W.Frag) (mg : Str → Option Value) (base : Heap) (CX : CXT) (k : Nat) (C : Addr) (m : Str) (sp : Sp) : Prop where
  ex : ∃ mc p g, CRead K C mc ∧ CMet K C mc m p g ∧ FnR P w K mg base CX k g sp
def tCMethS (C : Addr) (sp : Sp) (E : L2.St → XK) (ta : TE) (t : TA) : TE := fun σ H Q => ta σ H fun x H1 => x = .ref C ∧ t σ H1 fun vs H2 => sp (.ref C :: vs) H2 Q (E σ)
section
variable {X : Cx} {k j : Nat} {C : Addr} {sp : Sp} {o e : Expr} {es : List Expr} {m : Str} {pos apos : Pos} {ta : TE} {t : TA} {pl : Sem Bool} {W : WX}
theorem pe_cmX (K : PySem.W.Frag) (F : CmAt X.prog X.w K X.mg X.base (L2.CX X.prog X.w) k C m sp) (tk : Takes X W) (hr : Room j X.A) (he : PE X o ta) (ha : PA X (e :: es) t) (hk : k ≤ j := by decide) (hK : X.K = K := by rfl)
    (hst : starEach (e :: es) X.env = (false, eval e X.env) :: starEach es X.env := by rfl) (hpl : (backTo pos (starEach es X.env)).any (·.1) = false := by rfl)
    (ht : eval (.Call (.Attribute o m apos) (e :: es) [] pos) X.env = (do
      let ov ← eval o X.env
      standAt apos.atName
      let (f, first) ← holding [ov] (getMethod ov m pl)
      callWith pos f first (backTo pos (starEach (e :: es) X.env)) (backToKw pos (keywordEach [] X.env))) := by rfl) :
    PE X (.Call (.Attribute o m apos) (e :: es) [] pos) (tCMethS C sp (WE W) ta t) := by
  subst hK
  obtain ⟨mc, p, g, r, c, F1⟩ := F.ex
  refine ⟨fun pins s σ H Q I h => ?_⟩
  refine PySem.W.methodCall_KW (pl := pl) (thn (he.run pins s σ H _ I h) fun u s1 ⟨x, H1, I1, rx, ex, q⟩ => ?_) ht
  subst ex
  obtain rfl : u = Value.ref C := rx
  refine getmethcm_ok I1 r c fun s2 I2 => ?_
  refine callwith_cm I2 (base_none I1 (Nat.le_refl _)) c.fi (thn (ha.run pos _ s2 σ H1 _ I2 q) fun us s3 ⟨vs, H2, I3, rv, q2⟩ => ⟨⟨pin_at I3, I3.kIn⟩, ?_⟩) hst hpl
  have z : wpAny (model X.prog X.w) X.A (call (.ref s1.heap.objs.size) us) (EP X ((s1.heap.objs.size, PySem.W.methodObj (.ref g) (.ref C)) :: pins) σ Q) X.xe s3 := by
    refine wpAny_call (PySem.W.method_call (pin_at I3) (codeAny_mono (F1 X.A X.stack s3 H2 (.ref C :: us) (.ref C :: vs) Q (WE W σ) (hr.mono hk) I3.env0 (.cons rfl rv) q2) fun r s' hq => ?_))
    cases r with
    | error e => exact passAt tk σ _ _ _ e s' I3 hq
    | ok fl =>
      cases fl with
      | ret u => exact I3.after hq
      | next => exact False.elim hq
      | brk => exact False.elim hq
      | cont => exact False.elim hq
  exact thn z fun _ _ y => unpinE y
theorem pe_cm (K : PySem.W.Frag) (F : CmAt X.prog X.w K X.mg X.base CX0 k C m sp) (hr : Room j X.A) (he : PE X o ta) (ha : PA X (e :: es) t) (hk : k ≤ j := by decide) (hK : X.K = K := by rfl)
    (hst : starEach (e :: es) X.env = (false, eval e X.env) :: starEach es X.env := by rfl) (hpl : (backTo pos (starEach es X.env)).any (·.1) = false := by rfl)
    (ht : eval (.Call (.Attribute o m apos) (e :: es) [] pos) X.env = (do
      let ov ← eval o X.env
      standAt apos.atName
      let (f, first) ← holding [ov] (getMethod ov m pl)
      callWith pos f first (backTo pos (starEach (e :: es) X.env)) (backToKw pos (keywordEach [] X.env))) := by rfl) :
    PE X (.Call (.Attribute o m apos) (e :: es) [] pos) (tCMeth C sp E0 ta t) := by
  subst hK
  obtain ⟨mc, p, g, r, c, F1⟩ := F.ex
  exact pe_cmeth (pl := pl) he r c F1 (hr.mono hk) pass0 ha hst hpl ht
end
/-! ### cls(..), cls a local name that holds an own class -/
def tMakeLS (i : Nat) (C : Addr) (sp : Sp) (dvs : List V) (E : L2.St → XK) (t : TA) : TE := fun σ H Q => σ[i]? = some (some (.ref C)) ∧ t σ H fun vs H1 => ∀ x dx, H1 x = none → H1 dx = none → dx ≠ x → sp (.ref x :: (vs ++ dvs)) (upd (upd H1 dx (.own x)) x (.ins C dx [])) (fun v H2 => v = .non ∧ Q (.ref x) H2) (E σ)
section
variable {X : Cx} {k j i : Nat} {x y : Str} {ps : List Str} {sp : Sp} {e : Expr} {es : List Expr} {t : TA} {p pos : Pos} {dvs : List V} {W : WX}
theorem pe_mkLX (K : PySem.W.Frag) (F : MkAtX X.prog X.w K X.mg X.base k y ps sp dvs) (tk : Takes X W) (hr : Room j X.A) (hN : X.N[i]? = some x) (hv : Vis X.env.scope x) (ha : PA X (e :: es) t) (hk : k + 1 ≤ j := by decide) (hK : X.K = K := by rfl)
    (hdb : (x == ("__debug__" : Str)) = false := by decide) (hcd : (x == ("__classdict__" : Str)) = false := by decide) (he : starEach (e :: es) X.env = (false, eval e X.env) :: starEach es X.env := by rfl) (hpl : (backTo pos (starEach es X.env)).any (·.1) = false := by rfl) :
    PE X (.Call (.Name x p) (e :: es) [] pos) (tMakeLS i (He.ga K y) sp dvs (WE W) t) := by
  subst hK
  obtain ⟨f, fd, ds, M, F1, hd, hb⟩ := F.ex
  refine ⟨fun pins s0 σ H0 Q I0 h0 => ?_⟩
  obtain ⟨hs0, h0⟩ := h0
  refine wpAny_Call_Name_kw (thn ((pe_var (pos := p) hN hv hdb hcd).run pins s0 σ H0 (fun v H1 => v = .ref (He.ga X.K y) ∧ H1 = H0) I0 ⟨_, hs0, rfl, rfl⟩) fun u s1 ⟨v, H1, I1, r1, q1⟩ => ?_)
  obtain ⟨rfl, rfl⟩ := q1
  cases r1
  refine PySem.W.callWith_K (h₀ := X.base) I0.ok.mod.kin M.kp (thn (ha.run pos pins s1 σ _ _ I1 h0) fun us s ⟨vs, H, I, r, h⟩ => ⟨I.kIn, ?_⟩) he hpl
  have hq := h (s.heap.objs.size + 1) s.heap.objs.size (I.hok.fresh (Nat.le_succ _)) (I.hok.fresh (Nat.le_refl _)) (Nat.ne_of_lt (Nat.lt_succ_self _))
  have I2 := Inv.made (C := He.ga X.K y) I
  have r2 : Vals (V.ref (s.heap.objs.size + 1) :: (vs ++ dvs)) (Value.ref (s.heap.objs.size + 1) :: (us ++ ds)) := .cons rfl (r.append hd)
  have hl : (Value.ref (s.heap.objs.size + 1) :: us ++ ds).length = ps.length := by
    have e := r2.length
    rw [F1.len _ _ _ _ hq] at e
    exact e.symm
  show wpAny _ _ (call (.ref (He.ga X.K y)) us) _ _ _
  refine wpAny_call (make_map (f := f) I.kIn M.makes M.init (beq_iff_eq.mp M.fn) (codeAny_mono (F1.run _ X.stack _ _ ⟨Value.ref (s.heap.objs.size + 1) :: us, []⟩ (Value.ref (s.heap.objs.size + 1) :: (us ++ ds)) _ _ (WE W σ) ((hr.mono hk).make (He.ga X.K y) us [])
    (I2.env0.make (He.ga X.K y) us []) (hb _ (Value.ref (s.heap.objs.size + 1) :: us) I2.kIn hl) r2 hq) fun r s' hq' => ?_))
  cases r with
  | error e => exact passAt tk σ pins _ _ e s' I2 hq'
  | ok fl =>
    cases fl with
    | ret u =>
      obtain ⟨v, H', I3, rv, ev, q3⟩ := I2.after hq'
      subst ev
      exact ⟨rv, ⟨V.ref (s.heap.objs.size + 1), H', I3, rfl, q3⟩⟩
    | next => exact False.elim hq'
    | brk => exact False.elim hq'
    | cont => exact False.elim hq'
end
end WW

set_option Elab.async false
set_option linter.all false
set_option maxRecDepth 100000
set_option maxHeartbeats 4000000
namespace WW
open PySem PySem.Spec PyProof.Rows L2
/-! ### the head's facts of own exceptions -/
def oexB (K : PySem.W.Frag) (C : Addr) : Bool :=
  (match K.lookup C with
    | some ⟨.type "type", _, .cls cd, sl⟩ => (match cd.mro, sl.toList with
      | .ref C' :: bm, [_, _, _, _, some (.builtin n), _] => C' == C && n == "ValueError.__new__" && !cd.hasDel && cd.hasDict && PySem.HandSPX.refsVE bm
      | _, _ => false)
    | _ => false) && (He.eqO (PySem.W.findIn K (.ref C) "__setattr__") (some (some (.builtin "object.__setattr__"))) && (decide (PySem.W.subIn K (.ref C) (.type "BaseException") = some true) && (decide (PySem.W.typeIn K (.ref C) = some (.type "type")) && PySem.W.keepIn K (.ref C))))
theorem oexB_ok {K : PySem.W.Frag} {C : Addr} (h : oexB K C = true) : OexC K C := by
  obtain ⟨h0, h⟩ := He.ba h
  obtain ⟨h1, h⟩ := He.ba h
  obtain ⟨h2, h⟩ := He.ba h
  obtain ⟨h3, h4⟩ := He.ba h
  refine ⟨?_, He.eqO_ok h1, of_decide_eq_true h2, of_decide_eq_true h3, h4⟩
  split at h0
  · rename_i dd cd sl ho
    split at h0
    · rename_i C' bm k0 k1 k2 k3 n k5 hm hs
      simp only [Bool.and_eq_true, beq_iff_eq, Bool.not_eq_true'] at h0
      obtain ⟨⟨⟨⟨rfl, rfl⟩, hdel⟩, hdct⟩, ht⟩ := h0
      obtain ⟨nm, bs, mro, ns, qn, hd, sn, sub, ab, col, del⟩ := cd
      dsimp only at hm hdel hdct
      subst hm hdel hdct
      have hsl : sl = #[k0, k1, k2, k3, some (.builtin "ValueError.__new__"), k5] := by
        obtain ⟨l⟩ := sl
        simp only at hs
        rw [hs]
      subst hsl
      exact ⟨nm, qn, ns, bs, bm, sn, sub, ab, col, dd, k0, k1, k2, k3, k5, ho, ht⟩
    · cases h0
  · cases h0
/-- the __init__ of a class, as it stands -/
abbrev SupV : Type := Option (Str × Arguments × FuncBody × Scope × Addr × Addr)
def supO (K : PySem.W.Frag) (C : Addr) : SupV := match K.lookup (He.ma K C "__init__") with
  | some ⟨_, _, .func fd, _⟩ => some (fd.qualname, fd.params, fd.body, fd.scope, fd.globals, fd.builtins)
  | _ => none
def supB (K : PySem.W.Frag) (file : Str) (C : Addr) : Bool :=
  (match K.lookup (He.ma K C "__init__") with
    | some ⟨_, _, .func fd, _⟩ => (match fd.closure, fd.code with
      | [(n, cc)], .ref cda => ((n == ("__class__" : Str)) && (fd.defaults == Value.none)) && (PySem.W.codeIn K (.ref cda) fd.qualname && ((match K.lookup cc with
          | some ⟨_, _, .cell (some (.ref D)), _⟩ => D == C
          | _ => false) && (match K.lookup cda with
          | some ⟨_, _, .fields vs, _⟩ => (match (vs : Array Value)[2]? with
            | some (Value.str fl _) => file == fl
            | _ => false)
          | _ => false)))
      | _, _ => false)
    | _ => false) && (oexB K C && (He.eqO (PySem.W.findIn K (.ref C) "__init__") (some (some (.ref (He.ma K C "__init__")))) && (decide (PySem.W.typeIn K (.ref (He.ma K C "__init__")) = some (.type "function")) && (He.eqO (PySem.W.ks_superIn K C C "__init__") (some (some (.builtin "ValueError.__init__"))) &&
      (decide (PySem.W.mroIn K C (.ref C) = some true) && (decide (PySem.W.subIn K (.ref C) (.type "ValueError") = some true) && He.eqO (PySem.W.nsIn K cStatics "thirdparty.any") (some none)))))))
theorem supB_ok {P : Program} {K : PySem.W.Frag} {C : Addr} {qual : Str} {params : Arguments} {body : List Stmt} {scope : Scope} (h : supB K P.main.file C = true) (e : supO K C = some (qual, params, .stmts body, scope, mainGlobals, builtinsNs)) (top : (P.main.scope.names.lookup ("super" : Str)).isSome = false) : SupC P K C (He.ma K C "__init__") qual params body scope := by
  obtain ⟨h0, h⟩ := He.ba h
  obtain ⟨h1, h⟩ := He.ba h
  obtain ⟨h2, h⟩ := He.ba h
  obtain ⟨h3, h⟩ := He.ba h
  obtain ⟨h4, h⟩ := He.ba h
  obtain ⟨h5, h⟩ := He.ba h
  obtain ⟨h6, h7⟩ := He.ba h
  refine ⟨oexB_ok h1, He.eqO_ok h2, of_decide_eq_true h3, ?_, He.eqO_ok h4, of_decide_eq_true h5, of_decide_eq_true h6, He.eqO_ok h7, top⟩
  unfold supO at e
  split at h0
  · rename_i oc od fd osl ho
    rw [ho] at e
    obtain ⟨n1, n2, n3, n4, n5, n6, n7, n8, n9, n10, n11, n12, n13, n14, n15⟩ := fd
    have e2 : (some (n2, n3, n4, n5, n6, n15) : SupV) = some (qual, params, .stmts body, scope, mainGlobals, builtinsNs) := e
    simp only [Option.some.injEq, Prod.mk.injEq] at e2
    obtain ⟨q1, q2, q3, q4, q5, q6⟩ := e2
    subst q1 q2 q3 q4 q5 q6
    split at h0
    · rename_i n cc cda hcl hcd
      dsimp only at hcl hcd
      subst hcl hcd
      obtain ⟨g1, h0⟩ := He.ba h0
      obtain ⟨g2, h0⟩ := He.ba h0
      obtain ⟨g3, g4⟩ := He.ba h0
      obtain ⟨g1, g0⟩ := He.ba g1
      rw [beq_iff_eq] at g1 g0
      subst g1 g0
      split at g3
      · rename_i cl cld D csl hcc
        rw [beq_iff_eq] at g3
        subst g3
        split at g4
        · rename_i ccl cdd vs ccs hcode
          split at g4
          · rename_i fl tf hvs
            exact ⟨n1, oc, od, n9, n10, n11, n12, cda, cc, n14, osl, ccl, cdd, vs, ccs, fl, tf, cl, cld, csl, ho, g2, hcode, hvs, g4, hcc⟩
          · cases g4
        · cases g4
      · cases g3
    · cases h0
  · cases h0
/-- what must be said of a class so that its caught instances are asked rightly -/
def excCB (K : PySem.W.Frag) (C : Addr) : Bool :=
  He.eqO (PySem.W.findIn K (.ref C) "__getattribute__") (some (some (.builtin "BaseException.__getattribute__"))) && (He.eqO (PySem.W.findIn K (.ref C) "__getattr__") (some none) && (decide (PySem.W.subIn K (.ref C) (.type "BaseException") = some true) && (PySem.W.hasDictIn K C && (He.eqO (PySem.W.findIn K (.ref C) "__class__") (some (some (.builtin "object.__class__"))) &&
    (He.eqO (PySem.W.specialIn K (.builtin "object.__class__") "__get__") (some (some (.builtin "getset_descriptor.__get__"))) && (decide (PySem.W.takesIn K (.builtin "object.__class__") = some true) && decide (PySem.W.mroIn K C (.type "object") = some true)))))))
theorem excCB_ok {K : PySem.W.Frag} {C : Addr} (h : excCB K C = true) : ExcC K C ∧ XfC K C := by
  obtain ⟨h1, h⟩ := He.ba h
  obtain ⟨h2, h⟩ := He.ba h
  obtain ⟨h3, h⟩ := He.ba h
  obtain ⟨h4, h⟩ := He.ba h
  obtain ⟨h5, h⟩ := He.ba h
  obtain ⟨h6, h⟩ := He.ba h
  obtain ⟨h7, h8⟩ := He.ba h
  exact ⟨⟨He.eqO_ok h1, He.eqO_ok h2, of_decide_eq_true h3, h4, He.eqO_ok h5, He.eqO_ok h6, of_decide_eq_true h7, of_decide_eq_true h8⟩, ⟨He.eqO_ok h1, He.eqO_ok h2, of_decide_eq_true h3, h4⟩⟩
/-! ### the hook with the __init__s of exception classes -/
section
variable (n : Nat) (fa : List He.Fa) (fn : List He5.DefA) (ex : PySem.W.Frag → Bool) (cs : List Str) (vs : List SupV)
def obsS (g : Addr → Option PySem.Obj) : (He.AlD × Bool) × List SupV := ((He5.obsA fa fn (He.frG g (He5.asA g n)), ex (He.frG g (He5.asA g n))), cs.map fun x => supO (He.frG g (He5.asA g n)) (He.ga (He.frG g (He5.asA g n)) x))
def SaysS (K : PySem.W.Frag) : Prop := SaysW fa fn ex K ∧ (cs.map fun x => supO K (He.ga K x)) = vs
def hookS : PySem.W.Hook where
  α := (He.AlD × Bool) × List SupV
  obs := fun s => obsS n fa fn ex cs s.heap.get?
  val := fun _ => ((He5.valA fn, true), vs)
  says := fun _ h => ∃ K : PySem.W.Frag, K.In h ∧ SaysS fa fn ex cs vs K
  of := fun _ s e => ⟨He.frG s.heap.get? (He5.asA s.heap.get? n), He.frG_in, ⟨congrArg (fun z : (He.AlD × Bool) × List SupV => z.1.1) e, congrArg (fun z : (He.AlD × Bool) × List SupV => z.1.2) e⟩, congrArg (fun z : (He.AlD × Bool) × List SupV => z.2) e⟩
  keeps := fun _ _ _ ⟨K, hK, c⟩ k => ⟨K, PySem.W.Frag.In.keeps hK k, c⟩
end
theorem obsS_eq {n : Nat} {fa : List He.Fa} {fn : List He5.DefA} {ex : PySem.W.Frag → Bool} {cs : List Str} {vs : List SupV} {g : Addr → Option PySem.Obj} {s : Shared} (h : ∀ a, g a = s.heap.get? a) : obsS n fa fn ex cs g = (hookS n fa fn ex cs vs).obs s := by
  rw [show g = s.heap.get? from funext h]
  rfl
end WW

set_option Elab.async false
set_option linter.all false
set_option maxRecDepth 100000
set_option maxHeartbeats 4000000
namespace WW
open PySem PySem.Spec PyProof.Rows L2
/-- attributes of a class with a plain table are read plainly -/
theorem cread_ok {K : PySem.W.Frag} {C : Addr} (h0 : PySem.W.readsIn K C (.type "type") = true) : ClX.CRead K C (.type "type") := by
  refine ⟨h0, ?_⟩
  have h := h0
  unfold PySem.W.readsIn at h
  obtain ⟨h, _⟩ := He.ba h
  obtain ⟨h, _⟩ := He.ba h
  obtain ⟨h, h3⟩ := He.ba h
  obtain ⟨_, h2⟩ := He.ba h
  unfold PySem.W.specialIn
  rw [beq_iff_eq.mp h2, Option.bind_some]
  exact beq_iff_eq.mp h3
end WW

set_option Elab.async false
set_option linter.all false
set_option maxRecDepth 100000
set_option maxHeartbeats 4000000
namespace WW
open PySem PySem.Spec PyProof.Rows L2
def top (i : Nat) : Stmt := PySem.Challenge.pw_waitworks_k04_texts_of_rows.main.body.getD i (.Pass ⟨0, 0, 0, 0⟩)
section
variable {P : Program} {w : World} {K : PySem.W.Frag} {mg : Str → Option Value} {base : Heap} {f : Addr} {fd : FuncData}
abbrev FnP (K : PySem.W.Frag) (x : Str) (st : Stmt) (f : Addr) (fd : FuncData) : Prop := FunD K x x (defArgs st) (defBody st) (defScope st) [] [] f fd
abbrev s_l_take : Stmt := top 26
abbrev N_l_take : List Str := ["_law_box_here", "_law_many", "_law_one", "_law_digit"]
theorem sc_l_take : FnScope N_l_take ["_law_box_here", "_law_many"] (defScope s_l_take) := ⟨rfl, rfl, rfl, by decide +kernel, rfl, by decide +kernel, by decide +kernel⟩

theorem ok_take (F : FnP K "_law_take" s_l_take f fd) (m_int : mg "int" = none) : FnOk P w K mg base CX0 1 f fd ["_law_box_here", "_law_many"] spTake := by
  refine F.ok sc_l_take (fun vs H Q E h => ?_) (fun cdv A outer s H vs Q E hr h => ?_)
  · obtain ⟨b, m, rfl, _⟩ := h
    rfl
  · obtain ⟨b, m, rfl, ⟨x, y, z, hb⟩, h0, h1, q⟩ := h
    refine ⟨_, PSs.nox (pss_cons (ps_if (pt_cmpR op_gt (pe_ix (ix_sqK K) (pv 0) (pe_int) (fun _ _ => rfl)) (pe_int) (nomark _)) (pss_cons (ps_set (i := 3) sc_l_take.nd rfl (.inl rfl) (pe_op op_mod (pe_callTy call_int1 rfl m_int (by decide +kernel) (pa_cons (pe_ix (ix_sqK K) (pv 0) (pe_int) (fun _ _ => rfl)) (pa_nil))) (pv 1)))
 (pss_cons (ps_asg (pe_op op_fdiv (pe_ix (ix_sqK K) (pv 0) (pe_int) (fun _ _ => rfl)) (pv 1)) (pg_sub (pv 0) (pe_int) set_list))
 (pss_one (ps_ret (pv 3))))) (pss_nil))
 (pss_cons (ps_asg (pe_op op_add (pe_ix (ix_sqK K) (pv 0) (pe_int) (fun _ _ => rfl)) (pe_int)) (pg_sub (pv 0) (pe_int) set_list))
 (pss_cons (ps_set (i := 2) sc_l_take.nd rfl (.inl rfl) (pe_op op_mod (pe_callTy call_int1 rfl m_int (by decide +kernel) (pa_cons (pe_op op_mul (pe_op op_add (pe_ix (ix_sqK K) (pv 0) (pe_int) (fun _ _ => rfl)) (pe_op op_mul (pe_int) (pe_ix (ix_sqK K) (pv 0) (pe_int) (fun _ _ => rfl)))) (pe_int)) (pa_nil))) (pe_int)))
 (pss_cons (ps_asg (pe_op op_add (pe_op op_mod (pe_callTy call_int1 rfl m_int (by decide +kernel) (pa_cons (pe_op op_add (pe_op op_mul (pv 2) (pe_int)) (pe_int)) (pa_nil))) (pe_int)) (pe_int)) (pg_sub (pv 0) (pe_int) set_list))
 (pss_one (ps_ret (pe_op op_mod (pe_callTy call_int1 rfl m_int (by decide +kernel) (pa_cons (pe_op op_fdiv (pe_op op_add (pe_op op_mul (pv 2) (pe_int)) (pe_ix (ix_sqK K) (pv 0) (pe_int) (fun _ _ => rfl))) (pe_int)) (pa_nil))) (pv 1)))))))), ?_⟩
    have a0 : ∀ {x y z : Int}, atI [V.int x, V.int y, V.int z] 0 = some (.int x) := rfl
    refine ⟨_, rfl, _, _, _, _, rfl, rfl, .l hb, a0, _, _, rfl, rfl, _, rfl, ite2 (fun c => ?_) (fun c => ?_)⟩
    · refine ⟨_, rfl, _, _, _, _, rfl, rfl, .l hb, a0, .inl ⟨_, rfl, _, rfl, _, _, rfl, rfl, h0, ?_⟩⟩
      refine ⟨_, rfl, _, _, _, _, rfl, rfl, .l hb, a0, _, rfl, _, _, rfl, rfl, ⟨h0, h1⟩, _, rfl, _, _, _, _, rfl, rfl, hb, rfl, ?_⟩
      exact ⟨_, rfl, q _ _ _ _ (Int.emod_nonneg _ (by omega)) (Int.emod_lt_of_pos _ h0)⟩
    · have hb2 : ∀ o, (upd H b o) b = some o := fun o => upd_same
      have a1 : ∀ {x y z : Int}, atI [V.int x, V.int y, V.int z] 1 = some (.int y) := rfl
      have a2 : ∀ {x y z : Int}, atI [V.int x, V.int y, V.int z] 2 = some (.int z) := rfl
      refine ⟨_, rfl, _, _, _, _, rfl, rfl, .l hb, a2, _, _, rfl, rfl, _, rfl, _, _, _, _, rfl, rfl, hb, rfl, ?_⟩
      refine ⟨_, rfl, _, _, _, _, rfl, rfl, .l upd_same, a1, _, rfl, _, _, _, _, rfl, rfl, .l upd_same, a2, _, _, rfl, rfl, .inl ⟨by decide, by decide⟩, _, _, rfl, rfl, _, _, rfl, rfl, .inr ⟨by decide, by decide⟩,
        .inl ⟨_, rfl, _, _, rfl, rfl, (by show (0 : Int) < _; decide), ?_⟩⟩
      refine ⟨_, rfl, _, _, rfl, rfl, .inr ⟨by decide, by decide⟩, _, _, rfl, rfl, .inl ⟨_, rfl, _, _, rfl, rfl, (by show (0 : Int) < _; decide), _, _, rfl, rfl, _, rfl, _, _, _, _, rfl, rfl, upd_same, rfl, ?_⟩⟩
      refine ⟨_, rfl, _, _, rfl, rfl, .inr ⟨by decide, by decide⟩, _, rfl, _, _, _, _, rfl, rfl, .l upd_same, a1, _, _, rfl, rfl, _, _, rfl, rfl, ⟨by decide, by decide⟩, .inl ⟨_, rfl, _, rfl, _, _, rfl, rfl, h0, ?_⟩⟩
      rw [upd_upd]
      exact q _ _ _ _ (Int.emod_nonneg _ (by omega)) (Int.emod_lt_of_pos _ h0)
abbrev s_l_pick : Stmt := top 27
abbrev N_l_pick : List Str := ["_law_box_here", "_law_some"]
theorem sc_l_pick : FnScope N_l_pick ["_law_box_here", "_law_some"] (defScope s_l_pick) := ⟨rfl, rfl, rfl, by decide +kernel, rfl, by decide +kernel, by decide +kernel⟩

theorem ok_pick (F : FnP K "_law_pick" s_l_pick f fd) (m_len : mg "len" = none) (g_l_take : FnAt P w K mg base CX0 1 "_law_take" ["_law_box_here", "_law_many"] spTake) : FnOk P w K mg base CX0 2 f fd ["_law_box_here", "_law_some"] (spPick K) := by
  refine F.ok sc_l_pick (fun vs H Q E h => ?_) (fun cdv A outer s H vs Q E hr h => ?_)
  · obtain ⟨b, l, xs, rfl, _⟩ := h
    rfl
  · obtain ⟨b, l, xs, rfl, hb, hl, hn, h0, h1, q⟩ := h
    refine ⟨_, PSs.nox (pss_one (ps_ret (pe_ix (ix_sqK K) (pv 1) (pe_fn g_l_take hr rfl (pa_cons (pv 0) (pa_cons (pe_callB (call_lenK K) rfl m_len (by decide +kernel) (pa_cons (pv 1) (pa_nil))) (pa_nil)))) (fun _ _ => rfl)))), ?_⟩
    refine ⟨_, rfl, _, rfl, _, rfl, _, _, rfl, hl, b, _, rfl, hb, by omega, by omega, fun x y z d d0 d1 => ?_⟩
    have hd : d.toNat < xs.length := by omega
    exact ⟨l, xs, _, xs[d.toNat], rfl, rfl, hl.upd hn, at_toNat d0 hd, q x y z _ (List.getElem_mem hd)⟩
end
end WW

set_option Elab.async false
set_option linter.all false
set_option maxRecDepth 100000
set_option maxHeartbeats 4000000
namespace WW
open PySem PySem.Spec PyProof.Rows L2
/-- what is told is a value; the heap grows -/
def spV (pre : List V → Hp → V → Prop) : Sp := fun vs H Q _ => ∃ v, pre vs H v ∧ ∀ H', Same H H' → Q v H'
def isThingV : V → Bool
  | .non => true
  | .int _ => true
  | _ => false
def belowV : V → V → Bool
  | .non, .int _ => true
  | .int i, .int j => decide (i < j)
  | _, _ => false
def risingV (xs : List V) : Bool := !((List.range (xs.length - 1)).map fun i => belowV (xs.getD (i + 1) .non) (xs.getD i .non)).any id
section
variable {P : Program} {w : World} {K : PySem.W.Frag} {mg : Str → Option Value} {base : Heap} {f : Addr} {fd : FuncData}
def spInteger (K : PySem.W.Frag) : Sp := spV fun vs H v => ∃ x sq, vs = [x] ∧ HasT K H x sq ∧ v = .bl (isIntV x)
abbrev s_is_integer : Stmt := top 7
abbrev N_is_integer : List Str := ["value"]
theorem sc_is_integer : FnScope N_is_integer ["value"] (defScope s_is_integer) := ⟨rfl, rfl, rfl, by decide +kernel, rfl, by decide +kernel, by decide +kernel⟩

theorem ok_is_integer (F : FnP K "is_integer" s_is_integer f fd) (m_isinstance : mg "isinstance" = none) (m_int : mg "int" = none) (m_bool : mg "bool" = none) : FnOk P w K mg base CX0 1 f fd ["value"] (spInteger K) := by
  refine F.ok sc_is_integer (fun vs H Q E h => ?_) (fun cdv A outer s H vs Q E hr h => ?_)
  · obtain ⟨v, ⟨x, sq, rfl, _⟩, _⟩ := h
    rfl
  · obtain ⟨v, ⟨x, sq, rfl, ⟨t, b1, b2, ty, k1, k2, e, k3⟩, rfl⟩, q⟩ := h
    refine ⟨_, PSs.nox (pss_one (ps_ret (pe_and (pe_callB (call_isiK1 K) rfl m_isinstance (by decide +kernel) (pa_cons (pv 0) (pa_cons (pe_bltn (v := .ty "int") (u := .type "int") rfl m_int (by decide +kernel) rfl) (pa_nil)))) (pe_one (pe_not (pe_callB (call_isiK1 K) rfl m_isinstance (by decide +kernel) (pa_cons (pv 0) (pa_cons (pe_bltn (v := .ty "bool") (u := .type "bool") rfl m_bool (by decide +kernel) rfl) (pa_nil))))))))), ?_⟩
    refine ⟨_, rfl, x, .ty "int", t, _, b1, rfl, .ty "int", ty, k1, b1, rfl, ?_⟩
    rw [← e] at q
    cases b1 with
    | false => exact q _ (Same.refl H)
    | true => exact ⟨_, rfl, x, .ty "bool", t, _, b2, rfl, .ty "bool", ty, k2, b2, rfl, q _ (Same.refl H)⟩
def isNumV : V → Bool
  | .int i => decide (0 ≤ i)
  | _ => false
def spNumber (K : PySem.W.Frag) : Sp := spV fun vs H v => ∃ x sq, vs = [x] ∧ HasT K H x sq ∧ v = .bl (isNumV x)
abbrev s_is_number : Stmt := top 8
abbrev N_is_number : List Str := ["value"]
theorem sc_is_number : FnScope N_is_number ["value"] (defScope s_is_number) := ⟨rfl, rfl, rfl, by decide +kernel, rfl, by decide +kernel, by decide +kernel⟩

theorem ok_is_number (F : FnP K "is_number" s_is_number f fd) (g_is_integer : FnAt P w K mg base CX0 1 "is_integer" ["value"] (spInteger K)) : FnOk P w K mg base CX0 2 f fd ["value"] (spNumber K) := by
  refine F.ok sc_is_number (fun vs H Q E h => ?_) (fun cdv A outer s H vs Q E hr h => ?_)
  · obtain ⟨v, ⟨x, sq, rfl, _⟩, _⟩ := h
    rfl
  · obtain ⟨v, ⟨x, sq, rfl, hx, rfl⟩, q⟩ := h
    refine ⟨_, PSs.nox (pss_one (ps_ret (pe_and (pe_fn g_is_integer hr rfl (pa_cons (pv 0) (pa_nil))) (pe_one (pe_cmpR op_ge (pv 0) (pe_int) (nomark _)))))), ?_⟩
    refine ⟨_, rfl, _, ⟨x, sq, rfl, hx, rfl⟩, fun H1 s1 => ⟨_, rfl, ?_⟩⟩
    cases x with
    | int i => exact ⟨_, rfl, _, _, rfl, rfl, q _ s1⟩
    | _ => exact q _ s1
def spSequence (K : PySem.W.Frag) : Sp := spV fun vs H v => ∃ x sq, vs = [x] ∧ HasT K H x sq ∧ v = .bl sq
abbrev s_is_sequence : Stmt := top 9
abbrev N_is_sequence : List Str := ["value"]
theorem sc_is_sequence : FnScope N_is_sequence ["value"] (defScope s_is_sequence) := ⟨rfl, rfl, rfl, by decide +kernel, rfl, by decide +kernel, by decide +kernel⟩

theorem ok_is_sequence (F : FnP K "is_sequence" s_is_sequence f fd) (m_isinstance : mg "isinstance" = none) (m_list : mg "list" = none) (m_tuple : mg "tuple" = none) : FnOk P w K mg base CX0 1 f fd ["value"] (spSequence K) := by
  refine F.ok sc_is_sequence (fun vs H Q E h => ?_) (fun cdv A outer s H vs Q E hr h => ?_)
  · obtain ⟨v, ⟨x, sq, rfl, _⟩, _⟩ := h
    rfl
  · obtain ⟨v, ⟨x, sq, rfl, ⟨t, b1, b2, ty, k1, k2, e, k3⟩, rfl⟩, q⟩ := h
    refine ⟨_, PSs.nox (pss_one (ps_ret (pe_callB (call_isiTK K) rfl m_isinstance (by decide +kernel) (pa_cons (pv 0) (pa_cons (pe_tup (pa_cons (pe_bltn (v := .ty "list") (u := .type "list") rfl m_list (by decide +kernel) rfl) (pa_cons (pe_bltn (v := .ty "tuple") (u := .type "tuple") rfl m_tuple (by decide +kernel) rfl) (pa_nil)))) (pa_nil)))))), ?_⟩
    refine ⟨_, rfl, by show 2 ≤ sizeLine; decide, fun p hp => ?_⟩
    have sm : Same H (upd H p (.tup [.ty "list", .ty "tuple"])) := fun a o ha => (upd_ne (ne_of_none ha hp)).trans ha
    exact ⟨x, p, _, t, _, sq, rfl, upd_same, .cons (.ty "list") (.cons (.ty "tuple") .nil), tyx_same sm ty, k3, q _ sm⟩
def spThing (K : PySem.W.Frag) : Sp := spV fun vs H v => ∃ x sq, vs = [x] ∧ HasT K H x sq ∧ v = .bl (isThingV x)
abbrev s_is_thing : Stmt := top 14
abbrev N_is_thing : List Str := ["value"]
theorem sc_is_thing : FnScope N_is_thing ["value"] (defScope s_is_thing) := ⟨rfl, rfl, rfl, by decide +kernel, rfl, by decide +kernel, by decide +kernel⟩

theorem ok_is_thing (F : FnP K "is_thing" s_is_thing f fd) (g_is_integer : FnAt P w K mg base CX0 1 "is_integer" ["value"] (spInteger K)) : FnOk P w K mg base CX0 2 f fd ["value"] (spThing K) := by
  refine F.ok sc_is_thing (fun vs H Q E h => ?_) (fun cdv A outer s H vs Q E hr h => ?_)
  · obtain ⟨v, ⟨x, sq, rfl, _⟩, _⟩ := h
    rfl
  · obtain ⟨v, ⟨x, sq, rfl, hx, rfl⟩, q⟩ := h
    refine ⟨_, PSs.nox (pss_one (ps_ret (pe_or (pe_cmpR op_isN (pv 0) (pe_non) (nomark _)) (pe_one (pe_fn g_is_integer hr rfl (pa_cons (pv 0) (pa_nil))))))), ?_⟩
    refine ⟨_, rfl, rfl, _, rfl, ?_⟩
    cases x with
    | non => exact q _ (Same.refl H)
    | _ => exact ⟨_, rfl, _, ⟨_, sq, rfl, hx, rfl⟩, fun H1 s1 => q _ s1⟩
def spBelow : Sp := spV fun vs H v => ∃ x y, vs = [x, y] ∧ isThingV x = true ∧ isThingV y = true ∧ v = .bl (belowV x y)
abbrev s_is_below : Stmt := top 15
abbrev N_is_below : List Str := ["one", "other"]
theorem sc_is_below : FnScope N_is_below ["one", "other"] (defScope s_is_below) := ⟨rfl, rfl, rfl, by decide +kernel, rfl, by decide +kernel, by decide +kernel⟩

theorem ok_is_below (F : FnP K "is_below" s_is_below f fd) : FnOk P w K mg base CX0 1 f fd ["one", "other"] spBelow := by
  refine F.ok sc_is_below (fun vs H Q E h => ?_) (fun cdv A outer s H vs Q E hr h => ?_)
  · obtain ⟨v, ⟨x, y, rfl, _⟩, _⟩ := h
    rfl
  · obtain ⟨v, ⟨x, y, rfl, hx, hy, rfl⟩, q⟩ := h
    have q := q _ (Same.refl H)
    refine ⟨_, PSs.nox (pss_cons (ps_if (pt_cmpR op_isN (pv 1) (pe_non) (nomark _)) (pss_one (ps_ret (pe_bl))) (pss_nil))
 (pss_one (ps_ret (pe_or (pe_cmpR op_isN (pv 0) (pe_non) (nomark _)) (pe_one (pe_cmpR op_lt (pv 0) (pv 1) (nomark _))))))), ?_⟩
    refine ⟨_, rfl, rfl, _, rfl, ?_⟩
    cases y with
    | non => cases x <;> exact q
    | int j =>
      refine ⟨_, rfl, rfl, _, rfl, ?_⟩
      cases x with
      | non => exact q
      | int i => exact ⟨_, rfl, _, rfl, _, _, rfl, rfl, q⟩
      | _ => cases hx
    | _ => cases hy
def spRising (K : PySem.W.Frag) : Sp := spV fun vs H v => ∃ a xs, vs = [.ref a] ∧ Sq K H a xs ∧ xs.length ≤ 50000 ∧ xs.all isThingV = true ∧ v = .bl (risingV xs)
theorem getD_at {xs : List V} {i : Nat} (h : i < xs.length) : atI xs (i : Int) = some (xs.getD i .non) := by
  rw [List.getD_eq_getElem?_getD, List.getElem?_eq_getElem h]
  exact atI_nat (List.getElem?_eq_getElem h)
theorem all_getD {xs : List V} {p : V → Bool} (h : xs.all p = true) {i : Nat} (hi : i < xs.length) : p (xs.getD i .non) = true := by
  rw [List.getD_eq_getElem?_getD, List.getElem?_eq_getElem hi]
  exact List.all_eq_true.mp h _ (List.getElem_mem hi)
abbrev s_are_rising : Stmt := top 16
abbrev N_are_rising : List Str := ["some", "at"]
theorem sc_are_rising : FnScope N_are_rising ["some"] (defScope s_are_rising) := ⟨rfl, rfl, rfl, by decide +kernel, rfl, by decide +kernel, by decide +kernel⟩

theorem ok_are_rising (F : FnP K "are_rising" s_are_rising f fd) (m_any : mg "any" = none) (m_len : mg "len" = none) (m_range : mg "range" = none) (g_is_below : FnAt P w K mg base CX0 1 "is_below" ["one", "other"] spBelow) : FnOk P w K mg base CX0 2 f fd ["some"] (spRising K) := by
  refine F.ok sc_are_rising (fun vs H Q E h => ?_) (fun cdv A outer s H vs Q E hr h => ?_)
  · obtain ⟨v, ⟨a, xs, rfl, _⟩, _⟩ := h
    rfl
  · obtain ⟨v, ⟨a, xs, rfl, hq, hl, hall, rfl⟩, q⟩ := h
    refine ⟨_, PSs.nox (pss_one (ps_ret (pe_not (pe_callB (cr_anyK K) rfl m_any (by decide +kernel) (pa_cons (pe_lc (own := [("at", 1)]) rfl sc_are_rising.nd (pi_range1 rfl m_range (pa_cons (pe_op op_sub (pe_callB (call_lenK K) rfl m_len (by decide +kernel) (pa_cons (pv 0) (pa_nil))) (pe_int)) (pa_nil))) (blkOk_by (N := N_are_rising) (sc := defScope s_are_rising) (by decide +kernel)) (fun _ _ _ _ _ => pg_name (i := 1) sc_are_rising.nd rfl (.inl rfl)) (fun _ _ _ _ _ => pts_nil) (fun _ _ _ _ _ => pe_fn g_is_below hr rfl (pa_cons (pe_ix (ix_sqK K) (pv 0) (pe_op op_add (pv 1) (pe_int)) (fun _ _ => rfl)) (pa_cons (pe_ix (ix_sqK K) (pv 0) (pv 1) (fun _ _ => rfl)) (pa_nil))))) (pa_nil)))))), ?_⟩
    refine ⟨_, rfl, a, xs, rfl, hq, _, _, rfl, rfl, _, rfl, by omega, by omega, fun D hD => ?_⟩
    have hn : ((xs.length : Int) - 1).toNat = xs.length - 1 := by omega
    rw [hn]
    refine lc_rg (fun i => .bl (belowV (xs.getD (i + 1) .non) (xs.getD i .non))) (by omega) hD (fun i hi H1 s1 R k => ?_) fun H' s1 hD' => ?_
    · have e0 : (0 : Int) + (i : Int) + 1 = ((i + 1 : Nat) : Int) := by omega
      have e1 : (0 : Int) + (i : Int) = ((i : Nat) : Int) := by omega
      refine ⟨_, rfl, _, rfl, _, _, rfl, rfl, a, xs, _, _, rfl, rfl, hq.ex s1, ?_, _, rfl, _, rfl, a, xs, _, _, rfl, rfl, hq.ex s1, ?_, _, ⟨_, _, rfl, ?_, ?_, rfl⟩, k⟩
      · rw [e0]
        exact getD_at (by omega)
      · rw [e1]
        exact getD_at (by omega)
      · exact all_getD hall (by omega)
      · exact all_getD hall (by omega)
    · refine ⟨D, (List.range (xs.length - 1)).map (fun i => belowV (xs.getD (i + 1) .non) (xs.getD i .non)), rfl, .inl (.inl ?_), _, rfl, q _ s1⟩
      rw [hD', List.map_map]
      rfl
end
end WW

set_option Elab.async false
set_option linter.all false
set_option maxRecDepth 100000
set_option maxHeartbeats 4000000
namespace WW
open PySem PySem.Spec PyProof.Rows L2
/-- an argument: no sequence, or a sequence of these -/
def Arg (K : PySem.W.Frag) (H : Hp) (x : V) : Option (List V) → Prop
  | none => HasT K H x false
  | some xs => ∃ a, x = .ref a ∧ Sq K H a xs ∧ xs.length ≤ 20000 ∧ ∀ y ∈ xs, ∃ sq, HasT K H y sq
def intOf : V → Int
  | .int i => i
  | _ => 0
def hd (xs : List V) : V := xs.getD 0 .non
def lst (xs : List V) : V := xs.getD (xs.length - 1) .non
def wrongA (xs ys : List V) (m : V) : V :=
  if (ys.isEmpty || !ys.all isThingV) = true then .str "again"
  else if (!risingV (cutV xs (some (-1)) none ++ ys) || (decide (hd ys = .non) && !decide (lst ys = .non))) = true then .str "again"
  else if isNumV m = false then .str "more"
  else if hd ys = .non then (if m = .int 0 then .non else .str "more")
  else if intOf (lst ys) ≤ intOf (hd ys) + intOf m then .non else .str "more"
def wrongB (xs : List V) (m : V) : Option (List V) → V
  | none => .str "again"
  | some ys => wrongA xs ys m
def wrongW (o1 o2 : Option (List V)) (m : V) : V := match o1 with
  | none => .str "first"
  | some xs => if (xs.all isThingV && risingV xs) = true then wrongB xs m o2 else .str "first"
def spWrong (K : PySem.W.Frag) : Sp := spV fun vs H v => ∃ x y m o1 o2 sq, vs = [x, y, m] ∧ Arg K H x o1 ∧ Arg K H y o2 ∧ HasT K H m sq ∧ v = wrongW o1 o2 m
theorem Arg.ex {K : PySem.W.Frag} {H H' : Hp} {x : V} {o : Option (List V)} (e : Same H H') (h : Arg K H x o) : Arg K H' x o := by
  cases o with
  | none => exact HasT.ex e h
  | some xs =>
    obtain ⟨a, r, hq, hl, hy⟩ := h
    exact ⟨a, r, hq.ex e, hl, fun y m => ⟨_, (hy y m).choose_spec.ex e⟩⟩
theorem risingV_at {xs : List V} (h : risingV xs = true) {i : Nat} (hi : i + 1 < xs.length) : belowV (xs.getD (i + 1) .non) (xs.getD i .non) = false := by
  unfold risingV at h
  rw [Bool.not_eq_true', List.any_eq_false] at h
  have q := h (belowV (xs.getD (i + 1) .non) (xs.getD i .non)) (List.mem_map.mpr ⟨i, List.mem_range.mpr (by omega), rfl⟩)
  simpa using q
theorem risingV_of {xs : List V} (h : ∀ i, i + 1 < xs.length → belowV (xs.getD (i + 1) .non) (xs.getD i .non) = false) : risingV xs = true := by
  unfold risingV
  rw [Bool.not_eq_true', List.any_eq_false]
  intro b hb
  obtain ⟨i, hi, rfl⟩ := List.mem_map.mp hb
  rw [List.mem_range] at hi
  simpa using h i (by omega)
theorem rising_ints {xs : List V} (ht : xs.all isThingV = true) (h : risingV xs = true) (h0 : isIntV (xs.getD 0 .non) = true) : ∀ i, i < xs.length → isIntV (xs.getD i .non) = true
  | 0, _ => h0
  | i + 1, hi => by
    have ih := rising_ints ht h h0 i (by omega)
    have q := risingV_at h hi
    have t := all_getD ht hi
    revert q t ih
    cases xs.getD (i + 1) V.non <;> cases xs.getD i V.non <;> intro ih q t <;> first | rfl | (cases ih; done) | (cases t; done) | (cases q; done)
theorem rising_drop {xs ys : List V} (h : risingV (xs ++ ys) = true) : risingV ys = true := by
  refine risingV_of fun i hi => ?_
  have q := risingV_at (xs := xs ++ ys) h (i := xs.length + i) (by rw [List.length_append]; omega)
  simp only [List.getD_eq_getElem?_getD] at q ⊢
  rw [List.getElem?_append_right (by omega), List.getElem?_append_right (by omega)] at q
  rw [show xs.length + i + 1 - xs.length = i + 1 by omega, show xs.length + i - xs.length = i by omega] at q
  exact q
section
variable {P : Program} {w : World} {K : PySem.W.Frag} {mg : Str → Option Value} {base : Heap} {f : Addr} {fd : FuncData}
/-- all([is_thing(x) for x in xs]) -/
theorem all_things {σ : L2.St} {H : Hp} {Q : VK} {tl : TE} {a : Addr} {j : Nat} {xs : List V} (hj : j < σ.length) (hv : ∀ R : VK, R (.ref a) H → tl σ H R) (hq : Sq K H a xs) (hl : xs.length ≤ 20000) (hy : ∀ y ∈ xs, ∃ sq, HasT K H y sq)
    (k : ∀ H', Same H H' → Q (.bl (xs.all isThingV)) H') : tCB (rAll K) (tCons (tLc (iSeq K tl) (gName j) tYes (tCall (spThing K) [] E0 (tCons (tVar j) tNil)) [j]) tNil) σ H Q := by
  show tLc (iSeq K tl) (gName j) tYes (tCall (spThing K) [] E0 (tCons (tVar j) tNil)) [j] σ H (fun x H1 => rAll K [x] H1 Q)
  refine lc_sq (K := K) (fun x => .bl (isThingV x)) hv hq (by omega) (fun x hx H1 s1 R r => ?_) fun D H' s1 _ hD => ?_
  · obtain ⟨sq, ht⟩ := hy x hx
    refine ⟨x, ?_, _, ⟨x, sq, rfl, ht.ex s1, rfl⟩, r⟩
    rw [List.getElem?_set_self]
    rw [wipe_length]
    exact hj
  · refine ⟨D, xs.map isThingV, rfl, .inl (.inl ?_), ?_⟩
    · rw [hD, List.map_map]
      rfl
    · have e : (xs.map isThingV).all id = xs.all isThingV := by rw [List.all_map]; rfl
      rw [e]
      exact k H' s1
abbrev s_wrong_word : Stmt := top 17
abbrev N_wrong_word : List Str := ["first", "again", "more", "thing"]
theorem sc_wrong_word : FnScope N_wrong_word ["first", "again", "more"] (defScope s_wrong_word) := ⟨rfl, rfl, rfl, by decide +kernel, rfl, by decide +kernel, by decide +kernel⟩

set_option maxHeartbeats 8000000 in
theorem ok_wrong_word (F : FnP K "wrong_word" s_wrong_word f fd) (m_all : mg "all" = none) (m_len : mg "len" = none) (g_is_sequence : FnAt P w K mg base CX0 1 "is_sequence" ["value"] (spSequence K)) (g_is_thing : FnAt P w K mg base CX0 2 "is_thing" ["value"] (spThing K))
    (g_is_number : FnAt P w K mg base CX0 2 "is_number" ["value"] (spNumber K)) (g_are_rising : FnAt P w K mg base CX0 2 "are_rising" ["some"] (spRising K)) : FnOk P w K mg base CX0 3 f fd ["first", "again", "more"] (spWrong K) := by
  refine F.ok sc_wrong_word (fun vs H Q E h => ?_) (fun cdv A outer s H vs Q E hr h => ?_)
  · obtain ⟨v, ⟨x, y, m, o1, o2, sq, rfl, _⟩, _⟩ := h
    rfl
  · obtain ⟨v, ⟨x, y, m, o1, o2, sq, rfl, h1, h2, h3, rfl⟩, q⟩ := h
    refine ⟨_, PSs.nox (pss_cons (ps_if (PW.pt (pw_or (pt_not (pt_val (pe_fn g_is_sequence hr rfl (pa_cons (pv 0) (pa_nil))))) (pw_or (pt_not (pt_val (pe_callB (cr_allK K) rfl m_all (by decide +kernel) (pa_cons (pe_lc (own := [("thing", 3)]) rfl sc_wrong_word.nd (pi_seqK K (pv 0)) (blkOk_by (N := N_wrong_word) (sc := defScope s_wrong_word) (by decide +kernel)) (fun _ _ _ _ _ => pg_name (i := 3) sc_wrong_word.nd rfl (.inl rfl)) (fun _ _ _ _ _ => pts_nil) (fun _ _ _ _ _ => pe_fn g_is_thing hr rfl (pa_cons (pv 3) (pa_nil)))) (pa_nil))))) (pw_or1 (pt_not (pt_val (pe_fn g_are_rising hr rfl (pa_cons (pv 0) (pa_nil))))))))) (pss_one (ps_ret (pe_str))) (pss_nil))
 (pss_cons (ps_if (PW.pt (pw_or (pt_not (pt_val (pe_fn g_is_sequence hr rfl (pa_cons (pv 1) (pa_nil))))) (pw_or (pt_cmpR op_eq (pe_callB (call_lenK K) rfl m_len (by decide +kernel) (pa_cons (pv 1) (pa_nil))) (pe_int) (nomark _)) (pw_or1 (pt_not (pt_val (pe_callB (cr_allK K) rfl m_all (by decide +kernel) (pa_cons (pe_lc (own := [("thing", 3)]) rfl sc_wrong_word.nd (pi_seqK K (pv 1)) (blkOk_by (N := N_wrong_word) (sc := defScope s_wrong_word) (by decide +kernel)) (fun _ _ _ _ _ => pg_name (i := 3) sc_wrong_word.nd rfl (.inl rfl)) (fun _ _ _ _ _ => pts_nil) (fun _ _ _ _ _ => pe_fn g_is_thing hr rfl (pa_cons (pv 3) (pa_nil)))) (pa_nil))))))))) (pss_one (ps_ret (pe_str))) (pss_nil))
 (pss_cons (ps_if (PW.pt (pw_or (pt_not (pt_val (pe_fn g_are_rising hr rfl (pa_cons (pe_lst (pa_starK K (pe_slice (sl_sqK K) (pv 0) (po_some (pe_un un_neg (pe_int))) (po_none)) (pa_starK K (pv 1) (pa_nil)))) (pa_nil))))) (pw_or1 (PW.pt (pw_and (pt_cmpR op_isN (pe_ix (ix_sqK K) (pv 1) (pe_int) (fun _ _ => rfl)) (pe_non) (nomark _)) (pw_and1 (pt_cmpR op_notN (pe_ix (ix_sqK K) (pv 1) (pe_un un_neg (pe_int)) (fun _ _ => rfl)) (pe_non) (nomark _)))))))) (pss_one (ps_ret (pe_str))) (pss_nil))
 (pss_cons (ps_if (pt_not (pt_val (pe_fn g_is_number hr rfl (pa_cons (pv 2) (pa_nil))))) (pss_one (ps_ret (pe_str))) (pss_nil))
 (pss_cons (ps_if (pt_cmpR op_isN (pe_ix (ix_sqK K) (pv 1) (pe_int) (fun _ _ => rfl)) (pe_non) (nomark _)) (pss_one (ps_ret (pe_ifExp (pt_cmpR op_eq (pv 2) (pe_int) (nomark _)) (pe_non) (pe_str)))) (pss_nil))
 (pss_one (ps_ret (pe_ifExp (pt_cmpR op_le (pe_ix (ix_sqK K) (pv 1) (pe_un un_neg (pe_int)) (fun _ _ => rfl)) (pe_op op_add (pe_ix (ix_sqK K) (pv 1) (pe_int) (fun _ _ => rfl)) (pv 2)) (nomark _)) (pe_non) (pe_str))))))))), ?_⟩
    cases o1 with
    | none => exact ⟨_, rfl, _, ⟨x, false, rfl, h1, rfl⟩, fun H1 s1 => ⟨_, rfl, q _ s1⟩⟩
    | some xs =>
      obtain ⟨a, rfl, hq, hl, hy⟩ := id h1
      refine ⟨_, rfl, _, ⟨_, true, rfl, hq.hasT, rfl⟩, fun H1 s1 => ⟨_, rfl, ?_⟩⟩
      refine all_things (show 3 < 4 by decide) (fun R r => ⟨_, rfl, r⟩) (hq.ex s1) hl (fun y my => ⟨_, (hy y my).choose_spec.ex s1⟩) fun H2 s2 => ⟨_, rfl, ?_⟩
      have s12 := s1.trans s2
      have q : ∀ H', Same H H' → Q (if (xs.all isThingV && risingV xs) = true then wrongB xs m o2 else V.str "first") H' := q
      cases ht : xs.all isThingV with
      | false =>
        rw [ht] at q
        exact q _ s12
      | true =>
        rw [ht, Bool.true_and] at q
        refine ⟨_, rfl, _, ⟨a, xs, rfl, hq.ex s12, by omega, ht, rfl⟩, fun H3 s3 => ⟨_, rfl, ?_⟩⟩
        have s13 := s12.trans s3
        cases hr1 : risingV xs with
        | false =>
          rw [hr1] at q
          exact q _ s13
        | true =>
          rw [hr1, if_pos rfl] at q
          cases o2 with
          | none => exact ⟨_, rfl, _, ⟨y, false, rfl, HasT.ex s13 h2, rfl⟩, fun H4 s4 => ⟨_, rfl, q _ (s13.trans s4)⟩⟩
          | some ys =>
            obtain ⟨b, rfl, kq, kl, ky⟩ := id h2
            refine ⟨_, rfl, _, ⟨_, true, rfl, (kq.ex s13).hasT, rfl⟩, fun H4 s4 => ⟨_, rfl, ?_⟩⟩
            have s14 := s13.trans s4
            refine ⟨_, rfl, b, ys, rfl, kq.ex s14, rfl, _, rfl, ?_⟩
            have q : ∀ H', Same H H' → Q (wrongA xs ys m) H' := q
            unfold wrongA at q
            cases hz : ys.isEmpty with
            | true =>
              have e0 : ys = [] := List.isEmpty_iff.mp hz
              subst e0
              exact q _ s14
            | false =>
              have e0 : ¬ V.int (ys.length : Int) = V.int 0 := fun z => by
                have z1 : (ys.length : Int) = 0 := V.int.inj z
                have z2 : ys = [] := List.eq_nil_of_length_eq_zero (by omega)
                rw [z2] at hz
                cases hz
              have hpos : 0 < ys.length := by
                cases ys with
                | nil => exact absurd rfl e0
                | cons _ _ => exact Nat.succ_pos _
              rw [decide_eq_false e0]
              refine all_things (show 3 < 4 by decide) (fun R r => ⟨_, rfl, r⟩) (kq.ex s14) kl (fun y my => ⟨_, (ky y my).choose_spec.ex s14⟩) fun H5 s5 => ⟨_, rfl, ?_⟩
              have s15 := s14.trans s5
              cases kt : ys.all isThingV with
              | false =>
                rw [hz, kt] at q
                exact q _ s15
              | true =>
                rw [hz, kt, if_neg (by decide)] at q
                refine ⟨_, rfl, 1, rfl, _, rfl, slq (hq.ex s15) fun c H6 s6 hc => ?_⟩
                have s16 := s15.trans s6
                refine ⟨c, _, rfl, hc.symm, _, rfl, b, ys, rfl, (kq.ex s16).symm, ?_⟩
                have hlen : (cutV xs (some (-1)) none ++ ys).length ≤ 50000 := by
                  rw [List.length_append]
                  have := cutV_length xs (some (-1)) none
                  omega
                have hall : (cutV xs (some (-1)) none ++ ys).all isThingV = true := by
                  rw [List.all_append, kt, Bool.and_true, List.all_eq_true]
                  intro z hz
                  unfold cutV at hz
                  exact List.all_eq_true.mp ht z (List.mem_of_mem_drop (List.mem_of_mem_take hz))
                simp only [tNil, List.append_nil]
                refine ⟨Nat.le_trans hlen (by decide), fun p hp => ?_⟩
                have s7 : Same H6 (upd H6 p (.lst (cutV xs (some (-1)) none ++ ys))) := fun a o ha => (upd_ne (ne_of_none ha hp)).trans ha
                refine ⟨_, ⟨p, _, rfl, .l upd_same, hlen, hall, rfl⟩, fun H8 s8 => ⟨_, rfl, ?_⟩⟩
                have s18 := (s16.trans s7).trans s8
                have at0 : atI ys 0 = some (hd ys) := getD_at (i := 0) hpos
                have atL : atI ys (-1) = some (lst ys) := by
                  have e : ys = ys.dropLast ++ [ys.getLast (List.ne_nil_of_length_pos hpos)] := (List.dropLast_concat_getLast _).symm
                  have z : lst ys = ys.getLast (List.ne_nil_of_length_pos hpos) := by
                    unfold lst
                    rw [List.getD_eq_getElem?_getD, List.getElem?_eq_getElem (by omega), List.getLast_eq_getElem]
                    rfl
                  rw [z]
                  conv => lhs; rw [e]
                  exact atI_last _ _
                cases kr : risingV (cutV xs (some (-1)) none ++ ys) with
                | false =>
                  rw [kr] at q
                  exact q _ s18
                | true =>
                  rw [kr] at q
                  refine ⟨_, rfl, b, ys, _, _, rfl, rfl, kq.ex s18, at0, rfl, _, rfl, ?_⟩
                  cases hd0 : decide (hd ys = .non) with
                  | true =>
                    refine ⟨_, rfl, 1, rfl, b, ys, _, _, rfl, rfl, kq.ex s18, atL, rfl, _, rfl, ?_⟩
                    rw [hd0] at q
                    cases l0 : decide (lst ys = .non) with
                    | false =>
                      rw [l0] at q
                      exact q _ s18
                    | true =>
                      rw [l0] at q
                      refine ⟨_, rfl, _, ⟨m, sq, rfl, h3.ex s18, rfl⟩, fun H9 s9 => ⟨_, rfl, ?_⟩⟩
                      have s19 := s18.trans s9
                      cases nm : isNumV m with
                      | false =>
                        rw [nm] at q
                        exact q _ s19
                      | true =>
                        rw [nm] at q
                        refine ⟨_, rfl, b, ys, _, _, rfl, rfl, kq.ex s19, at0, rfl, _, rfl, ?_⟩
                        rw [hd0]
                        rw [if_pos (of_decide_eq_true hd0)] at q
                        refine ⟨_, rfl, ?_⟩
                        cases m with
                        | int i =>
                          refine ⟨rfl, _, rfl, ?_⟩
                          by_cases hi : V.int i = V.int 0
                          · rw [decide_eq_true hi]
                            rw [if_pos hi] at q
                            exact q _ s19
                          · rw [decide_eq_false hi]
                            rw [if_neg hi] at q
                            exact q _ s19
                        | _ => cases nm
                  | false =>
                    rw [hd0] at q
                    refine ⟨_, rfl, _, ⟨m, sq, rfl, h3.ex s18, rfl⟩, fun H9 s9 => ⟨_, rfl, ?_⟩⟩
                    have s19 := s18.trans s9
                    cases nm : isNumV m with
                    | false =>
                      rw [nm] at q
                      exact q _ s19
                    | true =>
                      rw [nm] at q
                      refine ⟨_, rfl, b, ys, _, _, rfl, rfl, kq.ex s19, at0, rfl, _, rfl, ?_⟩
                      rw [hd0]
                      rw [if_neg (of_decide_eq_false hd0)] at q
                      have i0 : isIntV (hd ys) = true := by
                        have t := all_getD kt hpos
                        have n := of_decide_eq_false hd0
                        revert t n
                        unfold hd
                        cases ys.getD 0 V.non <;> intro t n <;> first | rfl | exact absurd rfl n | (cases t; done)
                      have iL : isIntV (lst ys) = true := rising_ints kt (rising_drop kr) i0 _ (by omega)
                      obtain ⟨u, eu⟩ : ∃ u, hd ys = .int u := by
                        revert i0
                        cases hd ys <;> intro i0 <;> first | exact ⟨_, rfl⟩ | cases i0
                      obtain ⟨t, et⟩ : ∃ t, lst ys = .int t := by
                        revert iL
                        cases lst ys <;> intro iL <;> first | exact ⟨_, rfl⟩ | cases iL
                      cases m with
                      | int i =>
                        refine ⟨_, rfl, 1, rfl, b, ys, _, _, rfl, rfl, kq.ex s19, atL, _, rfl, b, ys, _, _, rfl, rfl, kq.ex s19, at0, _, rfl, u, i, eu, rfl, t, _, et, rfl, _, rfl, ?_⟩
                        rw [eu, et] at q
                        have q : ∀ H', Same H H' → Q (if t ≤ u + i then .non else .str "more") H' := q
                        by_cases hi : t ≤ u + i
                        · rw [decide_eq_true hi]
                          rw [if_pos hi] at q
                          exact q _ s19
                        · rw [decide_eq_false hi]
                          rw [if_neg hi] at q
                          exact q _ s19
                      | _ => cases nm
end
end WW

set_option Elab.async false
set_option linter.all false
set_option maxRecDepth 100000
set_option maxHeartbeats 4000000
namespace WW
open PySem PySem.Spec PyProof.Rows L2
def wide (ag : List Int) (m : Int) (t : Nat) : List Int := ag ++ (ag.take t).map (· + m)
def isTurn (ag : List Int) (m : Int) (t : Nat) : Bool :=
  if (ag.length : Int) % (t : Int) ≠ 0 ∨ m * (t : Int) % (ag.length : Int) ≠ 0 then false
  else (List.range ag.length).all fun i => decide ((wide ag m t).getD (i + t) 0 - (wide ag m t).getD i 0 = m * (t : Int) / (ag.length : Int))
theorem cut_to {xs : List V} {t : Nat} : cutV xs none (some (t : Int)) = xs.take t := by
  unfold cutV
  rw [HT.sIx_none, HT.sIx_nat, List.drop_zero, Nat.sub_zero]
  by_cases h : t ≤ xs.length
  · rw [Nat.min_eq_left h]
  · rw [Nat.min_eq_right (by omega), List.take_length, List.take_of_length_le (by omega)]
theorem ints_at {ns : List Int} {i : Nat} (h : i < ns.length) : atI (ns.map V.int) (i : Int) = some (.int (ns.getD i 0)) := by
  refine atI_nat ?_
  rw [List.getElem?_map, List.getD_eq_getElem?_getD, List.getElem?_eq_getElem h]
  rfl
theorem dec_int {a b : Int} : decide (V.int a = V.int b) = decide (a = b) := by
  by_cases h : a = b
  · rw [decide_eq_true h, decide_eq_true (by rw [h])]
  · rw [decide_eq_false h, decide_eq_false (fun z => h (V.int.inj z))]
theorem wide_len {ag : List Int} {m : Int} {t : Nat} (h : t ≤ ag.length) : (wide ag m t).length = ag.length + t := by
  unfold wide
  rw [List.length_append, List.length_map, List.length_take, Nat.min_eq_left h]
section
variable {P : Program} {w : World} {K : PySem.W.Frag} {mg : Str → Option Value} {base : Heap} {f : Addr} {fd : FuncData}
def spTurn (K : PySem.W.Frag) : Sp := spV fun vs H v => ∃ (a : Addr) (ag : List Int) (m : Int) (t : Nat), vs = [.ref a, .int m, .int (t : Int)] ∧ Sq K H a (ag.map V.int) ∧ 0 < t ∧ t ≤ ag.length ∧ ag.length ≤ 20000 ∧ v = .bl (isTurn ag m t)
abbrev s_is_turn : Stmt := top 18
abbrev N_is_turn : List Str := ["again", "more", "turn", "growth", "wide", "at", "thing"]
theorem sc_is_turn : FnScope N_is_turn ["again", "more", "turn"] (defScope s_is_turn) := ⟨rfl, rfl, rfl, by decide +kernel, rfl, by decide +kernel, by decide +kernel⟩

theorem ok_is_turn (F : FnP K "is_turn" s_is_turn f fd) (m_all : mg "all" = none) (m_len : mg "len" = none) (m_range : mg "range" = none) : FnOk P w K mg base CX0 1 f fd ["again", "more", "turn"] (spTurn K) := by
  refine F.ok sc_is_turn (fun vs H Q E h => ?_) (fun cdv A outer s H vs Q E hr h => ?_)
  · obtain ⟨v, ⟨a, ag, m, t, rfl, _⟩, _⟩ := h
    rfl
  · obtain ⟨v, ⟨a, ag, m, t, rfl, hq, h0, ht, hl, rfl⟩, q⟩ := h
    refine ⟨_, PSs.nox (pss_cons (ps_if (PW.pt (pw_or (pt_cmpR op_ne (pe_op op_mod (pe_callB (call_lenK K) rfl m_len (by decide +kernel) (pa_cons (pv 0) (pa_nil))) (pv 2)) (pe_int) (nomark _)) (pw_or1 (pt_cmpR op_ne (pe_op op_mod (pe_op op_mul (pv 1) (pv 2)) (pe_callB (call_lenK K) rfl m_len (by decide +kernel) (pa_cons (pv 0) (pa_nil)))) (pe_int) (nomark _))))) (pss_one (ps_ret (pe_bl))) (pss_nil))
 (pss_cons (ps_set (i := 3) sc_is_turn.nd rfl (.inr rfl) (pe_op op_fdiv (pe_op op_mul (pv 1) (pv 2)) (pe_callB (call_lenK K) rfl m_len (by decide +kernel) (pa_cons (pv 0) (pa_nil)))))
 (pss_cons (ps_set (i := 4) sc_is_turn.nd rfl (.inr rfl) (pe_lst (pa_starK K (pv 0) (pa_starK K (pe_lc (own := [("thing", 6)]) rfl sc_is_turn.nd (pi_seqK K (pe_slice (sl_sqK K) (pv 0) (po_none) (po_some (pv 2)))) (blkOk_by (N := N_is_turn) (sc := defScope s_is_turn) (by decide +kernel)) (fun _ _ _ _ _ => pg_name (i := 6) sc_is_turn.nd rfl (.inl rfl)) (fun _ _ _ _ _ => pts_nil) (fun _ _ _ _ _ => pe_op op_add (pv 6) (pv 1))) (pa_nil)))))
 (pss_one (ps_ret (pe_callB (cr_allK K) rfl m_all (by decide +kernel) (pa_cons (pe_lc (own := [("at", 5)]) rfl sc_is_turn.nd (pi_range1 rfl m_range (pa_cons (pe_callB (call_lenK K) rfl m_len (by decide +kernel) (pa_cons (pv 0) (pa_nil))) (pa_nil))) (blkOk_by (N := N_is_turn) (sc := defScope s_is_turn) (by decide +kernel)) (fun _ _ _ _ _ => pg_name (i := 5) sc_is_turn.nd rfl (.inl rfl)) (fun _ _ _ _ _ => pts_nil) (fun _ _ _ _ _ => pe_cmpR op_eq (pe_op op_sub (pe_ix (ix_sqK K) (pv 4) (pe_op op_add (pv 5) (pv 2)) (fun _ _ => rfl)) (pe_ix (ix_sqK K) (pv 4) (pv 5) (fun _ _ => rfl))) (pv 3) (nomark _))) (pa_nil)))))))), ?_⟩
    have hlen : ((ag.map V.int).length : Int) = (ag.length : Int) := by rw [List.length_map]
    have hpos : (0 : Int) < ((ag.map V.int).length : Int) := by rw [hlen]; omega
    have t0 : (0 : Int) < (t : Int) := by omega
    refine ⟨_, rfl, a, _, rfl, hq, _, rfl, _, _, rfl, rfl, t0, rfl, _, rfl, ?_⟩
    unfold isTurn at q
    rw [hlen, dec_int]
    by_cases c1 : (ag.length : Int) % (t : Int) = 0
    · rw [decide_eq_true c1]
      refine ⟨_, rfl, _, rfl, _, _, rfl, rfl, .inr ⟨by omega, by omega⟩, _, rfl, a, _, rfl, hq, _, _, rfl, rfl, hpos, rfl, _, rfl, ?_⟩
      rw [hlen, dec_int]
      by_cases c2 : m * (t : Int) % (ag.length : Int) = 0
      · rw [decide_eq_true c2]
        rw [if_neg (by rw [c1, c2]; simp)] at q
        refine ⟨_, rfl, _, rfl, _, _, rfl, rfl, .inr ⟨by omega, by omega⟩, _, rfl, a, _, rfl, hq, _, _, rfl, rfl, ⟨hpos, by rw [hlen]; omega⟩, ?_⟩
        refine ⟨_, rfl, a, _, rfl, hq.symm, ?_⟩
        refine lc_sqG (K := K) (xs := (ag.take t).map V.int) (fun x => .int (intOf x + m)) (fun R r => ⟨_, rfl, _, rfl, _, rfl, slq hq fun p H1 s1 h1 => ?_⟩) (by rw [List.length_map, List.length_take]; omega) (fun x hx H1 s1 R r => ?_) fun D H1 s1 hD hD1 => ?_
        · rw [cut_to, ← List.map_take] at h1
          exact r p H1 s1 h1
        · obtain ⟨i, _, rfl⟩ := List.mem_map.mp hx
          exact ⟨_, rfl, _, rfl, _, _, rfl, rfl, r H1 (Same.refl H1)⟩
        · refine ⟨D, _, rfl, .inr (.inl (.inl hD1)), ?_⟩
          have ew : (ag.map V.int ++ (((ag.take t).map V.int).map (fun x => V.int (intOf x + m)) ++ [])) = (wide ag m t).map V.int := by
            unfold wide
            rw [List.append_nil, List.map_append, List.map_map, List.map_map]
            rfl
          refine ⟨?_, fun p hp => ?_⟩
          · rw [ew, List.length_map, wide_len ht]
            exact Nat.le_trans (show ag.length + t ≤ 50000 by omega) (by decide)
          · rw [ew]
            have s2 := s1.trans (same_new (o := .lst ((wide ag m t).map V.int)) hp)
            refine ⟨_, rfl, a, _, rfl, hq.ex s2, _, rfl, by omega, by omega, fun D2 hD2 => ?_⟩
            rw [hlen, Int.toNat_natCast]
            refine lc_rg (fun i => .bl (decide ((wide ag m t).getD (i + t) 0 - (wide ag m t).getD i 0 = m * (t : Int) / (ag.length : Int)))) (by omega) hD2 (fun i hi H3 s3 R r => ?_) fun H3 s3 hD3 => ?_
            · have hw : Sq K H3 p ((wide ag m t).map V.int) := .l (s3 _ _ upd_same)
              have e0 : (0 : Int) + (i : Int) + (t : Int) = ((i + t : Nat) : Int) := by omega
              have e1 : (0 : Int) + (i : Int) = (i : Int) := by omega
              refine ⟨_, rfl, _, rfl, _, rfl, _, _, rfl, rfl, p, _, _, .int ((wide ag m t).getD (i + t) 0), rfl, rfl, hw, ?_, _, rfl, _, rfl, p, _, _, .int ((wide ag m t).getD i 0), rfl, rfl, hw, ?_, _, _, rfl, rfl, _, rfl, rfl, ?_⟩
              · rw [e0]
                exact ints_at (by rw [wide_len ht]; omega)
              · rw [e1]
                exact ints_at (by rw [wide_len ht]; omega)
              · rw [dec_int]
                exact r H3 (Same.refl H3)
            · refine ⟨D2, (List.range ag.length).map fun i => decide ((wide ag m t).getD (i + t) 0 - (wide ag m t).getD i 0 = m * (t : Int) / (ag.length : Int)), rfl, .inl (.inl ?_), ?_⟩
              · rw [hD3, List.map_map]
                rfl
              · rw [List.all_map]
                exact q _ (s2.trans s3)
      · rw [decide_eq_false c2]
        rw [if_pos (.inr c2)] at q
        exact q _ (Same.refl H)
    · rw [decide_eq_false c1]
      rw [if_pos (.inl c1)] at q
      exact q _ (Same.refl H)
end
end WW

set_option Elab.async false
set_option linter.all false
set_option maxRecDepth 100000
set_option maxHeartbeats 4000000
namespace WW
open PySem PySem.Spec PyProof.Rows L2
def turns (ag : List Int) (m : Int) : List Nat := (List.range ag.length).filter fun i => isTurn ag m (i + 1)
def turnOf (ag : List Int) (m : Int) : Nat := (turns ag m).headD 0 + 1
def lastI (ag : List Int) : Int := ag.getD (ag.length - 1) 0
def shrinkR (m : Int) : List V → List Int → List V × List Int
  | .int x :: r, ag => if x + m = lastI ag then shrinkR m r (x :: ag.dropLast) else (.int x :: r, ag)
  | r, ag => (r, ag)
def leastF (fs : List V) (ag : List Int) (m : Int) : List V × List Int × Int :=
  ((shrinkR (m * (turnOf ag m : Int) / (ag.length : Int)) fs.reverse (ag.take (turnOf ag m))).1.reverse, (shrinkR (m * (turnOf ag m : Int) / (ag.length : Int)) fs.reverse (ag.take (turnOf ag m))).2, m * (turnOf ag m : Int) / (ag.length : Int))
def leastV (fs ys : List V) (m : Int) : List V × List V × Int :=
  if hd ys = .non then ([], [.non], 0) else ((leastF fs (ys.map intOf) m).1, (leastF fs (ys.map intOf) m).2.1.map V.int, (leastF fs (ys.map intOf) m).2.2)
theorem isTurn_len {ag : List Int} {m : Int} (h : 0 < ag.length) : isTurn ag m ag.length = true := by
  unfold isTurn
  rw [if_neg (by simp)]
  rw [List.all_eq_true]
  intro i hi
  rw [List.mem_range] at hi
  refine decide_eq_true ?_
  have e : m * (ag.length : Int) / (ag.length : Int) = m := Int.mul_ediv_cancel _ (by omega)
  rw [e]
  unfold wide
  rw [List.take_length]
  simp only [List.getD_eq_getElem?_getD]
  rw [List.getElem?_append_right (by omega), List.getElem?_append_left hi, List.getElem?_map, show i + ag.length - ag.length = i by omega, List.getElem?_eq_getElem hi]
  simp only [Option.map_some, Option.getD_some]
  omega
theorem turns_ne {ag : List Int} {m : Int} (h : 0 < ag.length) : turns ag m ≠ [] := by
  have q : ag.length - 1 ∈ turns ag m := by
    unfold turns
    rw [List.mem_filter, List.mem_range]
    refine ⟨by omega, ?_⟩
    rw [show ag.length - 1 + 1 = ag.length by omega]
    exact isTurn_len h
  exact List.ne_nil_of_mem q
theorem turnOf_mem {ag : List Int} {m : Int} (h : 0 < ag.length) : turnOf ag m - 1 ∈ turns ag m := by
  unfold turnOf
  rw [Nat.add_sub_cancel]
  cases e : turns ag m with
  | nil => exact absurd e (turns_ne h)
  | cons x r => exact List.mem_cons_self
theorem turnOf_pos (ag : List Int) (m : Int) : 0 < turnOf ag m := Nat.succ_pos _
theorem turnOf_le {ag : List Int} {m : Int} (h : 0 < ag.length) : turnOf ag m ≤ ag.length := by
  have q := turnOf_mem (m := m) h
  unfold turns at q
  rw [List.mem_filter, List.mem_range] at q
  have := turnOf_pos ag m
  omega
theorem turnOf_is {ag : List Int} {m : Int} (h : 0 < ag.length) : isTurn ag m (turnOf ag m) = true := by
  have q := turnOf_mem (m := m) h
  unfold turns at q
  rw [List.mem_filter] at q
  rw [show turnOf ag m - 1 + 1 = turnOf ag m from Nat.succ_pred_eq_of_pos (turnOf_pos ag m)] at q
  exact q.2
theorem at_last {xs : List V} {v : V} : atI (xs ++ [v]) (-1) = some v := atI_last xs v
theorem ints_last {ag : List Int} (h : 0 < ag.length) : atI (ag.map V.int) (-1) = some (.int (lastI ag)) := by
  have hn : ag ≠ [] := List.ne_nil_of_length_pos h
  have e : ag = ag.dropLast ++ [ag.getLast hn] := (List.dropLast_concat_getLast hn).symm
  have z : lastI ag = ag.getLast hn := by
    unfold lastI
    rw [List.getD_eq_getElem?_getD, List.getElem?_eq_getElem (by omega), List.getLast_eq_getElem]
    rfl
  rw [z]
  conv => lhs; rw [e, List.map_append]
  exact at_last
theorem cut_but {xs : List V} (h : 0 < xs.length) : cutV xs none (some (-1)) = xs.dropLast := by
  unfold cutV
  rw [HT.sIx_none]
  have e : HT.sIx xs.length xs.length (some (-1)) = xs.length - 1 := by
    show (if (-1 : Int) < 0 then ((-1 : Int) + (xs.length : Int)).toNat else min (-1 : Int).toNat xs.length) = xs.length - 1
    rw [if_pos (by decide)]
    omega
  rw [e, List.drop_zero, Nat.sub_zero, List.dropLast_eq_take]
section
variable {P : Program} {w : World} {K : PySem.W.Frag} {mg : Str → Option Value} {base : Heap} {f : Addr} {fd : FuncData}
def spLeast (K : PySem.W.Frag) : Sp := fun vs H Q _ => ∃ (a b : Addr) (fs ys : List V) (m : Int), vs = [.ref a, .ref b, .int m] ∧ Sq K H a fs ∧ Sq K H b ys ∧ fs.length ≤ 20000 ∧ ys.length ≤ 20000 ∧ 0 < ys.length ∧ fs.all isThingV = true ∧ (hd ys = .non ∨ ∃ ag : List Int, ys = ag.map V.int) ∧
  ∀ p p1 p2 H', Same H H' → H' p = some (.tup [.ref p1, .ref p2, .int (leastV fs ys m).2.2]) → H' p1 = some (.tup (leastV fs ys m).1) → H' p2 = some (.tup (leastV fs ys m).2.1) → H p1 = none → H p2 = none → Q (.ref p) H'
/-- (tuple(a), tuple(b), m), of two lists -/
theorem ret3 {σ : L2.St} {H : Hp} {Q : VK} {f1 a1 : Addr} {xs ys : List V} {m : V} {r : L2.St} (e : σ = some (.ref f1) :: some (.ref a1) :: some m :: r) (h1 : H f1 = some (.lst xs)) (h2 : H a1 = some (.lst ys))
    (k : ∀ p p1 p2 H', Same H H' → H' p = some (.tup [.ref p1, .ref p2, m]) → H' p1 = some (.tup xs) → H' p2 = some (.tup ys) → H p1 = none → H p2 = none → Q (.ref p) H') :
    tTup (tCons (tCB (rTupQ K) (tCons (tVar 0) tNil)) (tCons (tCB (rTupQ K) (tCons (tVar 1) tNil)) (tCons (tVar 2) tNil))) σ H Q := by
  subst e
  refine ⟨_, rfl, ⟨f1, xs, rfl, .inl ⟨.inl (.inl h1), fun p1 n1 => ⟨_, rfl, ⟨a1, ys, rfl, .inl ⟨.inl (.inl (same_new n1 _ _ h2)), fun p2 n2 => ⟨_, rfl, by show 3 ≤ sizeLine; decide, fun p n3 => ?_⟩⟩⟩⟩⟩⟩⟩
  have n12 : p1 ≠ p2 := ne_of_none upd_same n2
  have h1' : (upd (upd (upd H p1 (.tup xs)) p2 (.tup ys)) p (.tup [.ref p1, .ref p2, m])) p1 = some (.tup xs) := same_new n3 _ _ ((upd_ne n12).trans upd_same)
  exact k p p1 p2 _ (((same_new n1).trans (same_new n2)).trans (same_new n3)) upd_same h1' (same_new n3 _ _ upd_same) n1 ((same_new n1).free n2)
theorem shrink_nil {m : Int} {bg : List Int} : shrinkR m [] bg = ([], bg) := rfl
theorem shrink_go {m x : Int} {r : List V} {bg : List Int} (h : x + m = lastI bg) : shrinkR m (.int x :: r) bg = shrinkR m r (x :: bg.dropLast) := by
  show (if x + m = lastI bg then shrinkR m r (x :: bg.dropLast) else (.int x :: r, bg)) = _
  rw [if_pos h]
theorem shrink_no {m x : Int} {r : List V} {bg : List Int} (h : ¬ x + m = lastI bg) : shrinkR m (.int x :: r) bg = (.int x :: r, bg) := by
  show (if x + m = lastI bg then shrinkR m r (x :: bg.dropLast) else (.int x :: r, bg)) = _
  rw [if_neg h]
abbrev s_least_form : Stmt := top 19
abbrev N_least_form : List Str := ["first", "again", "more", "turn"]
theorem sc_least_form : FnScope N_least_form ["first", "again", "more"] (defScope s_least_form) := ⟨rfl, rfl, rfl, by decide +kernel, rfl, by decide +kernel, by decide +kernel⟩

theorem ok_least_form (F : FnP K "least_form" s_least_form f fd) (m_list : mg "list" = none) (m_len : mg "len" = none) (m_range : mg "range" = none) (m_tuple : mg "tuple" = none) (g_is_turn : FnAt P w K mg base CX0 1 "is_turn" ["again", "more", "turn"] (spTurn K)) : FnOk P w K mg base CX0 2 f fd ["first", "again", "more"] (spLeast K) := by
  refine F.ok sc_least_form (fun vs H Q E h => ?_) (fun cdv A outer s H vs Q E hr h => ?_)
  · obtain ⟨a, b, fs, ys, m, rfl, _⟩ := h
    rfl
  · obtain ⟨a, b, fs, ys, m, rfl, hq, kq, hl, kl, k0, ht, kt, q⟩ := h
    refine ⟨_, PSs.nox (pss_cons (ps_if (pt_cmpR op_isN (pe_ix (ix_sqK K) (pv 1) (pe_int) (fun _ _ => rfl)) (pe_non) (nomark _)) (pss_one (ps_ret (pe_tup (pa_cons (pe_tup (pa_nil)) (pa_cons (pe_tup (pa_cons (pe_non) (pa_nil))) (pa_cons (pe_int) (pa_nil))))))) (pss_nil))
 (pss_cons (ps_set (i := 3) sc_least_form.nd rfl (.inl rfl) (pe_ix (ix_sqK K) (pe_lc (own := [("turn", 3)]) rfl sc_least_form.nd (pi_range2 rfl m_range (pa_cons (pe_int) (pa_cons (pe_op op_add (pe_callB (call_lenK K) rfl m_len (by decide +kernel) (pa_cons (pv 1) (pa_nil))) (pe_int)) (pa_nil)))) (blkOk_by (N := N_least_form) (sc := defScope s_least_form) (by decide +kernel)) (fun _ _ _ _ _ => pg_name (i := 3) sc_least_form.nd rfl (.inl rfl)) (fun _ _ _ _ _ => pts_one (pt_val (pe_fn g_is_turn hr rfl (pa_cons (pv 1) (pa_cons (pv 2) (pa_cons (pv 3) (pa_nil))))))) (fun _ _ _ _ _ => pv 3)) (pe_int) (fun _ _ => rfl)))
 (pss_cons (ps_set (i := 2) sc_least_form.nd rfl (.inr rfl) (pe_op op_fdiv (pe_op op_mul (pv 2) (pv 3)) (pe_callB (call_lenK K) rfl m_len (by decide +kernel) (pa_cons (pv 1) (pa_nil)))))
 (pss_cons (ps_asg (pe_tup (pa_cons (pe_callTy (call_listK K) rfl m_list (by decide +kernel) (pa_cons (pv 0) (pa_nil))) (pa_cons (pe_callTy (call_listK K) rfl m_list (by decide +kernel) (pa_cons (pe_slice (sl_sqK K) (pv 1) (po_none) (po_some (pv 3))) (pa_nil))) (pa_nil)))) (pg_tupK (n := 2) K rfl (pgs_cons (pg_name (i := 0) sc_least_form.nd rfl (.inl rfl)) (pgs_cons (pg_name (i := 1) sc_least_form.nd rfl (.inr rfl)) (pgs_nil)))))
 (pss_cons (ps_while PassesOwn.never (PW.pt (pw_and (pt_cmpR op_gt (pe_callB (call_lenK K) rfl m_len (by decide +kernel) (pa_cons (pv 0) (pa_nil))) (pe_int) (nomark _)) (pw_and (pt_cmpR op_notN (pe_ix (ix_sqK K) (pv 0) (pe_un un_neg (pe_int)) (fun _ _ => rfl)) (pe_non) (nomark _)) (pw_and1 (pt_cmpR op_eq (pe_op op_add (pe_ix (ix_sqK K) (pv 0) (pe_un un_neg (pe_int)) (fun _ _ => rfl)) (pv 2)) (pe_ix (ix_sqK K) (pv 1) (pe_un un_neg (pe_int)) (fun _ _ => rfl)) (nomark _)))))) (pss_one (ps_set (i := 1) sc_least_form.nd rfl (.inr rfl) (pe_lst (pa_cons (pe_bm0K K PySem.F.plainAttrs_list PySem.F.slot_list_pop PySem.F.type_list_pop mt_pop (pv 0)) (pa_starK K (pe_slice (sl_sqK K) (pv 1) (po_none) (po_some (pe_un un_neg (pe_int)))) (pa_nil)))))))
 (pss_one (ps_ret (pe_tup (pa_cons (pe_callTy (call_tupleK K) rfl m_tuple (by decide +kernel) (pa_cons (pv 0) (pa_nil))) (pa_cons (pe_callTy (call_tupleK K) rfl m_tuple (by decide +kernel) (pa_cons (pv 1) (pa_nil))) (pa_cons (pv 2) (pa_nil)))))))))))), ?_⟩
    have at0 : atI ys 0 = some (hd ys) := getD_at (i := 0) k0
    refine ⟨_, rfl, b, ys, _, _, rfl, rfl, kq, at0, rfl, _, rfl, ?_⟩
    by_cases c0 : hd ys = .non
    · rw [decide_eq_true c0]
      unfold leastV at q
      rw [if_pos c0] at q
      refine ⟨by decide, fun p1 n1 => ⟨by decide, fun p2 n2 => ⟨by show 3 ≤ sizeLine; decide, fun p n3 => ?_⟩⟩⟩
      have n12 : p1 ≠ p2 := ne_of_none upd_same n2
      have n13 : p1 ≠ p := ne_of_none (H := upd (upd H p1 _) p2 _) (by rw [upd_ne n12]; exact upd_same) n3
      have n23 : p2 ≠ p := ne_of_none (H := upd (upd H p1 _) p2 _) upd_same n3
      exact q p p1 p2 _ (((same_new n1).trans (same_new n2)).trans (same_new n3)) upd_same (by rw [upd_ne n13, upd_ne n12, upd_same]) (by rw [upd_ne n23, upd_same]) n1 ((same_new n1).free n2)
    · rw [decide_eq_false c0]
      obtain ⟨ag, rfl⟩ : ∃ ag : List Int, ys = ag.map V.int := kt.resolve_left c0
      have eag : (ag.map V.int).map intOf = ag := by
        rw [List.map_map]
        exact List.map_id'' (fun _ => rfl) ag
      unfold leastV at q
      rw [if_neg c0, eag] at q
      have gl : ag.length ≤ 20000 := by rw [List.length_map] at kl; exact kl
      have g0 : 0 < ag.length := by rw [List.length_map] at k0; exact k0
      have hlen : ((ag.map V.int).length : Int) = (ag.length : Int) := by rw [List.length_map]
      refine ⟨_, rfl, b, _, rfl, kq, _, _, rfl, rfl, _, _, rfl, ⟨by omega, by omega, by omega, by omega⟩, fun D hD => ?_⟩
      have en : ((((ag.map V.int).length : Int) + 1) - 1).toNat = ag.length := by rw [hlen]; omega
      rw [en]
      refine lc_rgF (fun i => isTurn ag m (i + 1)) (fun i => .int ((i : Int) + 1)) (by omega) hD (fun i hi H1 s1 R r => ?_) (fun i hi H1 s1 R r => ?_) fun H1 s1 hD1 => ?_
      · refine ⟨_, rfl, _, rfl, _, rfl, _, ⟨b, ag, m, i + 1, ?_, kq.ex s1, by omega, by omega, gl, rfl⟩, fun H2 s2 => ⟨_, rfl, r H2 s2⟩⟩
        have e : (1 : Int) + (i : Int) = ((i + 1 : Nat) : Int) := by omega
        rw [e]
        rfl
      · have e : (1 : Int) + (i : Int) = (i : Int) + 1 := by omega
        refine ⟨_, rfl, ?_⟩
        rw [e]
        exact r H1 (Same.refl H1)
      · have hts : 0 < (turns ag m).length := List.length_pos_iff.mpr (turns_ne g0)
        have e0 : atI ((turns ag m).map fun i : Nat => V.int ((i : Int) + 1)) 0 = some (.int (turnOf ag m : Int)) := by
          unfold turnOf
          cases e : turns ag m with
          | nil => exact absurd e (turns_ne g0)
          | cons x r =>
            have e2 : V.int ((x : Int) + 1) = V.int (((x + 1 : Nat)) : Int) := by rw [Int.natCast_add]; rfl
            have e3 : atI ((x :: r).map fun i : Nat => V.int ((i : Int) + 1)) ((0 : Nat) : Int) = some (V.int ((x : Int) + 1)) := atI_nat (j := 0) rfl
            rw [e2] at e3
            exact e3
        refine ⟨D, _, _, _, rfl, rfl, .l hD1, e0, ?_⟩
        have t0 := turnOf_pos ag m
        have tl := turnOf_le (m := m) g0
        unfold leastF at q
        dsimp only at q
        generalize turnOf ag m = t at t0 tl q ⊢
        refine ⟨_, rfl, _, rfl, _, _, rfl, rfl, .inr ⟨by omega, by omega⟩, _, rfl, b, _, rfl, kq.ex s1, _, _, rfl, rfl, ⟨by rw [hlen]; omega, by rw [hlen]; omega⟩, ?_⟩
        rw [hlen]
        obtain ⟨m2, em⟩ : ∃ m2, m2 = m * (t : Int) / (ag.length : Int) := ⟨_, rfl⟩
        rw [← em] at q
        refine ⟨_, rfl, a, fs, rfl, hq.ex s1, fun f1 n1 => ⟨_, rfl, _, rfl, _, rfl, slq (kq.ex (s1.trans (same_new n1))) fun c H2 s2 h2 => ?_⟩⟩
        rw [cut_to, ← List.map_take] at h2
        have s12 : Same H H2 := (s1.trans (same_new n1)).trans s2
        have hf1 : H2 f1 = some (.lst fs) := s2 _ _ upd_same
        refine ⟨c, _, rfl, h2, fun a1 n2 => ⟨by show 2 ≤ sizeLine; decide, fun pz n3 => ?_⟩⟩
        have s14 : Same H (upd (upd H2 a1 (.lst ((ag.take t).map V.int))) pz (.tup [.ref f1, .ref a1])) := (s12.trans (same_new n2)).trans (same_new n3)
        refine ⟨pz, _, rfl, .inl (.inl upd_same), rfl, .ref f1, _, rfl, .ref a1, _, rfl, rfl, ?_⟩
        have nfa : f1 ≠ a1 := ne_of_none hf1 n2
        have nfz : f1 ≠ pz := ne_of_none (H := upd H2 a1 (.lst ((ag.take t).map V.int))) ((upd_ne nfa).trans hf1) n3
        have naz : a1 ≠ pz := ne_of_none (H := upd H2 a1 (.lst ((ag.take t).map V.int))) upd_same n3
        refine ⟨fun k σ Hc => ∃ (f1 a1 : Addr) (gs : List V) (bg : List Int), σ = [some (.ref f1), some (.ref a1), some (.int m2), some (.int (t : Int))] ∧ k = gs.length ∧ Same H Hc ∧ H f1 = none ∧ f1 ≠ a1 ∧ Hc f1 = some (.lst gs) ∧ Hc a1 = some (.lst (bg.map V.int)) ∧
          0 < bg.length ∧ bg.length ≤ 20000 ∧ gs.length ≤ 20000 ∧ gs.all isThingV = true ∧ shrinkR m2 gs.reverse bg = shrinkR m2 fs.reverse (ag.take t), ⟨fs.length, f1, a1, fs, ag.take t, by rw [em]; rfl, rfl, s14, s1.free n1, nfa, ?_, ?_, ?_, ?_, hl, ht, rfl⟩, ?_⟩
        · rw [upd_ne nfz, upd_ne nfa]
          exact hf1
        · rw [upd_ne naz]
          exact upd_same
        · rw [List.length_take]
          omega
        · rw [List.length_take]
          omega
        · rintro k σ Hc ⟨f1, a1, gs, bg, rfl, rfl, sc, nf, nfa, hf, ha, b0, bl, gl2, gt, eR⟩
          refine ⟨_, rfl, f1, gs, rfl, .l hf, _, _, rfl, rfl, _, rfl, ?_⟩
          rw [← eR] at q
          rcases List.eq_nil_or_concat gs with eg | ⟨gi, x, eg⟩
          · subst eg
            exact ret3 rfl hf ha fun p p1 p2 H' s' e1 e2 e3 z1 z2 => q p p1 p2 H' (sc.trans s') e1 e2 e3 (sc.free z1) (sc.free z2)
          · rw [List.concat_eq_append] at eg
            subst eg
            have hp : decide ((0 : Int) < ((gi ++ [x]).length : Int)) = true := decide_eq_true (by rw [List.length_append]; simp)
            rw [hp]
            refine ⟨_, rfl, 1, rfl, f1, _, _, _, rfl, rfl, .l hf, at_last, rfl, _, rfl, ?_⟩
            have xt : isThingV x = true := List.all_eq_true.mp gt x (List.mem_append_right _ (List.mem_singleton.mpr rfl))
            rw [List.reverse_append, List.reverse_singleton, List.singleton_append] at q eR
            cases x with
            | non => exact ret3 rfl hf ha fun p p1 p2 H' s' e1 e2 e3 z1 z2 => q p p1 p2 H' (sc.trans s') e1 (by rw [e2]; exact congrArg (fun z => some (HO.tup z)) (by simp [shrinkR])) (by rw [e3]; rfl) (sc.free z1) (sc.free z2)
            | int i =>
              refine ⟨_, rfl, 1, rfl, f1, _, _, _, rfl, rfl, .l hf, at_last, _, rfl, _, _, rfl, rfl, _, rfl, 1, rfl, a1, _, _, _, rfl, rfl, .l ha, ints_last b0, rfl, _, rfl, ?_⟩
              rw [dec_int]
              by_cases ci : i + m2 = lastI bg
              · rw [decide_eq_true ci]
                rw [shrink_go ci] at eR
                refine ⟨fun σ' H' => ∃ a2, σ' = [some (.ref f1), some (.ref a2), some (.int m2), some (.int (t : Int))] ∧ Same H H' ∧ f1 ≠ a2 ∧ H' f1 = some (.lst gi) ∧ H' a2 = some (.lst ((i :: bg.dropLast).map V.int)), ?_, ?_⟩
                · rintro σ' H' ⟨a2, rfl, s2, n2, h2, h3⟩
                  refine ⟨gi.length, by rw [List.length_append]; simp, f1, a2, gi, i :: bg.dropLast, rfl, rfl, s2, nf, n2, h2, h3, by simp, ?_, ?_, ?_, eR⟩
                  · rw [List.length_cons, List.length_dropLast]
                    omega
                  · rw [List.length_append] at gl2
                    omega
                  · rw [List.all_append, Bool.and_eq_true] at gt
                    exact gt.1
                · refine ⟨_, rfl, .inl ⟨rfl, _, .inl (.inl hf)⟩, f1, _, .int i, rfl, rfl, hf, ?_, ?_⟩
                  · rw [List.length_append, List.length_singleton, Nat.add_sub_cancel, List.getElem?_append_right (Nat.le_refl _), Nat.sub_self]
                    rfl
                  · rw [List.dropLast_concat]
                    have ha' : (upd Hc f1 (.lst gi)) a1 = some (.lst (bg.map V.int)) := (upd_ne (Ne.symm nfa)).trans ha
                    refine ⟨_, rfl, 1, rfl, _, rfl, slq (K := K) (.l ha') fun c H2 s2 h2 => ⟨c, _, rfl, h2.symm, ?_⟩⟩
                    rw [cut_but (by rw [List.length_map]; exact b0), ← List.map_dropLast]
                    simp only [tNil, List.append_nil]
                    have el : (V.int i :: (bg.dropLast).map V.int) = (i :: bg.dropLast).map V.int := rfl
                    refine ⟨?_, fun p np => ⟨p, rfl, ?_, ?_, ?_, ?_⟩⟩
                    · show (V.int i :: (bg.dropLast).map V.int).length ≤ sizeLine
                      rw [el, List.length_map, List.length_cons, List.length_dropLast]
                      exact Nat.le_trans (show bg.length - 1 + 1 ≤ 50000 by omega) (by decide)
                    · exact ((same_app sc nf).trans s2).trans (same_new np)
                    · exact ne_of_none (s2 _ _ upd_same) np
                    · exact same_new np _ _ (s2 _ _ upd_same)
                    · exact upd_same
              · rw [decide_eq_false ci]
                rw [shrink_no ci] at q
                exact ret3 rfl hf ha fun p p1 p2 H' s' e1 e2 e3 z1 z2 => q p p1 p2 H' (sc.trans s') e1 (by rw [e2]; simp) (by rw [e3]) (sc.free z1) (sc.free z2)
            | _ => cases xt
end
end WW

set_option Elab.async false
set_option linter.all false
set_option maxRecDepth 100000
set_option maxHeartbeats 4000000
namespace WW
open PySem PySem.Spec PyProof.Rows L2
def SameBut (x : Addr) (H H' : Hp) : Prop := ∀ a o, a ≠ x → H a = some o → H' a = some o
/-- a row stands at x -/
def RowAt (C : Addr) (H : Hp) (x : Addr) (fs ys : List V) (m : Int) : Prop := ∃ dx p1 p2, H x = some (.ins C dx [("first", .ref p1), ("again", .ref p2), ("more", .int m)]) ∧ H p1 = some (.tup fs) ∧ H p2 = some (.tup ys)
theorem RowAt.ex {C : Addr} {H H' : Hp} {x : Addr} {fs ys : List V} {m : Int} (e : Same H H') (h : RowAt C H x fs ys m) : RowAt C H' x fs ys m := by
  obtain ⟨dx, p1, p2, h1, h2, h3⟩ := h
  exact ⟨dx, p1, p2, e _ _ h1, e _ _ h2, e _ _ h3⟩
/-- the class of rows -/
structure RowC (K : PySem.W.Frag) (C : Addr) : Prop where
  cls : Cls K C
  nF : NoAttr K C "first"
  nA : NoAttr K C "again"
  nM : NoAttr K C "more"
theorem map_intOf {ys : List V} (h : ∀ i, i < ys.length → isIntV (ys.getD i .non) = true) : ys = (ys.map intOf).map V.int := by
  refine List.ext_getElem (by rw [List.length_map, List.length_map]) fun i h1 h2 => ?_
  have q := h i h1
  rw [List.getD_eq_getElem?_getD, List.getElem?_eq_getElem h1, Option.getD_some] at q
  rw [List.getElem_map, List.getElem_map]
  revert q
  cases ys[i] <;> intro q <;> first | rfl | (cases q; done)
theorem wrong_ok {fs ys : List V} {m : V} (h : wrongW (some fs) (some ys) m = .non) : fs.all isThingV = true ∧ risingV fs = true ∧ 0 < ys.length ∧ ys.all isThingV = true ∧ risingV (cutV fs (some (-1)) none ++ ys) = true ∧ isNumV m = true ∧ (hd ys = .non ∨ ∃ ag : List Int, ys = ag.map V.int) := by
  unfold wrongW at h
  dsimp only at h
  by_cases c1 : (fs.all isThingV && risingV fs) = true
  · rw [if_pos c1] at h
    have h : wrongA fs ys m = .non := h
    unfold wrongA at h
    by_cases c2 : (ys.isEmpty || !ys.all isThingV) = true
    · rw [if_pos c2] at h
      cases h
    · rw [if_neg c2] at h
      by_cases c3 : (!risingV (cutV fs (some (-1)) none ++ ys) || (decide (hd ys = .non) && !decide (lst ys = .non))) = true
      · rw [if_pos c3] at h
        cases h
      · rw [if_neg c3] at h
        by_cases c4 : isNumV m = false
        · rw [if_pos c4] at h
          cases h
        · have k1 := Bool.and_eq_true_iff.mp c1
          have k2 : ys.isEmpty = false ∧ ys.all isThingV = true := by
            revert c2
            cases ys.isEmpty <;> cases ys.all isThingV <;> simp
          have k3 : risingV (cutV fs (some (-1)) none ++ ys) = true := by
            revert c3
            cases risingV (cutV fs (some (-1)) none ++ ys) <;> simp
          have k4 : isNumV m = true := by
            revert c4
            cases isNumV m <;> simp
          have k5 : 0 < ys.length := by
            cases ys with
            | nil => cases k2.1
            | cons _ _ => exact Nat.succ_pos _
          refine ⟨k1.1, k1.2, k5, k2.2, k3, k4, ?_⟩
          by_cases c5 : hd ys = .non
          · exact .inl c5
          · refine .inr ⟨ys.map intOf, map_intOf (rising_ints k2.2 (rising_drop k3) ?_)⟩
            have t := all_getD k2.2 k5
            revert t c5
            unfold hd
            cases ys.getD 0 V.non <;> intro c5 t <;> first | rfl | exact absurd rfl c5 | (cases t; done)
  · rw [if_neg c1] at h
    cases h
section
variable {P : Program} {w : World} {K : PySem.W.Frag} {mg : Str → Option Value} {base : Heap} {f : Addr} {fd : FuncData}
def spInit (K : PySem.W.Frag) (C : Addr) : Sp := fun vs H Q _ => ∃ (x dx : Addr) (v1 v2 : V) (fs ys : List V) (m : Int), vs = [.ref x, v1, v2, .int m] ∧ H x = some (.ins C dx []) ∧ Arg K H v1 (some fs) ∧ Arg K H v2 (some ys) ∧ wrongW (some fs) (some ys) (.int m) = .non ∧
  ∀ H', SameBut x H H' → RowAt C H' x (leastV fs ys m).1 (leastV fs ys m).2.1 (leastV fs ys m).2.2 → Q .non H'
/-- tuple(x) of a sequence -/
theorem tupq {H : Hp} {a : Addr} {xs : List V} {Q : VK} (h : Sq K H a xs) (k : ∀ p H', Same H H' → Sq K H' p xs → Q (.ref p) H') : rTupQ K [.ref a] H Q := by
  rcases h with h | h
  · exact ⟨⟨a, xs, rfl, .inl ⟨h, fun l hl => k l _ (same_new hl) (.t upd_same)⟩⟩⟩
  · exact ⟨⟨a, xs, rfl, .inr ⟨h, k a H (Same.refl H) (.inr h)⟩⟩⟩
abbrev s_Row___init__ : Stmt := inClass (top 20) 0
abbrev N_Row___init__ : List Str := ["self", "first", "again", "more", "word"]
theorem sc_Row___init__ : FnScope N_Row___init__ ["self", "first", "again", "more"] (defScope s_Row___init__) := ⟨rfl, rfl, rfl, by decide +kernel, rfl, by decide +kernel, by decide +kernel⟩

theorem ok_Row_init {C : Addr} (F : FunD K "__init__" "Row.__init__" (defArgs s_Row___init__) (defBody s_Row___init__) (defScope s_Row___init__) [.int 0] [] f fd) (R : RowC K C) (m_tuple : mg "tuple" = none) (g_wrong_word : FnAt P w K mg base CX0 3 "wrong_word" ["first", "again", "more"] (spWrong K)) (g_least_form : FnAt P w K mg base CX0 2 "least_form" ["first", "again", "more"] (spLeast K)) :
    FnOk P w K mg base CX0 4 f fd ["self", "first", "again", "more"] (spInit K C) := by
  refine F.ok sc_Row___init__ (fun vs H Q E h => ?_) (fun cdv A outer s H vs Q E hr h => ?_)
  · obtain ⟨x, dx, v1, v2, fs, ys, m, rfl, _⟩ := h
    rfl
  · obtain ⟨x, dx, v1, v2, fs, ys, m, rfl, hx, h1, h2, hw, q⟩ := h
    obtain ⟨ht, hr1, k0, kt, kr, nm, kz⟩ := wrong_ok hw
    refine ⟨_, PSs.nox (pss_cons (ps_set (i := 4) sc_Row___init__.nd rfl (.inl rfl) (pe_fn g_wrong_word hr rfl (pa_cons (pv 1) (pa_cons (pv 2) (pa_cons (pv 3) (pa_nil))))))
 (pss_cons (ps_if (pt_cmpR op_notN (pv 4) (pe_non) (nomark _)) (pss_one (ps_never)) (pss_nil))
 (pss_one (ps_asg (pe_fn g_least_form hr rfl (pa_cons (pe_callTy (call_tupleK K) rfl m_tuple (by decide +kernel) (pa_cons (pv 1) (pa_nil))) (pa_cons (pe_callTy (call_tupleK K) rfl m_tuple (by decide +kernel) (pa_cons (pv 2) (pa_nil))) (pa_cons (pv 3) (pa_nil))))) (pg_tupK (n := 3) K rfl (pgs_cons (pg_fld K (pv 0)) (pgs_cons (pg_fld K (pv 0)) (pgs_cons (pg_fld K (pv 0)) (pgs_nil))))))))), ?_⟩
    refine ⟨_, rfl, _, rfl, _, rfl, _, ⟨v1, v2, .int m, some fs, some ys, false, rfl, h1, h2, hasT_int m, rfl⟩, fun H1 s1 => ?_⟩
    rw [hw]
    refine ⟨_, rfl, rfl, _, rfl, ?_⟩
    obtain ⟨a, rfl, hq, hl, _⟩ := h1
    obtain ⟨b, rfl, kq, kl, _⟩ := h2
    refine ⟨_, rfl, tupq (hq.ex s1) fun p1 H2 s2 h2 => ⟨_, rfl, tupq (kq.ex (s1.trans s2)) fun p2 H3 s3 h3 => ⟨_, rfl, p1, p2, fs, ys, m, rfl, h2.ex s3, h3, hl, kl, k0, ht, kz, fun p q1 q2 H4 s4 e1 e2 e3 _ _ => ?_⟩⟩⟩
    have s14 : Same H H4 := ((s1.trans s2).trans s3).trans s4
    have hx4 := s14 _ _ hx
    refine ⟨p, _, rfl, .inl (.inl e1), rfl, _, _, rfl, ⟨_, rfl, x, C, dx, _, rfl, hx4, R.cls, R.nF, by decide, _, _, rfl, ⟨_, rfl, x, C, dx, _, rfl, upd_same, R.cls, R.nA, (by show 1 < 1000; decide), _, _, rfl, ⟨_, rfl, x, C, dx, _, rfl, upd_same, R.cls, R.nM, (by show 2 < 1000; decide), rfl, ?_⟩⟩⟩⟩
    have n1 : q1 ≠ x := fun z => by
      rw [z, hx4] at e2
      cases e2
    have n2 : q2 ≠ x := fun z => by
      rw [z, hx4] at e3
      cases e3
    rw [upd_upd, upd_upd]
    refine q _ (fun a o n ha => (upd_ne n).trans (s14 a o ha)) ⟨dx, q1, q2, upd_same, (upd_ne n1).trans e2, (upd_ne n2).trans e3⟩
end
end WW

set_option Elab.async false
set_option linter.all false
set_option maxRecDepth 100000
set_option maxHeartbeats 4000000
namespace WW
open PySem PySem.Spec PyProof.Rows L2
/-- the n-th time of a told row -/
def seqT (fs : List V) (ag : List Int) (m : Int) (n : Nat) : V :=
  if n < fs.length then fs.getD n .non else .int (ag.getD ((n - fs.length) % ag.length) 0 + ((n - fs.length) / ag.length : Nat) * m)
section
variable {K : PySem.W.Frag}
theorem hasT_thing {H : Hp} {y : V} (h : isThingV y = true) : HasT K H y false := by
  cases y with
  | non => exact hasT_non
  | int i => exact hasT_int i
  | _ => cases h
/-- what stands behind a made row -/
theorem made_row {C x dx : Addr} {H H' : Hp} {fs ys : List V} {m : Int} (nx : H x = none) (ndx : H dx = none) (hn : dx ≠ x) (sb : SameBut x (upd (upd H dx (.own x)) x (.ins C dx [])) H') : Same H H' := fun a o ha => by
  have n1 : a ≠ x := ne_of_none ha nx
  have n2 : a ≠ dx := ne_of_none ha ndx
  refine sb a o n1 ?_
  rw [upd_ne n1, upd_ne n2]
  exact ha
end
end WW

set_option Elab.async false
set_option linter.all false
set_option maxRecDepth 100000
set_option maxHeartbeats 4000000
namespace WW
open PySem L2
/-! ### a row whose turn is shorter -/
/-- the times that come again, without end -/
def ext (ag : List Int) (m : Int) (k : Nat) : Int := ag.getD (k % ag.length) 0 + ((k / ag.length : Nat) : Int) * m
theorem seqT_ge {fs : List V} {ag : List Int} {m : Int} {n : Nat} (h : ¬ n < fs.length) : seqT fs ag m n = .int (ext ag m (n - fs.length)) := by
  unfold seqT
  rw [if_neg h]
  rfl
theorem ext_add {ag : List Int} {m : Int} (h : 0 < ag.length) (k q : Nat) : ext ag m (k + ag.length * q) = ext ag m k + (q : Int) * m := by
  unfold ext
  rw [Nat.add_mul_mod_self_left, Nat.add_mul_div_left _ _ h, Int.natCast_add, Int.add_mul, Int.add_assoc]
theorem ext_lt {ag : List Int} {m : Int} {k : Nat} (h : k < ag.length) : ext ag m k = ag.getD k 0 := by
  unfold ext
  rw [Nat.mod_eq_of_lt h, Nat.div_eq_of_lt h]
  simp
theorem wide_ext {ag : List Int} {m : Int} {t i : Nat} (ht : t ≤ ag.length) (h : i < ag.length + t) (h0 : 0 < ag.length) : (wide ag m t).getD i 0 = ext ag m i := by
  unfold wide
  rw [List.getD_eq_getElem?_getD]
  by_cases c : i < ag.length
  · rw [List.getElem?_append_left c, ext_lt c, List.getD_eq_getElem?_getD]
  · rw [List.getElem?_append_right (by omega), List.getElem?_map, List.getElem?_take, if_pos (by omega)]
    have e : i = (i - ag.length) + ag.length * 1 := by omega
    have e2 : ext ag m i = ag.getD (i - ag.length) 0 + m := by
      rw [e, ext_add h0, ext_lt (by omega)]
      simp
    rw [e2, List.getElem?_eq_getElem (by omega), List.getD_eq_getElem?_getD, List.getElem?_eq_getElem (by omega)]
    rfl
theorem isTurn_split {ag : List Int} {m : Int} {t : Nat} (h : isTurn ag m t = true) : (ag.length : Int) % (t : Int) = 0 ∧ m * (t : Int) % (ag.length : Int) = 0 ∧ ∀ i, i < ag.length → (wide ag m t).getD (i + t) 0 - (wide ag m t).getD i 0 = m * (t : Int) / (ag.length : Int) := by
  unfold isTurn at h
  by_cases c : (ag.length : Int) % (t : Int) ≠ 0 ∨ m * (t : Int) % (ag.length : Int) ≠ 0
  · rw [if_pos c] at h
    cases h
  · rw [if_neg c] at h
    rw [not_or] at c
    refine ⟨Decidable.not_not.mp c.1, Decidable.not_not.mp c.2, fun i hi => ?_⟩
    exact of_decide_eq_true (List.all_eq_true.mp h i (List.mem_range.mpr hi))
theorem ext_turn {ag : List Int} {m : Int} {t : Nat} (h0 : 0 < ag.length) (ht : t ≤ ag.length) (h : isTurn ag m t = true) (k : Nat) : ext ag m (k + t) = ext ag m k + m * (t : Int) / (ag.length : Int) := by
  obtain ⟨_, _, h3⟩ := isTurn_split h
  have e : k = k % ag.length + ag.length * (k / ag.length) := (Nat.mod_add_div k ag.length).symm
  have hlt := Nat.mod_lt k h0
  have q := h3 (k % ag.length) hlt
  rw [wide_ext ht (by omega) h0, wide_ext ht (by omega) h0] at q
  rw [e, show k % ag.length + ag.length * (k / ag.length) + t = k % ag.length + t + ag.length * (k / ag.length) by omega, ext_add h0, ext_add h0]
  omega
theorem ext_turns {ag : List Int} {m : Int} {t : Nat} (h0 : 0 < ag.length) (ht : t ≤ ag.length) (h : isTurn ag m t = true) (k q : Nat) : ext ag m (k + t * q) = ext ag m k + (q : Int) * (m * (t : Int) / (ag.length : Int)) := by
  induction q with
  | zero => simp
  | succ q ih =>
    rw [show k + t * (q + 1) = k + t * q + t by rw [Nat.mul_succ]; omega, ext_turn h0 ht h, ih, Int.natCast_add, Int.add_mul, Int.add_assoc]
    simp
theorem turn_keeps {fs : List V} {ag : List Int} {m : Int} {t : Nat} (h0 : 0 < ag.length) (t0 : 0 < t) (ht : t ≤ ag.length) (h : isTurn ag m t = true) (n : Nat) : seqT fs (ag.take t) (m * (t : Int) / (ag.length : Int)) n = seqT fs ag m n := by
  by_cases c : n < fs.length
  · unfold seqT
    rw [if_pos c, if_pos c]
  · rw [seqT_ge c, seqT_ge c]
    congr 1
    generalize n - fs.length = k
    have lt : (ag.take t).length = t := by rw [List.length_take]; omega
    have e : k = k % t + t * (k / t) := (Nat.mod_add_div k t).symm
    have hlt := Nat.mod_lt k t0
    have e2 : ext ag m k = ext ag m (k % t) + ((k / t : Nat) : Int) * (m * (t : Int) / (ag.length : Int)) := by
      rw [← ext_turns h0 ht h]
      rw [← e]
    rw [e2, ext_lt (ag := ag) (show k % t < ag.length by omega)]
    unfold ext
    rw [lt]
    congr 1
    rw [List.getD_eq_getElem?_getD, List.getD_eq_getElem?_getD, List.getElem?_take, if_pos hlt]
/-! ### a beginning that is shorter -/
theorem lastI_eq {ag : List Int} (h : ag ≠ []) : lastI ag = ag.getLast h := by
  unfold lastI
  have : 0 < ag.length := List.length_pos_iff.mpr h
  rw [List.getD_eq_getElem?_getD, List.getElem?_eq_getElem (by omega), List.getLast_eq_getElem]
  rfl
theorem pop_keeps {r : List V} {x m : Int} {ag : List Int} (h0 : 0 < ag.length) (hx : x + m = lastI ag) (n : Nat) : seqT r (x :: ag.dropLast) m n = seqT (r ++ [V.int x]) ag m n := by
  have hl : (x :: ag.dropLast).length = ag.length := by rw [List.length_cons, List.length_dropLast]; omega
  by_cases c : n < r.length
  · unfold seqT
    rw [if_pos c, if_pos (by rw [List.length_append]; simp; omega)]
    simp only [List.getD_eq_getElem?_getD]
    rw [List.getElem?_append_left c]
  · rw [seqT_ge c]
    by_cases c1 : n = r.length
    · subst c1
      unfold seqT
      rw [if_pos (by rw [List.length_append]; simp), Nat.sub_self, ext_lt (by rw [hl]; exact h0)]
      simp
    · have c2 : ¬ n < (r ++ [V.int x]).length := by rw [List.length_append]; simp; omega
      rw [seqT_ge c2]
      congr 1
      have e : n - r.length = (n - (r ++ [V.int x]).length) + 1 := by rw [List.length_append]; simp; omega
      rw [e]
      generalize n - (r ++ [V.int x]).length = k
      unfold ext
      rw [hl]
      have hlt := Nat.mod_lt k h0
      by_cases c3 : k % ag.length + 1 = ag.length
      · have e1 : (k + 1) % ag.length = 0 := by rw [← Nat.mod_add_mod, c3, Nat.mod_self]
        have e2 : (k + 1) / ag.length = k / ag.length + 1 := by
          have d := Nat.div_add_mod k ag.length
          have : k + 1 = ag.length * (k / ag.length + 1) := by rw [Nat.mul_add, Nat.mul_one]; omega
          rw [this, Nat.mul_div_cancel_left _ h0]
        rw [e1, e2, show k % ag.length = ag.length - 1 by omega]
        have : ag.getD (ag.length - 1) 0 = lastI ag := rfl
        rw [this, ← hx, Int.natCast_add, Int.add_mul]
        simp
        omega
      · have e1 : (k + 1) % ag.length = k % ag.length + 1 := by rw [← Nat.mod_add_mod, Nat.mod_eq_of_lt (by omega)]
        have e2 : (k + 1) / ag.length = k / ag.length := by
          have d := Nat.div_add_mod k ag.length
          have : k + 1 = (k % ag.length + 1) + ag.length * (k / ag.length) := by omega
          rw [this, Nat.add_mul_div_left _ _ h0, Nat.div_eq_of_lt (by omega), Nat.zero_add]
        rw [e1, e2]
        congr 1
        rw [List.getD_eq_getElem?_getD, List.getElem?_cons_succ, List.getElem?_dropLast, if_pos (by omega), List.getD_eq_getElem?_getD]
theorem shrink_keeps {m : Int} : ∀ (rf : List V) (ag : List Int), 0 < ag.length → (∀ n, seqT (shrinkR m rf ag).1.reverse (shrinkR m rf ag).2 m n = seqT rf.reverse ag m n) ∧ (shrinkR m rf ag).2.length = ag.length ∧ (∀ y ∈ (shrinkR m rf ag).1, y ∈ rf) ∧ (shrinkR m rf ag).1.length ≤ rf.length
  | [], ag, h => ⟨fun _ => rfl, rfl, fun _ h => h, Nat.le_refl _⟩
  | .int x :: r, ag, h => by
    by_cases c : x + m = lastI ag
    · rw [shrink_go c]
      have hl : (x :: ag.dropLast).length = ag.length := by rw [List.length_cons, List.length_dropLast]; omega
      obtain ⟨i1, i2, i3, i4⟩ := shrink_keeps r (x :: ag.dropLast) (by rw [hl]; exact h)
      refine ⟨fun n => ?_, i2.trans hl, fun y hy => List.mem_cons_of_mem _ (i3 y hy), Nat.le_succ_of_le i4⟩
      rw [i1, List.reverse_cons]
      exact pop_keeps h c n
    · rw [shrink_no c]
      exact ⟨fun _ => rfl, rfl, fun _ h => h, Nat.le_refl _⟩
  | .non :: r, ag, h => ⟨fun _ => rfl, rfl, fun _ h => h, Nat.le_refl _⟩
  | .bl _ :: r, ag, h => ⟨fun _ => rfl, rfl, fun _ h => h, Nat.le_refl _⟩
  | .str _ :: r, ag, h => ⟨fun _ => rfl, rfl, fun _ h => h, Nat.le_refl _⟩
  | .byt _ :: r, ag, h => ⟨fun _ => rfl, rfl, fun _ h => h, Nat.le_refl _⟩
  | .flt _ :: r, ag, h => ⟨fun _ => rfl, rfl, fun _ h => h, Nat.le_refl _⟩
  | .ref _ :: r, ag, h => ⟨fun _ => rfl, rfl, fun _ h => h, Nat.le_refl _⟩
  | .ty _ :: r, ag, h => ⟨fun _ => rfl, rfl, fun _ h => h, Nat.le_refl _⟩
/-- the least form: all times stay -/
theorem least_keeps {fs : List V} {ag : List Int} {m : Int} (h : 0 < ag.length) : (∀ n, seqT (leastF fs ag m).1 (leastF fs ag m).2.1 (leastF fs ag m).2.2 n = seqT fs ag m n) ∧ (leastF fs ag m).2.1.length = turnOf ag m ∧ (∀ y ∈ (leastF fs ag m).1, y ∈ fs) ∧ (leastF fs ag m).1.length ≤ fs.length := by
  have t0 := turnOf_pos ag m
  have tl := turnOf_le (m := m) h
  have ti := turnOf_is (m := m) h
  have lt : (ag.take (turnOf ag m)).length = turnOf ag m := by rw [List.length_take]; omega
  obtain ⟨i1, i2, i3, i4⟩ := shrink_keeps (m := m * (turnOf ag m : Int) / (ag.length : Int)) fs.reverse (ag.take (turnOf ag m)) (by rw [lt]; exact t0)
  refine ⟨fun n => ?_, ?_, fun y hy => ?_, ?_⟩
  · show seqT (shrinkR _ fs.reverse (ag.take (turnOf ag m))).1.reverse (shrinkR _ fs.reverse (ag.take (turnOf ag m))).2 (m * (turnOf ag m : Int) / (ag.length : Int)) n = _
    rw [i1, List.reverse_reverse]
    exact turn_keeps h t0 tl ti n
  · show (shrinkR _ fs.reverse (ag.take (turnOf ag m))).2.length = _
    rw [i2, lt]
  · have hy : y ∈ (shrinkR (m * (turnOf ag m : Int) / (ag.length : Int)) fs.reverse (ag.take (turnOf ag m))).1.reverse := hy
    rw [List.mem_reverse] at hy
    have := i3 y hy
    rw [List.mem_reverse] at this
    exact this
  · show (shrinkR (m * (turnOf ag m : Int) / (ag.length : Int)) fs.reverse (ag.take (turnOf ag m))).1.reverse.length ≤ _
    rw [List.length_reverse]
    rw [List.length_reverse] at i4
    exact i4
end WW

set_option Elab.async false
set_option linter.all false
set_option maxRecDepth 100000
set_option maxHeartbeats 4000000
namespace WW
open PySem PySem.Spec PyProof.Rows L2
section
variable {P : Program} {w : World} {K : PySem.W.Frag} {mg : Str → Option Value} {base : Heap} {f : Addr} {fd : FuncData}
def spDiv : Sp := fun vs H Q _ => ∃ (a b : Nat), vs = [.int a, .int b] ∧ Q (.int (Nat.gcd a b)) H
end
end WW

set_option Elab.async false
set_option linter.all false
set_option maxRecDepth 100000
set_option maxHeartbeats 4000000
namespace WW
open PySem L2
/-! ### the least form is told by the times alone -/
/-- from b on: t later is c more -/
def Lin (T : Nat → V) (b t : Nat) (c : Int) : Prop := ∀ n, b ≤ n → ∃ x, T n = .int x ∧ T (n + t) = .int (x + c)
structure Least (T : Nat → V) (b t : Nat) (c : Int) : Prop where
  t0 : 0 < t
  lin : Lin T b t c
  min : ∀ b' t' c', 0 < t' → Lin T b' t' c' → t ≤ t'
  stop : b = 0 ∨ T (b - 1) = .non ∨ ∃ x y, T (b - 1) = .int x ∧ T (b - 1 + t) = .int y ∧ y ≠ x + c
theorem V.int_inj {x y : Int} (h : V.int x = V.int y) : x = y := by
  injection h
theorem Lin.growth {T : Nat → V} {b b' t : Nat} {c c' : Int} (h : Lin T b t c) (h' : Lin T b' t c') : c = c' := by
  obtain ⟨x, e1, e2⟩ := h (max b b') (Nat.le_max_left _ _)
  obtain ⟨y, f1, f2⟩ := h' (max b b') (Nat.le_max_right _ _)
  have k1 := V.int_inj (e1.symm.trans f1)
  have k2 := V.int_inj (e2.symm.trans f2)
  omega
theorem Least.begin {T : Nat → V} {b b' t : Nat} {c : Int} (h : Lin T b t c) (k : Least T b' t c) : b' ≤ b := by
  rcases Nat.lt_or_ge b b' with l | l
  · exfalso
    obtain ⟨x, e1, e2⟩ := h (b' - 1) (by omega)
    rcases k.stop with z | z | ⟨u, v, z1, z2, z3⟩
    · omega
    · rw [e1] at z
      cases z
    · rw [e1] at z1
      rw [e2] at z2
      have k1 := V.int_inj z1
      have k2 := V.int_inj z2
      omega
  · exact l
theorem Least.uniq {T : Nat → V} {b b' t t' : Nat} {c c' : Int} (h : Least T b t c) (k : Least T b' t' c') : b = b' ∧ t = t' ∧ c = c' := by
  have e : t = t' := Nat.le_antisymm (h.min _ _ _ k.t0 k.lin) (k.min _ _ _ h.t0 h.lin)
  subst e
  have e : c = c' := h.lin.growth k.lin
  subst e
  exact ⟨Nat.le_antisymm (Least.begin k.lin h) (Least.begin h.lin k), rfl, rfl⟩
theorem Lin.sub {T : Nat → V} {b b' s t : Nat} {c d : Int} (h : Lin T b s c) (k : Lin T b' t d) (l : t ≤ s) : Lin T (max b b') (s - t) (c - d) := fun n hn => by
  obtain ⟨x, e1, e2⟩ := h n (by omega)
  obtain ⟨y, f1, f2⟩ := k (n + (s - t)) (by omega)
  rw [show n + (s - t) + t = n + s by omega, e2] at f2
  have := V.int_inj f2
  refine ⟨x, e1, ?_⟩
  rw [f1]
  congr 1
  omega
/-- the least turn divides every turn -/
theorem lin_dvd {T : Nat → V} {t : Nat} (t0 : 0 < t) {b : Nat} {c : Int} (h : Lin T b t c) (mn : ∀ b' t' c', 0 < t' → Lin T b' t' c' → t ≤ t') : ∀ (s b' : Nat) (d : Int), Lin T b' s d → ∃ q : Nat, s = t * q ∧ d = (q : Int) * c := by
  intro s
  induction s using Nat.strongRecOn with
  | _ s ih =>
    intro b' d k
    by_cases z : s = 0
    · subst z
      obtain ⟨x, e1, e2⟩ := k b' (Nat.le_refl _)
      rw [Nat.add_zero, e1] at e2
      have := V.int_inj e2
      exact ⟨0, rfl, by simp; omega⟩
    · have l := mn _ _ _ (by omega) k
      obtain ⟨q, e1, e2⟩ := ih (s - t) (by omega) _ _ (k.sub h l)
      refine ⟨q + 1, by rw [Nat.mul_succ]; omega, ?_⟩
      rw [Int.natCast_add, Int.add_mul]
      simp
      omega
theorem Lin.times {T : Nat → V} {b t : Nat} {c : Int} (h : Lin T b t c) (n : Nat) (hn : b ≤ n) (q : Nat) : ∃ x, T n = .int x ∧ T (n + t * q) = .int (x + (q : Int) * c) := by
  induction q with
  | zero =>
    obtain ⟨x, e1, e2⟩ := h n hn
    exact ⟨x, e1, by simpa using e1⟩
  | succ q ih =>
    obtain ⟨x, e1, e2⟩ := ih
    obtain ⟨y, f1, f2⟩ := h (n + t * q) (by omega)
    rw [e2] at f1
    have := V.int_inj f1
    refine ⟨x, e1, ?_⟩
    rw [show n + t * (q + 1) = n + t * q + t by rw [Nat.mul_succ]; omega, f2]
    congr 1
    rw [Int.natCast_add, Int.add_mul]
    simp
    omega
/-- a turn from somewhere on is one from the place on from which another one is -/
theorem Lin.back {T : Nat → V} {f p b t : Nat} {m c : Int} (h : Lin T f p m) (p0 : 0 < p) (k : Lin T b t c) : Lin T f t c := fun n hn => by
  obtain ⟨x, e1, e2⟩ := h.times n hn b
  obtain ⟨y, f1, f2⟩ := h.times (n + t) (by omega) b
  have hb : b ≤ p * b := Nat.le_mul_of_pos_left b p0
  obtain ⟨z, g1, g2⟩ := k (n + p * b) (by omega)
  rw [e2] at g1
  rw [show n + p * b + t = n + t + p * b by omega, f2] at g2
  have k1 := V.int_inj g1
  have k2 := V.int_inj g2
  refine ⟨x, e1, ?_⟩
  rw [f1]
  congr 1
  omega
theorem lin_seq {fs : List V} {ag : List Int} {m : Int} (h : 0 < ag.length) : Lin (seqT fs ag m) fs.length ag.length m := fun n hn => by
  refine ⟨_, seqT_ge (by omega), ?_⟩
  rw [seqT_ge (by omega), show n + ag.length - fs.length = (n - fs.length) + ag.length * 1 by omega, ext_add h]
  simp
theorem exists_least {P : Nat → Prop} : ∀ n, P n → ∃ t, P t ∧ ∀ t', P t' → t ≤ t' := by
  intro n
  induction n using Nat.strongRecOn with
  | _ n ih =>
    intro h
    by_cases c : ∃ k, k < n ∧ P k
    · obtain ⟨k, l, p⟩ := c
      exact ih k l p
    · refine ⟨n, h, fun t' p => ?_⟩
      rcases Nat.lt_or_ge t' n with l | l
      · exact absurd ⟨t', l, p⟩ c
      · exact l
theorem head_filter {p : Nat → Bool} : ∀ (n i : Nat), i < n → p i = true → ((List.range n).filter p).headD 0 ≤ i
  | 0, i, h, _ => absurd h (Nat.not_lt_zero i)
  | n + 1, i, h, hp => by
    rw [List.range_succ, List.filter_append]
    by_cases c : i < n
    · have := head_filter n i c hp
      cases e : (List.range n).filter p with
      | nil =>
        have hm : i ∈ (List.range n).filter p := List.mem_filter.mpr ⟨List.mem_range.mpr c, hp⟩
        rw [e] at hm
        cases hm
      | cons x r =>
        rw [e] at this
        exact this
    · have e : i = n := by omega
      subst e
      cases e : (List.range i).filter p with
      | nil =>
        rw [List.filter_cons, if_pos hp]
        exact Nat.le_refl _
      | cons x r =>
        have hm : x ∈ (List.range i).filter p := by rw [e]; exact List.mem_cons_self
        have := List.mem_range.mp (List.mem_filter.mp hm).1
        show x ≤ i
        omega
theorem turnOf_min {ag : List Int} {m : Int} {t : Nat} (t0 : 0 < t) (ht : t ≤ ag.length) (h : isTurn ag m t = true) : turnOf ag m ≤ t := by
  have := head_filter (p := fun i => isTurn ag m (i + 1)) ag.length (t - 1) (by omega) (by
    show isTurn ag m (t - 1 + 1) = true
    rw [show t - 1 + 1 = t by omega]
    exact h)
  unfold turnOf turns
  omega
theorem isTurn_of {fs : List V} {ag : List Int} {m c : Int} {t : Nat} (h : 0 < ag.length) (t0 : 0 < t) {q : Nat} (e1 : ag.length = t * q) (e2 : m = (q : Int) * c) (k : Lin (seqT fs ag m) fs.length t c) : isTurn ag m t = true := by
  have tl : t ≤ ag.length := by
    rw [e1]
    refine Nat.le_mul_of_pos_right t ?_
    rcases Nat.eq_zero_or_pos q with z | z
    · rw [z] at e1
      omega
    · exact z
  have e3 : m * (t : Int) = c * (ag.length : Int) := by
    rw [e1, e2, Int.natCast_mul, Int.mul_comm ((q : Int)) c, Int.mul_assoc, Int.mul_comm (q : Int) (t : Int)]
  have g : m * (t : Int) / (ag.length : Int) = c := by
    rw [e3]
    exact Int.mul_ediv_cancel _ (by omega)
  unfold isTurn
  rw [if_neg]
  · rw [List.all_eq_true]
    intro i hi
    rw [List.mem_range] at hi
    refine decide_eq_true ?_
    rw [wide_ext tl (by omega) h, wide_ext tl (by omega) h, g]
    obtain ⟨x, f1, f2⟩ := k (fs.length + i) (by omega)
    rw [seqT_ge (by omega)] at f1 f2
    rw [show fs.length + i - fs.length = i by omega] at f1
    rw [show fs.length + i + t - fs.length = i + t by omega] at f2
    have k1 := V.int_inj f1
    have k2 := V.int_inj f2
    omega
  · rw [not_or, Decidable.not_not, Decidable.not_not]
    constructor
    · rw [e1, Int.natCast_mul]
      exact Int.mul_emod_right _ _
    · rw [e3]
      exact Int.mul_emod_left _ _
theorem shrink_stop {m : Int} : ∀ (rf : List V) (ag : List Int), (∀ y ∈ rf, isThingV y = true) → (shrinkR m rf ag).1 = [] ∨ (∃ r, (shrinkR m rf ag).1 = .non :: r) ∨ ∃ x r, (shrinkR m rf ag).1 = .int x :: r ∧ x + m ≠ lastI (shrinkR m rf ag).2
  | [], ag, _ => .inl rfl
  | .int x :: r, ag, h => by
    by_cases c : x + m = lastI ag
    · rw [shrink_go c]
      exact shrink_stop r _ fun y hy => h y (List.mem_cons_of_mem _ hy)
    · rw [shrink_no c]
      exact .inr (.inr ⟨x, r, rfl, c⟩)
  | .non :: r, ag, h => .inr (.inl ⟨r, rfl⟩)
  | .bl _ :: r, ag, h => by cases h _ List.mem_cons_self
  | .str _ :: r, ag, h => by cases h _ List.mem_cons_self
  | .byt _ :: r, ag, h => by cases h _ List.mem_cons_self
  | .flt _ :: r, ag, h => by cases h _ List.mem_cons_self
  | .ref _ :: r, ag, h => by cases h _ List.mem_cons_self
  | .ty _ :: r, ag, h => by cases h _ List.mem_cons_self
theorem least_stop {fs : List V} {ag : List Int} {m : Int} (ht : ∀ y ∈ fs, isThingV y = true) : (leastF fs ag m).1 = [] ∨ (∃ r, (leastF fs ag m).1 = r ++ [.non]) ∨ ∃ x r, (leastF fs ag m).1 = r ++ [.int x] ∧ x + (leastF fs ag m).2.2 ≠ lastI (leastF fs ag m).2.1 := by
  rcases shrink_stop (m := m * (turnOf ag m : Int) / (ag.length : Int)) fs.reverse (ag.take (turnOf ag m)) (fun y hy => ht y (List.mem_reverse.mp hy)) with h | ⟨r, h⟩ | ⟨x, r, h, k⟩
  · left
    show (shrinkR _ fs.reverse (ag.take (turnOf ag m))).1.reverse = []
    rw [h]
    rfl
  · right
    left
    refine ⟨r.reverse, ?_⟩
    show (shrinkR _ fs.reverse (ag.take (turnOf ag m))).1.reverse = _
    rw [h, List.reverse_cons]
  · right
    right
    refine ⟨x, r.reverse, ?_, k⟩
    show (shrinkR _ fs.reverse (ag.take (turnOf ag m))).1.reverse = _
    rw [h, List.reverse_cons]
theorem least_is {fs : List V} {ag : List Int} {m : Int} (h : 0 < ag.length) (ht : ∀ y ∈ fs, isThingV y = true) : Least (seqT fs ag m) (leastF fs ag m).1.length (leastF fs ag m).2.1.length (leastF fs ag m).2.2 := by
  obtain ⟨i1, i2, i3, i4⟩ := least_keeps (fs := fs) (ag := ag) (m := m) h
  have st := least_stop (ag := ag) (m := m) ht
  have eT : seqT (leastF fs ag m).1 (leastF fs ag m).2.1 (leastF fs ag m).2.2 = seqT fs ag m := funext i1
  have t0 := turnOf_pos ag m
  have l0 : 0 < (leastF fs ag m).2.1.length := by rw [i2]; exact t0
  refine ⟨l0, ?_, ?_, ?_⟩
  · have := lin_seq (fs := (leastF fs ag m).1) (m := (leastF fs ag m).2.2) l0
    rw [eT] at this
    exact this
  · rw [i2]
    intro b' t' c' tp k
    obtain ⟨t, ⟨t1, b, c, L⟩, mn⟩ := exists_least (P := fun t => 0 < t ∧ ∃ b c, Lin (seqT fs ag m) b t c) t' ⟨tp, b', c', k⟩
    have hp := lin_seq (fs := fs) (m := m) h
    have L1 := hp.back h L
    obtain ⟨q, e1, e2⟩ := lin_dvd t1 L (fun b' t' c' a z => mn t' ⟨a, b', c', z⟩) ag.length _ _ hp
    have it := isTurn_of h t1 e1 e2 L1
    have tl : t ≤ ag.length := mn _ ⟨h, _, _, hp⟩
    exact Nat.le_trans (turnOf_min t1 tl it) (mn _ ⟨tp, b', c', k⟩)
  · rcases st with z | ⟨r, z⟩ | ⟨x, r, z, k⟩
    · left
      rw [z]
      rfl
    · right
      left
      rw [← eT, z, List.length_append]
      unfold seqT
      rw [if_pos (by rw [List.length_append]; simp)]
      simp
    · right
      right
      refine ⟨x, lastI (leastF fs ag m).2.1, ?_, ?_, fun w => k w.symm⟩
      · rw [← eT]
        generalize (leastF fs ag m).1 = F at z
        subst z
        unfold seqT
        rw [List.length_append, if_pos (by simp)]
        simp
      · rw [← eT]
        generalize (leastF fs ag m).1 = F at z
        subst z
        rw [seqT_ge (by rw [List.length_append]; simp only [List.length_cons, List.length_nil]; omega), List.length_append]
        simp only [List.length_cons, List.length_nil]
        rw [show r.length + (0 + 1) - 1 + (leastF fs ag m).2.1.length - (r.length + (0 + 1)) = (leastF fs ag m).2.1.length - 1 by omega, ext_lt (by omega)]
        rfl
/-- the attributes are cut out of the times -/
theorem least_parts {fs : List V} {ag : List Int} {m : Int} (h : 0 < ag.length) : (leastF fs ag m).1 = (List.range (leastF fs ag m).1.length).map (seqT fs ag m) ∧ (leastF fs ag m).2.1.map V.int = (List.range (leastF fs ag m).2.1.length).map fun i => seqT fs ag m ((leastF fs ag m).1.length + i) := by
  obtain ⟨i1, i2, i3, i4⟩ := least_keeps (fs := fs) (ag := ag) (m := m) h
  have eT : seqT (leastF fs ag m).1 (leastF fs ag m).2.1 (leastF fs ag m).2.2 = seqT fs ag m := funext i1
  constructor
  · rw [← eT]
    generalize (leastF fs ag m).1 = F
    refine List.ext_getElem (by simp) fun i h1 h2 => ?_
    rw [List.getElem_map, List.getElem_range]
    unfold seqT
    rw [if_pos h1, List.getD_eq_getElem?_getD, List.getElem?_eq_getElem h1]
    rfl
  · rw [← eT]
    generalize (leastF fs ag m).1 = F
    refine List.ext_getElem (by simp) fun i h1 h2 => ?_
    rw [List.length_map] at h1
    rw [List.getElem_map, List.getElem_map, List.getElem_range, seqT_ge (by omega), show F.length + i - F.length = i by omega, ext_lt h1, List.getD_eq_getElem?_getD, List.getElem?_eq_getElem h1]
    rfl
theorem map_int_inj : ∀ {a b : List Int}, a.map V.int = b.map V.int → a = b
  | [], [], _ => rfl
  | x :: r, y :: s, h => by
    rw [List.map_cons, List.map_cons] at h
    injection h with h1 h2
    rw [V.int_inj h1, map_int_inj h2]
  | [], _ :: _, h => by cases h
  | _ :: _, [], h => by cases h
/-- equal times: equal attributes -/
theorem least_same {fs fs' : List V} {ag ag' : List Int} {m m' : Int} (h : 0 < ag.length) (ht : ∀ y ∈ fs, isThingV y = true) (h' : 0 < ag'.length) (ht' : ∀ y ∈ fs', isThingV y = true) (e : ∀ n, seqT fs ag m n = seqT fs' ag' m' n) : leastF fs ag m = leastF fs' ag' m' := by
  have eT : seqT fs ag m = seqT fs' ag' m' := funext e
  have L1 := least_is (m := m) h ht
  have L2 := least_is (m := m') h' ht'
  rw [← eT] at L2
  obtain ⟨e1, e2, e3⟩ := L1.uniq L2
  obtain ⟨p1, p2⟩ := least_parts (fs := fs) (ag := ag) (m := m) h
  obtain ⟨q1, q2⟩ := least_parts (fs := fs') (ag := ag') (m := m') h'
  rw [← eT, ← e1] at q1
  rw [← eT, ← e1, ← e2] at q2
  have f1 : (leastF fs ag m).1 = (leastF fs' ag' m').1 := p1.trans q1.symm
  have f2 : (leastF fs ag m).2.1 = (leastF fs' ag' m').2.1 := map_int_inj (p2.trans q2.symm)
  exact Prod.ext f1 (Prod.ext f2 e3)
/-- equal for long enough: equal for ever -/
theorem seq_same {T U : Nat → V} {f p q N : Nat} {m k : Int} (p0 : 0 < p) (q0 : 0 < q) (h1 : Lin T f p m) (h2 : Lin U f q k) (hN : f + p + q ≤ N) (e : ∀ n, n < N → T n = U n) : ∀ n, T n = U n := by
  intro n
  induction n using Nat.strongRecOn with
  | _ n ih =>
    by_cases c : n < N
    · exact e n c
    · obtain ⟨x1, a1, a2⟩ := h1 (n - p) (by omega)
      obtain ⟨x2, b1, b2⟩ := h2 (n - q) (by omega)
      obtain ⟨x3, c1, c2⟩ := h1 (n - p - q) (by omega)
      obtain ⟨x4, d1, d2⟩ := h2 (n - p - q) (by omega)
      rw [show n - p + p = n by omega] at a2
      rw [show n - q + q = n by omega] at b2
      rw [show n - p - q + p = n - q by omega] at c2
      rw [show n - p - q + q = n - p by omega] at d2
      have i1 := ih (n - p) (by omega)
      have i2 := ih (n - q) (by omega)
      have i3 := ih (n - p - q) (by omega)
      rw [a1, d2] at i1
      rw [b1, c2] at i2
      rw [c1, d1] at i3
      have k1 := V.int_inj i1
      have k2 := V.int_inj i2
      have k3 := V.int_inj i3
      rw [a2, b2]
      congr 1
      omega
end WW

set_option Elab.async false
set_option linter.all false
set_option maxRecDepth 100000
set_option maxHeartbeats 4000000
namespace WW
open PySem L2
/-! ### rows that rise -/
def Ris (T : Nat → V) : Prop := ∀ n, belowV (T (n + 1)) (T n) = false
theorem pairI {xs : List Int} (h : xs.Pairwise (· ≤ ·)) {i j : Nat} (hij : i ≤ j) (hj : j < xs.length) : xs.getD i 0 ≤ xs.getD j 0 := by
  rcases Nat.lt_or_eq_of_le hij with l | rfl
  · rw [List.getD_eq_getElem?_getD, List.getD_eq_getElem?_getD, List.getElem?_eq_getElem hj, List.getElem?_eq_getElem (by omega)]
    exact List.pairwise_iff_getElem.mp h i j (by omega) hj l
  · exact Int.le_refl _
theorem ext_step {ag : List Int} {m : Int} (h0 : 0 < ag.length) (p : ag.Pairwise (· ≤ ·)) (hm : lastI ag - ag.getD 0 0 ≤ m) (k : Nat) : ext ag m k ≤ ext ag m (k + 1) := by
  unfold ext
  have hlt := Nat.mod_lt k h0
  by_cases c3 : k % ag.length + 1 = ag.length
  · have e1 : (k + 1) % ag.length = 0 := by rw [← Nat.mod_add_mod, c3, Nat.mod_self]
    have e2 : (k + 1) / ag.length = k / ag.length + 1 := by
      have d := Nat.div_add_mod k ag.length
      have : k + 1 = ag.length * (k / ag.length + 1) := by rw [Nat.mul_add, Nat.mul_one]; omega
      rw [this, Nat.mul_div_cancel_left _ h0]
    rw [e1, e2, show k % ag.length = ag.length - 1 by omega]
    have : ag.getD (ag.length - 1) 0 = lastI ag := rfl
    rw [this, Int.natCast_add, Int.add_mul]
    generalize ((k / ag.length : Nat) : Int) * m = z
    omega
  · have e1 : (k + 1) % ag.length = k % ag.length + 1 := by rw [← Nat.mod_add_mod, Nat.mod_eq_of_lt (by omega)]
    have e2 : (k + 1) / ag.length = k / ag.length := by
      have d := Nat.div_add_mod k ag.length
      have : k + 1 = (k % ag.length + 1) + ag.length * (k / ag.length) := by omega
      rw [this, Nat.add_mul_div_left _ _ h0, Nat.div_eq_of_lt (by omega), Nat.zero_add]
    rw [e1, e2]
    have := pairI p (i := k % ag.length) (j := k % ag.length + 1) (by omega) (by omega)
    omega
/-- nothing n times, times that rise, times that come again -/
structure UpR (fs : List V) (ag : List Int) (m : Int) : Prop where
  ex : ∃ (n : Nat) (is : List Int), fs = List.replicate n V.non ++ is.map V.int ∧ (is ++ ag).Pairwise (· ≤ ·)
  l1 : 0 < ag.length
  m0 : lastI ag - ag.getD 0 0 ≤ m
theorem UpR.things {fs : List V} {ag : List Int} {m : Int} (u : UpR fs ag m) : ∀ y ∈ fs, isThingV y = true := by
  obtain ⟨n, is, rfl, _⟩ := u.ex
  intro y hy
  rcases List.mem_append.mp hy with h | h
  · rw [List.eq_of_mem_replicate h]
    rfl
  · obtain ⟨i, _, rfl⟩ := List.mem_map.mp h
    rfl
theorem UpR.ris {fs : List V} {ag : List Int} {m : Int} (u : UpR fs ag m) : Ris (seqT fs ag m) := by
  obtain ⟨n, is, e, p⟩ := u.ex
  have fl : fs.length = n + is.length := by rw [e, List.length_append, List.length_replicate, List.length_map]
  have lo : ∀ k, k < n → seqT fs ag m k = .non := fun k hk => by
    unfold seqT
    rw [if_pos (by omega), e, List.getD_eq_getElem?_getD, List.getElem?_append_left (by rw [List.length_replicate]; exact hk), List.getElem?_replicate, if_pos hk]
    rfl
  have mi : ∀ j, j < is.length → seqT fs ag m (n + j) = .int (is.getD j 0) := fun j hj => by
    unfold seqT
    rw [if_pos (by omega), e, List.getD_eq_getElem?_getD, List.getElem?_append_right (by rw [List.length_replicate]; omega), List.length_replicate, show n + j - n = j by omega, List.getElem?_map, List.getElem?_eq_getElem hj, List.getD_eq_getElem?_getD, List.getElem?_eq_getElem hj]
    rfl
  have p1 := (List.pairwise_append.mp p).1
  have p2 := (List.pairwise_append.mp p).2.1
  have p3 := (List.pairwise_append.mp p).2.2
  have l1 := u.l1
  have mem : ∀ {l : List Int} {i : Nat}, i < l.length → l.getD i 0 ∈ l := fun {l i} hi => by
    rw [List.getD_eq_getElem?_getD, List.getElem?_eq_getElem hi]
    exact List.getElem_mem hi
  intro k
  by_cases c0 : k < n
  · rw [lo k c0]
    cases seqT fs ag m (k + 1) <;> rfl
  · obtain ⟨j, rfl⟩ : ∃ j, k = n + j := ⟨k - n, by omega⟩
    by_cases c1 : j + 1 < is.length
    · rw [mi j (by omega), show n + j + 1 = n + (j + 1) by omega, mi (j + 1) c1]
      have := pairI p1 (i := j) (j := j + 1) (by omega) c1
      exact decide_eq_false (by omega)
    · by_cases c2 : j < is.length
      · rw [mi j c2, seqT_ge (by omega), show n + j + 1 - fs.length = 0 by omega, ext_lt l1]
        have := p3 _ (mem c2) _ (mem l1)
        exact decide_eq_false (by omega)
      · rw [seqT_ge (by omega), seqT_ge (by omega), show n + j + 1 - fs.length = (n + j - fs.length) + 1 by omega]
        have := ext_step l1 p2 u.m0 (n + j - fs.length)
        exact decide_eq_false (by omega)
theorem Ris.non {T : Nat → V} (h : Ris T) {n : Nat} (e : T n = .non) (ht : ∀ n, isThingV (T n) = true) : ∀ k, k ≤ n → T k = .non := by
  induction n with
  | zero =>
    intro k hk
    rw [show k = 0 by omega]
    exact e
  | succ n ih =>
    intro k hk
    by_cases c : k = n + 1
    · rw [c]
      exact e
    · refine ih ?_ k (by omega)
      have q := h n
      have t := ht n
      rw [e] at q
      revert q t
      cases T n with
      | non => exact fun _ _ => rfl
      | int i => exact fun q _ => nomatch q
      | _ => exact fun _ t => nomatch t
theorem seqT_thg {fs : List V} {ag : List Int} {m : Int} (h : ∀ y ∈ fs, isThingV y = true) (n : Nat) : isThingV (seqT fs ag m n) = true := by
  by_cases c : n < fs.length
  · unfold seqT
    rw [if_pos c, List.getD_eq_getElem?_getD, List.getElem?_eq_getElem c]
    exact h _ (List.getElem_mem c)
  · rw [seqT_ge c]
    rfl
theorem seqT_fs {fs : List V} {ag : List Int} {m : Int} {n : Nat} (c : n < fs.length) : fs.getD n .non = seqT fs ag m n := by
  unfold seqT
  rw [if_pos c]
theorem cut_lastW {xs : List V} : cutV xs (some (-1)) none = xs.drop (xs.length - 1) := by
  unfold cutV
  rw [HT.sIx_none]
  have e : HT.sIx xs.length 0 (some (-1)) = xs.length - 1 := by
    cases xs with
    | nil => rfl
    | cons x r =>
      unfold HT.sIx
      simp
      try omega
  rw [e]
  exact List.take_of_length_le (by rw [List.length_drop]; omega)
/-- what rises is let -/
theorem ris_val {fs : List V} {ag : List Int} {m : Int} (h0 : 0 < ag.length) (ht : ∀ y ∈ fs, isThingV y = true) (hm : 0 ≤ m) (h : Ris (seqT fs ag m)) : wrongW (some fs) (some (ag.map V.int)) (.int m) = .non := by
  have r1 : risingV fs = true := risingV_of fun i hi => by
    rw [seqT_fs (ag := ag) (m := m) hi, seqT_fs (ag := ag) (m := m) (by omega)]
    exact h i
  have agD : ∀ {i : Nat}, i < ag.length → (ag.map V.int).getD i .non = seqT fs ag m (fs.length + i) := fun {i} hi => by
    rw [seqT_ge (by omega), show fs.length + i - fs.length = i by omega, ext_lt hi, List.getD_eq_getElem?_getD, List.getElem?_map, List.getElem?_eq_getElem hi, List.getD_eq_getElem?_getD, List.getElem?_eq_getElem hi]
    rfl
  have r2 : risingV (cutV fs (some (-1)) none ++ ag.map V.int) = true := risingV_of fun i hi => by
    rw [cut_lastW] at hi ⊢
    rw [List.length_append, List.length_drop, List.length_map] at hi
    have at_ : ∀ j, j < fs.length - (fs.length - 1) + ag.length → (fs.drop (fs.length - 1) ++ ag.map V.int).getD j .non = seqT fs ag m (fs.length - 1 + j) := fun j hj => by
      rw [List.getD_eq_getElem?_getD]
      by_cases c : j < (fs.drop (fs.length - 1)).length
      · rw [List.getElem?_append_left c, List.getElem?_drop, ← List.getD_eq_getElem?_getD]
        rw [List.length_drop] at c
        exact seqT_fs (by omega)
      · rw [List.getElem?_append_right (by omega), ← List.getD_eq_getElem?_getD]
        rw [List.length_drop] at c ⊢
        rw [agD (by omega)]
        congr 1
        omega
    rw [at_ _ hi, at_ _ (by omega)]
    exact h _
  have z0 : hd (ag.map V.int) = .int (ag.getD 0 0) := by
    unfold hd
    rw [List.getD_eq_getElem?_getD, List.getElem?_map, List.getElem?_eq_getElem h0, List.getD_eq_getElem?_getD, List.getElem?_eq_getElem h0]
    rfl
  have zL : lst (ag.map V.int) = .int (lastI ag) := by
    unfold lst lastI
    rw [List.length_map, List.getD_eq_getElem?_getD, List.getElem?_map, List.getElem?_eq_getElem (by omega), List.getD_eq_getElem?_getD, List.getElem?_eq_getElem (by omega)]
    rfl
  unfold wrongW
  dsimp only
  rw [if_pos (by rw [r1, List.all_eq_true.mpr ht]; rfl)]
  show wrongA fs (ag.map V.int) (.int m) = .non
  unfold wrongA
  rw [if_neg (by
    have : (ag.map V.int).all isThingV = true := List.all_eq_true.mpr fun y hy => by
      obtain ⟨i, _, rfl⟩ := List.mem_map.mp hy
      rfl
    rw [this]
    cases ag with
    | nil => cases h0
    | cons x r => exact fun z => by cases z)]
  rw [if_neg (by
    rw [r2, z0]
    exact fun z => by cases z)]
  rw [if_neg (by
    show ¬ decide (0 ≤ m) = false
    rw [decide_eq_true hm]
    exact fun z => by cases z), if_neg (by rw [z0]; exact fun z => by cases z), z0, zL]
  refine if_pos ?_
  show lastI ag ≤ ag.getD 0 0 + m
  have q := h (fs.length + (ag.length - 1))
  rw [seqT_ge (by omega), seqT_ge (by omega), show fs.length + (ag.length - 1) + 1 - fs.length = 0 + ag.length * 1 by omega, ext_add h0, ext_lt h0, show fs.length + (ag.length - 1) - fs.length = ag.length - 1 by omega, ext_lt (by omega)] at q
  have q := of_decide_eq_false q
  have : lastI ag = ag.getD (ag.length - 1) 0 := rfl
  omega
/-! ### told with a longer beginning and turn -/
def wideF (fs : List V) (ag : List Int) (m : Int) (d : Nat) : List V := (List.range (fs.length + d)).map (seqT fs ag m)
def wideA (ag : List Int) (m : Int) (d q : Nat) : List Int := (List.range (ag.length * q)).map fun i => ext ag m (d + i)
theorem wide_keeps {fs : List V} {ag : List Int} {m : Int} {d q : Nat} (h0 : 0 < ag.length) (q0 : 0 < q) (n : Nat) : seqT (wideF fs ag m d) (wideA ag m d q) (m * (q : Int)) n = seqT fs ag m n := by
  have fl : (wideF fs ag m d).length = fs.length + d := by unfold wideF; rw [List.length_map, List.length_range]
  have al : (wideA ag m d q).length = ag.length * q := by unfold wideA; rw [List.length_map, List.length_range]
  by_cases c : n < fs.length + d
  · rw [← seqT_fs (by rw [fl]; exact c)]
    unfold wideF
    rw [List.getD_eq_getElem?_getD, List.getElem?_map, List.getElem?_range c]
    rfl
  · rw [seqT_ge (by rw [fl]; exact c), seqT_ge (by omega), fl]
    congr 1
    obtain ⟨k, rfl⟩ : ∃ k, n = fs.length + d + k := ⟨n - (fs.length + d), by omega⟩
    rw [show fs.length + d + k - (fs.length + d) = k by omega, show fs.length + d + k - fs.length = d + k by omega]
    have p0 : 0 < ag.length * q := Nat.mul_pos h0 q0
    have e : k = k % (ag.length * q) + ag.length * (q * (k / (ag.length * q))) := by
      rw [← Nat.mul_assoc]
      exact (Nat.mod_add_div k _).symm
    have hlt := Nat.mod_lt k p0
    have e2 : ext ag m (d + k) = ext ag m (d + k % (ag.length * q)) + ((q * (k / (ag.length * q)) : Nat) : Int) * m := by
      rw [← ext_add h0, show d + k % (ag.length * q) + ag.length * (q * (k / (ag.length * q))) = d + (k % (ag.length * q) + ag.length * (q * (k / (ag.length * q)))) by omega, ← e]
    rw [e2]
    show (wideA ag m d q).getD (k % (wideA ag m d q).length) 0 + ((k / (wideA ag m d q).length : Nat) : Int) * (m * (q : Int)) = _
    rw [al]
    congr 1
    · unfold wideA
      rw [List.getD_eq_getElem?_getD, List.getElem?_map, List.getElem?_range hlt]
      rfl
    · rw [Int.natCast_mul, Int.mul_comm m (q : Int), ← Int.mul_assoc, Int.mul_comm ((k / (ag.length * q) : Nat) : Int) (q : Int)]
end WW

set_option Elab.async false
set_option linter.all false
set_option maxRecDepth 100000
set_option maxHeartbeats 4000000
namespace WW
open PySem L2
/-! ### the law's own search finds the least form -/
theorem srch_lin {T : Nat → V} {f p b t : Nat} {m c : Int} (hp : Lin T f p m) (p0 : 0 < p) (hf : f + p ≤ 50) (bf : b ≤ f) (hi : ∀ n, b ≤ n → T n = .int (intOf (T n))) (hc : ∀ n, b ≤ n → n < 50 → intOf (T (n + t)) - intOf (T n) = c) : Lin T f t c := fun n hn => by
  obtain ⟨k, rfl⟩ : ∃ k, n = f + k := ⟨n - f, by omega⟩
  have e : f + k = (f + k % p) + p * (k / p) := by
    have := Nat.mod_add_div k p
    omega
  have hlt := Nat.mod_lt k p0
  obtain ⟨x, e1, e2⟩ := hp.times (f + k % p) (by omega) (k / p)
  obtain ⟨y, f1, f2⟩ := hp.times (f + k % p + t) (by omega) (k / p)
  have q := hc (f + k % p) (by omega) (by omega)
  rw [e1, f1] at q
  have q : y - x = c := q
  rw [← e] at e2
  rw [show f + k % p + t + p * (k / p) = f + k + t by omega] at f2
  refine ⟨_, e2, ?_⟩
  rw [f2]
  congr 1
  omega
theorem srch_lt {T : Nat → V} {f p b t b0 t0 : Nat} {m c c0 : Int} (L : Least T b0 t0 c0) (hp : Lin T f p m) (p0 : 0 < p) (hf : f + p ≤ 50) (tp : 0 < t) (tl : t < t0) (bf : b ≤ f) (hi : ∀ n, b ≤ n → T n = .int (intOf (T n))) (hc : ∀ n, b ≤ n → n < 50 → intOf (T (n + t)) - intOf (T n) = c) : False := by
  have := L.min _ _ _ tp (srch_lin hp p0 hf bf hi hc)
  omega
theorem srch_eq {T : Nat → V} {b b0 t0 : Nat} {c c0 : Int} (L : Least T b0 t0 c0) (h0 : b0 < 50) (bl : b < b0) (hi : ∀ n, b ≤ n → T n = .int (intOf (T n))) (hc : ∀ n, b ≤ n → n < 50 → intOf (T (n + t0)) - intOf (T n) = c) : False := by
  obtain ⟨x, e1, e2⟩ := L.lin b0 (Nat.le_refl _)
  have q := hc b0 (by omega) h0
  rw [e1, e2] at q
  have q : x + c0 - x = c := q
  have r := hc (b0 - 1) (by omega) (by omega)
  rcases L.stop with z | z | ⟨u, v, z1, z2, z3⟩
  · omega
  · have := hi (b0 - 1) (by omega)
    rw [z] at this
    cases this
  · rw [z1, z2] at r
    have r : v - u = c := r
    omega
theorem Ris.ints {T : Nat → V} (h : Ris T) (ht : ∀ n, isThingV (T n) = true) {b : Nat} (hb : T b ≠ .non) : ∀ n, b ≤ n → T n = .int (intOf (T n)) := fun n hn => by
  have : T n ≠ .non := fun z => hb (h.non z ht b hn)
  have t := ht n
  revert this t
  cases T n with
  | non => exact fun z _ => absurd rfl z
  | int i => exact fun _ _ => rfl
  | _ => exact fun _ t => nomatch t
theorem at_range {T : Nat → V} {n N : Nat} (h : n < N) : atI ((List.range N).map T) (n : Int) = some (T n) := by
  refine atI_nat ?_
  rw [List.getElem?_map, List.getElem?_range h]
  rfl
end WW

set_option Elab.async false
set_option linter.all false
set_option maxRecDepth 100000
set_option maxHeartbeats 4000000
namespace WW
open PySem PySem.Spec PyProof.Rows L2
section
variable {P : Program} {w : World} {K : PySem.W.Frag} {mg : Str → Option Value} {base : Heap} {f : Addr} {fd : FuncData}
/-- the n-th time of a row -/
def spRTime (C : Addr) : Sp := fun vs H Q _ => ∃ (x : Addr) (fs : List V) (ag : List Int) (m : Int) (n : Nat), vs = [.ref x, .int (n : Int)] ∧ RowAt C H x fs (ag.map V.int) m ∧ 0 < ag.length ∧ ag.length < 1000 ∧ -1000 < m ∧ m < 1000 ∧ Q (seqT fs ag m n) H
abbrev s_Row_time : Stmt := inClass (top 20) 4
abbrev N_Row_time : List Str := ["self", "n", "far", "thing"]
theorem sc_Row_time : FnScope N_Row_time ["self", "n"] (defScope s_Row_time) := ⟨rfl, rfl, rfl, by decide +kernel, rfl, by decide +kernel, by decide +kernel⟩

theorem ok_rtime {C : Addr} (F : FunD K "time" "Row.time" (defArgs s_Row_time) (defBody s_Row_time) (defScope s_Row_time) [] [] f fd) (RR : RowC K C) (m_len : mg "len" = none) : FnOk P w K mg base CX0 1 f fd ["self", "n"] (spRTime C) := by
  refine F.ok sc_Row_time (fun vs H Q E h => ?_) (fun cdv A outer s H vs Q E hr h => ?_)
  · obtain ⟨x, fs, ag, m, n, rfl, _⟩ := h
    rfl
  · obtain ⟨x, fs, ag, m, n, rfl, ⟨dx, p1, p2, hx, h1, h2⟩, l0, l1, b0, b1, q⟩ := h
    refine ⟨_, PSs.nox (pss_cons (ps_if (pt_cmpR op_lt (pv 1) (pe_callB (call_lenK K) rfl m_len (by decide +kernel) (pa_cons (pe_fldK K (pv 0) rfl) (pa_nil))) (nomark _)) (pss_one (ps_ret (pe_ix (ix_sqK K) (pe_fldK K (pv 0) rfl) (pv 1) (fun _ _ => rfl)))) (pss_nil))
 (pss_cons (ps_set (i := 2) sc_Row_time.nd rfl (.inl rfl) (pe_op op_sub (pv 1) (pe_callB (call_lenK K) rfl m_len (by decide +kernel) (pa_cons (pe_fldK K (pv 0) rfl) (pa_nil)))))
 (pss_cons (ps_set (i := 3) sc_Row_time.nd rfl (.inl rfl) (pe_ix (ix_sqK K) (pe_fldK K (pv 0) rfl) (pe_op op_mod (pv 2) (pe_callB (call_lenK K) rfl m_len (by decide +kernel) (pa_cons (pe_fldK K (pv 0) rfl) (pa_nil)))) (fun _ _ => rfl)))
 (pss_one (ps_ret (pe_ifExp (pt_cmpR op_isN (pv 3) (pe_non) (nomark _)) (pe_non) (pe_op op_add (pv 3) (pe_op op_mul (pe_op op_fdiv (pv 2) (pe_callB (call_lenK K) rfl m_len (by decide +kernel) (pa_cons (pe_fldK K (pv 0) rfl) (pa_nil)))) (pe_fldK K (pv 0) rfl))))))))), ?_⟩
    refine ⟨_, rfl, _, rfl, x, C, dx, _, _, rfl, hx, RR.cls, RR.nF, rfl, p1, fs, rfl, .t h1, _, _, rfl, rfl, _, rfl, ?_⟩
    have hlen : ((ag.map V.int).length : Int) = (ag.length : Int) := by rw [List.length_map]
    unfold seqT at q
    by_cases hn : n < fs.length
    · rw [decide_eq_true (by omega)]
      rw [if_pos hn] at q
      exact ⟨_, rfl, x, C, dx, _, _, rfl, hx, RR.cls, RR.nF, rfl, _, rfl, p1, fs, _, _, rfl, rfl, .t h1, getD_at hn, q⟩
    · rw [decide_eq_false (by omega)]
      rw [if_neg hn] at q
      have e0 : ((n : Int) - (fs.length : Int)) % ((ag.map V.int).length : Int) = (((n - fs.length) % ag.length : Nat) : Int) := by
        rw [hlen, show (n : Int) - (fs.length : Int) = ((n - fs.length : Nat) : Int) by omega]
        rfl
      have e1 : ((n : Int) - (fs.length : Int)) / ((ag.map V.int).length : Int) = (((n - fs.length) / ag.length : Nat) : Int) := by
        rw [hlen, show (n : Int) - (fs.length : Int) = ((n - fs.length : Nat) : Int) by omega]
        rfl
      refine ⟨_, rfl, _, rfl, x, C, dx, _, _, rfl, hx, RR.cls, RR.nF, rfl, p1, fs, rfl, .t h1, _, _, rfl, rfl, ?_⟩
      refine ⟨_, rfl, x, C, dx, _, _, rfl, hx, RR.cls, RR.nA, rfl, _, rfl, _, rfl, x, C, dx, _, _, rfl, hx, RR.cls, RR.nA, rfl, p2, _, rfl, .t h2, _, _, rfl, rfl, by rw [hlen]; omega, p2, _, _, .int (ag.getD ((n - fs.length) % ag.length) 0), rfl, rfl, .t h2, ?_, ?_⟩
      · rw [e0]
        exact ints_at (Nat.mod_lt _ l0)
      · refine ⟨_, rfl, rfl, _, rfl, ?_⟩
        refine ⟨_, rfl, _, rfl, _, rfl, x, C, dx, _, _, rfl, hx, RR.cls, RR.nA, rfl, p2, _, rfl, .t h2, _, _, rfl, rfl, ⟨by rw [hlen]; omega, by rw [hlen]; omega⟩, _, rfl, x, C, dx, _, _, rfl, hx, RR.cls, RR.nM, rfl, _, _, rfl, rfl, .inr ⟨by omega, by omega⟩, _, _, rfl, rfl, ?_⟩
        rw [e1]
        exact q
/-- the parts of a row -/
def spParts (C : Addr) : Sp := fun vs H Q _ => ∃ (x dx p1 p2 : Addr) (m : Int), vs = [.ref x] ∧ H x = some (.ins C dx [("first", .ref p1), ("again", .ref p2), ("more", .int m)]) ∧ ∀ p H', Same H H' → H' p = some (.tup [.ref p1, .ref p2, .int m]) → Q (.ref p) H'
abbrev s_Row_parts : Stmt := inClass (top 20) 6
abbrev N_Row_parts : List Str := ["self"]
theorem sc_Row_parts : FnScope N_Row_parts ["self"] (defScope s_Row_parts) := ⟨rfl, rfl, rfl, by decide +kernel, rfl, by decide +kernel, by decide +kernel⟩

theorem ok_parts {C : Addr} (F : FunD K "parts" "Row.parts" (defArgs s_Row_parts) (defBody s_Row_parts) (defScope s_Row_parts) [] [] f fd) (RR : RowC K C) : FnOk P w K mg base CX0 1 f fd ["self"] (spParts C) := by
  refine F.ok sc_Row_parts (fun vs H Q E h => ?_) (fun cdv A outer s H vs Q E hr h => ?_)
  · obtain ⟨x, dx, p1, p2, m, rfl, _⟩ := h
    rfl
  · obtain ⟨x, dx, p1, p2, m, rfl, hx, q⟩ := h
    refine ⟨_, PSs.nox (pss_one (ps_ret (pe_tup (pa_cons (pe_fldK K (pv 0) rfl) (pa_cons (pe_fldK K (pv 0) rfl) (pa_cons (pe_fldK K (pv 0) rfl) (pa_nil))))))), ?_⟩
    refine ⟨_, rfl, x, C, dx, _, _, rfl, hx, RR.cls, RR.nF, rfl, _, rfl, x, C, dx, _, _, rfl, hx, RR.cls, RR.nA, rfl, _, rfl, x, C, dx, _, _, rfl, hx, RR.cls, RR.nM, rfl, by show 3 ≤ sizeLine; decide, fun p np => ?_⟩
    exact q p _ (same_new np) upd_same
/-- equal rows -/
def spEq (K : PySem.W.Frag) (C : Addr) : Sp := fun vs H Q _ => ∃ (x : Addr) (y : V) (fs ys : List V) (m : Int), vs = [.ref x, y] ∧ RowAt C H x fs ys m ∧
  ((∃ t, TyX K H y (.type t) ∧ PySem.W.kitOne K (.type t) (.ref C) = some false ∧ Q (.bl false) H) ∨
   ∃ (z : Addr) (gs zs : List V) (k : Int), y = .ref z ∧ RowAt C H z gs zs k ∧ (∀ y ∈ fs, isTh y = true) ∧ (∀ y ∈ ys, isTh y = true) ∧ (∀ y ∈ gs, isTh y = true) ∧ (∀ y ∈ zs, isTh y = true) ∧ ∀ H', Same H H' → Q (.bl (decide (fs = gs ∧ ys = zs ∧ m = k))) H')
theorem RowAt.ty {C : Addr} {H : Hp} {x : Addr} {fs ys : List V} {m : Int} (RR : RowC K C) (T : TyC K C) (h : RowAt C H x fs ys m) : TyX K H (.ref x) (.ref C) := by
  obtain ⟨dx, p1, p2, hx, _⟩ := h
  exact .base (.ins hx RR.cls T.cl T.ge T.tk T.ob)
abbrev s_Row___eq__ : Stmt := inClass (top 20) 8
abbrev N_Row___eq__ : List Str := ["self", "other"]
theorem sc_Row___eq__ : FnScope N_Row___eq__ ["self", "other"] (defScope s_Row___eq__) := ⟨rfl, rfl, rfl, by decide +kernel, rfl, by decide +kernel, by decide +kernel⟩

theorem ok_eq (F : FunD K "__eq__" "Row.__eq__" (defArgs s_Row___eq__) (defBody s_Row___eq__) (defScope s_Row___eq__) [] [] f fd) (RR : RowC K (He.ga K "Row")) (T : TyC K (He.ga K "Row")) (m_Row : mg "Row" = some (.ref (He.ga K "Row"))) (m_isinstance : mg "isinstance" = none) (g_Row_parts : MthAt P w K mg base CX0 1 (He.ga K "Row") "parts" ["self"] (spParts (He.ga K "Row"))) : FnOk P w K mg base CX0 2 f fd ["self", "other"] (spEq K (He.ga K "Row")) := by
  have c_Row := RR.cls
  refine F.ok sc_Row___eq__ (fun vs H Q E h => ?_) (fun cdv A outer s H vs Q E hr h => ?_)
  · obtain ⟨x, y, fs, ys, m, rfl, _⟩ := h
    rfl
  · obtain ⟨x, y, fs, ys, m, rfl, hx, q⟩ := h
    refine ⟨_, PSs.nox (pss_one (ps_ret (pe_and (pe_callB (call_isiK1 K) rfl m_isinstance (by decide +kernel) (pa_cons (pv 1) (pa_cons (pe_glob (v := .ref (He.ga K "Row")) rfl m_Row rfl) (pa_nil)))) (pe_one (pe_cmpR (op_eqDK K hr) (pe_mth0 c_Row g_Row_parts hr (pv 0)) (pe_mth0 c_Row g_Row_parts hr (pv 1)) (nomark _)))))), ?_⟩
    refine ⟨_, rfl, ?_⟩
    rcases q with ⟨t, ty, no, q⟩ | ⟨z, gs, zs, k, rfl, hz, t1, t2, t3, t4, q⟩
    · exact ⟨_, _, _, _, false, rfl, .own _, ty, no, false, rfl, q⟩
    · refine ⟨_, _, _, _, true, rfl, .own _, RowAt.ty RR T hz, T.own, true, rfl, ?_⟩
      obtain ⟨dx, p1, p2, hx, h1, h2⟩ := hx
      obtain ⟨dz, r1, r2, hz, k1, k2⟩ := hz
      refine ⟨_, rfl, x, dx, _, rfl, hx, rfl, x, dx, p1, p2, m, rfl, hx, fun p H1 s1 hp => ?_⟩
      refine ⟨_, rfl, z, dz, _, rfl, s1 _ _ hz, rfl, z, dz, r1, r2, k, rfl, s1 _ _ hz, fun p' H2 s2 hp' => ?_⟩
      have s12 := s1.trans s2
      refine ⟨_, _, dp_parts (s2 _ _ hp) (s12 _ _ h1) (s12 _ _ h2) t1 t2, dp_parts hp' (s12 _ _ k1) (s12 _ _ k2) t3 t4, shaped_parts _ _ _, shaped_parts _ _ _, ?_⟩
      rw [eqv_parts t1 t2 t3 t4]
      exact q H2 s12
/-! ### the text of a row -/
def wordOf : V → Str
  | .int i => Str.ofString (toString i)
  | _ => "-"
def rowWords (fs ys : List V) (m : Int) : List Str := fs.map wordOf ++ (("|" : Str) :: (ys.map wordOf ++ ([("+" : Str), Str.ofString (toString m)] : List Str)))
/-- a thing that is not too large for a text -/
def smallV : V → Bool
  | .non => true
  | .int i => decide (i.natAbs.log2 < 1920)
  | _ => false
def spWord : Sp := fun vs H Q _ => ∃ v, vs = [v] ∧ smallV v = true ∧ Q (.str (wordOf v)) H
abbrev s_word_of : Stmt := top 21
abbrev N_word_of : List Str := ["thing"]
theorem sc_word_of : FnScope N_word_of ["thing"] (defScope s_word_of) := ⟨rfl, rfl, rfl, by decide +kernel, rfl, by decide +kernel, by decide +kernel⟩

theorem ok_word (F : FnP K "word_of" s_word_of f fd) (m_str : mg "str" = none) : FnOk P w K mg base CX0 1 f fd ["thing"] spWord := by
  refine F.ok sc_word_of (fun vs H Q E h => ?_) (fun cdv A outer s H vs Q E hr h => ?_)
  · obtain ⟨v, rfl, _⟩ := h
    rfl
  · obtain ⟨v, rfl, hv, q⟩ := h
    refine ⟨_, PSs.nox (pss_one (ps_ret (pe_ifExp (pt_cmpR op_isN (pv 0) (pe_non) (nomark _)) (pe_str) (pe_callTy call_str_int rfl m_str (by decide +kernel) (pa_cons (pv 0) (pa_nil)))))), ?_⟩
    refine ⟨_, rfl, rfl, _, rfl, ?_⟩
    revert hv q
    cases v with
    | non => exact fun _ q => q
    | int i => exact fun hv q => ⟨_, rfl, i, rfl, of_decide_eq_true hv, q⟩
    | _ => exact fun z => nomatch z
theorem len_word {v : V} (h : smallV v = true) : (wordOf v).length ≤ 1921 := by
  revert h
  cases v with
  | non => exact fun _ => by decide
  | int i => exact fun h => PyProof.Rows.int_text_len_1921 (of_decide_eq_true h)
  | _ => exact fun z => nomatch z
theorem len_words : ∀ {xs : List V}, (∀ y ∈ xs, smallV y = true) → ((xs.map wordOf).map (·.length)).sum ≤ xs.length * 1921
  | [], _ => Nat.le_refl _
  | x :: r, h => by
    have h1 := len_word (h x List.mem_cons_self)
    have h2 := len_words (xs := r) fun y hy => h y (List.mem_cons_of_mem _ hy)
    simp only [List.map_cons, List.sum_cons, List.length_cons]
    omega
def spStr (C : Addr) : Sp := fun vs H Q _ => ∃ (x : Addr) (fs ys : List V) (m : Int), vs = [.ref x] ∧ RowAt C H x fs ys m ∧ fs.length ≤ 1000 ∧ ys.length ≤ 1000 ∧ (∀ y ∈ fs, smallV y = true) ∧ (∀ y ∈ ys, smallV y = true) ∧ m.natAbs.log2 < 1920 ∧ ∀ H', Same H H' → Q (.str (Txt.join " " (rowWords fs ys m))) H'
abbrev s_Row___str__ : Stmt := inClass (top 20) 9
abbrev N_Row___str__ : List Str := ["self", "words", "thing"]
theorem sc_Row___str__ : FnScope N_Row___str__ ["self"] (defScope s_Row___str__) := ⟨rfl, rfl, rfl, by decide +kernel, rfl, by decide +kernel, by decide +kernel⟩

theorem ok_str {C : Addr} (F : FunD K "__str__" "Row.__str__" (defArgs s_Row___str__) (defBody s_Row___str__) (defScope s_Row___str__) [] [] f fd) (RR : RowC K C) (m_str : mg "str" = none) (g_word_of : FnAt P w K mg base CX0 1 "word_of" ["thing"] spWord) : FnOk P w K mg base CX0 2 f fd ["self"] (spStr C) := by
  refine F.ok sc_Row___str__ (fun vs H Q E h => ?_) (fun cdv A outer s H vs Q E hr h => ?_)
  · obtain ⟨x, fs, ys, m, rfl, _⟩ := h
    rfl
  · obtain ⟨x, fs, ys, m, rfl, ⟨dx, p1, p2, hx, h1, h2⟩, l1, l2, t1, t2, t3, q⟩ := h
    refine ⟨_, PSs.nox (pss_cons (ps_setLc (i := 1) (own := [("thing", 2)]) rfl sc_Row___str__.nd rfl rfl (sw_true rfl rfl rfl (by decide +kernel)) (pi_seqK K (pe_fldK K (pv 0) rfl)) (blkOk_by (N := N_Row___str__) (sc := defScope s_Row___str__) (by decide +kernel)) (fun _ _ _ _ _ => pg_name (i := 2) sc_Row___str__.nd rfl (.inl rfl)) (fun _ _ _ _ _ => pts_nil) (fun _ _ _ _ _ => pe_fn g_word_of hr rfl (pa_cons (pv 2) (pa_nil))))
 (pss_one (ps_ret (pe_joinK K (pe_str) (pe_lst (pa_starK K (pv 1) (pa_cons (pe_str) (pa_starK K (pe_lc (own := [("thing", 2)]) rfl sc_Row___str__.nd (pi_seqK K (pe_fldK K (pv 0) rfl)) (blkOk_by (N := N_Row___str__) (sc := defScope s_Row___str__) (by decide +kernel)) (fun _ _ _ _ _ => pg_name (i := 2) sc_Row___str__.nd rfl (.inl rfl)) (fun _ _ _ _ _ => pts_nil) (fun _ _ _ _ _ => pe_fn g_word_of hr rfl (pa_cons (pv 2) (pa_nil)))) (pa_cons (pe_str) (pa_cons (pe_callTy call_str_int rfl m_str (by decide +kernel) (pa_cons (pe_fldK K (pv 0) rfl) (pa_nil))) (pa_nil))))))))))), ?_⟩
    refine q_seq (q_asg ?_)
    dsimp only [List.map_cons, List.map_nil]
    refine lc_sq (K := K) (a := p1) (xs := fs) (fun v => .str (wordOf v)) (fun R r => ⟨_, rfl, x, C, dx, _, _, rfl, hx, RR.cls, RR.nF, rfl, r⟩) (.t h1) (by omega) (fun y hy H1 s1 R r => ⟨_, rfl, y, rfl, t1 y hy, r H1 (Same.refl H1)⟩) fun D H1 s1 nD hD => ?_
    refine ⟨⟨_, rfl⟩, _, rfl, D, _, rfl, .inr (.inl (.inl hD)), ?_⟩
    refine q_cons (q_c (q_star ?_))
    dsimp only [List.map_cons, List.map_nil]
    refine lc_sq (K := K) (a := p2) (xs := ys) (fun v => .str (wordOf v)) (fun R r => ⟨_, rfl, x, C, dx, _, _, rfl, s1 _ _ hx, RR.cls, RR.nA, rfl, r⟩) (.t (s1 _ _ h2)) (by omega) (fun y hy H1 s1 R r => ⟨_, rfl, y, rfl, t2 y hy, r H1 (Same.refl H1)⟩) fun D2 H2 s2 nD2 hD2 => ?_
    refine ⟨D2, _, rfl, .inr (.inl (.inl hD2)), _, rfl, x, C, dx, _, _, rfl, s2 _ _ (s1 _ _ hx), RR.cls, RR.nM, rfl, m, rfl, t3, ?_, fun p np => ?_⟩
    · simp only [List.length_append, List.length_map, List.length_cons, List.length_nil]
      exact Nat.le_trans (show _ ≤ 3000 by omega) (by decide)
    · refine .mk " " p (rowWords fs ys m) rfl rfl (.l ?_) ?_ (q _ ((s1.trans s2).trans (same_new np)))
      · rw [upd_same]
        unfold rowWords
        simp only [List.map_append, List.map_cons, List.map_nil, List.map_map]
        rfl
      · have w1 := len_words t1
        have w2 := len_words t2
        have w3 := PyProof.Rows.int_text_len_1921 t3
        unfold rowWords
        simp only [List.map_append, List.map_cons, List.map_nil, List.sum_append, List.sum_cons, List.sum_nil, List.length_append, List.length_cons, List.length_nil, List.length_map]
        have e1 : (Str.ofString "|").length = 1 := by decide
        have e2 : (Str.ofString "+").length = 1 := by decide
        have e3 : (Str.ofString " ").length = 1 := by decide
        rw [e1, e2, e3]
        omega
end
end WW

set_option Elab.async false
set_option linter.all false
set_option maxRecDepth 100000
set_option maxHeartbeats 4000000
namespace WW
open PySem PySem.Spec PyProof.Rows L2
/-- a row's value: nothing for ever, or a beginning, a turn, a growth -/
inductive RV where
  | emp
  | of (fs : List V) (ag : List Int) (m : Int)
def RV.T : RV → Nat → V
  | .emp => fun _ => .non
  | .of fs ag m => seqT fs ag m
/-- what is laid of it -/
def RV.fs : RV → List V
  | .emp => []
  | .of fs _ _ => fs
def RV.n : RV → Nat
  | .emp => 1
  | .of _ ag _ => ag.length
def RV.m : RV → Int
  | .emp => 0
  | .of _ _ m => m
def RV.ys : RV → List V
  | .emp => [.non]
  | .of _ ag _ => ag.map V.int
def RV.isE : RV → Bool
  | .emp => true
  | .of _ _ _ => false
structure RV.Ok (r : RV) : Prop where
  n0 : 0 < r.n
  n1 : r.n ≤ 20000
  f1 : r.fs.length ≤ 20000
  m0 : 0 ≤ r.m
  m1 : r.m < 1000000
  th : ∀ y ∈ r.fs, isThingV y = true
  ris : Ris r.T
  can : r.isE = false → Least r.T r.fs.length r.n r.m
theorem RV.ys_len (r : RV) : r.ys.length = r.n := by
  cases r with
  | emp => rfl
  | of fs ag m => exact List.length_map _
section
variable {P : Program} {w : World} {K : PySem.W.Frag} {mg : Str → Option Value} {base : Heap} {f : Addr} {fd : FuncData}
def RowR (C : Addr) (H : Hp) (x : Addr) (r : RV) : Prop := RowAt C H x r.fs r.ys r.m
def spCommon : Sp := fun vs H Q _ => ∃ (a b : Nat), vs = [.int a, .int b] ∧ 0 < a ∧ 0 < b ∧ a < 100000 ∧ b < 100000 ∧ Q (.int (Nat.lcm a b : Nat)) H
def spCeil : Sp := fun vs H Q _ => ∃ (a b : Int), vs = [.int a, .int b] ∧ 0 < b ∧ b < 1000000000 ∧ Q (.int (-(-a / b))) H
def spIsE (C : Addr) : Sp := fun vs H Q _ => ∃ (x : Addr) (r : RV), vs = [.ref x] ∧ RowR C H x r ∧ r.Ok ∧ Q (.bl r.isE) H
/-- the n-th time -/
def spRT (C : Addr) : Sp := fun vs H Q _ => ∃ (x : Addr) (r : RV) (n : Nat), vs = [.ref x, .int (n : Int)] ∧ RowR C H x r ∧ r.Ok ∧ Q (r.T n) H
theorem ok_rt {C : Addr} (F : FunD K "time" "Row.time" (defArgs s_Row_time) (defBody s_Row_time) (defScope s_Row_time) [] [] f fd) (RR : RowC K C) (m_len : mg "len" = none) : FnOk P w K mg base CX0 1 f fd ["self", "n"] (spRT C) := by
  refine F.ok sc_Row_time (fun vs H Q E h => ?_) (fun cdv A outer s H vs Q E hr h => ?_)
  · obtain ⟨x, r, n, rfl, _⟩ := h
    rfl
  · obtain ⟨x, r, n, rfl, ⟨dx, p1, p2, hx, h1, h2⟩, ok, q⟩ := h
    refine ⟨_, PSs.nox (pss_cons (ps_if (pt_cmpR op_lt (pv 1) (pe_callB (call_lenK K) rfl m_len (by decide +kernel) (pa_cons (pe_fldK K (pv 0) rfl) (pa_nil))) (nomark _)) (pss_one (ps_ret (pe_ix (ix_sqK K) (pe_fldK K (pv 0) rfl) (pv 1) (fun _ _ => rfl)))) (pss_nil))
 (pss_cons (ps_set (i := 2) sc_Row_time.nd rfl (.inl rfl) (pe_op op_sub (pv 1) (pe_callB (call_lenK K) rfl m_len (by decide +kernel) (pa_cons (pe_fldK K (pv 0) rfl) (pa_nil)))))
 (pss_cons (ps_set (i := 3) sc_Row_time.nd rfl (.inl rfl) (pe_ix (ix_sqK K) (pe_fldK K (pv 0) rfl) (pe_op op_mod (pv 2) (pe_callB (call_lenK K) rfl m_len (by decide +kernel) (pa_cons (pe_fldK K (pv 0) rfl) (pa_nil)))) (fun _ _ => rfl)))
 (pss_one (ps_ret (pe_ifExp (pt_cmpR op_isN (pv 3) (pe_non) (nomark _)) (pe_non) (pe_op op_add (pv 3) (pe_op op_mul (pe_op op_fdiv (pv 2) (pe_callB (call_lenK K) rfl m_len (by decide +kernel) (pa_cons (pe_fldK K (pv 0) rfl) (pa_nil)))) (pe_fldK K (pv 0) rfl))))))))), ?_⟩
    refine ⟨_, rfl, _, rfl, x, C, dx, _, _, rfl, hx, RR.cls, RR.nF, rfl, p1, _, rfl, .t h1, _, _, rfl, rfl, _, rfl, ?_⟩
    obtain ⟨n0, n1, f1, m0, m1, th, ris, can⟩ := ok
    have hlen : (r.ys.length : Int) = (r.n : Int) := by rw [r.ys_len]
    by_cases hn : n < r.fs.length
    · rw [decide_eq_true (by omega)]
      refine ⟨_, rfl, x, C, dx, _, _, rfl, hx, RR.cls, RR.nF, rfl, _, rfl, p1, _, _, _, rfl, rfl, .t h1, getD_at hn, ?_⟩
      revert hn q
      cases r with
      | emp => exact fun _ hn => absurd hn (Nat.not_lt_zero _)
      | of fs ag m =>
        intro q hn
        have e : seqT fs ag m n = fs.getD n .non := by
          unfold seqT
          exact if_pos hn
        have q : Q (seqT fs ag m n) H := q
        rw [e] at q
        exact q
    · rw [decide_eq_false (by omega)]
      have e0 : ((n : Int) - (r.fs.length : Int)) % (r.ys.length : Int) = (((n - r.fs.length) % r.n : Nat) : Int) := by
        rw [hlen, show (n : Int) - (r.fs.length : Int) = ((n - r.fs.length : Nat) : Int) by omega]
        rfl
      have e1 : ((n : Int) - (r.fs.length : Int)) / (r.ys.length : Int) = (((n - r.fs.length) / r.n : Nat) : Int) := by
        rw [hlen, show (n : Int) - (r.fs.length : Int) = ((n - r.fs.length : Nat) : Int) by omega]
        rfl
      have hat : atI r.ys (((n : Int) - (r.fs.length : Int)) % (r.ys.length : Int)) = some (r.ys.getD ((n - r.fs.length) % r.n) .non) := by
        rw [e0]
        exact getD_at (by rw [r.ys_len]; exact Nat.mod_lt _ n0)
      refine ⟨_, rfl, _, rfl, x, C, dx, _, _, rfl, hx, RR.cls, RR.nF, rfl, p1, _, rfl, .t h1, _, _, rfl, rfl, ?_⟩
      refine ⟨_, rfl, x, C, dx, _, _, rfl, hx, RR.cls, RR.nA, rfl, _, rfl, _, rfl, x, C, dx, _, _, rfl, hx, RR.cls, RR.nA, rfl, p2, _, rfl, .t h2, _, _, rfl, rfl, by rw [hlen]; omega, p2, _, _, _, rfl, rfl, .t h2, hat, ?_⟩
      refine ⟨_, rfl, rfl, _, rfl, ?_⟩
      have q : Q (r.T n) H := q
      cases r with
      | emp =>
        have z : (RV.ys .emp).getD ((n - (RV.fs .emp).length) % (RV.n .emp)) .non = V.non := by
          show [V.non].getD (n % 1) .non = V.non
          rw [Nat.mod_one]
          rfl
        rw [z]
        exact q
      | of fs ag m =>
        have z : (RV.ys (.of fs ag m)).getD ((n - (RV.fs (.of fs ag m)).length) % (RV.n (.of fs ag m))) .non = V.int (ag.getD ((n - fs.length) % ag.length) 0) := by
          show (ag.map V.int).getD ((n - fs.length) % ag.length) .non = _
          have hl : (n - fs.length) % ag.length < ag.length := Nat.mod_lt _ n0
          rw [List.getD_eq_getElem?_getD, List.getElem?_map, List.getElem?_eq_getElem hl, List.getD_eq_getElem?_getD, List.getElem?_eq_getElem hl]
          rfl
        rw [z]
        refine ⟨_, rfl, _, rfl, _, rfl, x, C, dx, _, _, rfl, hx, RR.cls, RR.nA, rfl, p2, _, rfl, .t h2, _, _, rfl, rfl, ⟨by rw [hlen]; omega, by rw [hlen]; omega⟩, _, rfl, x, C, dx, _, _, rfl, hx, RR.cls, RR.nM, rfl, _, _, rfl, rfl, .inr ⟨by omega, by omega⟩, _, _, rfl, rfl, ?_⟩
        rw [e1]
        have e : seqT fs ag m n = .int (ag.getD ((n - fs.length) % ag.length) 0 + ((n - fs.length) / ag.length : Nat) * m) := by
          unfold seqT
          exact if_neg hn
        have q : Q (seqT fs ag m n) H := q
        rw [e] at q
        exact q
/-- the growth of a row through a turn -/
def spGrow (C : Addr) : Sp := fun vs H Q _ => ∃ (x : Addr) (r : RV) (t : Nat), vs = [.ref x, .int (t : Int)] ∧ RowR C H x r ∧ r.Ok ∧ Q (.int (r.m * ((t / r.n : Nat) : Int))) H
/-- the window of two rows: the longer beginning, the common turn -/
def spWin (C : Addr) : Sp := fun vs H Q _ => ∃ (x y : Addr) (r u : RV), vs = [.ref x, .ref y] ∧ RowR C H x r ∧ RowR C H y u ∧ r.Ok ∧ u.Ok ∧ ∀ p H', Same H H' → H' p = some (.tup [.int (max r.fs.length u.fs.length : Nat), .int (Nat.lcm r.n u.n : Nat)]) → Q (.ref p) H'
/-! ### making rows -/
/-- the row made of a beginning, a turn, a growth -/
def RV.mk (gs : List V) (zs : List Int) (k : Int) : RV := .of (leastF gs zs k).1 (leastF gs zs k).2.1 (leastF gs zs k).2.2
theorem RV.mk_T {gs : List V} {zs : List Int} {k : Int} (h : 0 < zs.length) : (RV.mk gs zs k).T = seqT gs zs k := funext (least_keeps h).1
theorem RV.mk_ok {gs : List V} {zs : List Int} {k : Int} (z0 : 0 < zs.length) (z1 : zs.length ≤ 20000) (g1 : gs.length ≤ 20000) (k0 : 0 ≤ k) (k1 : k < 1000000) (th : ∀ y ∈ gs, isThingV y = true) (ri : Ris (seqT gs zs k)) : (RV.mk gs zs k).Ok := by
  obtain ⟨i1, i2, i3, i4⟩ := least_keeps (fs := gs) (ag := zs) (m := k) z0
  have L := least_is (m := k) z0 th
  have hp := lin_seq (fs := gs) (m := k) z0
  have tl := turnOf_le (m := k) z0
  have t0 := turnOf_pos zs k
  obtain ⟨q, eq1, eq2⟩ := lin_dvd L.t0 L.lin L.min _ _ _ hp
  have q0 : 0 < q := by
    rcases Nat.eq_zero_or_pos q with z | z
    · rw [z, Nat.mul_zero] at eq1
      omega
    · exact z
  have mm : 0 ≤ (leastF gs zs k).2.2 ∧ (leastF gs zs k).2.2 ≤ k := by
    generalize (leastF gs zs k).2.2 = c at eq2
    have c0 : 0 ≤ c := by
      rcases Int.lt_or_le c 0 with z | z
      · have : (q : Int) * c < 0 := Int.mul_neg_of_pos_of_neg (by omega) z
        omega
      · exact z
    have : 1 * c ≤ (q : Int) * c := Int.mul_le_mul_of_nonneg_right (by omega) c0
    omega
  exact ⟨by show 0 < (leastF gs zs k).2.1.length; omega, by show (leastF gs zs k).2.1.length ≤ 20000; omega, Nat.le_trans i4 g1, mm.1, by show (leastF gs zs k).2.2 < 1000000; omega, fun y hy => th y (i3 y hy), by rw [RV.mk_T z0]; exact ri, fun _ => by rw [RV.mk_T z0]; exact L⟩
theorem leastV_mk {fs : List V} {ag : List Int} {m : Int} (h : 0 < ag.length) : leastV fs (ag.map V.int) m = ((RV.mk fs ag m).fs, (RV.mk fs ag m).ys, (RV.mk fs ag m).m) := by
  have hd0 : ¬ hd (ag.map V.int) = .non := by
    unfold hd
    rw [List.getD_eq_getElem?_getD, List.getElem?_map, List.getElem?_eq_getElem h]
    exact fun z => nomatch z
  have eag : (ag.map V.int).map intOf = ag := by
    rw [List.map_map]
    exact List.map_id'' (fun _ => rfl) ag
  unfold leastV
  rw [if_neg hd0, eag]
  rfl
/-- Row(a, b, k), a and b lists or tuples -/
theorem init_mk {C : Addr} {H : Hp} {a b x dx : Addr} {gs : List V} {zs : List Int} {k : Int} {R : VK} {E : XK} (ha : Sq K H a gs) (hb : Sq K H b (zs.map V.int)) (z0 : 0 < zs.length) (z1 : zs.length ≤ 20000) (g1 : gs.length ≤ 20000) (k0 : 0 ≤ k) (th : ∀ y ∈ gs, isThingV y = true) (ri : Ris (seqT gs zs k))
    (nx : H x = none) (ndx : H dx = none) (hn : dx ≠ x) (h : ∀ H', Same H H' → RowR C H' x (RV.mk gs zs k) → R .non H') : spInit K C [.ref x, .ref a, .ref b, .int k] (upd (upd H dx (.own x)) x (.ins C dx [])) R E := by
  have s1 : Same H (upd (upd H dx (.own x)) x (.ins C dx [])) := (same_new ndx).trans (same_new ((upd_ne (Ne.symm hn)).trans nx))
  refine ⟨x, dx, .ref a, .ref b, gs, zs.map V.int, k, rfl, upd_same, ⟨a, rfl, ha.ex s1, g1, fun y hy => ⟨false, hasT_thing (th y hy)⟩⟩, ⟨b, rfl, hb.ex s1, by rw [List.length_map]; exact z1, fun y hy => ?_⟩, ris_val z0 th k0 ri, fun H' sb hr => ?_⟩
  · obtain ⟨i, _, rfl⟩ := List.mem_map.mp hy
    exact ⟨false, hasT_int i⟩
  · rw [leastV_mk z0] at hr
    exact h H' (made_row (fs := []) (ys := []) (m := 0) nx ndx hn sb) hr
end
end WW

set_option Elab.async false
set_option linter.all false
set_option maxRecDepth 100000
set_option maxHeartbeats 4000000
namespace WW
open PySem PySem.Spec PyProof.Rows L2
section
variable {P : Program} {w : World} {K : PySem.W.Frag} {mg : Str → Option Value} {base : Heap} {f : Addr} {fd : FuncData}
def spLowest : Sp := fun vs H Q _ => ∃ (u l : Nat), vs = [.int u, .int l] ∧ 0 < l ∧ l < 1000000 ∧ ∀ p H', Same H H' → H' p = some (.tup [.int ((u / Nat.gcd u l : Nat) : Int), .int ((l / Nat.gcd u l : Nat) : Int)]) → Q (.ref p) H'
def spRate (C : Addr) : Sp := fun vs H Q _ => ∃ (x : Addr) (fs ys : List V) (m : Nat), vs = [.ref x] ∧ RowAt C H x fs ys (m : Int) ∧ 0 < ys.length ∧ ys.length < 1000 ∧ ∀ p H', Same H H' → H' p = some (.tup [.int ((m / Nat.gcd m ys.length : Nat) : Int), .int ((ys.length / Nat.gcd m ys.length : Nat) : Int)]) → Q (.ref p) H'
end
end WW

set_option Elab.async false
set_option linter.all false
set_option maxRecDepth 100000
set_option maxHeartbeats 4000000
namespace WW
open PySem PySem.Spec PyProof.Rows L2
def leT (t : Int) : V → Bool
  | .non => true
  | .int i => decide (i ≤ t)
  | _ => false
def cnt1 (m t x : Int) : Int := if x ≤ t then (if m = 0 then 1 else (t - x) / m + 1) else 0
def countF (fs : List V) (ag : List Int) (m t : Int) : V :=
  if m = 0 ∧ lastI ag ≤ t then .non else .int (((fs.filter (leT t)).length : Int) + (ag.map (cnt1 m t)).sum)
section
variable {P : Program} {w : World} {K : PySem.W.Frag} {mg : Str → Option Value} {base : Heap} {f : Addr} {fd : FuncData}
def spCount (C : Addr) : Sp := fun vs H Q _ => ∃ (x : Addr) (fs ys : List V) (m t : Int), vs = [.ref x, .int t] ∧ RowAt C H x fs ys m ∧ fs.length ≤ 1000 ∧ fs.all isThingV = true ∧ 0 ≤ m ∧ m < 1000000 ∧
  ((hd ys = .non ∧ 0 < ys.length ∧ Q .non H) ∨ ∃ ag : List Int, ys = ag.map V.int ∧ 0 < ag.length ∧ ∀ H', Same H H' → Q (countF fs ag m t) H')
abbrev s_Row_count : Stmt := inClass (top 20) 5
abbrev N_Row_count : List Str := ["self", "time", "found", "thing"]
theorem sc_Row_count : FnScope N_Row_count ["self", "time"] (defScope s_Row_count) := ⟨rfl, rfl, rfl, by decide +kernel, rfl, by decide +kernel, by decide +kernel⟩

theorem ok_count {C : Addr} (F : FunD K "count" "Row.count" (defArgs s_Row_count) (defBody s_Row_count) (defScope s_Row_count) [] [] f fd) (RR : RowC K C) (m_len : mg "len" = none) : FnOk P w K mg base CX0 1 f fd ["self", "time"] (spCount C) := by
  refine F.ok sc_Row_count (fun vs H Q E h => ?_) (fun cdv A outer s H vs Q E hr h => ?_)
  · obtain ⟨x, fs, ys, m, t, rfl, _⟩ := h
    rfl
  · obtain ⟨x, fs, ys, m, t, rfl, ⟨dx, p1, p2, hx, h1, h2⟩, hl, ht, m0, m1, q⟩ := h
    refine ⟨_, PSs.nox (Evl.pss_cut (ps_if (PW.pt (pw_or (pt_cmpR op_isN (pe_ix (ix_sqK K) (pe_fldK K (pv 0) rfl) (pe_int) (fun _ _ => rfl)) (pe_non) (nomark _)) (pw_or1 (PW.pt (pw_and (pt_cmpR op_eq (pe_fldK K (pv 0) rfl) (pe_int) (nomark _)) (pw_and1 (pt_cmpR op_le (pe_ix (ix_sqK K) (pe_fldK K (pv 0) rfl) (pe_un un_neg (pe_int)) (fun _ _ => rfl)) (pv 1) (nomark _)))))))) (pss_one (ps_ret (pe_non))) (pss_nil))
 (pss_cons (ps_set (i := 2) sc_Row_count.nd rfl (.inl rfl) (pe_callB (call_lenK K) rfl m_len (by decide +kernel) (pa_cons (pe_lc (own := [("thing", 3)]) rfl sc_Row_count.nd (pi_seqK K (pe_fldK K (pv 0) rfl)) (blkOk_by (N := N_Row_count) (sc := defScope s_Row_count) (by decide +kernel)) (fun _ _ _ _ _ => pg_name (i := 3) sc_Row_count.nd rfl (.inl rfl)) (fun _ _ _ _ _ => pts_one (PW.pt (pw_or (pt_cmpR op_isN (pv 3) (pe_non) (nomark _)) (pw_or1 (pt_cmpR op_le (pv 3) (pv 1) (nomark _)))))) (fun _ _ _ _ _ => pv 3)) (pa_nil))))
 (pss_cons (ps_for PassesOwn.never rfl (pi_seqK K (pe_fldK K (pv 0) rfl)) (pg_name (i := 3) sc_Row_count.nd rfl (.inl rfl)) (pss_one (ps_if (pt_cmpR op_le (pv 3) (pv 1) (nomark _)) (pss_one (ps_aug (i := 2) sc_Row_count.nd rfl (.inl rfl) (pe_ifExp (pt_cmpR op_eq (pe_fldK K (pv 0) rfl) (pe_int) (nomark _)) (pe_int) (pe_op op_add (pe_op op_fdiv (pe_op op_sub (pv 1) (pv 3)) (pe_fldK K (pv 0) rfl)) (pe_int))) ip_add)) (pss_nil))))
 (pss_one (ps_ret (pv 2)))))), ?_⟩
    have l0 : 0 < ys.length := by
      rcases q with ⟨_, l, _⟩ | ⟨ag, rfl, l, _⟩
      · exact l
      · rw [List.length_map]
        exact l
    have at0 : atI ys 0 = some (hd ys) := getD_at (i := 0) l0
    refine ⟨fun σ H' => σ = [some (.ref x), some (.int t), none, none] ∧ H' = H ∧ ∃ ag : List Int, ys = ag.map V.int ∧ 0 < ag.length ∧ ¬ (m = 0 ∧ lastI ag ≤ t) ∧ ∀ H', Same H H' → Q (.int (((fs.filter (leT t)).length : Int) + (ag.map (cnt1 m t)).sum)) H', ?_, ?_⟩
    · refine ⟨_, rfl, x, C, dx, _, _, rfl, hx, RR.cls, RR.nA, rfl, p2, ys, _, _, rfl, rfl, .t h2, at0, rfl, _, rfl, ?_⟩
      rcases q with ⟨hn, _, q⟩ | ⟨ag, rfl, ga, q⟩
      · rw [decide_eq_true hn]
        exact q
      · have h0 : ¬ hd (ag.map V.int) = .non := by
          unfold hd
          rw [List.getD_eq_getElem?_getD, List.getElem?_map, List.getElem?_eq_getElem ga]
          exact fun z => nomatch z
        rw [decide_eq_false h0]
        unfold countF at q
        refine ⟨_, rfl, x, C, dx, _, _, rfl, hx, RR.cls, RR.nM, rfl, rfl, _, rfl, ?_⟩
        rw [dec_int]
        by_cases c1 : m = 0
        · rw [decide_eq_true c1]
          refine ⟨_, rfl, x, C, dx, _, _, rfl, hx, RR.cls, RR.nA, rfl, 1, rfl, p2, _, _, _, rfl, rfl, .t h2, ints_last ga, _, rfl, _, _, rfl, rfl, _, rfl, ?_⟩
          by_cases c2 : lastI ag ≤ t
          · rw [decide_eq_true c2]
            rw [if_pos ⟨c1, c2⟩] at q
            exact q H (Same.refl H)
          · rw [decide_eq_false c2]
            rw [if_neg (fun z => c2 z.2)] at q
            exact ⟨rfl, rfl, ag, rfl, ga, fun z => c2 z.2, q⟩
        · rw [decide_eq_false c1]
          rw [if_neg (fun z => c1 z.1)] at q
          exact ⟨rfl, rfl, ag, rfl, ga, fun z => c1 z.1, q⟩
    rintro σ H' ⟨rfl, rfl, ag, rfl, ga, hc, q⟩
    have fx : ∀ {H2 : Hp}, Same H' H2 → H2 x = some (.ins C dx [("first", .ref p1), ("again", .ref p2), ("more", .int m)]) := fun e => e _ _ hx
    -- found = len([..])
    refine q_seq (q_asg (q_cb (q_one (lc_sqF (K := K) (xs := fs) (leT t) (fun R r => ⟨_, rfl, x, C, dx, _, _, rfl, hx, RR.cls, RR.nF, rfl, r p1 H' (Same.refl H') (.t h1)⟩) (by omega) (fun y hy H1 s1 R r => ?_) (fun y hy H1 s1 R r => ⟨_, rfl, r H1 (Same.refl H1)⟩) fun D H1 s1 hD hD1 => ?_))))
    · have ty := List.all_eq_true.mp ht y hy
      refine ⟨_, rfl, rfl, _, rfl, ?_⟩
      cases y with
      | non => exact r H1 (Same.refl H1)
      | int i => exact ⟨_, rfl, _, rfl, _, _, rfl, rfl, _, rfl, r H1 (Same.refl H1)⟩
      | _ => cases ty
    refine ⟨D, _, rfl, .l hD1, ?_⟩
    -- the loop
    refine ⟨_, rfl, x, C, dx, _, _, rfl, fx s1, RR.cls, RR.nA, rfl, p2, rfl, .inr ⟨⟨_, .inl (.inl (s1 _ _ h2))⟩, ?_⟩⟩
    refine for_tup (K := K) (a := p2) (xs := ag.map V.int) (fun i σ Hc => ∃ v3, σ = [some (.ref x), some (.int t), some (.int (((fs.filter (leT t)).length : Int) + ((ag.take i).map (cnt1 m t)).sum)), v3] ∧ Hc = H1) ⟨none, by simp, rfl⟩ (fun i σ Hc _ p => ?_) ?_ ?_
    · obtain ⟨v3, _, rfl⟩ := p
      exact .inl (.inl (s1 _ _ h2))
    · rintro i y σ Hc hy ⟨v3, rfl, rfl⟩
      obtain ⟨z, hz, rfl⟩ : ∃ z, ag[i]? = some z ∧ V.int z = y := by
        rw [List.getElem?_map] at hy
        cases e : ag[i]? with
        | none => rw [e] at hy; cases hy
        | some z => rw [e] at hy; exact ⟨z, rfl, Option.some.inj hy⟩
      have step : ((ag.take (i + 1)).map (cnt1 m t)).sum = ((ag.take i).map (cnt1 m t)).sum + cnt1 m t z := by
        rw [List.take_add_one, hz, List.map_append, List.sum_append]
        simp
      refine ⟨_, rfl, _, rfl, _, _, rfl, rfl, _, rfl, ?_⟩
      by_cases c1 : z ≤ t
      · rw [decide_eq_true c1]
        refine ⟨_, rfl, _, rfl, x, C, dx, _, _, rfl, fx s1, RR.cls, RR.nM, rfl, rfl, _, rfl, ?_⟩
        rw [dec_int]
        by_cases c2 : m = 0
        · rw [decide_eq_true c2]
          refine ⟨_, _, rfl, rfl, some (.int z), ?_, rfl⟩
          have e : cnt1 m t z = 1 := by unfold cnt1; rw [if_pos c1, if_pos c2]
          rw [step, e, ← Int.add_assoc]
          rfl
        · rw [decide_eq_false c2]
          refine ⟨_, rfl, _, rfl, _, _, rfl, rfl, _, rfl, x, C, dx, _, _, rfl, fx s1, RR.cls, RR.nM, rfl, _, _, rfl, rfl, ⟨by omega, by omega⟩, _, _, rfl, rfl, _, _, rfl, rfl, some (.int z), ?_, rfl⟩
          have e : cnt1 m t z = (t - z) / m + 1 := by unfold cnt1; rw [if_pos c1, if_neg c2]
          rw [step, e, ← Int.add_assoc]
          rfl
      · rw [decide_eq_false c1]
        refine ⟨some (.int z), ?_, rfl⟩
        have e : cnt1 m t z = 0 := by unfold cnt1; rw [if_neg c1]
        rw [step, e, Int.add_zero]
        rfl
    · rintro σ Hc ⟨v3, rfl, rfl⟩
      rw [List.length_map, List.take_length]
      exact ⟨_, rfl, q _ s1⟩
end
end WW

set_option Elab.async false
set_option linter.all false
set_option maxRecDepth 100000
set_option maxHeartbeats 4000000
namespace WW
open PySem PySem.Spec PyProof.Rows L2
/-! ### plain values as typed ones -/
instance : Enc V := ⟨fun _ _ v a => v = a, fun _ h => h⟩
theorem pair_V {K : PySem.W.Frag} {S : Hp} : ∀ xs : List V, Paired (Enc.rep K S) xs xs
  | [] => .nil
  | x :: r => .cons rfl (pair_V r)
theorem vals_V {K : PySem.W.Frag} {S : Hp} : ∀ {vs xs : List V}, Paired (Enc.rep K S) vs xs → vs = xs
  | _, _, .nil => rfl
  | _, _, .cons h r => by cases h; rw [vals_V r]
section
variable {K : PySem.W.Frag} {B : Addr → Prop} {ρ ρ' ρ1 ρ2 : List Slot} {ta tb tc te : TE} {t u : TT} {ts tu tz : TS} {Φ : Post} {i j : Int}
theorem d_vi (h : DE K B te ρ (V.int i)) : DE K B te ρ i := h
theorem d_iv (h : DE K B te ρ i) : DE K B te ρ (V.int i) := h
theorem d_nv : DE K B (tC .non) ρ V.non := fun _ _ S H _ E Q q => q _ S H (Ext.refl E.i) rfl
theorem d_bv {b : Bool} (h : DE K B te ρ b) : DE K B te ρ (V.bl b) := h
theorem d_isNV {x : V} (ha : DE K B ta ρ x) : DE K B (tOp (fun x y H Q => y = .non ∧ Q (.bl (decide (x = .non))) H) ta (tC .non)) ρ (decide (x = .non)) :=
  d_op ha d_unit fun v w S H hi r1 r2 Q q => ⟨r2, by cases r1; exact q _ S H (Ext.refl hi) rfl⟩
theorem d_notNV {x : V} (ha : DE K B ta ρ x) : DE K B (tOp (fun x y H Q => y = .non ∧ Q (.bl (!decide (x = .non))) H) ta (tC .non)) ρ (!decide (x = .non)) :=
  d_op ha d_unit fun v w S H hi r1 r2 Q q => ⟨r2, by cases r1; exact q _ S H (Ext.refl hi) rfl⟩
/-- a list of ints as one of values -/
theorem d_ivs {xs : List Int} (h : DE K B te ρ xs) : DE K B te ρ (xs.map V.int) := fun S0 H0 S H σ E Q q => h S0 H0 S H σ E _ fun v S1 H1 e1 ⟨hl, p, vs, e, hh, r⟩ => q v S1 H1 e1 ⟨by rw [List.length_map]; exact hl, p, vs, e, hh, by rw [vals_int r]; exact pair_V _⟩
end
/-! ### rows -/
instance : Enc RV where
  rep K S v r := r.Ok ∧ ∃ x, v = .ref x ∧ RowR (He.ga K "Row") S x r
  mono e h := by
    obtain ⟨o, x, z, r⟩ := h
    exact ⟨o, x, z, RowAt.ex e r⟩
instance : OfCls RV where
  cn := "Row"
  fl := ["first", "again", "more"]
  is h := by
    obtain ⟨_, x, rfl, dx, p1, p2, hx, _⟩ := h
    exact ⟨x, dx, _, rfl, hx, rfl⟩
theorem big2 {n : Nat} (h : n ≤ 20000) : n ≤ BIG := Nat.le_trans h (by decide)
section
variable {K : PySem.W.Frag} {B : Addr → Prop} {ρ ρ' ρ1 ρ2 : List Slot} {ta tb tc te : TE} {t u : TT} {ts tu tz : TS} {Φ : Post} {i j : Int} {r r' : RV}
theorem d_rfirst (RC : RowC K (He.ga K "Row")) (h : DE K B te ρ r) : DE K B (tFld K te "first") ρ (α := U V) r.fs := fun S0 H0 S H σ E Q q =>
  h S0 H0 S H σ E _ fun v S1 H1 e1 ⟨o, x, z, dx, p1, p2, hx, h1, h2⟩ => ⟨x, _, dx, _, _, z, e1.i _ _ hx, RC.cls, RC.nF, rfl, q _ S1 H1 e1 ⟨big2 o.f1, p1, _, rfl, .inl (.inl h1), pair_V _⟩⟩
theorem d_ragain (RC : RowC K (He.ga K "Row")) (h : DE K B te ρ r) : DE K B (tFld K te "again") ρ (α := U V) r.ys := fun S0 H0 S H σ E Q q =>
  h S0 H0 S H σ E _ fun v S1 H1 e1 ⟨o, x, z, dx, p1, p2, hx, h1, h2⟩ => ⟨x, _, dx, _, _, z, e1.i _ _ hx, RC.cls, RC.nA, rfl, q _ S1 H1 e1 ⟨by show r.ys.length ≤ BIG; rw [r.ys_len]; exact big2 o.n1, p2, _, rfl, .inl (.inl h2), pair_V _⟩⟩
theorem d_rmore (RC : RowC K (He.ga K "Row")) (h : DE K B te ρ r) : DE K B (tFld K te "more") ρ r.m := fun S0 H0 S H σ E Q q =>
  h S0 H0 S H σ E _ fun v S1 H1 e1 ⟨o, x, z, dx, p1, p2, hx, h1, h2⟩ => ⟨x, _, dx, _, _, z, e1.i _ _ hx, RC.cls, RC.nM, rfl, q _ S1 H1 e1 rfl⟩
theorem d_rtime (h : DE K B te ρ r) (hn : DE K B tb ρ j) (h0 : 0 ≤ j) : DE K B (tMeth (He.ga K "Row") "time" (spRT (He.ga K "Row")) [] E0 te (tCons tb tNil)) ρ (r.T j.toNat) := fun S0 H0 S H σ E Q q =>
  h S0 H0 S H σ E _ fun v S1 H1 e1 ⟨o, x, z, hr⟩ => by
    obtain ⟨dx, p1, p2, hx, h1, h2⟩ := id hr
    subst z
    refine ⟨x, dx, _, rfl, e1.i _ _ hx, rfl, ?_⟩
    refine hn S0 H0 S1 H1 σ (E.go e1) _ fun w S2 H2 e2 r2 => ?_
    cases r2
    refine ⟨x, r, j.toNat, ?_, RowAt.ex (e2.s.trans e2.i) hr, o, q _ S2 H2 (e1.trans e2) rfl⟩
    rw [Int.toNat_of_nonneg h0]
    rfl
theorem d_rempty (h : DE K B te ρ r) : DE K B (tProp (He.ga K "Row") (spIsE (He.ga K "Row")) [] E0 te) ρ r.isE := fun S0 H0 S H σ E Q q =>
  h S0 H0 S H σ E _ fun v S1 H1 e1 ⟨o, x, z, hr⟩ => by
    obtain ⟨dx, p1, p2, hx, h1, h2⟩ := id hr
    subst z
    exact ⟨x, dx, _, rfl, e1.i _ _ hx, x, r, rfl, RowAt.ex e1.i hr, o, q _ S1 H1 e1 rfl⟩
/-- how many goings are at a time at most -/
def RV.cnt : RV → Int → V
  | .emp, _ => .non
  | .of fs ag m, t => countF fs ag m t
theorem d_rcount (h : DE K B te ρ r) (hn : DE K B tb ρ j) (hf : r.fs.length ≤ 1000) : DE K B (tMeth (He.ga K "Row") "count" (spCount (He.ga K "Row")) [] E0 te (tCons tb tNil)) ρ (r.cnt j) := fun S0 H0 S H σ E Q q =>
  h S0 H0 S H σ E _ fun v S1 H1 e1 ⟨o, x, z, hr⟩ => by
    obtain ⟨dx, p1, p2, hx, h1, h2⟩ := id hr
    subst z
    refine ⟨x, dx, _, rfl, e1.i _ _ hx, rfl, ?_⟩
    refine hn S0 H0 S1 H1 σ (E.go e1) _ fun w S2 H2 e2 r2 => ?_
    cases r2
    refine ⟨x, r.fs, r.ys, r.m, j, rfl, RowAt.ex (e2.s.trans e2.i) hr, hf, List.all_eq_true.mpr o.th, o.m0, o.m1, ?_⟩
    cases r with
    | emp => exact .inl ⟨rfl, by decide, q _ S2 H2 (e1.trans e2) rfl⟩
    | of fs ag m => exact .inr ⟨ag, rfl, o.n0, fun H3 s3 => q _ S2 H3 ((e1.trans e2).trans (Ext.grow e2.i s3)) rfl⟩
/-! ### rows made -/
def spInitF (K : PySem.W.Frag) (C : Addr) : Sp := fun vs H Q _ => ∃ (x dx : Addr) (v1 v2 : V) (fs ys : List V) (m : Int), vs = [.ref x, v1, v2, .int m] ∧ H x = some (.ins C dx []) ∧ Arg K H v1 (some fs) ∧ Arg K H v2 (some ys) ∧ wrongW (some fs) (some ys) (.int m) = .non ∧
  ∀ H' p1 p2, SameBut x H H' → H p1 = none → H p2 = none → H' x = some (.ins C dx [("first", .ref p1), ("again", .ref p2), ("more", .int (leastV fs ys m).2.2)]) → H' p1 = some (.tup (leastV fs ys m).1) → H' p2 = some (.tup (leastV fs ys m).2.1) → Q .non H'
/-- what makes a row -/
inductive MkR : List V → List V → Int → RV → Prop
  | of {gs : List V} {ag : List Int} {k : Int} (z0 : 0 < ag.length) (z1 : ag.length ≤ 20000) (g1 : gs.length ≤ 20000) (k0 : 0 ≤ k) (k1 : k < 1000000) (th : ∀ y ∈ gs, isThingV y = true) (ri : Ris (seqT gs ag k)) : MkR gs (ag.map V.int) k (RV.mk gs ag k)
  | emp : MkR [] [.non] 0 .emp
theorem emp_ok : RV.Ok .emp := ⟨by decide, by decide, by decide, by decide, by decide, (fun y hy => nomatch hy), (fun n => rfl), (fun z => nomatch z)⟩
theorem MkR.ok {gs zs : List V} {k : Int} (h : MkR gs zs k r) : r.Ok := by
  cases h with
  | of z0 z1 g1 k0 k1 th ri => exact RV.mk_ok z0 z1 g1 k0 k1 th ri
  | emp => exact emp_ok
theorem MkR.let_ {gs zs : List V} {k : Int} (h : MkR gs zs k r) : wrongW (some gs) (some zs) (.int k) = .non := by
  cases h with
  | of z0 z1 g1 k0 k1 th ri => exact ris_val z0 th k0 ri
  | emp => decide
theorem MkR.least {gs zs : List V} {k : Int} (h : MkR gs zs k r) : leastV gs zs k = (r.fs, r.ys, r.m) := by
  cases h with
  | of z0 z1 g1 k0 k1 th ri => exact leastV_mk z0
  | emp => rfl
theorem MkR.len {gs zs : List V} {k : Int} (h : MkR gs zs k r) : gs.length ≤ 20000 ∧ zs.length ≤ 20000 ∧ (∀ y ∈ gs, isThingV y = true) ∧ ∀ y ∈ zs, isThingV y = true := by
  cases h with
  | of z0 z1 g1 k0 k1 th ri => exact ⟨g1, by rw [List.length_map]; exact z1, th, fun y hy => by obtain ⟨i, _, rfl⟩ := List.mem_map.mp hy; rfl⟩
  | emp => exact ⟨by decide, by decide, (fun y hy => nomatch hy), (fun y hy => by rw [List.mem_singleton.mp hy]; rfl)⟩
theorem mk_core {S H : Hp} {v1 v2 : V} {gs zs : List V} {k : Int} {x dx : Addr} {R : VK} {E : XK} (sm : Same S H) (h1 : Enc.rep K S v1 gs) (h2 : Enc.rep K S v2 zs) (hm : MkR gs zs k r) (nx : H x = none) (ndx : H dx = none) (hn : dx ≠ x)
    (q : ∀ S' H', Ext B S H S' H' → Enc.rep K S' (.ref x) r → R .non H') : spInitF K (He.ga K "Row") [.ref x, v1, v2, .int k] (upd (upd H dx (.own x)) x (.ins (He.ga K "Row") dx [])) R E := by
  obtain ⟨l1, p1, w1, rfl, s1, r1⟩ := h1
  obtain ⟨l2, p2, w2, rfl, s2, r2⟩ := h2
  cases vals_V r1
  cases vals_V r2
  have hu : Same H (upd (upd H dx (.own x)) x (.ins (He.ga K "Row") dx [])) := (same_new ndx).trans (same_new ((upd_ne (Ne.symm hn)).trans nx))
  obtain ⟨g1, g2, t1, t2⟩ := hm.len
  refine ⟨x, dx, _, _, gs, zs, k, rfl, upd_same, ⟨p1, rfl, s1.ex (sm.trans hu), g1, fun y hy => ⟨false, hasT_thing (t1 y hy)⟩⟩, ⟨p2, rfl, s2.ex (sm.trans hu), g2, fun y hy => ⟨false, hasT_thing (t2 y hy)⟩⟩, hm.let_, ?_⟩
  rw [hm.least]
  intro H' q1 q2 sb n1 n2 e0 e1 e2
  have f1 : H q1 = none := hu.free n1
  have f2 : H q2 = none := hu.free n2
  have st : ∀ a o, H a = some o → a ≠ x ∧ a ≠ q1 ∧ a ≠ q2 ∧ H' a = some o := fun a o ha => by
    have z1 : a ≠ x := ne_of_none ha nx
    exact ⟨z1, ne_of_none ha f1, ne_of_none ha f2, sb a o z1 (hu _ _ ha)⟩
  let S' : Hp := fun a => if a = x ∨ a = q1 ∨ a = q2 then H' a else S a
  have sx : S' x = H' x := if_pos (.inl rfl)
  have s1' : S' q1 = H' q1 := if_pos (.inr (.inl rfl))
  have s2' : S' q2 = H' q2 := if_pos (.inr (.inr rfl))
  refine q S' H' ⟨fun a o ha => ?_, fun a o ha => ?_, fun a h1 h2 => ?_⟩ ⟨hm.ok, x, rfl, dx, q1, q2, sx.trans e0, s1'.trans e1, s2'.trans e2⟩
  · obtain ⟨z1, z2, z3, _⟩ := st a o (sm _ _ ha)
    show (if a = x ∨ a = q1 ∨ a = q2 then H' a else S a) = some o
    rw [if_neg (fun z => by rcases z with z | z | z; exact z1 z; exact z2 z; exact z3 z)]
    exact ha
  · have ha : (if a = x ∨ a = q1 ∨ a = q2 then H' a else S a) = some o := ha
    by_cases z : a = x ∨ a = q1 ∨ a = q2
    · rw [if_pos z] at ha
      exact ha
    · rw [if_neg z] at ha
      exact (st a o (sm _ _ ha)).2.2.2
  · cases hh : H a with
    | none => exact absurd hh h2
    | some o =>
      obtain ⟨z1, z2, z3, z4⟩ := st a o hh
      refine ⟨?_, .inl z4⟩
      show (if a = x ∨ a = q1 ∨ a = q2 then H' a else S a) = none
      rw [if_neg (fun z => by rcases z with z | z | z; exact z1 z; exact z2 z; exact z3 z)]
      exact h1
theorem d_mkRow {gs zs : List V} (h1 : DE K B ta ρ gs) (h2 : DE K B tb ρ zs) (h3 : DE K B tc ρ j) (hm : MkR gs zs j r) : DE K B (tMake (He.ga K "Row") (spInitF K (He.ga K "Row")) [] E0 (tCons ta (tCons tb (tCons tc tNil)))) ρ r := fun S0 H0 S H σ E Q q =>
  h1 S0 H0 S H σ E _ fun v1 S1 H1 e1 r1 => h2 S0 H0 S1 H1 σ (E.go e1) _ fun v2 S2 H2 e2 r2 => h3 S0 H0 S2 H2 σ (E.go (e1.trans e2)) _ fun v3 S3 H3 e3 r3 x dx nx ndx hn => by
    cases r3
    exact mk_core e3.i (Enc.mono (e2.s.trans e3.s) r1) (Enc.mono e3.s r2) hm nx ndx hn fun S' H' ex rr => ⟨rfl, q _ S' H' (((e1.trans e2).trans e3).trans ex) rr⟩
theorem d_mkRow2 {gs zs : List V} (h1 : DE K B ta ρ gs) (h2 : DE K B tb ρ zs) (hm : MkR gs zs 0 r) : DE K B (tMake (He.ga K "Row") (spInitF K (He.ga K "Row")) [.int 0] E0 (tCons ta (tCons tb tNil))) ρ r := fun S0 H0 S H σ E Q q =>
  h1 S0 H0 S H σ E _ fun v1 S1 H1 e1 r1 => h2 S0 H0 S1 H1 σ (E.go e1) _ fun v2 S2 H2 e2 r2 x dx nx ndx hn =>
    mk_core e2.i (Enc.mono e2.s r1) r2 hm nx ndx hn fun S' H' ex rr => ⟨rfl, q _ S' H' ((e1.trans e2).trans ex) rr⟩
end
section
variable {P : Program} {w : World} {K : PySem.W.Frag} {mg : Str → Option Value} {base : Heap} {f : Addr} {fd : FuncData}
theorem ok_Row_initF {C : Addr} (F : FunD K "__init__" "Row.__init__" (defArgs s_Row___init__) (defBody s_Row___init__) (defScope s_Row___init__) [.int 0] [] f fd) (R : RowC K C) (m_tuple : mg "tuple" = none) (g_wrong_word : FnAt P w K mg base CX0 3 "wrong_word" ["first", "again", "more"] (spWrong K)) (g_least_form : FnAt P w K mg base CX0 2 "least_form" ["first", "again", "more"] (spLeast K)) :
    FnOk P w K mg base CX0 4 f fd ["self", "first", "again", "more"] (spInitF K C) := by
  refine F.ok sc_Row___init__ (fun vs H Q E h => ?_) (fun cdv A outer s H vs Q E hr h => ?_)
  · obtain ⟨x, dx, v1, v2, fs, ys, m, rfl, _⟩ := h
    rfl
  · obtain ⟨x, dx, v1, v2, fs, ys, m, rfl, hx, h1, h2, hw, q⟩ := h
    obtain ⟨ht, hr1, k0, kt, kr, nm, kz⟩ := wrong_ok hw
    refine ⟨_, PSs.nox (pss_cons (ps_set (i := 4) sc_Row___init__.nd rfl (.inl rfl) (pe_fn g_wrong_word hr rfl (pa_cons (pv 1) (pa_cons (pv 2) (pa_cons (pv 3) (pa_nil))))))
 (pss_cons (ps_if (pt_cmpR op_notN (pv 4) (pe_non) (nomark _)) (pss_one (ps_never)) (pss_nil))
 (pss_one (ps_asg (pe_fn g_least_form hr rfl (pa_cons (pe_callTy (call_tupleK K) rfl m_tuple (by decide +kernel) (pa_cons (pv 1) (pa_nil))) (pa_cons (pe_callTy (call_tupleK K) rfl m_tuple (by decide +kernel) (pa_cons (pv 2) (pa_nil))) (pa_cons (pv 3) (pa_nil))))) (pg_tupK (n := 3) K rfl (pgs_cons (pg_fld K (pv 0)) (pgs_cons (pg_fld K (pv 0)) (pgs_cons (pg_fld K (pv 0)) (pgs_nil))))))))), ?_⟩
    refine ⟨_, rfl, _, rfl, _, rfl, _, ⟨v1, v2, .int m, some fs, some ys, false, rfl, h1, h2, hasT_int m, rfl⟩, fun H1 s1 => ?_⟩
    rw [hw]
    refine ⟨_, rfl, rfl, _, rfl, ?_⟩
    obtain ⟨a, rfl, hq, hl, _⟩ := h1
    obtain ⟨b, rfl, kq, kl, _⟩ := h2
    refine ⟨_, rfl, tupq (hq.ex s1) fun p1 H2 s2 h2 => ⟨_, rfl, tupq (kq.ex (s1.trans s2)) fun p2 H3 s3 h3 => ⟨_, rfl, p1, p2, fs, ys, m, rfl, h2.ex s3, h3, hl, kl, k0, ht, kz, fun p q1 q2 H4 s4 e1 e2 e3 f1 f2 => ?_⟩⟩⟩
    have s13 : Same H H3 := (s1.trans s2).trans s3
    have s14 : Same H H4 := s13.trans s4
    have hx4 := s14 _ _ hx
    refine ⟨p, _, rfl, .inl (.inl e1), rfl, _, _, rfl, ⟨_, rfl, x, C, dx, _, rfl, hx4, R.cls, R.nF, by decide, _, _, rfl, ⟨_, rfl, x, C, dx, _, rfl, upd_same, R.cls, R.nA, (by show 1 < 1000; decide), _, _, rfl, ⟨_, rfl, x, C, dx, _, rfl, upd_same, R.cls, R.nM, (by show 2 < 1000; decide), rfl, ?_⟩⟩⟩⟩
    have n1 : q1 ≠ x := fun z => by
      rw [z, hx4] at e2
      cases e2
    have n2 : q2 ≠ x := fun z => by
      rw [z, hx4] at e3
      cases e3
    rw [upd_upd, upd_upd]
    exact q _ q1 q2 (fun a o n ha => (upd_ne n).trans (s14 a o ha)) (s13.free f1) (s13.free f2) upd_same ((upd_ne n1).trans e2) ((upd_ne n2).trans e3)
end
end WW

set_option Elab.async false
set_option linter.all false
set_option maxRecDepth 100000
set_option maxHeartbeats 4000000
namespace WW
open PySem PySem.Spec PyProof.Rows L2
section
variable {K : PySem.W.Frag} {B : Addr → Prop} {ρ ρ' ρ1 ρ2 : List Slot} {ta tb tc te : TE} {t u : TT} {ts tu tz : TS} {Φ : Post} {α β γ : Type} {e_α : Enc α} {e_β : Enc β} {e_γ : Enc γ} {a : α} {b : β} {i j : Int} {z y : Str}
theorem vals_str {S : Hp} : ∀ {vs : List V} {xs : List Str}, Paired (Enc.rep K S) vs xs → vs = xs.map V.str
  | _, _, .nil => rfl
  | _, _, .cons h r => by cases h; rw [vals_str r]; rfl
theorem do_split (h1 : DE K B ta ρ z) (h2 : DE K B tb ρ y) (hy : (y.length == 0) = false) (hz : z.length + 2 ≤ BIG) (hl : (Txt.split z y).length ≤ BIG) :
    DO K B (tM1 (fun x xs H Q => ∃ a b, x = .str a ∧ xs = [.str b] ∧ (b.length == 0) = false ∧ a.length + 2 ≤ sizeLine ∧ rNewStrs (Txt.split a b) H Q) ta tb) ρ (Txt.split z y) := fun S0 H0 S H σ E Q q =>
  h1 S0 H0 S H σ E _ fun v S1 H1 e1 r1 => ⟨⟨z, r1⟩, h2 S0 H0 S1 H1 σ (E.go e1) _ fun w S2 H2 e2 r2 => ⟨z, y, r1, by cases r2; rfl, hy, Nat.le_trans hz big_line, fun p hp =>
    q p _ S2 _ ((e1.trans e2).trans (Ext.priv e2.i hp)) ((e1.trans e2).free E.i hp) (e2.i.free hp) upd_same (paired_map V.str (fun _ => rfl) _) hl⟩⟩
theorem d_join {ws : List Str} (h1 : DE K B ta ρ z) (h2 : DE K B tb ρ ws) (hs : (ws.map (·.length)).sum + ws.length * z.length ≤ 16777216) : DE K B (tM1 (rJoin K) ta tb) ρ (Txt.join z ws) := fun S0 H0 S H σ E Q q =>
  h1 S0 H0 S H σ E _ fun v S1 H1 e1 r1 => ⟨⟨z, r1⟩, h2 S0 H0 S1 H1 σ (E.go e1) _ fun w S2 H2 e2 ⟨hl, p, vs, e, hh, r⟩ => by
    subst e
    have hv := vals_str r
    subst hv
    exact ⟨z, p, ws, r1, rfl, hh.ex e2.i, hs, q _ S2 H2 (e1.trans e2) rfl⟩⟩
theorem d_strI (h : DE K B te ρ i) (hz : i.natAbs.log2 < 1920) : DE K B (tCB (fun xs H Q => ∃ i, xs = [.int i] ∧ i.natAbs.log2 < 1920 ∧ Q (.str (toString i)) H) (tCons te tNil)) ρ (Str.ofString (toString i)) := fun S0 H0 S H σ E Q q =>
  h S0 H0 S H σ E _ fun v S1 H1 e1 r => ⟨i, by cases r; rfl, hz, q _ S1 H1 e1 rfl⟩
theorem d_lenS (h : DE K B te ρ z) (hz : z.length ≤ BIG) : DE K B (tCB (fun xs H Q => ∃ z, xs = [.str z] ∧ z.length ≤ sizeLine ∧ Q (.int z.length) H) (tCons te tNil)) ρ (z.length : Int) := fun S0 H0 S H σ E Q q =>
  h S0 H0 S H σ E _ fun v S1 H1 e1 r => ⟨z, by cases r; rfl, Nat.le_trans hz big_line, q _ S1 H1 e1 rfl⟩
theorem d_ixS {c : Nat} (h : DE K B ta ρ z) (hi : DE K B tb ρ i) (hz : z.length ≤ BIG) (hc : atI z.cps.toList i = some c) : DE K B (tOp rIxS ta tb) ρ (⟨#[c]⟩ : Str) :=
  d_op h hi fun v w S H sm r1 r2 Q q => ⟨z, i, c, r1, r2, Nat.le_trans hz big_line, hc, q _ S H (Ext.refl sm) rfl⟩
theorem d_slS {tl th : TO} {lo hi : Option Int} (h : DE K B te ρ z) (hl : DP K B tl ρ lo) (hh : DP K B th ρ hi) (hz : z.length ≤ BIG) : DE K B (tSl rSlS te tl th) ρ (cutS z lo hi) := fun S0 H0 S H σ E Q q =>
  h S0 H0 S H σ E _ fun v S1 H1 e1 r1 => hl S0 H0 S1 H1 σ (E.go e1) _ fun S2 H2 e2 => hh S0 H0 S2 H2 σ (E.go (e1.trans e2)) _ fun S3 H3 e3 => ⟨z, r1, Nat.le_trans hz big_line, q _ S3 H3 ((e1.trans e2).trans e3) rfl⟩
theorem d_inSign {c : Nat} (h1 : DE K B ta ρ (⟨#[c]⟩ : Str)) (h2 : DE K B tb ρ z) : DE K B (tOp (fun x y H Q => ∃ (c : Nat) (z : Str), x = .str ⟨#[c]⟩ ∧ y = .str z ∧ Q (.bl (decide (c ∈ z.cps.toList))) H) ta tb) ρ (decide (c ∈ z.cps.toList)) :=
  d_op h1 h2 fun v w S H sm r1 r2 Q q => ⟨c, z, r1, r2, q _ S H (Ext.refl sm) rfl⟩
theorem d_notInSign {c : Nat} (h1 : DE K B ta ρ (⟨#[c]⟩ : Str)) (h2 : DE K B tb ρ z) : DE K B (tOp (fun x y H Q => ∃ (c : Nat) (z : Str), x = .str ⟨#[c]⟩ ∧ y = .str z ∧ Q (.bl (!decide (c ∈ z.cps.toList))) H) ta tb) ρ (!decide (c ∈ z.cps.toList)) :=
  d_op h1 h2 fun v w S H sm r1 r2 Q q => ⟨c, z, r1, r2, q _ S H (Ext.refl sm) rfl⟩
theorem d_intS {n : Int} (h : DE K B te ρ z) (hn : PySem.intText? z = some n) (hz : z.length ≤ 640) : DE K B (tCB (fun xs H Q => ∃ a n, xs = [.str a] ∧ PySem.intText? a = some n ∧ a.length ≤ 640 ∧ Q (.int n) H) (tCons te tNil)) ρ n := fun S0 H0 S H σ E Q q =>
  h S0 H0 S H σ E _ fun v S1 H1 e1 r => ⟨z, n, by cases r; rfl, hn, hz, q _ S1 H1 e1 rfl⟩
/-- the signs of a text -/
def signs (z : Str) : List Str := z.cps.toList.map fun c => ⟨#[c]⟩
theorem signs_len (z : Str) : (signs z).length = z.length := by
  unfold signs
  rw [List.length_map, Array.length_toList]
  rfl
theorem di_str (h : DE K B te ρ z) : DI K B (iStr te) ρ (signs z) := fun S0 H0 S H σ E R q =>
  h S0 H0 S H σ E _ fun v S1 H1 e1 r => ⟨z, r, q _ S1 H1 e1 fun S2 H2 s2 i2 => by
    refine ⟨fun n x hx => ?_, by show z.cps.size ≤ _; rw [signs_len]; exact Nat.le_refl _⟩
    unfold signs at hx
    rw [List.getElem?_map] at hx
    have lt : n < z.cps.size := by
      cases hc : z.cps.toList[n]? with
      | none => rw [hc] at hx; cases hx
      | some c => simpa using (List.getElem?_eq_some_iff.mp hc).1
    refine ⟨lt, fun v' H3 hy => ⟨S2, ?_, ?_⟩⟩
    · rw [hy.1]
      exact Ext.refl i2
    · obtain ⟨_, c, h1, h2⟩ := hy
      rw [Array.getElem?_toList, h1] at hx
      cases hx
      exact h2⟩
/-- words.count(w), words.index(w), words of one's own or not -/
theorem d_countS {ws : List Str} (h1 : DE K B ta ρ (α := L Str) ws) (h2 : DE K B tb ρ z) : DE K B (tBM K "list" (rCntF K) ta (tCons tb tNil)) ρ (ws.count z : Int) := fun S0 H0 S H σ E Q q =>
  h1 S0 H0 S H σ E _ fun v S1 H1 e1 ⟨hl, p, vs, e, hh, r⟩ => by
    subst e
    have hv := vals_str r
    subst hv
    refine ⟨.inl ⟨rfl, _, .inl (.inl (e1.i _ _ hh))⟩, h2 S0 H0 S1 H1 σ (E.go e1) _ fun w S2 H2 e2 r2 => ?_⟩
    cases r2
    refine ⟨p, _, _, rfl, rfl, .inl (.inl (e2.i _ _ (e2.s _ _ hh))), rfl, by rw [List.all_map]; simp [flatV], ?_⟩
    have ec : (ws.map V.str).countP (fun x => eqV x (V.str z)) = ws.count z := by
      rw [List.countP_map]
      unfold List.count
      congr 1
    rw [ec]
    exact q _ S2 H2 (e1.trans e2) rfl
theorem d_indexS {ws : List Str} {n : Nat} (h1 : DE K B ta ρ (α := L Str) ws) (h2 : DE K B tb ρ z) (hn : ws[n]? = some z) (hf : ∀ m, m < n → ws[m]? ≠ some z) : DE K B (tBM K "list" (rIndex K) ta (tCons tb tNil)) ρ (n : Int) := fun S0 H0 S H σ E Q q =>
  h1 S0 H0 S H σ E _ fun v S1 H1 e1 ⟨hl, p, vs, e, hh, r⟩ => by
    subst e
    have hv := vals_str r
    subst hv
    refine ⟨.inl ⟨rfl, _, .inl (.inl (e1.i _ _ hh))⟩, h2 S0 H0 S1 H1 σ (E.go e1) _ fun w S2 H2 e2 r2 => ?_⟩
    cases r2
    refine ⟨p, _, _, n, .str z, rfl, rfl, .inl (.inl (e2.i _ _ (e2.s _ _ hh))), rfl, by rw [List.all_map]; simp [flatV], by rw [List.getElem?_map, hn]; rfl, ?_, fun m z' hm hz' => ?_, q _ S2 H2 (e1.trans e2) rfl⟩
    · simp [eqV]
    · rw [List.getElem?_map] at hz'
      cases hx : ws[m]? with
      | none => rw [hx] at hz'; cases hz'
      | some x =>
        rw [hx] at hz'
        cases hz'
        simp only [eqV]
        have : x ≠ z := fun e => hf m hm (by rw [hx, e])
        simpa using this
end
theorem do_nil {K : PySem.W.Frag} {B : Addr → Prop} {ρ : List Slot} (α : Type) [Enc α] : DO K B (tLst tNil) ρ ([] : List α) := do_lst dl_nil (Nat.zero_le _)
theorem mt_indexK {X : Cx} (K : PySem.W.Frag) (hK : X.K = K := by rfl) : MtR X "list.index" (rIndex K) := by
  subst hK
  exact mt_index
theorem pe_gv {X : Cx} {x : Str} {v : V} {p : Pos} (hg : Gl X x) (h : ∃ u, X.mg x = some u ∧ RelV v u) (hdb : (x == ("__debug__" : Str)) = false := by decide) : PE X (.Name x p) (tC v) := by
  obtain ⟨u, h1, h2⟩ := h
  exact pe_glob hg h1 h2 hdb
end WW

set_option Elab.async false
set_option linter.all false
set_option maxRecDepth 100000
set_option maxHeartbeats 4000000
namespace WW
open PySem PySem.Spec PyProof.Rows L2
/-! ### typed defs that may raise: X tells the error's class and its fields -/
abbrev XP := Addr → List (Str × V) → Prop
/-- what is raised where X allows it -/
def PX (B : Addr → Prop) (X : XP) (E : XK) (S0 H0 : Hp) : Prop := ∀ C fs d S' H', X C fs → Ext B S0 H0 S' H' → H0 d = none → H' d = some (.xd fs) → E (.ref C) (some d) H'
def spTX (K : PySem.W.Frag) (dp : List Slot → (Slot → Prop) → XP → Prop) : Sp := fun vs H Q E => ∃ B S ss R X, Same S H ∧ (∀ p, B p → S p = none ∧ IsBx (H p)) ∧ ArgsOk K B H S H vs ss ∧ dp ss R X ∧ (∀ s v S' H', R s → Ext B S H S' H' → SlotOk K B H S' H' (some v) s → Q v H') ∧ PX B X E S H
section
variable {K : PySem.W.Frag} {B : Addr → Prop} {ρ : List Slot} {ta tb tc te : TE} {Φ : Post}
theorem ds_raise {C : Addr} {fld : Str} {v : V} {E : XK} {X : XP} (h : ∀ S0 H0 S H σ, En K B S0 H0 S H σ ρ → ∀ Q : VK, (∀ S' H', Ext B S H S' H' → Q v H') → te σ H Q) (hx : X C [(fld, v)]) (hp : ∀ S0 H0, Φ.px S0 H0 → PX B X E S0 H0) :
    DS K B (fun _ σ H => tMkS C fld te σ H fun cls d H' => E cls d H') ρ Φ := fun S0 H0 S H σ D En px n r b c =>
  h S0 H0 S H σ En _ fun S1 H1 e1 d hd => hp S0 H0 px C _ d S1 _ hx ((En.ext.trans e1).trans (Ext.priv e1.i hd)) ((En.ext.trans e1).free En.i0 hd) upd_same
theorem dr_int {i : Int} (h : DE K B te ρ i) : ∀ S0 H0 S H σ, En K B S0 H0 S H σ ρ → ∀ Q : VK, (∀ S' H', Ext B S H S' H' → Q (.int i) H') → te σ H Q := fun S0 H0 S H σ E Q q => h S0 H0 S H σ E Q fun v S1 H1 e1 r => by cases r; exact q S1 H1 e1
theorem dr_str {z : Str} (h : DE K B te ρ z) : ∀ S0 H0 S H σ, En K B S0 H0 S H σ ρ → ∀ Q : VK, (∀ S' H', Ext B S H S' H' → Q (.str z) H') → te σ H Q := fun S0 H0 S H σ E Q q => h S0 H0 S H σ E Q fun v S1 H1 e1 r => by cases r; exact q S1 H1 e1
end
theorem okTX {P : Program} {w : World} {K : PySem.W.Frag} {mg : Str → Option Value} {base : Heap} {x qual : Str} {params : Arguments} {body : List Stmt} {scope : Scope} {dvs : List V} {kws : List (Str × V)} {f : Addr} {fd : FuncData} {N ps : List Str} {k : Nat} {dp : List Slot → (Slot → Prop) → XP → Prop}
    (F : FunD K x qual params body scope dvs kws f fd) (S : FnScope N ps scope) (len : ∀ ss R X, dp ss R X → ss.length = ps.length)
    (hbody : ∀ (cdv : Value) (A : Around) (outer : List PySem.Env) (s : Shared) (H : Hp) (E : XK), Room k (A.deeper (envOfC qual scope s.heap.objs.size f cdv)) →
      ∃ t, PSs (cxOf (L2.CX P w) P w K mg base N qual scope f cdv A outer s H E) body t ∧ ∀ (B : Addr → Prop) ss R X, dp ss R X → DS K B t (startS N ss) ⟨fun _ => R (.val ()), R, fun _ => False, fun _ => False, fun S0 H0 => PX B X E S0 H0⟩) : FnOk P w K mg base (L2.CX P w) (k + 1) f fd ps (spTX K dp) := by
  refine F.ok S (fun vs H Q E h => ?_) (fun cdv A outer s H vs Q E hr h => ?_)
  · obtain ⟨B, S, ss, R, X, _, _, ha, hd, _⟩ := h
    rw [ha.length, len ss R X hd]
  · obtain ⟨B, S, ss, R, X, hi, hb, ha, hd, q, qx⟩ := h
    obtain ⟨t, h1, h2⟩ := hbody cdv A outer s H E hr
    exact ⟨t, h1, h2 B ss R X hd S H S H _ _ (start_en hi hb ha) qx (fun ρ' σ' S' H' r _ E' => q _ _ S' H' r E'.ext rfl) (fun s v S' H' r ex ok => q s v S' H' r ex ok) (fun _ _ _ _ h => h.elim) (fun _ _ _ _ h => h.elim)⟩
end WW

set_option Elab.async false
set_option linter.all false
set_option maxRecDepth 100000
set_option maxHeartbeats 4000000
namespace WW
open PySem PySem.Spec PyProof.Rows L2
/-! ### numbers in texts -/
abbrev DIGS : Str := "0123456789"
theorem dig_list : DIGS.cps.toList = [48, 49, 50, 51, 52, 53, 54, 55, 56, 57] := by decide
theorem dig_mem {c : Nat} (h : c ∈ DIGS.cps.toList) : 48 ≤ c ∧ c ≤ 57 := by
  rw [dig_list] at h
  simp at h
  omega
def digsB (z : Str) : Bool := z.cps.toList.all fun c => decide (c ∈ DIGS.cps.toList)
def numOk (z : Str) (most : Int) : Bool := (decide (0 < (z.length : Int)) && decide ((z.length : Int) ≤ most)) && digsB z && (decide (z = "0") || !decide (z.cps.toList.head? = some 48))
def valS (z : Str) : Int := ((NumText.digitsVal z.cps.toList : Nat) : Int)
def numIn (z : Str) (most : Int) : Option Int := if numOk z most = true then some (valS z) else none
abbrev minus : Str := "-"
def intIn (z : Str) (most : Int) : Option Int := if decide (cutS z none (some 1) = minus) = true then (match numIn (cutS z (some 1) none) most with
  | none => none
  | some n => if n = 0 then none else some (-n)) else numIn z most
section
variable {P : Program} {w : World} {K : PySem.W.Frag} {mg : Str → Option Value} {base : Heap} {f : Addr} {fd : FuncData}
abbrev s_number_in : Stmt := top 10
abbrev N_number_in : List Str := ["text", "most", "sign"]
theorem sc_number_in : FnScope N_number_in ["text", "most"] (defScope s_number_in) := ⟨rfl, rfl, rfl, by decide +kernel, rfl, by decide +kernel, by decide +kernel⟩

theorem ok_number_in (F : FnP K "number_in" s_number_in f fd) (m_all : mg "all" = none) (m_len : mg "len" = none) (m_int : mg "int" = none) (v_DIGITS : ∃ u, mg "DIGITS" = some u ∧ RelV (.str DIGS) u) : FnOk P w K mg base CX0 1 f fd ["text", "most"] (spT K (dp2 (fun (z : Str) (m : Int) => z.length ≤ 100000 ∧ m ≤ 600) numIn)) := by
  refine okT F sc_number_in (fun ss R h => ?_) (fun cdv A outer s H E hr => ⟨_, (pss_cons (ps_if (PW.pt (pw_or (pt_not (pt_chain op_lt op_le (pe_int) (pe_callB call_len_str rfl m_len (by decide +kernel) (pa_cons (pv 0) (pa_nil))) (pv 1))) (pw_or1 (pt_not (pt_val (pe_callB (cr_allK K) rfl m_all (by decide +kernel) (pa_cons (pe_lc (own := [("sign", 2)]) rfl sc_number_in.nd (pi_str (pv 0)) (blkOk_by (N := N_number_in) (sc := defScope s_number_in) (by decide +kernel)) (fun _ _ _ _ _ => pg_name (i := 2) sc_number_in.nd rfl (.inl rfl)) (fun _ _ _ _ _ => pts_nil) (fun _ _ _ _ _ => pe_cmpR op_in_sign (pv 2) (pe_gv rfl v_DIGITS) rfl)) (pa_nil)))))))) (pss_one (ps_ret (pe_non))) (pss_nil))
 (pss_one (ps_ret (pe_ifExp (PW.pt (pw_or (pt_cmpR op_eq (pv 0) (pe_str) (nomark _)) (pw_or1 (pt_cmpR op_ne (pe_ix ix_str (pv 0) (pe_int) (fun _ _ => rfl)) (pe_str) (nomark _))))) (pe_callTy call_int_str rfl m_int (by decide +kernel) (pa_cons (pv 0) (pa_nil))) (pe_non))))), fun B ss R h => ?_⟩)
  · obtain ⟨x, y, rfl, _⟩ := h
    rfl
  · obtain ⟨z, m, rfl, ⟨hz, hm⟩, q⟩ := h
    show DS K B _ [.val z, .val m, .no] _
    have hb : z.length ≤ BIG := Nat.le_trans hz (by decide)
    refine ds_seq (ds_if (c := !(decide (0 < (z.length : Int)) && decide ((z.length : Int) ≤ m)) || !digsB z) (dt_or (dt_not (dt_test (d_chLtLe d_int (d_lenS (d_var rfl) hb) (d_var rfl)))) fun _ => dt_not (dt_B ?_)) (fun h => ?_) (fun h => ?_))
    · refine DE.is (d_all (DO.l (do_map (fun x : Str => digsB x) (di_str (d_var rfl)) (by rw [signs_len]; exact hb) fun x hx => ?_))) ?_
      · obtain ⟨c, _, rfl⟩ := List.mem_map.mp hx
        refine ⟨_, _, dg_name, by simp, DE.is (d_inSign (d_var rfl) d_str) ?_⟩
        simp [digsB]
      · unfold digsB signs
        rw [List.all_map, List.all_map]
        congr 1
        funext c
        simp
    · refine ds_retE q d_none ?_
      unfold numIn numOk
      rw [if_neg]
      intro hc
      simp only [Bool.and_eq_true] at hc
      rw [hc.1.1.1, hc.1.1.2, hc.1.2] at h
      cases h
    · have hh : (decide (0 < (z.length : Int)) && decide ((z.length : Int) ≤ m)) = true ∧ digsB z = true := by
        revert h
        cases (decide (0 < (z.length : Int)) && decide ((z.length : Int) ≤ m)) <;> cases digsB z <;> simp
      obtain ⟨h1, h2⟩ := hh
      have h1' := h1
      simp only [Bool.and_eq_true, decide_eq_true_eq] at h1'
      have l0 : 0 < z.cps.toList.length := by
        have : z.cps.toList.length = z.length := by rw [Array.length_toList]; rfl
        omega
      refine ds_next (ds_retE q (d_if (α := Option Int) (dt_or (dt_test (d_eq (d_var rfl) d_str inferInstance inferInstance)) fun _ => dt_test (d_ne (d_ixS (c := z.cps.toList[0]) (d_var rfl) d_int hb ?_) d_str inferInstance inferInstance)) (fun _ => d_some (d_intS (n := valS z) (d_var rfl) ?_ (by omega))) (fun _ => d_none)) ?_)
      · exact atI_nat (j := 0) (List.getElem?_eq_getElem l0)
      · refine intText_digits ?_ (List.ne_nil_of_length_pos l0) (by omega)
        intro c hc
        exact dig_mem (of_decide_eq_true (List.all_eq_true.mp h2 c hc))
      · unfold numIn numOk
        rw [h1, h2]
        cases hz0 : decide (z = "0") with
        | true => simp
        | false =>
          have e1 : decide ((⟨#[z.cps.toList[0]]⟩ : Str) = Str.ofString "0") = decide (z.cps.toList.head? = some 48) := by
            have e0 : Str.ofString "0" = ⟨#[48]⟩ := by decide
            rw [e0, List.head?_eq_getElem?, List.getElem?_eq_getElem l0]
            by_cases c : z.cps.toList[0] = 48
            · rw [c]
              simp
            · rw [decide_eq_false (fun h => c (by simpa using h)), decide_eq_false (fun h => c (by injection h))]
          rw [e1]
          simp
abbrev s_integer_in : Stmt := top 11
abbrev N_integer_in : List Str := ["text", "most", "found"]
theorem sc_integer_in : FnScope N_integer_in ["text", "most"] (defScope s_integer_in) := ⟨rfl, rfl, rfl, by decide +kernel, rfl, by decide +kernel, by decide +kernel⟩

theorem ok_integer_in (F : FnP K "integer_in" s_integer_in f fd) (g_number_in : FnAt P w K mg base CX0 1 "number_in" ["text", "most"] (spT K (dp2 (fun (z : Str) (m : Int) => z.length ≤ 100000 ∧ m ≤ 600) numIn))) : FnOk P w K mg base CX0 2 f fd ["text", "most"] (spT K (dp2 (fun (z : Str) (m : Int) => z.length ≤ 100000 ∧ m ≤ 600) intIn)) := by
  refine okT F sc_integer_in (fun ss R h => ?_) (fun cdv A outer s H E hr => ⟨_, (pss_cons (ps_if (pt_cmpR op_ne (pe_slice sl_str (pv 0) (po_none) (po_some (pe_int))) (pe_str) (nomark _)) (pss_one (ps_ret (pe_fn g_number_in hr rfl (pa_cons (pv 0) (pa_cons (pv 1) (pa_nil)))))) (pss_nil))
 (pss_cons (ps_set (i := 2) sc_integer_in.nd rfl (.inl rfl) (pe_fn g_number_in hr rfl (pa_cons (pe_slice sl_str (pv 0) (po_some (pe_int)) (po_none)) (pa_cons (pv 1) (pa_nil)))))
 (pss_one (ps_ret (pe_ifExp (PW.pt (pw_or (pt_cmpR op_isN (pv 2) (pe_non) (nomark _)) (pw_or1 (pt_cmpR op_eq (pv 2) (pe_int) (nomark _))))) (pe_non) (pe_un un_neg (pv 2))))))), fun B ss R h => ?_⟩)
  · obtain ⟨x, y, rfl, _⟩ := h
    rfl
  · obtain ⟨z, m, rfl, ⟨hz, hm⟩, q⟩ := h
    show DS K B _ [.val z, .val m, .no] _
    have hb : z.length ≤ BIG := Nat.le_trans hz (by decide)
    refine ds_seq (ds_if (dt_test (d_ne (d_slS (d_var rfl) dp_none (dp_some d_int) hb) d_str inferInstance inferInstance)) (fun h => ?_) (fun h => ?_))
    · refine ds_retE q (d_call2 (d_var rfl) (d_var rfl) ⟨hz, hm⟩) ?_
      unfold intIn
      rw [if_neg]
      intro c
      rw [show decide (cutS z none (some 1) = Str.ofString "-") = true from c] at h
      cases h
    · have c : decide (cutS z none (some 1) = minus) = true := by
        revert h
        show (!decide (cutS z none (some 1) = minus)) = false → _
        cases decide (cutS z none (some 1) = minus) <;> simp
      refine ds_next (ds_seq (ds_asg (d_call2 (d_slS (d_var rfl) (dp_some d_int) dp_none hb) (d_var rfl) ⟨Nat.le_trans (cutS_length _ _ _) hz, hm⟩) ?_))
      show DS K B _ [.val z, .val m, .val (numIn (cutS z (some 1) none) m)] _
      unfold intIn at q
      rw [if_pos c] at q
      cases hn : numIn (cutS z (some 1) none) m with
      | none =>
        rw [hn] at q
        exact ds_retE q (d_ifE (c := true) (dt_orT (by (exact DT.is (by (repeat' first | exact d_var rfl | exact d_get rfl | exact d_some (d_var rfl) | exact d_Uq (d_var rfl) | exact d_Lq (d_var rfl) | exact d_int | exact d_bl | exact d_str | exact d_none | exact d_unit | exact d_lenO rfl | with_reducible apply d_add | with_reducible apply d_sub | with_reducible apply d_mul | with_reducible apply d_fdiv | with_reducible apply d_mod | with_reducible apply d_neg | with_reducible apply d_lt | with_reducible apply d_le | with_reducible apply d_gt | with_reducible apply d_ge | with_reducible apply d_eq | with_reducible apply d_ne | with_reducible apply d_isN | with_reducible apply d_notN | with_reducible apply dt_test | with_reducible apply dt_B | with_reducible apply dt_not | with_reducible apply d_notV | with_reducible apply d_len | with_reducible apply d_call0 | with_reducible apply d_call1 | with_reducible apply d_call2 | with_reducible apply d_call3 | with_reducible apply d_call4 | with_reducible apply d_slice | with_reducible apply dp_none | with_reducible apply dp_some | with_reducible apply d_tuple | with_reducible apply da_nil | with_reducible apply da_cons | with_reducible apply dl_nil | with_reducible apply dl_cons | with_reducible apply dl_star | with_reducible apply d_chLtLe | with_reducible apply d_chLtLt | with_reducible apply d_chLeLt | with_reducible apply d_lenS | with_reducible apply d_inSign | with_reducible apply d_notInSign | with_reducible apply d_any | with_reducible apply d_all | with_reducible apply d_intI | with_reducible apply d_max2 | with_reducible apply d_min2 | with_reducible apply d_abs | with_reducible apply d_strI | with_reducible apply dt_and | with_reducible apply dt_or | with_reducible apply d_andV | with_reducible apply d_orV | exact inferInstance | with_reducible intro h_ | trivial)) (by rfl)))) (fun _ => d_none) (fun h => nomatch h)) rfl
      | some n =>
        rw [hn] at q
        refine ds_retE q (d_if (dt_or (c := decide (n = 0)) (b := false) (by (exact DT.is (by (repeat' first | exact d_var rfl | exact d_get rfl | exact d_some (d_var rfl) | exact d_Uq (d_var rfl) | exact d_Lq (d_var rfl) | exact d_int | exact d_bl | exact d_str | exact d_none | exact d_unit | exact d_lenO rfl | with_reducible apply d_add | with_reducible apply d_sub | with_reducible apply d_mul | with_reducible apply d_fdiv | with_reducible apply d_mod | with_reducible apply d_neg | with_reducible apply d_lt | with_reducible apply d_le | with_reducible apply d_gt | with_reducible apply d_ge | with_reducible apply d_eq | with_reducible apply d_ne | with_reducible apply d_isN | with_reducible apply d_notN | with_reducible apply dt_test | with_reducible apply dt_B | with_reducible apply dt_not | with_reducible apply d_notV | with_reducible apply d_len | with_reducible apply d_call0 | with_reducible apply d_call1 | with_reducible apply d_call2 | with_reducible apply d_call3 | with_reducible apply d_call4 | with_reducible apply d_slice | with_reducible apply dp_none | with_reducible apply dp_some | with_reducible apply d_tuple | with_reducible apply da_nil | with_reducible apply da_cons | with_reducible apply dl_nil | with_reducible apply dl_cons | with_reducible apply dl_star | with_reducible apply d_chLtLe | with_reducible apply d_chLtLt | with_reducible apply d_chLeLt | with_reducible apply d_lenS | with_reducible apply d_inSign | with_reducible apply d_notInSign | with_reducible apply d_any | with_reducible apply d_all | with_reducible apply d_intI | with_reducible apply d_max2 | with_reducible apply d_min2 | with_reducible apply d_abs | with_reducible apply d_strI | with_reducible apply dt_and | with_reducible apply dt_or | with_reducible apply d_andV | with_reducible apply d_orV | exact inferInstance | with_reducible intro h_ | trivial)) (by rfl))) fun _ => dt_test (d_eq (d_get rfl) d_int inferInstance inferInstance)) (fun _ => d_none) (fun _ => d_some (d_neg (d_get rfl)))) ?_
        by_cases z0 : n = 0 <;> simp [z0]
def thg1 (w : Str) : Option (Option Int) := if w = minus then some none else (intIn w 12).map some
def thgIn : List Str → Option (List (Option Int))
  | [] => some []
  | w :: r => (thg1 w).bind fun t => (thgIn r).map fun l => t :: l
theorem thgIn_app : ∀ (a b : List Str), thgIn (a ++ b) = (thgIn a).bind fun x => (thgIn b).map fun y => x ++ y
  | [], b => by simp [thgIn]
  | w :: r, b => by
    rw [List.cons_append, thgIn, thgIn, thgIn_app r b]
    cases thg1 w <;> cases thgIn r <;> cases thgIn b <;> simp
theorem thgIn_len : ∀ {a : List Str} {l : List (Option Int)}, thgIn a = some l → l.length = a.length
  | [], l, h => by cases h; rfl
  | w :: r, l, h => by
    rw [thgIn] at h
    cases h1 : thg1 w with
    | none => rw [h1] at h; cases h
    | some t =>
      cases h2 : thgIn r with
      | none => rw [h1, h2] at h; cases h
      | some k =>
        rw [h1, h2] at h
        cases h
        rw [List.length_cons, List.length_cons, thgIn_len h2]
abbrev s_things_in : Stmt := top 22
abbrev N_things_in : List Str := ["words", "found", "word", "thing"]
theorem sc_things_in : FnScope N_things_in ["words"] (defScope s_things_in) := ⟨rfl, rfl, rfl, by decide +kernel, rfl, by decide +kernel, by decide +kernel⟩

theorem ok_things_in (F : FnP K "things_in" s_things_in f fd) (v_MOST_DIGITS : ∃ u, mg "MOST_DIGITS" = some u ∧ RelV (.int 12) u) (g_integer_in : FnAt P w K mg base CX0 2 "integer_in" ["text", "most"] (spT K (dp2 (fun (z : Str) (m : Int) => z.length ≤ 100000 ∧ m ≤ 600) intIn))) : FnOk P w K mg base CX0 3 f fd ["words"] (spT K (dp1 (γ := Option (L (Option Int))) (fun ws : List Str => ws.length ≤ 100000 ∧ ∀ w ∈ ws, w.length ≤ 100000) thgIn)) := by
  refine okT F sc_things_in (fun ss R h => ?_) (fun cdv A outer s H E hr => ⟨_, (pss_cons (ps_set (i := 1) sc_things_in.nd rfl (.inl rfl) (pe_lst (pa_nil)))
 (pss_cons (ps_for PassesOwn.never rfl (pi_seqK K (pv 0)) (pg_name (i := 2) sc_things_in.nd rfl (.inl rfl)) (pss_cons (ps_set (i := 3) sc_things_in.nd rfl (.inl rfl) (pe_ifExp (pt_cmpR op_eq (pv 2) (pe_str) (nomark _)) (pe_non) (pe_fn g_integer_in hr rfl (pa_cons (pv 2) (pa_cons (pe_gv rfl v_MOST_DIGITS) (pa_nil))))))
 (pss_cons (ps_if (PW.pt (pw_and (pt_cmpR op_isN (pv 3) (pe_non) (nomark _)) (pw_and1 (pt_cmpR op_ne (pv 2) (pe_str) (nomark _))))) (pss_one (ps_ret (pe_non))) (pss_nil))
 (pss_one (ps_expr (pe_bmK K PySem.F.plainAttrs_list PySem.F.slot_list_append PySem.F.type_list_append mt_append (pv 1) (pa_cons (pv 3) (pa_nil))))))))
 (pss_one (ps_ret (pv 1))))), fun B ss R h => ?_⟩)
  · obtain ⟨x, rfl, _⟩ := h
    rfl
  · obtain ⟨ws, rfl, ⟨hwl, hw⟩, q⟩ := h
    show DS K B _ [.val ws, .no, .no, .no] _
    refine dq_asgO (do_nil (Option Int)) ?_
    refine dq_for (di_seq (d_var rfl)) (fun i ρ => ∃ acc s2 s3, ρ = [.val ws, .own acc, s2, s3] ∧ thgIn (ws.take i) = some acc) ⟨[], .no, .no, rfl, rfl⟩ (fun i x ρ1 hx hI => ?_) (fun ρ1 hI => ?_)
    · obtain ⟨acc, s2, s3, rfl, ha⟩ := hI
      have hlx := hw x (List.mem_of_getElem? hx)
      have hle := (List.getElem?_eq_some_iff.mp hx).1
      have hst : thgIn (ws.take (i + 1)) = (thg1 x).bind fun t => some (acc ++ [t]) := by
        rw [List.take_add_one, hx, thgIn_app, ha]
        show (some acc).bind (fun y => (thgIn [x]).map fun z => y ++ z) = _
        rw [thgIn, thgIn]
        cases thg1 x <;> simp
      have hbad : thg1 x = none → thgIn ws = none := fun h => by
        have e := thgIn_app (ws.take (i + 1)) (ws.drop (i + 1))
        rw [List.take_append_drop, hst, h] at e
        exact e
      have hal : acc.length < BIG := by
        rw [thgIn_len ha, List.length_take]
        exact Nat.lt_of_le_of_lt (Nat.min_le_right _ _) (Nat.lt_of_le_of_lt hwl (by decide))
      refine ⟨_, _, dg_name, ?_⟩
      by_cases hm : x = minus
      · have t1 : thg1 x = some none := if_pos hm
        refine dq_asgI (none : Option Int) (d_ifE (c := true) (DT.is (dt_test (d_eq (d_var rfl) d_str inferInstance inferInstance)) (decide_eq_true hm)) (fun _ => d_none) (fun h => nomatch h)) ?_
        refine dq_when (c := false) (DT.is (by (repeat' first | exact d_var rfl | exact d_get rfl | exact d_some (d_var rfl) | exact d_Uq (d_var rfl) | exact d_Lq (d_var rfl) | exact d_int | exact d_bl | exact d_str | exact d_none | exact d_unit | exact d_lenO rfl | with_reducible apply d_add | with_reducible apply d_sub | with_reducible apply d_mul | with_reducible apply d_fdiv | with_reducible apply d_mod | with_reducible apply d_neg | with_reducible apply d_lt | with_reducible apply d_le | with_reducible apply d_gt | with_reducible apply d_ge | with_reducible apply d_eq | with_reducible apply d_ne | with_reducible apply d_isN | with_reducible apply d_notN | with_reducible apply dt_test | with_reducible apply dt_B | with_reducible apply dt_not | with_reducible apply d_notV | with_reducible apply d_len | with_reducible apply d_call0 | with_reducible apply d_call1 | with_reducible apply d_call2 | with_reducible apply d_call3 | with_reducible apply d_call4 | with_reducible apply d_slice | with_reducible apply dp_none | with_reducible apply dp_some | with_reducible apply d_tuple | with_reducible apply da_nil | with_reducible apply da_cons | with_reducible apply dl_nil | with_reducible apply dl_cons | with_reducible apply dl_star | with_reducible apply d_chLtLe | with_reducible apply d_chLtLt | with_reducible apply d_chLeLt | with_reducible apply d_lenS | with_reducible apply d_inSign | with_reducible apply d_notInSign | with_reducible apply d_any | with_reducible apply d_all | with_reducible apply d_intI | with_reducible apply d_max2 | with_reducible apply d_min2 | with_reducible apply d_abs | with_reducible apply d_strI | with_reducible apply dt_and | with_reducible apply dt_or | with_reducible apply d_andV | with_reducible apply d_orV | exact inferInstance | with_reducible intro h_ | trivial)) (by rw [decide_eq_true hm]; rfl)) (fun h => nomatch h) (fun _ => ?_)
        exact ds_append (a := (none : Option Int)) rfl (d_var rfl) hal ⟨_, _, _, rfl, by rw [hst, t1]; rfl⟩
      · have t1 : thg1 x = (intIn x 12).map some := if_neg hm
        refine dq_asgI (intIn x 12) (d_ifE (c := false) (DT.is (dt_test (d_eq (d_var rfl) d_str inferInstance inferInstance)) (decide_eq_false hm)) (fun h => nomatch h) (fun _ => d_call2 (d_var rfl) d_int ⟨hlx, by decide⟩)) ?_
        cases hi : intIn x 12 with
        | none =>
          rw [hi] at t1
          refine dq_when (c := true) (DT.is (by (repeat' first | exact d_var rfl | exact d_get rfl | exact d_some (d_var rfl) | exact d_Uq (d_var rfl) | exact d_Lq (d_var rfl) | exact d_int | exact d_bl | exact d_str | exact d_none | exact d_unit | exact d_lenO rfl | with_reducible apply d_add | with_reducible apply d_sub | with_reducible apply d_mul | with_reducible apply d_fdiv | with_reducible apply d_mod | with_reducible apply d_neg | with_reducible apply d_lt | with_reducible apply d_le | with_reducible apply d_gt | with_reducible apply d_ge | with_reducible apply d_eq | with_reducible apply d_ne | with_reducible apply d_isN | with_reducible apply d_notN | with_reducible apply dt_test | with_reducible apply dt_B | with_reducible apply dt_not | with_reducible apply d_notV | with_reducible apply d_len | with_reducible apply d_call0 | with_reducible apply d_call1 | with_reducible apply d_call2 | with_reducible apply d_call3 | with_reducible apply d_call4 | with_reducible apply d_slice | with_reducible apply dp_none | with_reducible apply dp_some | with_reducible apply d_tuple | with_reducible apply da_nil | with_reducible apply da_cons | with_reducible apply dl_nil | with_reducible apply dl_cons | with_reducible apply dl_star | with_reducible apply d_chLtLe | with_reducible apply d_chLtLt | with_reducible apply d_chLeLt | with_reducible apply d_lenS | with_reducible apply d_inSign | with_reducible apply d_notInSign | with_reducible apply d_any | with_reducible apply d_all | with_reducible apply d_intI | with_reducible apply d_max2 | with_reducible apply d_min2 | with_reducible apply d_abs | with_reducible apply d_strI | with_reducible apply dt_and | with_reducible apply dt_or | with_reducible apply d_andV | with_reducible apply d_orV | exact inferInstance | with_reducible intro h_ | trivial)) (by rw [decide_eq_false hm]; rfl)) (fun _ => ?_) (fun h => nomatch h)
          exact ds_retE q d_none (hbad t1).symm
        | some n =>
          rw [hi] at t1
          refine dq_when (c := false) (dt_andF (by (exact DT.is (by (repeat' first | exact d_var rfl | exact d_get rfl | exact d_some (d_var rfl) | exact d_Uq (d_var rfl) | exact d_Lq (d_var rfl) | exact d_int | exact d_bl | exact d_str | exact d_none | exact d_unit | exact d_lenO rfl | with_reducible apply d_add | with_reducible apply d_sub | with_reducible apply d_mul | with_reducible apply d_fdiv | with_reducible apply d_mod | with_reducible apply d_neg | with_reducible apply d_lt | with_reducible apply d_le | with_reducible apply d_gt | with_reducible apply d_ge | with_reducible apply d_eq | with_reducible apply d_ne | with_reducible apply d_isN | with_reducible apply d_notN | with_reducible apply dt_test | with_reducible apply dt_B | with_reducible apply dt_not | with_reducible apply d_notV | with_reducible apply d_len | with_reducible apply d_call0 | with_reducible apply d_call1 | with_reducible apply d_call2 | with_reducible apply d_call3 | with_reducible apply d_call4 | with_reducible apply d_slice | with_reducible apply dp_none | with_reducible apply dp_some | with_reducible apply d_tuple | with_reducible apply da_nil | with_reducible apply da_cons | with_reducible apply dl_nil | with_reducible apply dl_cons | with_reducible apply dl_star | with_reducible apply d_chLtLe | with_reducible apply d_chLtLt | with_reducible apply d_chLeLt | with_reducible apply d_lenS | with_reducible apply d_inSign | with_reducible apply d_notInSign | with_reducible apply d_any | with_reducible apply d_all | with_reducible apply d_intI | with_reducible apply d_max2 | with_reducible apply d_min2 | with_reducible apply d_abs | with_reducible apply d_strI | with_reducible apply dt_and | with_reducible apply dt_or | with_reducible apply d_andV | with_reducible apply d_orV | exact inferInstance | with_reducible intro h_ | trivial)) (by rfl)))) (fun h => nomatch h) (fun _ => ?_)
          exact ds_append (a := some n) rfl (d_var rfl) hal ⟨_, _, _, rfl, by rw [hst, t1]; rfl⟩
    · obtain ⟨acc, s2, s3, rfl, ha⟩ := hI
      rw [List.take_length] at ha
      refine ds_frz (n := 1) rfl ?_
      exact ds_retE q (d_some (d_var rfl)) ha.symm
end
end WW

set_option Elab.async false
set_option linter.all false
set_option maxRecDepth 100000
set_option maxHeartbeats 4000000
namespace WW
open PySem PySem.Spec PyProof.Rows L2
/-! ### rows as they lie -/
structure RR where
  fs : List V
  ys : List V
  m : Int
structure RR.Ok (r : RR) : Prop where
  f1 : r.fs.length ≤ 20000
  y0 : 0 < r.ys.length
  y1 : r.ys.length ≤ 20000
  th : ∀ y ∈ r.fs, isThingV y = true
  ty : ∀ y ∈ r.ys, isThingV y = true
  m0 : 0 ≤ r.m
  m1 : r.m < 2 ^ 60
instance : Enc RR where
  rep K S v r := r.Ok ∧ ∃ x, v = .ref x ∧ RowAt (He.ga K "Row") S x r.fs r.ys r.m
  mono e h := by
    obtain ⟨o, x, z, r⟩ := h
    exact ⟨o, x, z, RowAt.ex e r⟩
instance : NotN RR := ⟨fun h => by obtain ⟨_, x, rfl, _⟩ := h; exact fun z => nomatch z⟩
def addV (v : V) (k : Int) : V := match v with
  | .int i => .int (i + k)
  | x => x
def RR.T (r : RR) (n : Nat) : V := if n < r.fs.length then r.fs.getD n .non else addV (r.ys.getD ((n - r.fs.length) % r.ys.length) .non) (((n - r.fs.length) / r.ys.length : Nat) * r.m)
section
variable {K : PySem.W.Frag} {B : Addr → Prop} {ρ ρ' ρ1 ρ2 : List Slot} {ta tb tc te : TE} {t u : TT} {ts tu tz : TS} {Φ : Post} {i j : Int} {r r' : RR}
theorem d_lfirst (RC : RowC K (He.ga K "Row")) (h : DE K B te ρ r) : DE K B (tFld K te "first") ρ (α := U V) r.fs := fun S0 H0 S H σ E Q q =>
  h S0 H0 S H σ E _ fun v S1 H1 e1 ⟨o, x, z, dx, p1, p2, hx, h1, h2⟩ => ⟨x, _, dx, _, _, z, e1.i _ _ hx, RC.cls, RC.nF, rfl, q _ S1 H1 e1 ⟨big2 o.f1, p1, _, rfl, .inl (.inl h1), pair_V _⟩⟩
theorem d_lagain (RC : RowC K (He.ga K "Row")) (h : DE K B te ρ r) : DE K B (tFld K te "again") ρ (α := U V) r.ys := fun S0 H0 S H σ E Q q =>
  h S0 H0 S H σ E _ fun v S1 H1 e1 ⟨o, x, z, dx, p1, p2, hx, h1, h2⟩ => ⟨x, _, dx, _, _, z, e1.i _ _ hx, RC.cls, RC.nA, rfl, q _ S1 H1 e1 ⟨big2 o.y1, p2, _, rfl, .inl (.inl h2), pair_V _⟩⟩
theorem d_lmore (RC : RowC K (He.ga K "Row")) (h : DE K B te ρ r) : DE K B (tFld K te "more") ρ r.m := fun S0 H0 S H σ E Q q =>
  h S0 H0 S H σ E _ fun v S1 H1 e1 ⟨o, x, z, dx, p1, p2, hx, h1, h2⟩ => ⟨x, _, dx, _, _, z, e1.i _ _ hx, RC.cls, RC.nM, rfl, q _ S1 H1 e1 rfl⟩
end
section
variable {P : Program} {w : World} {K : PySem.W.Frag} {mg : Str → Option Value} {base : Heap} {f : Addr} {fd : FuncData}
theorem atI_get {xs : List V} {k : Nat} (h : k < xs.length) : atI xs (k : Int) = some (xs.getD k .non) := getD_at h
theorem ok_ltime (F : FunD K "time" "Row.time" (defArgs s_Row_time) (defBody s_Row_time) (defScope s_Row_time) [] [] f fd) (RC : RowC K (He.ga K "Row")) (m_len : mg "len" = none) : FnOk P w K mg base CX0 1 f fd ["self", "n"] (spT K (dp2 (fun (r : RR) (n : Int) => r.Ok ∧ 0 ≤ n ∧ n < 1000000) fun r n => r.T n.toNat)) := by
  refine okT F sc_Row_time (fun ss R h => ?_) (fun cdv A outer s H E hr => ⟨_, (pss_cons (ps_if (pt_cmpR op_lt (pv 1) (pe_callB (call_lenK K) rfl m_len (by decide +kernel) (pa_cons (pe_fldK K (pv 0) rfl) (pa_nil))) (nomark _)) (pss_one (ps_ret (pe_ix (ix_sqK K) (pe_fldK K (pv 0) rfl) (pv 1) (fun _ _ => rfl)))) (pss_nil))
 (pss_cons (ps_set (i := 2) sc_Row_time.nd rfl (.inl rfl) (pe_op op_sub (pv 1) (pe_callB (call_lenK K) rfl m_len (by decide +kernel) (pa_cons (pe_fldK K (pv 0) rfl) (pa_nil)))))
 (pss_cons (ps_set (i := 3) sc_Row_time.nd rfl (.inl rfl) (pe_ix (ix_sqK K) (pe_fldK K (pv 0) rfl) (pe_op op_mod (pv 2) (pe_callB (call_lenK K) rfl m_len (by decide +kernel) (pa_cons (pe_fldK K (pv 0) rfl) (pa_nil)))) (fun _ _ => rfl)))
 (pss_one (ps_ret (pe_ifExp (pt_cmpR op_isN (pv 3) (pe_non) (nomark _)) (pe_non) (pe_op op_add (pv 3) (pe_op op_mul (pe_op op_fdiv (pv 2) (pe_callB (call_lenK K) rfl m_len (by decide +kernel) (pa_cons (pe_fldK K (pv 0) rfl) (pa_nil)))) (pe_fldK K (pv 0) rfl))))))))), fun B ss R h => ?_⟩)
  · obtain ⟨x, y, rfl, _⟩ := h
    rfl
  · obtain ⟨r, n, rfl, ⟨ok, n0, n1⟩, q⟩ := h
    have y0 := ok.y0
    have y1 := ok.y1
    have f1 := ok.f1
    have m0 := ok.m0
    have m1 := ok.m1
    refine dq_when (dt_test (d_lt (d_var rfl) (d_len (d_Uq (d_lfirst RC (d_var rfl)))))) (fun h => ?_) (fun h => ?_)
    · have h := of_decide_eq_true h
      have hl : n.toNat < r.fs.length := by omega
      refine ds_retE q (d_ix (x := r.fs.getD n.toNat .non) (d_Uq (d_lfirst RC (d_var rfl))) (d_var rfl) ?_) ?_
      · have := atI_get hl
        rw [Int.toNat_of_nonneg n0] at this
        exact this
      · show r.fs.getD n.toNat .non = r.T n.toNat
        unfold RR.T
        rw [if_pos hl]
    · have h := of_decide_eq_false h
      have hl : ¬ n.toNat < r.fs.length := by omega
      refine dq_asg (d_sub (d_var rfl) (d_len (d_Uq (d_lfirst RC (d_var rfl))))) ?_
      have ed : n - (r.fs.length : Int) = ((n.toNat - r.fs.length : Nat) : Int) := by omega
      have hk : (n.toNat - r.fs.length) % r.ys.length < r.ys.length := Nat.mod_lt _ y0
      refine dq_asg (d_ix (x := r.ys.getD ((n.toNat - r.fs.length) % r.ys.length) .non) (d_Uq (d_lagain RC (d_var rfl))) (d_mod (d_var rfl) (d_len (d_Uq (d_lagain RC (d_var rfl)))) (by omega)) ?_) ?_
      · rw [ed]
        exact atI_get hk
      · have tv : isThingV (r.ys.getD ((n.toNat - r.fs.length) % r.ys.length) .non) = true := by
          rw [List.getD_eq_getElem?_getD, List.getElem?_eq_getElem hk]
          exact ok.ty _ (List.getElem_mem hk)
        have eT : r.T n.toNat = addV (r.ys.getD ((n.toNat - r.fs.length) % r.ys.length) .non) (((n.toNat - r.fs.length) / r.ys.length : Nat) * r.m) := if_neg hl
        generalize r.ys.getD ((n.toNat - r.fs.length) % r.ys.length) .non = v at tv eT ⊢
        refine ds_retE q (DE.is ?_ eT.symm) rfl
        cases v with
        | non => exact d_ifE (c := true) (DT.is (dt_test (d_isNV (d_var rfl))) rfl) (fun _ => d_nv) (fun h => nomatch h)
        | int i =>
          refine d_ifE (c := false) (DT.is (dt_test (d_isNV (d_var rfl))) rfl) (fun h => nomatch h) (fun _ => DE.is (d_iv (d_add (d_vi (d_var rfl)) (d_mul (d_fdiv (d_var rfl) (d_len (d_Uq (d_lagain RC (d_var rfl)))) ⟨by omega, by omega⟩) (d_lmore RC (d_var rfl)) (.inr ⟨by omega, by omega⟩)))) ?_)
          rw [ed]
          rfl
        | _ => cases tv
end
end WW

set_option Elab.async false
set_option linter.all false
set_option maxRecDepth 100000
set_option maxHeartbeats 4000000
namespace WW
open PySem PySem.Spec PyProof.Rows L2
/-! ### what is made of a beginning, a turn, a growth -/
def rrOf (gs zs : List V) (k : Int) : RR := ⟨(leastV gs zs k).1, (leastV gs zs k).2.1, (leastV gs zs k).2.2⟩
theorem ris_non {xs : List V} (ht : xs.all isThingV = true) (h : risingV xs = true) {j : Nat} (hj : j < xs.length) (e : xs.getD j .non = .non) : ∀ i, i ≤ j → xs.getD i .non = .non := by
  intro i hi
  obtain ⟨d, rfl⟩ : ∃ d, j = i + d := ⟨j - i, by omega⟩
  clear hi
  induction d with
  | zero => exact e
  | succ d ih =>
    refine ih (by omega) ?_
    have q := risingV_at h (i := i + d) (by omega)
    have t := all_getD ht (i := i + d) (by omega)
    rw [show i + d + 1 = i + (d + 1) by omega, e] at q
    revert q t
    cases xs.getD (i + d) V.non <;> intro q t <;> first | rfl | (cases q; done) | (cases t; done)
/-- nothing comes again: nothing is there -/
theorem all_non {gs zs : List V} {k : Int} (h : wrongW (some gs) (some zs) (.int k) = .non) (h0 : hd zs = .non) : k = 0 ∧ (∀ i, gs.getD i .non = .non) ∧ ∀ i, zs.getD i .non = .non := by
  obtain ⟨ht, hr, k0, kt, kr, nm, kz⟩ := wrong_ok h
  have fact : lst zs = .non ∧ k = 0 := by
    unfold wrongW at h
    dsimp only at h
    rw [ht, hr] at h
    have h : wrongA gs zs (.int k) = .non := h
    unfold wrongA at h
    by_cases c2 : (zs.isEmpty || !zs.all isThingV) = true
    · rw [if_pos c2] at h
      cases h
    · rw [if_neg c2] at h
      by_cases c3 : (!risingV (cutV gs (some (-1)) none ++ zs) || (decide (hd zs = .non) && !decide (lst zs = .non))) = true
      · rw [if_pos c3] at h
        cases h
      · rw [if_neg c3, if_neg (by rw [nm]; exact fun z => nomatch z), if_pos h0] at h
        constructor
        · rw [kr, decide_eq_true h0] at c3
          by_cases c : lst zs = .non
          · exact c
          · rw [decide_eq_false c] at c3
            exact absurd rfl c3
        · by_cases c : V.int k = V.int 0
          · injection c
          · rw [if_neg c] at h
            cases h
  obtain ⟨l0, k00⟩ := fact
  have zr : risingV zs = true := rising_drop kr
  have z1 : ∀ i, zs.getD i .non = .non := fun i => by
    by_cases hi : i < zs.length
    · exact ris_non kt zr (j := zs.length - 1) (by omega) l0 i (by omega)
    · rw [List.getD_eq_getElem?_getD, List.getElem?_eq_none (by omega)]
      rfl
  refine ⟨k00, fun i => ?_, z1⟩
  by_cases hi : i < gs.length
  · refine ris_non ht hr (j := gs.length - 1) (by omega) ?_ i (by omega)
    have e : cutV gs (some (-1)) none = gs.drop (gs.length - 1) := cut_lastW
    rw [e] at kr
    have hl : (gs.drop (gs.length - 1)).length = 1 := by rw [List.length_drop]; omega
    have q := risingV_at kr (i := 0) (by rw [List.length_append, hl]; omega)
    have g1 : (gs.drop (gs.length - 1) ++ zs).getD (0 + 1) .non = .non := by
      have := z1 0
      rw [List.getD_eq_getElem?_getD] at this ⊢
      rw [List.getElem?_append_right (by omega), hl]
      exact this
    have g0 : (gs.drop (gs.length - 1) ++ zs).getD 0 .non = gs.getD (gs.length - 1) .non := by
      rw [List.getD_eq_getElem?_getD, List.getD_eq_getElem?_getD, List.getElem?_append_left (by omega), List.getElem?_drop]
      rfl
    rw [g1, g0] at q
    have t := all_getD ht (i := gs.length - 1) (by omega)
    revert q t
    cases gs.getD (gs.length - 1) V.non <;> intro q t <;> first | rfl | (cases q; done) | (cases t; done)
  · rw [List.getD_eq_getElem?_getD, List.getElem?_eq_none (by omega)]
    rfl
theorem told_T {gs : List V} {ag : List Int} {k : Int} (h : 0 < ag.length) (n : Nat) : RR.T ⟨gs, ag.map V.int, k⟩ n = seqT gs ag k n := by
  unfold RR.T seqT
  dsimp only
  by_cases c : n < gs.length
  · rw [if_pos c, if_pos c]
  · rw [if_neg c, if_neg c, List.length_map]
    have hk : (n - gs.length) % ag.length < ag.length := Nat.mod_lt _ h
    rw [List.getD_eq_getElem?_getD, List.getElem?_map, List.getElem?_eq_getElem hk, List.getD_eq_getElem?_getD, List.getElem?_eq_getElem hk]
    rfl
/-- a valid one: a row, with these times -/
theorem rr_ok {gs zs : List V} {k : Int} (h : wrongW (some gs) (some zs) (.int k) = .non) (g1 : gs.length ≤ 20000) (z1 : zs.length ≤ 20000) (k1 : k < 2 ^ 60) : (rrOf gs zs k).Ok ∧ ∀ n, (rrOf gs zs k).T n = RR.T ⟨gs, zs, k⟩ n := by
  obtain ⟨ht, hr, k0, kt, kr, nm, kz⟩ := wrong_ok h
  have kn : 0 ≤ k := of_decide_eq_true nm
  by_cases h0 : hd zs = .non
  · have e : leastV gs zs k = ([], [.non], 0) := if_pos h0
    obtain ⟨rfl, ng, nz⟩ := all_non h h0
    have er : rrOf gs zs 0 = ⟨[], [.non], 0⟩ := by
      unfold rrOf
      rw [e]
    rw [er]
    refine ⟨⟨by decide, by decide, by decide, (fun y hy => nomatch hy), (fun y hy => by rw [List.mem_singleton.mp hy]; rfl), by decide, by decide⟩, fun n => ?_⟩
    have e1 : RR.T ⟨[], [.non], 0⟩ n = .non := by
      unfold RR.T
      dsimp only
      rw [if_neg (show ¬ n < ([] : List V).length from Nat.not_lt_zero _)]
      simp [addV, Nat.mod_one]
    rw [e1]
    unfold RR.T
    dsimp only
    rw [ng, nz]
    split <;> rfl
  · obtain ⟨ag, rfl⟩ : ∃ ag : List Int, zs = ag.map V.int := kz.resolve_left h0
    have a0 : 0 < ag.length := by rw [List.length_map] at k0; exact k0
    have th : ∀ y ∈ gs, isThingV y = true := List.all_eq_true.mp ht
    have er : rrOf gs (ag.map V.int) k = ⟨(leastF gs ag k).1, (leastF gs ag k).2.1.map V.int, (leastF gs ag k).2.2⟩ := by
      unfold rrOf
      rw [leastV_mk a0]
      rfl
    obtain ⟨i1, i2, i3, i4⟩ := least_keeps (fs := gs) (ag := ag) (m := k) a0
    have tl := turnOf_le (m := k) a0
    have t0 := turnOf_pos ag k
    have L := least_is (m := k) a0 th
    obtain ⟨q, eq1, eq2⟩ := lin_dvd L.t0 L.lin L.min _ _ _ (lin_seq (fs := gs) (m := k) a0)
    have q0 : 0 < q := by
      rcases Nat.eq_zero_or_pos q with z | z
      · rw [z, Nat.mul_zero] at eq1
        omega
      · exact z
    have mm : 0 ≤ (leastF gs ag k).2.2 ∧ (leastF gs ag k).2.2 ≤ k := by
      generalize (leastF gs ag k).2.2 = c at eq2
      have c0 : 0 ≤ c := by
        rcases Int.lt_or_le c 0 with z | z
        · have : (q : Int) * c < 0 := Int.mul_neg_of_pos_of_neg (by omega) z
          omega
        · exact z
      have : 1 * c ≤ (q : Int) * c := Int.mul_le_mul_of_nonneg_right (by omega) c0
      omega
    rw [er]
    rw [List.length_map] at z1
    refine ⟨⟨by show (leastF gs ag k).1.length ≤ 20000; omega, by show 0 < ((leastF gs ag k).2.1.map V.int).length; rw [List.length_map]; omega, by show ((leastF gs ag k).2.1.map V.int).length ≤ 20000; rw [List.length_map]; omega, fun y hy => th y (i3 y hy), fun y hy => ?_, mm.1, by show (leastF gs ag k).2.2 < 2 ^ 60; omega⟩, fun n => ?_⟩
    · obtain ⟨i, _, rfl⟩ := List.mem_map.mp hy
      rfl
    · rw [told_T (by omega), told_T a0]
      exact i1 n
/-! ### Row(a, b, c), which may raise -/
def spInitXF (K : PySem.W.Frag) (C CI : Addr) : Sp := fun vs H Q E => ∃ (x dx : Addr) (v1 v2 : V) (fs ys : List V) (m : Int), vs = [.ref x, v1, v2, .int m] ∧ H x = some (.ins C dx []) ∧ Arg K H v1 (some fs) ∧ Arg K H v2 (some ys) ∧
  ((wrongW (some fs) (some ys) (.int m) = .non ∧ ∀ H' p1 p2, SameBut x H H' → H p1 = none → H p2 = none → H' x = some (.ins C dx [("first", .ref p1), ("again", .ref p2), ("more", .int (leastV fs ys m).2.2)]) → H' p1 = some (.tup (leastV fs ys m).1) → H' p2 = some (.tup (leastV fs ys m).2.1) → Q .non H') ∨
   (wrongW (some fs) (some ys) (.int m) ≠ .non ∧ ∀ d H', Same H H' → H d = none → H' d = some (.xd [("word", wrongW (some fs) (some ys) (.int m))]) → E (.ref CI) (some d) H'))
section
variable {P : Program} {w : World} {K : PySem.W.Frag} {mg : Str → Option Value} {base : Heap} {f : Addr} {fd : FuncData}
theorem ok_Row_initXF (F : FunD K "__init__" "Row.__init__" (defArgs s_Row___init__) (defBody s_Row___init__) (defScope s_Row___init__) [.int 0] [] f fd) (R : RowC K (He.ga K "Row")) (m_tuple : mg "tuple" = none) (g_wrong_word : FnAt P w K mg base CX0 3 "wrong_word" ["first", "again", "more"] (spWrong K)) (g_least_form : FnAt P w K mg base CX0 2 "least_form" ["first", "again", "more"] (spLeast K))
    (S_InvalidRow : SupAt P K mg "InvalidRow" "word") : FnOk P w K mg base (L2.CX P w) 4 f fd ["self", "first", "again", "more"] (spInitXF K (He.ga K "Row") (He.ga K "InvalidRow")) := by
  refine F.ok sc_Row___init__ (fun vs H Q E h => ?_) (fun cdv A outer s H vs Q E hr h => ?_)
  · obtain ⟨x, dx, v1, v2, fs, ys, m, rfl, _⟩ := h
    rfl
  · obtain ⟨x, dx, v1, v2, fs, ys, m, rfl, hx, h1, h2, hq⟩ := h
    refine ⟨_, (pss_cons (ps_set (i := 4) sc_Row___init__.nd rfl (.inl rfl) (pe_fn g_wrong_word hr rfl (pa_cons (pv 1) (pa_cons (pv 2) (pa_cons (pv 3) (pa_nil))))))
 (pss_cons (ps_if (pt_cmpR op_notN (pv 4) (pe_non) (nomark _)) (pss_one (ps_raise rfl (takes_of rfl rfl rfl rfl) (pmk_sup S_InvalidRow hr rfl (pv 4)))) (pss_nil))
 (pss_one (ps_asg (pe_fn g_least_form hr rfl (pa_cons (pe_callTy (call_tupleK K) rfl m_tuple (by decide +kernel) (pa_cons (pv 1) (pa_nil))) (pa_cons (pe_callTy (call_tupleK K) rfl m_tuple (by decide +kernel) (pa_cons (pv 2) (pa_nil))) (pa_cons (pv 3) (pa_nil))))) (pg_tupK (n := 3) K rfl (pgs_cons (pg_fld K (pv 0)) (pgs_cons (pg_fld K (pv 0)) (pgs_cons (pg_fld K (pv 0)) (pgs_nil))))))))), ?_⟩
    refine ⟨_, rfl, _, rfl, _, rfl, _, ⟨v1, v2, .int m, some fs, some ys, false, rfl, h1, h2, hasT_int m, rfl⟩, fun H1 s1 => ?_⟩
    rcases hq with ⟨hw, q⟩ | ⟨hw, q⟩
    · obtain ⟨ht, hr1, k0, kt, kr, nm, kz⟩ := wrong_ok hw
      rw [hw]
      refine ⟨_, rfl, rfl, _, rfl, ?_⟩
      obtain ⟨a, rfl, hq, hl, _⟩ := h1
      obtain ⟨b, rfl, kq, kl, _⟩ := h2
      refine ⟨_, rfl, tupq (hq.ex s1) fun p1 H2 s2 h2 => ⟨_, rfl, tupq (kq.ex (s1.trans s2)) fun p2 H3 s3 h3 => ⟨_, rfl, p1, p2, fs, ys, m, rfl, h2.ex s3, h3, hl, kl, k0, ht, kz, fun p q1 q2 H4 s4 e1 e2 e3 f1 f2 => ?_⟩⟩⟩
      have s13 : Same H H3 := (s1.trans s2).trans s3
      have s14 : Same H H4 := s13.trans s4
      have hx4 := s14 _ _ hx
      refine ⟨p, _, rfl, .inl (.inl e1), rfl, _, _, rfl, ⟨_, rfl, x, (He.ga K "Row"), dx, _, rfl, hx4, R.cls, R.nF, by decide, _, _, rfl, ⟨_, rfl, x, (He.ga K "Row"), dx, _, rfl, upd_same, R.cls, R.nA, (by show 1 < 1000; decide), _, _, rfl, ⟨_, rfl, x, (He.ga K "Row"), dx, _, rfl, upd_same, R.cls, R.nM, (by show 2 < 1000; decide), rfl, ?_⟩⟩⟩⟩
      have n1 : q1 ≠ x := fun z => by
        rw [z, hx4] at e2
        cases e2
      have n2 : q2 ≠ x := fun z => by
        rw [z, hx4] at e3
        cases e3
      rw [upd_upd, upd_upd]
      exact q _ q1 q2 (fun a o n ha => (upd_ne n).trans (s14 a o ha)) (s13.free f1) (s13.free f2) upd_same ((upd_ne n1).trans e2) ((upd_ne n2).trans e3)
    · refine ⟨_, rfl, rfl, _, rfl, ?_⟩
      rw [show (!decide (wrongW (some fs) (some ys) (.int m) = V.non)) = true by rw [decide_eq_false hw]; rfl]
      refine ⟨_, rfl, fun d hd => ?_⟩
      exact q d _ (s1.trans (same_new hd)) (s1.free hd) upd_same
end
section
variable {K : PySem.W.Frag} {B : Addr → Prop} {ρ : List Slot} {ta tb tc te : TE} {Φ : Post} {j : Int}
/-- return cls(a, b, c) -/
theorem ds_retMk {n : Nat} {gs zs : List V} {X : XP} {E : XK} (hc : ρ[n]? = some (.val (V.ref (He.ga K "Row")))) (h1 : DE K B ta ρ gs) (h2 : DE K B tb ρ zs) (h3 : DE K B tc ρ j) (g1 : gs.length ≤ 20000) (z1 : zs.length ≤ 20000) (t1 : ∀ y ∈ gs, isThingV y = true) (t2 : ∀ y ∈ zs, isThingV y = true) (j1 : j < 2 ^ 60)
    (hg : wrongW (some gs) (some zs) (.int j) = .non → Φ.rt (.val (rrOf gs zs j))) (hb : wrongW (some gs) (some zs) (.int j) ≠ .non → X (He.ga K "InvalidRow") [("word", wrongW (some gs) (some zs) (.int j))]) (hp : ∀ S0 H0, Φ.px S0 H0 → PX B X E S0 H0) :
    DS K B (tRet (tMakeLS n (He.ga K "Row") (spInitXF K (He.ga K "Row") (He.ga K "InvalidRow")) [] (WE fun cls d _ H => E cls d H) (tCons ta (tCons tb (tCons tc tNil))))) ρ Φ := fun S0 H0 S H σ D En px nx r b c => by
  obtain ⟨v0, e0, r0⟩ := En.val hc
  cases r0
  refine ⟨e0, h1 S0 H0 S H σ En _ fun v1 S1 H1 e1 r1 => h2 S0 H0 S1 H1 σ (En.go e1) _ fun v2 S2 H2 e2 r2 => h3 S0 H0 S2 H2 σ (En.go (e1.trans e2)) _ fun v3 S3 H3 e3 r3 x dx nx ndx hn => ?_⟩
  cases r3
  have e13 := (e1.trans e2).trans e3
  obtain ⟨l1, p1, w1, rfl, s1, r1⟩ := Enc.mono (e2.s.trans e3.s) r1
  obtain ⟨l2, p2, w2, rfl, s2, r2⟩ := Enc.mono e3.s r2
  cases vals_V r1
  cases vals_V r2
  have sm := e3.i
  have hu : Same H3 (upd (upd H3 dx (.own x)) x (.ins (He.ga K "Row") dx [])) := (same_new ndx).trans (same_new ((upd_ne (Ne.symm hn)).trans nx))
  refine ⟨x, dx, _, _, gs, zs, j, rfl, upd_same, ⟨p1, rfl, s1.ex (sm.trans hu), g1, fun y hy => ⟨false, hasT_thing (t1 y hy)⟩⟩, ⟨p2, rfl, s2.ex (sm.trans hu), z1, fun y hy => ⟨false, hasT_thing (t2 y hy)⟩⟩, ?_⟩
  by_cases hw : wrongW (some gs) (some zs) (.int j) = .non
  · refine .inl ⟨hw, fun H' q1 q2 sb n1 n2 e0 e1 e2 => ⟨rfl, ?_⟩⟩
    have f1 : H3 q1 = none := hu.free n1
    have f2 : H3 q2 = none := hu.free n2
    have st : ∀ a o, H3 a = some o → a ≠ x ∧ a ≠ q1 ∧ a ≠ q2 ∧ H' a = some o := fun a o ha => by
      have z1 : a ≠ x := ne_of_none ha nx
      exact ⟨z1, ne_of_none ha f1, ne_of_none ha f2, sb a o z1 (hu _ _ ha)⟩
    let S' : Hp := fun a => if a = x ∨ a = q1 ∨ a = q2 then H' a else S3 a
    have sx : S' x = H' x := if_pos (.inl rfl)
    have s1' : S' q1 = H' q1 := if_pos (.inr (.inl rfl))
    have s2' : S' q2 = H' q2 := if_pos (.inr (.inr rfl))
    have ex : Ext B S3 H3 S' H' := by
      refine ⟨fun a o ha => ?_, fun a o ha => ?_, fun a h1 h2 => ?_⟩
      · obtain ⟨z1, z2, z3, _⟩ := st a o (sm _ _ ha)
        show (if a = x ∨ a = q1 ∨ a = q2 then H' a else S3 a) = some o
        rw [if_neg (fun z => by rcases z with z | z | z; exact z1 z; exact z2 z; exact z3 z)]
        exact ha
      · have ha : (if a = x ∨ a = q1 ∨ a = q2 then H' a else S3 a) = some o := ha
        by_cases z : a = x ∨ a = q1 ∨ a = q2
        · rw [if_pos z] at ha
          exact ha
        · rw [if_neg z] at ha
          exact (st a o (sm _ _ ha)).2.2.2
      · cases hh : H3 a with
        | none => exact absurd hh h2
        | some o =>
          obtain ⟨z1, z2, z3, z4⟩ := st a o hh
          refine ⟨?_, .inl z4⟩
          show (if a = x ∨ a = q1 ∨ a = q2 then H' a else S3 a) = none
          rw [if_neg (fun z => by rcases z with z | z | z; exact z1 z; exact z2 z; exact z3 z)]
          exact h1
    exact r _ _ S' H' (hg hw) ((En.ext.trans e13).trans ex) ⟨(rr_ok hw g1 z1 j1).1, x, rfl, dx, q1, q2, sx.trans e0, s1'.trans e1, s2'.trans e2⟩
  · refine .inr ⟨hw, fun d H' s' nd hd => ?_⟩
    exact hp S0 H0 px _ _ d S3 H' (hb hw) ((En.ext.trans e13).trans (Ext.grow sm (hu.trans s'))) ((En.ext.trans e13).free En.i0 (hu.free nd)) hd
end
end WW

set_option Elab.async false
set_option linter.all false
set_option maxRecDepth 100000
set_option maxHeartbeats 4000000
namespace WW
open PySem PySem.Spec PyProof.Rows L2
/-! ### a text, or any other thing -/
inductive TX where
  | str (z : Str)
  | other
instance : Enc TX where
  rep K S v x := match x with
    | .str z => v = .str z
    | .other => ∃ t, TyX K S v t ∧ PySem.W.kitOne K t (.type "str") = some false
  mono {K H H' v a} e h := by
    cases a with
    | str z => exact h
    | other =>
      obtain ⟨t, h1, h2⟩ := h
      exact ⟨t, tyx_same e h1, h2⟩
def TX.isStr : TX → Bool
  | .str _ => true
  | .other => false
def TX.small : TX → Prop
  | .str z => z.length ≤ 15000
  | .other => True
instance {δ : Type} [DecidableEq δ] : DecidableEq (L δ) := inferInstanceAs (DecidableEq (List δ))
instance {δ : Type} [DecidableEq δ] : DecidableEq (U δ) := inferInstanceAs (DecidableEq (List δ))
def toV : Option Int → V
  | none => .non
  | some i => .int i
theorem toV_th (o : Option Int) : isThingV (toV o) = true := by cases o <;> rfl
instance {δ : Type} [Enc δ] [dt : DatE δ] : DatE (Option (L δ)) where
  d o := match o with
    | none => .none
    | some xs => .list (List.map dt.d xs)
  dp {K S v a} h := by
    cases a with
    | none => cases h; exact .non
    | some xs =>
      obtain ⟨_, p, vs, rfl, hh, r⟩ := h
      exact .lst (.inl (.inl hh)) (dpAll dt r)
  can a := by
    cases a with
    | none => simp [PyData.canLay0]
    | some xs => rw [PyData.canLay0]; exact canAll dt xs
  k := dt.k + 1
  dep a := by
    cases a with
    | none => simp [PyData.depth]
    | some xs => rw [PyData.depth]; exact Nat.succ_le_succ (depAll dt xs)
  inj a b := by
    cases a with
    | none => cases b <;> simp [PyData.eqv]
    | some x =>
      cases b with
      | none => simp [PyData.eqv]
      | some y =>
        rw [PyData.eqv, eqvAll_inj dt x y]
        constructor
        · intro h; rw [h]
        · intro h; injection h
section
variable {K : PySem.W.Frag} {B : Addr → Prop} {ρ ρ' ρ1 ρ2 : List Slot} {ta tb tc te : TE} {t u : TT} {ts tu tz : TS} {Φ : Post} {α : Type} {e_α : Enc α} {a : α} {i j : Int}
theorem d_unsome (h : DE K B te ρ (some a)) : DE K B te ρ a := h
theorem d_isStr {x : TX} (h : DE K B te ρ x) : DE K B (tCB (rIsi K) (tCons te (tCons (tC (.ty "str")) tNil))) ρ x.isStr := fun S0 H0 S H σ E Q q =>
  h S0 H0 S H σ E _ fun v S1 H1 e1 r1 => by
    cases x with
    | str z =>
      cases r1
      exact ⟨_, .ty "str", _, _, true, rfl, .ty "str", .base (.str z), kit_ty (by decide +kernel), q _ S1 H1 e1 rfl⟩
    | other =>
      obtain ⟨t, h1, h2⟩ := r1
      exact ⟨_, .ty "str", t, _, false, rfl, .ty "str", tyx_same e1.i h1, h2, q _ S1 H1 e1 rfl⟩
theorem d_asStr {z : Str} (h : DE K B te ρ (TX.str z)) : DE K B te ρ z := h
theorem pair_ov {S : Hp} : ∀ {vs : List V} {xs : List (Option Int)}, Paired (Enc.rep K S) vs xs → Paired (Enc.rep K S) vs (xs.map toV)
  | _, _, .nil => .nil
  | _, none :: _, .cons h r => .cons (by cases h; rfl) (pair_ov r)
  | _, some i :: _, .cons h r => .cons (by cases h; rfl) (pair_ov r)
theorem d_ovs {xs : List (Option Int)} (h : DE K B te ρ (α := L (Option Int)) xs) : DE K B te ρ (xs.map toV) := fun S0 H0 S H σ E Q q => h S0 H0 S H σ E _ fun v S1 H1 e1 ⟨hl, p, vs, e, hh, r⟩ => q v S1 H1 e1 ⟨by rw [List.length_map]; exact hl, p, vs, e, .l hh, pair_ov r⟩
theorem d_inD {xs : List α} (ha : DE K B ta ρ a) (hb : DE K B tb ρ (α := L α) xs) (inst : DecidableEq α) (dt : DatE α) (hk : dt.k < 64) : DE K B (tOp (rInD K) ta tb) ρ (decide (a ∈ xs)) :=
  d_op ha hb fun x y S H hi r1 r2 Q q => by
    obtain ⟨hl, p, vs, rfl, hh, r⟩ := r2
    refine ⟨dt.d a, xs.map dt.d, dt.dp (Enc.mono hi r1), .lst (.inl (.inl (hi _ _ hh))) (dpAll dt (Paired.mono (fun _ _ => Enc.mono hi) r)), shaped_d dt (by omega) a, ?_, ?_⟩
    · unfold SeqAt.shaped
      rw [PyData.canLay0, canAll dt, PyData.depth, Bool.true_and]
      exact decide_eq_true (by have := depAll dt xs; omega)
    · have e : (xs.map dt.d).any (fun z => PyData.eqv z (dt.d a)) = decide (a ∈ xs) := by
        rw [Bool.eq_iff_iff, List.any_eq_true, decide_eq_true_iff]
        constructor
        · rintro ⟨z, hz, h⟩
          obtain ⟨x, hx, rfl⟩ := List.mem_map.mp hz
          rw [(dt.inj x a).mp h] at hx
          exact hx
        · intro h
          exact ⟨dt.d a, List.mem_map.mpr ⟨a, h, rfl⟩, (dt.inj a a).mpr rfl⟩
      rw [e]
      exact q _ S H (Ext.refl hi) rfl
end
theorem op_inDK {X : Cx} {j : Nat} (K : PySem.W.Frag) (hr : Room j X.A) (h : X.K = K := by rfl) : OpR X (compareOp .In) (rInD K) := by
  subst h
  exact op_inD (by have := hr.un; omega)
/-! ### what the words tell -/
abbrev bar : Str := "|"
abbrev plus : Str := "+"
def wordsOf : TX → List Str
  | .str z => Txt.split z " "
  | .other => []
def midW (ws : List Str) : List Str := cutA ws (some ((ws.idxOf bar : Int) + 1)) (some (-2))
def formOk (ws : List Str) : Bool := decide (ws.count bar = 1) && (decide (4 ≤ ws.length) && decide (atI ws (-2) = some plus))
def lastW (ws : List Str) : Str := (atI ws (-1)).getD Str.empty
def parse (ws : List Str) : Option (List (Option Int) × List (Option Int) × Int) :=
  if formOk ws = true then (match thgIn (ws.take (ws.idxOf bar)), thgIn (midW ws), numIn (lastW ws) 12 with
    | some a, some b, some m => if b = [] then none else some (a, b, m)
    | _, _, _ => none) else none
theorem at_neg {δ : Type} {xs : List δ} {k : Nat} (k0 : 0 < k) (h : k ≤ xs.length) : atI xs (-(k : Int)) = xs[xs.length - k]? := by
  unfold atI ixN
  rw [if_neg (by omega), if_pos (by omega)]
  show xs[(-(k : Int) + (xs.length : Int)).toNat]? = _
  congr 1
  omega
theorem cutA_to {δ : Type} {xs : List δ} {t : Nat} : cutA xs none (some (t : Int)) = xs.take t := by
  unfold cutA
  rw [HT.sIx_none, HT.sIx_nat, List.drop_zero, Nat.sub_zero]
  by_cases h : t ≤ xs.length
  · rw [Nat.min_eq_left h]
  · rw [Nat.min_eq_right (by omega), List.take_length, List.take_of_length_le (by omega)]
theorem cutA_mem {δ : Type} {xs : List δ} {lo hi : Option Int} {x : δ} (h : x ∈ cutA xs lo hi) : x ∈ xs := List.mem_of_mem_drop (List.mem_of_mem_take h)
theorem idx_at {ws : List Str} (h : ws.count bar = 1) : ws[ws.idxOf bar]? = some bar ∧ ∀ m, m < ws.idxOf bar → ws[m]? ≠ some bar := by
  have hm : bar ∈ ws := List.count_pos_iff.mp (by omega)
  have hl : ws.idxOf bar < ws.length := List.idxOf_lt_length_iff.mpr hm
  refine ⟨?_, fun m hlt he => ?_⟩
  · rw [List.getElem?_eq_getElem hl, List.getElem_idxOf hl]
  · have : ws.idxOf bar ≤ m := by
      clear h hm hl
      induction ws generalizing m with
      | nil => simp at he
      | cons a r ih =>
        rw [List.idxOf_cons] at hlt ⊢
        by_cases c : (a == bar) = true
        · rw [c] at hlt
          exact absurd hlt (Nat.not_lt_zero _)
        · have c : (a == bar) = false := by simpa using c
          rw [c] at hlt ⊢
          cases m with
          | zero =>
            simp at he
            rw [he] at c
            simp at c
          | succ m =>
            have := ih m (by simpa using hlt) (by simpa using he)
            simpa using this
    omega
theorem digits_lt : ∀ (l : List Nat) (a k : Nat), (∀ c ∈ l, c ≤ 57) → a < 10 ^ k → l.foldl (fun acc c => acc * 10 + (c - 48)) a < 10 ^ (k + l.length)
  | [], a, k, _, h => h
  | c :: r, a, k, hc, h => by
    rw [List.foldl_cons, List.length_cons, show k + (r.length + 1) = (k + 1) + r.length by omega]
    refine digits_lt r _ _ (fun x hx => hc x (List.mem_cons_of_mem _ hx)) ?_
    have := hc c List.mem_cons_self
    rw [Nat.pow_succ]
    omega
theorem num_lt {z : Str} {m : Int} (h : numIn z 12 = some m) : m < 2 ^ 60 := by
  unfold numIn at h
  by_cases c : numOk z 12 = true
  · rw [if_pos c] at h
    unfold numOk at c
    simp only [Bool.and_eq_true, decide_eq_true_eq] at c
    obtain ⟨⟨⟨c1, c2⟩, c3⟩, _⟩ := c
    have q := digits_lt z.cps.toList 0 0 (fun x hx => (dig_mem (of_decide_eq_true (List.all_eq_true.mp c3 x hx))).2) (by decide)
    have hl : z.cps.toList.length ≤ 12 := by
      have : z.cps.toList.length = z.length := by rw [Array.length_toList]; rfl
      omega
    have p : 10 ^ (0 + z.cps.toList.length) ≤ 10 ^ 12 := Nat.pow_le_pow_right (by decide) (by omega)
    cases h
    show ((NumText.digitsVal z.cps.toList : Nat) : Int) < 2 ^ 60
    have e : NumText.digitsVal z.cps.toList = z.cps.toList.foldl (fun acc c => acc * 10 + (c - 48)) 0 := rfl
    rw [e]
    have : (10 : Nat) ^ 12 < 2 ^ 60 := by decide
    omega
  · rw [if_neg c] at h
    cases h
theorem words_len {x : TX} (h : x.small) : (wordsOf x).length ≤ 16000 ∧ ∀ w ∈ wordsOf x, w.length ≤ 16000 := by
  cases x with
  | other => exact ⟨by decide, (fun w hw => nomatch hw)⟩
  | str z =>
    have hz : z.length ≤ 15000 := h
    have q := PyProof.Rows.split_weight z " " (by decide)
    refine ⟨by show (Txt.split z " ").length ≤ 16000; omega, fun w hw => ?_⟩
    have : w.length ≤ ((Txt.split z " ").map (·.length)).sum := by
      have hw : w ∈ Txt.split z " " := hw
      generalize Txt.split z " " = l at hw
      induction l with
      | nil => cases hw
      | cons a r ih =>
        rw [List.map_cons, List.sum_cons]
        rcases List.mem_cons.mp hw with e | e
        · rw [e]; omega
        · have := ih e; omega
    omega
section
variable {P : Program} {w : World} {K : PySem.W.Frag} {mg : Str → Option Value} {base : Heap} {f : Addr} {fd : FuncData}
/-- Row.read(text) -/
def dpRead (K : PySem.W.Frag) : List Slot → (Slot → Prop) → XP → Prop := fun ss R X => ∃ x : TX, ss = [.val (V.ref (He.ga K "Row")), .val x] ∧ x.small ∧
  (parse (wordsOf x) = none → X (He.ga K "InvalidText") [("at", .int 0)]) ∧
  ∀ a b m, parse (wordsOf x) = some (a, b, m) → (wrongW (some (a.map toV)) (some (b.map toV)) (.int m) = .non → R (.val (rrOf (a.map toV) (b.map toV) m))) ∧ (wrongW (some (a.map toV)) (some (b.map toV)) (.int m) ≠ .non → X (He.ga K "InvalidRow") [("word", wrongW (some (a.map toV)) (some (b.map toV)) (.int m))])
abbrev s_Row_read : Stmt := inClass (top 20) 1
abbrev N_Row_read : List Str := ["cls", "text", "words", "at", "more", "found"]
theorem sc_Row_read : FnScope N_Row_read ["cls", "text"] (defScope s_Row_read) := ⟨rfl, rfl, rfl, by decide +kernel, rfl, by decide +kernel, by decide +kernel⟩

theorem ok_read (F : FunD K "read" "Row.read" (defArgs s_Row_read) (defBody s_Row_read) (defScope s_Row_read) [] [] f fd) (m_isinstance : mg "isinstance" = none) (m_str : mg "str" = none) (m_len : mg "len" = none) (v_MOST_DIGITS : ∃ u, mg "MOST_DIGITS" = some u ∧ RelV (.int 12) u)
    (g_number_in : FnAt P w K mg base CX0 1 "number_in" ["text", "most"] (spT K (dp2 (fun (z : Str) (m : Int) => z.length ≤ 100000 ∧ m ≤ 600) numIn)))
    (g_things_in : FnAt P w K mg base CX0 3 "things_in" ["words"] (spT K (dp1 (γ := Option (L (Option Int))) (fun ws : List Str => ws.length ≤ 100000 ∧ ∀ w ∈ ws, w.length ≤ 100000) thgIn)))
    (S_InvalidText : SupAt P K mg "InvalidText" "at") (gX_Row : MkAtX P w K mg base 4 "Row" ["self", "first", "again", "more"] (spInitXF K (He.ga K "Row") (He.ga K "InvalidRow")) []) : FnOk P w K mg base (L2.CX P w) 6 f fd ["cls", "text"] (spTX K (dpRead K)) := by
  refine okTX F sc_Row_read (fun ss R X h => ?_) (fun cdv A outer s H E hr => ⟨_, (pss_cons (ps_set (i := 2) sc_Row_read.nd rfl (.inl rfl) (pe_ifExp (pt_val (pe_callB (call_isiK1 K) rfl m_isinstance (by decide +kernel) (pa_cons (pv 1) (pa_cons (pe_bltn (v := .ty "str") (u := .type "str") rfl m_str (by decide +kernel) rfl) (pa_nil))))) (pe_split (pv 1) (pe_str)) (pe_lst (pa_nil))))
 (pss_cons (ps_if (PW.pt (pw_or (pt_cmpR op_ne (pe_bmK K PySem.F.plainAttrs_list PySem.F.slot_list_count PySem.F.type_list_count (mt_lcountF K) (pv 2) (pa_cons (pe_str) (pa_nil))) (pe_int) (nomark _)) (pw_or (pt_cmpR op_lt (pe_callB (call_lenK K) rfl m_len (by decide +kernel) (pa_cons (pv 2) (pa_nil))) (pe_int) (nomark _)) (pw_or1 (pt_cmpR op_ne (pe_ix (ix_sqK K) (pv 2) (pe_un un_neg (pe_int)) (fun _ _ => rfl)) (pe_str) (nomark _)))))) (pss_one (ps_raise rfl (takes_of rfl rfl rfl rfl) (pmk_sup S_InvalidText hr rfl pe_int))) (pss_nil))
 (pss_cons (ps_par (i := 3) (j := 4) rfl sc_Row_read.nd rfl rfl (by decide) rfl rfl (pa_cons (pe_bmK K PySem.F.plainAttrs_list PySem.F.slot_list_index PySem.F.type_list_index (mt_indexK K) (pv 2) (pa_cons (pe_str) (pa_nil))) (pa_cons (pe_fn g_number_in hr rfl (pa_cons (pe_ix (ix_sqK K) (pv 2) (pe_un un_neg (pe_int)) (fun _ _ => rfl)) (pa_cons (pe_gv rfl v_MOST_DIGITS) (pa_nil)))) (pa_nil))) rfl)
 (pss_cons (ps_set (i := 5) sc_Row_read.nd rfl (.inl rfl) (pe_lst (pa_cons (pe_fn g_things_in hr rfl (pa_cons (pe_slice (sl_sqK K) (pv 2) (po_none) (po_some (pv 3))) (pa_nil))) (pa_cons (pe_fn g_things_in hr rfl (pa_cons (pe_slice (sl_sqK K) (pv 2) (po_some (pe_op op_add (pv 3) (pe_int))) (po_some (pe_un un_neg (pe_int)))) (pa_nil))) (pa_nil)))))
 (pss_cons (ps_if (PW.pt (pw_or (pt_cmpR (op_inDK K hr) (pe_non) (pv 5) rfl) (pw_or (pt_cmpR op_isN (pv 4) (pe_non) (nomark _)) (pw_or1 (pt_cmpR op_eq (pe_callB (call_lenK K) rfl m_len (by decide +kernel) (pa_cons (pe_ix (ix_sqK K) (pv 5) (pe_int) (fun _ _ => rfl)) (pa_nil))) (pe_int) (nomark _)))))) (pss_one (ps_raise rfl (takes_of rfl rfl rfl rfl) (pmk_sup S_InvalidText hr rfl pe_int))) (pss_nil))
 (pss_one (ps_ret (pe_mkLX (i := 0) (y := "Row") K gX_Row (takes_of rfl rfl rfl rfl) hr rfl (.inl rfl) (pa_cons (pe_ix (ix_sqK K) (pv 5) pe_int (fun _ _ => rfl)) (pa_cons (pe_ix (ix_sqK K) (pv 5) pe_int (fun _ _ => rfl)) (pa_cons (pv 4) pa_nil))))))))))), fun B ss R X h => ?_⟩)
  · obtain ⟨x, rfl, _⟩ := h
    rfl
  · obtain ⟨x, rfl, hs, q1, q2⟩ := h
    show DS K B _ [.val (V.ref (He.ga K "Row")), .val x, .no, .no, .no, .no] _
    obtain ⟨wl, wp⟩ := words_len hs
    refine dq_asgI (δ := L Str) (wordsOf x) ?_ ?_
    · cases x with
      | str z =>
        have hz : z.length ≤ 15000 := hs
        exact d_ifE (c := true) (DT.is (dt_B (d_isStr (d_var rfl))) rfl) (fun _ => DO.l (do_split (d_asStr (d_var rfl)) d_str (by decide) (Nat.le_trans (Nat.add_le_add_right hz 2) (by decide)) (Nat.le_trans wl (by decide)))) (fun h => nomatch h)
      | other => exact d_ifE (c := false) (DT.is (dt_B (d_isStr (d_var rfl))) rfl) (fun h => nomatch h) (fun _ => DO.l (do_nil Str))
    · show DS K B _ [.val (V.ref (He.ga K "Row")), .val x, .val (α := L Str) (wordsOf x), .no, .no, .no] _
      generalize wordsOf x = ws at wl wp q1 q2 ⊢
      have px : ∀ S0 H0, PX B X E S0 H0 → PX B X E S0 H0 := fun _ _ h => h
      have two : 4 ≤ ws.length → atI ws (-2) = some ((atI ws (-2)).getD Str.empty) := fun h => by
        have e := at_neg (xs := ws) (k := 2) (by decide) (by omega)
        rw [show (-(2 : Int)) = -((2 : Nat) : Int) by rfl, e, List.getElem?_eq_getElem (by omega)]
        rfl
      have one : 4 ≤ ws.length → atI ws (-1) = some (lastW ws) := fun h => by
        unfold lastW
        have e := at_neg (xs := ws) (k := 1) (by decide) (by omega)
        rw [show (-(1 : Int)) = -((1 : Nat) : Int) by rfl, e, List.getElem?_eq_getElem (by omega)]
        rfl
      refine dq_when (c := !formOk ws) (DT.is (dt_or (dt_test (d_ne (d_countS (d_var rfl) d_str) d_int inferInstance inferInstance)) fun h1 => dt_or (dt_test (d_lt (d_len (d_Lq (d_var rfl))) d_int)) fun h2 => dt_test (d_ne (d_ix (x := (atI ws (-2)).getD Str.empty) (d_Lq (d_var rfl)) (d_neg d_int) (two (by have := of_decide_eq_false h2; omega))) d_str inferInstance inferInstance)) ?_) (fun h => ?_) (fun h => ?_)
      · unfold formOk
        by_cases c1 : ws.count bar = 1
        · by_cases c2 : 4 ≤ ws.length
          · rw [decide_eq_true c1, decide_eq_true c2, two c2]
            rw [show decide (((ws.count (Str.ofString "|") : Nat) : Int) = 1) = true from decide_eq_true (by have : ws.count (Str.ofString "|") = 1 := c1; omega), show decide ((ws.length : Int) < 4) = false from decide_eq_false (by omega)]
            simp
          · rw [decide_eq_true c1, decide_eq_false c2]
            rw [show decide (((ws.count (Str.ofString "|") : Nat) : Int) = 1) = true from decide_eq_true (by have : ws.count (Str.ofString "|") = 1 := c1; omega), show decide ((ws.length : Int) < 4) = true from decide_eq_true (by omega)]
            rfl
        · have c1' : ¬ ((ws.count (Str.ofString "|") : Nat) : Int) = 1 := fun z => c1 (show ws.count (Str.ofString "|") = 1 by omega)
          rw [decide_eq_false c1, decide_eq_false c1']
          rfl
      · have fo : formOk ws = false := by
          revert h
          cases formOk ws <;> simp
        exact ds_raise (dr_int d_int) (q1 (by unfold parse; rw [fo]; rfl)) px
      · have fo : formOk ws = true := by
          revert h
          cases formOk ws <;> simp
        have fo' := fo
        unfold formOk at fo'
        rw [Bool.and_eq_true, Bool.and_eq_true] at fo'
        have c1 := of_decide_eq_true fo'.1
        have c2 := of_decide_eq_true fo'.2.1
        obtain ⟨i1, i2⟩ := idx_at c1
        have lm : lastW ws ∈ ws := by
          have e := one c2
          have e2 := at_neg (xs := ws) (k := 1) (by decide) (by omega)
          rw [show (-(1 : Int)) = -((1 : Nat) : Int) by rfl, e2] at e
          exact List.mem_of_getElem? e
        refine dq_par (d_indexS (d_var rfl) d_str i1 i2) (d_call2 (d_ix (d_Lq (d_var rfl)) (d_neg d_int) (one c2)) d_int ⟨Nat.le_trans (wp _ lm) (by decide), by decide⟩) ?_
        refine dq_asgI (δ := L (Option (L (Option Int)))) ([thgIn (ws.take (ws.idxOf bar)), thgIn (midW ws)] : List (Option (L (Option Int)))) (DO.l (do_lst (dl_cons (DE.is (d_call1 (d_slice (d_Lq (d_var rfl)) dp_none (dp_some (d_var rfl))) ?_) (by rw [cutA_to])) (dl_cons (d_call1 (d_slice (d_Lq (d_var rfl)) (dp_some (d_add (d_var rfl) d_int)) (dp_some (d_neg d_int))) ?_) dl_nil)) (by show 2 ≤ BIG; decide))) ?_
        · exact ⟨Nat.le_trans (cutA_len _ _ _) (by omega), fun w hw => Nat.le_trans (wp w (cutA_mem hw)) (by decide)⟩
        · exact ⟨Nat.le_trans (cutA_len _ _ _) (by omega), fun w hw => Nat.le_trans (wp w (cutA_mem hw)) (by decide)⟩
        · show DS K B _ [.val (V.ref (He.ga K "Row")), .val x, .val (α := L Str) ws, .val (ws.idxOf bar : Int), .val (numIn (lastW ws) 12), .val (α := L (Option (L (Option Int)))) [thgIn (ws.take (ws.idxOf bar)), thgIn (midW ws)]] _
          have ep : parse ws = (match thgIn (ws.take (ws.idxOf bar)), thgIn (midW ws), numIn (lastW ws) 12 with
            | some a, some b, some m => if b = [] then none else some (a, b, m)
            | _, _, _ => none) := by
            unfold parse
            rw [fo]
            rfl
          have la : ∀ a, thgIn (ws.take (ws.idxOf bar)) = some a → a.length ≤ 16000 := fun a ha => by
            rw [thgIn_len ha, List.length_take]
            exact Nat.le_trans (Nat.min_le_right _ _) wl
          have lb : ∀ b, thgIn (midW ws) = some b → b.length ≤ 16000 := fun b hb => by
            rw [thgIn_len hb]
            exact Nat.le_trans (cutA_len _ _ _) wl
          cases ha : thgIn (ws.take (ws.idxOf bar)) with
          | none =>
            rw [ha] at ep
            refine dq_when (c := true) (dt_orT (DT.is (dt_test (d_inD (a := (none : Option (L (Option Int)))) d_none (d_var rfl) inferInstance inferInstance (by decide))) (decide_eq_true (List.Mem.head _)))) (fun _ => ?_) (fun h => nomatch h)
            exact ds_raise (dr_int d_int) (q1 ep) px
          | some a =>
            cases hb : thgIn (midW ws) with
            | none =>
              rw [ha, hb] at ep
              refine dq_when (c := true) (dt_orT (DT.is (dt_test (d_inD (a := (none : Option (L (Option Int)))) d_none (d_var rfl) inferInstance inferInstance (by decide))) (decide_eq_true (List.Mem.tail _ (List.Mem.head _))))) (fun _ => ?_) (fun h => nomatch h)
              exact ds_raise (dr_int d_int) (q1 ep) px
            | some b =>
              have nin : DT K B (tTest (tOp (rInD K) (tC V.non) (tVar 5))) [.val (V.ref (He.ga K "Row")), .val x, .val (α := L Str) ws, .val (ws.idxOf bar : Int), .val (numIn (lastW ws) 12), .val (α := L (Option (L (Option Int)))) [some a, some b]] false := DT.is (dt_test (d_inD (a := (none : Option (L (Option Int)))) d_none (d_var rfl) inferInstance inferInstance (by decide))) (by simp)
              cases hm : numIn (lastW ws) 12 with
              | none =>
                rw [ha, hb, hm] at ep
                rw [hm] at nin
                refine dq_when (c := true) (DT.is (dt_or nin fun _ => dt_orT (by (exact DT.is (by (repeat' first | exact d_var rfl | exact d_get rfl | exact d_some (d_var rfl) | exact d_Uq (d_var rfl) | exact d_Lq (d_var rfl) | exact d_int | exact d_bl | exact d_str | exact d_none | exact d_unit | exact d_lenO rfl | with_reducible apply d_add | with_reducible apply d_sub | with_reducible apply d_mul | with_reducible apply d_fdiv | with_reducible apply d_mod | with_reducible apply d_neg | with_reducible apply d_lt | with_reducible apply d_le | with_reducible apply d_gt | with_reducible apply d_ge | with_reducible apply d_eq | with_reducible apply d_ne | with_reducible apply d_isN | with_reducible apply d_notN | with_reducible apply dt_test | with_reducible apply dt_B | with_reducible apply dt_not | with_reducible apply d_notV | with_reducible apply d_len | with_reducible apply d_call0 | with_reducible apply d_call1 | with_reducible apply d_call2 | with_reducible apply d_call3 | with_reducible apply d_call4 | with_reducible apply d_slice | with_reducible apply dp_none | with_reducible apply dp_some | with_reducible apply d_tuple | with_reducible apply da_nil | with_reducible apply da_cons | with_reducible apply dl_nil | with_reducible apply dl_cons | with_reducible apply dl_star | with_reducible apply d_chLtLe | with_reducible apply d_chLtLt | with_reducible apply d_chLeLt | with_reducible apply d_lenS | with_reducible apply d_inSign | with_reducible apply d_notInSign | with_reducible apply d_any | with_reducible apply d_all | with_reducible apply d_intI | with_reducible apply d_max2 | with_reducible apply d_min2 | with_reducible apply d_abs | with_reducible apply d_strI | with_reducible apply dt_and | with_reducible apply dt_or | with_reducible apply d_andV | with_reducible apply d_orV | exact inferInstance | with_reducible intro h_ | trivial)) (by rfl)))) rfl) (fun _ => ?_) (fun h => nomatch h)
                exact ds_raise (dr_int d_int) (q1 ep) px
              | some m =>
                rw [hm] at nin
                rw [ha, hb, hm] at ep
                refine dq_when (c := decide (b = [])) (DT.is (dt_or nin fun _ => dt_or (b := false) (by (exact DT.is (by (repeat' first | exact d_var rfl | exact d_get rfl | exact d_some (d_var rfl) | exact d_Uq (d_var rfl) | exact d_Lq (d_var rfl) | exact d_int | exact d_bl | exact d_str | exact d_none | exact d_unit | exact d_lenO rfl | with_reducible apply d_add | with_reducible apply d_sub | with_reducible apply d_mul | with_reducible apply d_fdiv | with_reducible apply d_mod | with_reducible apply d_neg | with_reducible apply d_lt | with_reducible apply d_le | with_reducible apply d_gt | with_reducible apply d_ge | with_reducible apply d_eq | with_reducible apply d_ne | with_reducible apply d_isN | with_reducible apply d_notN | with_reducible apply dt_test | with_reducible apply dt_B | with_reducible apply dt_not | with_reducible apply d_notV | with_reducible apply d_len | with_reducible apply d_call0 | with_reducible apply d_call1 | with_reducible apply d_call2 | with_reducible apply d_call3 | with_reducible apply d_call4 | with_reducible apply d_slice | with_reducible apply dp_none | with_reducible apply dp_some | with_reducible apply d_tuple | with_reducible apply da_nil | with_reducible apply da_cons | with_reducible apply dl_nil | with_reducible apply dl_cons | with_reducible apply dl_star | with_reducible apply d_chLtLe | with_reducible apply d_chLtLt | with_reducible apply d_chLeLt | with_reducible apply d_lenS | with_reducible apply d_inSign | with_reducible apply d_notInSign | with_reducible apply d_any | with_reducible apply d_all | with_reducible apply d_intI | with_reducible apply d_max2 | with_reducible apply d_min2 | with_reducible apply d_abs | with_reducible apply d_strI | with_reducible apply dt_and | with_reducible apply dt_or | with_reducible apply d_andV | with_reducible apply d_orV | exact inferInstance | with_reducible intro h_ | trivial)) (by rfl))) fun _ => dt_test (d_eq (d_len (d_Lq (d_unsome (d_ix (x := some b) (d_Lq (d_var rfl)) d_int rfl)))) d_int inferInstance inferInstance)) ?_) (fun h => ?_) (fun h => ?_)
                · cases b with
                  | nil => rfl
                  | cons y r =>
                    have n1 : ¬ (((y :: r : List (Option Int)).length : Nat) : Int) = 0 := by rw [List.length_cons]; omega
                    have n2 : ¬ (y :: r : List (Option Int)) = [] := fun z => nomatch z
                    rw [decide_eq_false n2]
                    show (false || (false || decide ((((y :: r : List (Option Int)).length : Nat) : Int) = 0))) = false
                    rw [decide_eq_false n1]
                    rfl
                · have h := of_decide_eq_true h
                  have ep : parse ws = if b = [] then none else some (a, b, m) := ep
                  rw [if_pos h] at ep
                  exact ds_raise (dr_int d_int) (q1 ep) px
                · have h := of_decide_eq_false h
                  have ep : parse ws = if b = [] then none else some (a, b, m) := ep
                  rw [if_neg h] at ep
                  obtain ⟨r1, r2⟩ := q2 a b m ep
                  refine ds_retMk rfl (d_ovs (d_unsome (d_ix (x := some a) (d_Lq (d_var rfl)) d_int rfl))) (d_ovs (d_unsome (d_ix (x := some b) (d_Lq (d_var rfl)) d_int rfl))) (d_get rfl) ?_ ?_ (fun y hy => ?_) (fun y hy => ?_) ?_ r1 r2 px
                  · rw [List.length_map]
                    have := la a ha
                    omega
                  · rw [List.length_map]
                    have := lb b hb
                    omega
                  · obtain ⟨o, _, rfl⟩ := List.mem_map.mp hy
                    exact toV_th o
                  · obtain ⟨o, _, rfl⟩ := List.mem_map.mp hy
                    exact toV_th o
                  · exact num_lt hm
end
end WW

set_option Elab.async false
set_option linter.all false
set_option maxRecDepth 100000
set_option maxHeartbeats 4000000
namespace WW
open PySem PySem.Spec PyProof.Rows L2
section
variable {K : PySem.W.Frag} {B : Addr → Prop} {ρ ρ' ρ1 ρ2 : List Slot} {ta tb tc te : TE} {t u : TT} {ts tu tz : TS} {Φ : Post} {α : Type} {e_α : Enc α} {a : α} {i j : Int}
/-- a slice of a list is a new list -/
theorem do_slice {tl th : TO} {xs : List α} {lo hi : Option Int} (h : DE K B te ρ (α := L α) xs) (hl : DP K B tl ρ lo) (hh : DP K B th ρ hi) : DO K B (tSl (rSlQ K) te tl th) ρ (cutA xs lo hi) := fun S0 H0 S H σ E Q q =>
  h S0 H0 S H σ E _ fun v S1 H1 e1 r1 => hl S0 H0 S1 H1 σ (E.go e1) _ fun S2 H2 e2 => hh S0 H0 S2 H2 σ (E.go (e1.trans e2)) _ fun S3 H3 e3 => by
    have e13 := (e1.trans e2).trans e3
    obtain ⟨hl, p, vs, rfl, hq, r⟩ := Enc.mono (e2.s.trans e3.s) r1
    exact .inl ⟨p, vs, rfl, .inl (.inl (e3.i _ _ hq)), fun w hw => q w _ S3 _ (e13.trans (Ext.priv e3.i hw)) (e13.free E.i hw) (e3.i.free hw) upd_same (paired_cut r) (Nat.le_trans (cutA_len _ _ _) hl)⟩
theorem dpAllS {S : Hp} : ∀ {vs : List V} {xs : List Str}, Paired (Enc.rep K S) vs xs → DpAll K S vs (xs.map PyData.str)
  | _, _, .nil => .nil
  | _, _, .cons h r => by cases h; exact .cons (.str _) (dpAllS r)
theorem canS : ∀ {xs : List Str}, (∀ w ∈ xs, PyData.strOk w = true) → PyData.canLayAll0 (xs.map PyData.str) = true ∧ PyData.depthAll (xs.map PyData.str) = 0
  | [], _ => by simp [PyData.canLayAll0, PyData.depthAll]
  | x :: r, h => by
    obtain ⟨h1, h2⟩ := canS (xs := r) fun w hw => h w (List.mem_cons_of_mem _ hw)
    rw [List.map_cons, PyData.canLayAll0, PyData.depthAll, PyData.canLay0, PyData.depth, h x List.mem_cons_self, h1, h2]
    exact ⟨rfl, rfl⟩
/-- words != [] -/
theorem d_neNil {xs : List Str} (h : DE K B ta ρ (α := L Str) xs) (ho : ∀ w ∈ xs, PyData.strOk w = true) : DE K B (tOp (rNeD K) ta (tLst tNil)) ρ (!xs.isEmpty) :=
  d_op h (DO.l (do_nil Str)) fun x y S H hi r1 r2 Q q => by
    obtain ⟨_, p, vs, rfl, hh, r⟩ := r1
    obtain ⟨_, p2, vs2, rfl, hh2, r2⟩ := r2
    cases r2
    obtain ⟨c1, c2⟩ := canS ho
    refine ⟨.list (xs.map PyData.str), .list [], .lst (.inl (.inl (hi _ _ hh))) (dpAllS r), .lst (.inl (.inl (hi _ _ hh2))) .nil, ?_, ?_, ?_⟩
    · unfold SeqAt.shaped
      rw [PyData.canLay0, PyData.depth, c1, c2]
      rfl
    · decide
    · have e : PyData.eqv (.list (xs.map PyData.str)) (.list []) = xs.isEmpty := by
        cases xs <;> simp [PyData.eqv, PyData.eqvAll]
      rw [e]
      exact q _ S H (Ext.refl hi) rfl
/-- lists of strings with a test on the way, over what is put together -/
theorem do_catO {xs ys : List α} (h1 : DO K B ta ρ xs) (h2 : DO K B tb ρ ys) (hl : xs.length + ys.length ≤ BIG) : DO K B (tOp rCat ta tb) ρ (xs ++ ys) := do_cat h1.l h2.l hl
end
/-! ### signs -/
theorem mem_joinL {S : List Nat} {c : Nat} : ∀ {ps : List (List Nat)} {p : List Nat}, p ∈ ps → c ∈ p → c ∈ TL.joinL S ps
  | [q], p, h, hc => by
    rw [List.mem_singleton.mp h] at hc
    exact hc
  | q :: r :: s, p, h, hc => by
    show c ∈ q ++ (S ++ TL.joinL S (r :: s))
    rcases List.mem_cons.mp h with e | e
    · rw [e] at hc
      exact List.mem_append_left _ hc
    · exact List.mem_append_right _ (List.mem_append_right _ (mem_joinL e hc))
theorem split_ok {z : Str} (h : PyData.strOk z = true) : ∀ w ∈ Txt.split z " ", PyData.strOk w = true := fun w hw => by
  unfold PyData.strOk at h ⊢
  rw [← Array.all_toList, List.all_eq_true] at h ⊢
  intro c hc
  refine h c ?_
  have e := TL.tl_join " " (Txt.split z " ")
  rw [StrLaws.join_split] at e
  show c ∈ TL.tl z
  rw [e]
  exact mem_joinL (List.mem_map.mpr ⟨w, hw, rfl⟩) hc
theorem cut1 (z : Str) : (cutS z none (some 1)).cps.toList = z.cps.toList.take 1 := by
  unfold cutS
  rw [HT.sIx_none, show (some (1 : Int)) = some ((1 : Nat) : Int) from rfl, HT.sIx_nat]
  show List.take (min 1 z.length - 0) (z.cps.toList.drop 0) = _
  rw [List.drop_zero, Nat.sub_zero]
  have hl : z.cps.toList.length = z.length := by rw [Array.length_toList]; rfl
  by_cases h : 1 ≤ z.length
  · rw [Nat.min_eq_left h]
  · rw [Nat.min_eq_right (by omega), ← hl, List.take_length, List.take_of_length_le (by omega)]
theorem cut2 (z : Str) : (cutS z (some 1) none).cps.toList = z.cps.toList.drop 1 := by
  unfold cutS
  rw [HT.sIx_none, show (some (1 : Int)) = some ((1 : Nat) : Int) from rfl, HT.sIx_nat]
  show List.take (z.length - min 1 z.length) (z.cps.toList.drop (min 1 z.length)) = _
  have hl : z.cps.toList.length = z.length := by rw [Array.length_toList]; rfl
  by_cases h : 1 ≤ z.length
  · rw [Nat.min_eq_left h]
    exact List.take_of_length_le (by rw [List.length_drop]; omega)
  · rw [Nat.min_eq_right (by omega), List.drop_of_length_le (by omega), List.drop_of_length_le (by omega), List.take_nil]
theorem str_ext {x y : Str} (h : x.cps.toList = y.cps.toList) : x = y := by
  obtain ⟨a⟩ := x
  obtain ⟨b⟩ := y
  congr 1
  exact Array.toList_inj.mp h
/-- begins with a minus -/
theorem is_neg {z : Str} : cutS z none (some 1) = minus ↔ ∃ cs, z.cps.toList = 45 :: cs := by
  have em : minus.cps.toList = [45] := by decide
  constructor
  · intro h
    have e := cut1 z
    rw [h, em] at e
    cases hz : z.cps.toList with
    | nil => rw [hz] at e; cases e
    | cons c cs =>
      rw [hz] at e
      injection e with e1 _
      exact ⟨cs, by rw [e1]⟩
  · rintro ⟨cs, h⟩
    refine str_ext ?_
    rw [cut1, h, em]
    rfl
theorem val_pos : ∀ (l : List Nat) (a : Nat), 0 < a → 0 < l.foldl (fun acc c => acc * 10 + (c - 48)) a
  | [], a, h => h
  | c :: r, a, h => val_pos r (a * 10 + (c - 48)) (by omega)
theorem numIn_some {z : Str} {m n : Int} (h : numIn z m = some n) : numOk z m = true ∧ n = valS z := by
  unfold numIn at h
  by_cases c : numOk z m = true
  · rw [if_pos c] at h
    cases h
    exact ⟨c, rfl⟩
  · rw [if_neg c] at h
    cases h
theorem numOk_d {z : Str} {m : Int} (h : numOk z m = true) : NumText.AllDigits z.cps.toList ∧ z.cps.toList ≠ [] ∧ (z.length : Int) ≤ m ∧ 0 < z.length := by
  unfold numOk at h
  simp only [Bool.and_eq_true, decide_eq_true_eq] at h
  obtain ⟨⟨⟨c1, c2⟩, c3⟩, _⟩ := h
  have hl : z.cps.toList.length = z.length := by rw [Array.length_toList]; rfl
  exact ⟨fun c hc => dig_mem (of_decide_eq_true (List.all_eq_true.mp c3 c hc)), List.ne_nil_of_length_pos (by omega), c2, by omega⟩
/-- int(word) of a word that is an integer -/
theorem intIn_val {z : Str} {n : Int} (h : intIn z 12 = some n) : PySem.intText? z = some n ∧ z.length ≤ 13 := by
  unfold intIn at h
  by_cases c : decide (cutS z none (some 1) = minus) = true
  · rw [if_pos c] at h
    obtain ⟨cs, hz⟩ := is_neg.mp (of_decide_eq_true c)
    cases hn : numIn (cutS z (some 1) none) 12 with
    | none => rw [hn] at h; cases h
    | some k =>
      rw [hn] at h
      have h : (if k = 0 then none else some (-k)) = some n := h
      by_cases k0 : k = 0
      · rw [if_pos k0] at h; cases h
      · rw [if_neg k0] at h
        cases h
        obtain ⟨o, ek⟩ := numIn_some hn
        obtain ⟨d1, d2, d3, d4⟩ := numOk_d o
        have ec : (cutS z (some 1) none).cps.toList = cs := by rw [cut2, hz]; rfl
        rw [ec] at d1 d2
        have hl : z.cps.toList.length = z.length := by rw [Array.length_toList]; rfl
        have hl2 : (cutS z (some 1) none).cps.toList.length = (cutS z (some 1) none).length := by rw [Array.length_toList]; rfl
        rw [ec] at hl2
        rw [hz, List.length_cons] at hl
        refine ⟨?_, by omega⟩
        rw [intText_neg hz d1 d2 (by omega), ek]
        unfold valS
        rw [ec]
  · rw [if_neg c] at h
    obtain ⟨o, ek⟩ := numIn_some h
    obtain ⟨d1, d2, d3, d4⟩ := numOk_d o
    refine ⟨?_, by omega⟩
    rw [intText_digits d1 d2 (by omega), ek]
    rfl
end WW

set_option Elab.async false
set_option linter.all false
set_option maxRecDepth 100000
set_option maxHeartbeats 4000000
namespace WW
open PySem PySem.Spec PyProof.Rows L2
theorem sign0 {z : Str} (l0 : 0 < z.cps.toList.length) : decide ((⟨#[z.cps.toList[0]]⟩ : Str) = Str.ofString "0") = decide (z.cps.toList.head? = some 48) := by
  have e0 : Str.ofString "0" = ⟨#[48]⟩ := by decide
  rw [e0, List.head?_eq_getElem?, List.getElem?_eq_getElem l0]
  by_cases c : z.cps.toList[0] = 48
  · rw [c]
    simp
  · rw [decide_eq_false (fun h => c (by simpa using h)), decide_eq_false (fun h => c (by injection h))]
theorem is0 {z : Str} : z = Str.ofString "0" ↔ z.cps.toList = [48] := by
  have e0 : (Str.ofString "0").cps.toList = [48] := by decide
  constructor
  · intro h
    rw [h, e0]
  · intro h
    exact str_ext (h.trans e0.symm)
def figs (w : Str) : Str := if decide (cutS w none (some 1) = minus) = true then cutS w (some 1) none else w
def lenB (z : Str) : Bool := decide (0 < (z.length : Int)) && decide ((z.length : Int) < 13)
theorem ints_same (w : Str) (l0 : 0 < (figs w).cps.toList.length) (h1 : lenB (figs w) = true) (h2 : digsB (figs w) = true) : (decide (figs w = Str.ofString "0") && decide (w = Str.ofString "0") || !decide ((figs w).cps.toList.head? = some 48)) = (intIn w 12).isSome := by
  have nk : numOk (figs w) 12 = (decide (figs w = "0") || !decide ((figs w).cps.toList.head? = some 48)) := by
    unfold numOk
    unfold lenB at h1
    rw [Bool.and_eq_true] at h1
    rw [h1.1, h2, decide_eq_true (show ((figs w).length : Int) ≤ 12 by have := of_decide_eq_true h1.2; omega)]
    simp
  by_cases c : decide (cutS w none (some 1) = minus) = true
  · have ef : figs w = cutS w (some 1) none := if_pos c
    obtain ⟨cs, hw⟩ := is_neg.mp (of_decide_eq_true c)
    have w0 : ¬ w = Str.ofString "0" := fun z => by
      have := is0.mp z
      rw [hw] at this
      cases this
    have ei : intIn w 12 = (match numIn (figs w) 12 with
      | none => none
      | some n => if n = 0 then none else some (-n)) := by
      unfold intIn
      rw [if_pos c, ef]
      all_goals rfl
    rw [ei, decide_eq_false w0, Bool.and_false, Bool.false_or]
    by_cases h48 : (figs w).cps.toList.head? = some 48
    · rw [decide_eq_true h48] at nk ⊢
      by_cases f0 : figs w = "0"
      · have hv : numIn (figs w) 12 = some 0 := by
          unfold numIn
          rw [nk, decide_eq_true f0]
          show some (valS (figs w)) = some 0
          unfold valS
          rw [is0.mp f0]
          rfl
        rw [hv]
        rfl
      · have hv : numIn (figs w) 12 = none := by
          unfold numIn
          rw [nk, decide_eq_false f0]
          rfl
        rw [hv]
        rfl
    · rw [decide_eq_false h48] at nk ⊢
      have hv : numIn (figs w) 12 = some (valS (figs w)) := by
        unfold numIn
        rw [nk]
        simp
      rw [hv]
      have vp : valS (figs w) ≠ 0 := by
        unfold valS
        cases hc : (figs w).cps.toList with
        | nil => rw [hc] at l0; cases l0
        | cons a r =>
          have ha : a ∈ (figs w).cps.toList := by rw [hc]; exact List.mem_cons_self
          have hd := dig_mem (of_decide_eq_true (List.all_eq_true.mp h2 a ha))
          rw [hc] at h48
          have h48 : ¬ some a = some 48 := h48
          have : a ≠ 48 := fun z => h48 (by rw [z])
          have q := val_pos r (0 * 10 + (a - 48)) (by omega)
          have e : NumText.digitsVal (a :: r) = r.foldl (fun acc c => acc * 10 + (c - 48)) (0 * 10 + (a - 48)) := rfl
          rw [e]
          omega
      show true = Option.isSome (if valS (figs w) = 0 then none else some (-valS (figs w)))
      rw [if_neg vp]
      rfl
  · have ef : figs w = w := if_neg c
    have ei : intIn w 12 = numIn w 12 := by
      unfold intIn
      rw [if_neg c]
    rw [ei]
    rw [ef] at nk ⊢
    rw [Bool.and_self]
    unfold numIn
    rw [nk]
    cases h : (decide (w = "0") || !decide (w.cps.toList.head? = some 48)) <;> rfl
theorem filt_map {α β : Type} (g : α → β) (p : β → Bool) : ∀ l : List α, ((l.map g).filter p).isEmpty = l.all fun c => !p (g c)
  | [] => rfl
  | c :: r => by
    rw [List.map_cons, List.filter_cons, List.all_cons, ← filt_map g p r]
    cases p (g c) <;> simp
theorem filt_signs (z : Str) : ((signs z).filter fun x => !digsB x).isEmpty = digsB z := by
  unfold signs
  rw [filt_map]
  unfold digsB
  congr 1
  funext c
  simp
section
variable {P : Program} {w : World} {K : PySem.W.Frag} {mg : Str → Option Value} {base : Heap} {f : Addr} {fd : FuncData}
abbrev s_l_is_integer : Stmt := top 34
abbrev N_l_is_integer : List Str := ["_law_word", "_law_figures", "_law_sign"]
theorem sc_l_is_integer : FnScope N_l_is_integer ["_law_word"] (defScope s_l_is_integer) := ⟨rfl, rfl, rfl, by decide +kernel, rfl, by decide +kernel, by decide +kernel⟩

theorem ok_lint (F : FnP K "_law_is_integer" s_l_is_integer f fd) (m_len : mg "len" = none) : FnOk P w K mg base CX0 1 f fd ["_law_word"] (spT K (dp1 (fun z : Str => z.length ≤ 100000 ∧ PyData.strOk z = true) fun z => (intIn z 12).isSome)) := by
  refine okT F sc_l_is_integer (fun ss R h => ?_) (fun cdv A outer s H E hr => ⟨_, (pss_cons (ps_set (i := 1) sc_l_is_integer.nd rfl (.inl rfl) (pe_ifExp (pt_cmpR op_eq (pe_slice sl_str (pv 0) (po_none) (po_some (pe_int))) (pe_str) (nomark _)) (pe_slice sl_str (pv 0) (po_some (pe_int)) (po_none)) (pv 0)))
 (pss_cons (ps_if (PW.pt (pw_or (pt_not (pt_chain op_lt op_lt (pe_int) (pe_callB call_len_str rfl m_len (by decide +kernel) (pa_cons (pv 1) (pa_nil))) (pe_int))) (pw_or1 (pt_cmpR (op_neDK K hr) (pe_lc (own := [("_law_sign", 2)]) rfl sc_l_is_integer.nd (pi_str (pv 1)) (blkOk_by (N := N_l_is_integer) (sc := defScope s_l_is_integer) (by decide +kernel)) (fun _ _ _ _ _ => pg_name (i := 2) sc_l_is_integer.nd rfl (.inl rfl)) (fun _ _ _ _ _ => pts_one (pt_cmpR op_notIn_sign (pv 2) (pe_str) rfl)) (fun _ _ _ _ _ => pv 2)) (pe_lst (pa_nil)) (nomark _))))) (pss_one (ps_ret (pe_bl))) (pss_nil))
 (pss_one (ps_ret (pe_or (pe_and (pe_cmpR op_eq (pv 1) (pe_str) (nomark _)) (pe_one (pe_cmpR op_eq (pv 0) (pe_str) (nomark _)))) (pe_one (pe_cmpR op_ne (pe_ix ix_str (pv 1) (pe_int) (fun _ _ => rfl)) (pe_str) (nomark _)))))))), fun B ss R h => ?_⟩)
  · obtain ⟨x, rfl, _⟩ := h
    rfl
  · obtain ⟨z, rfl, ⟨hz, ho⟩, q⟩ := h
    show DS K B _ [.val z, .no, .no] _
    have hb : z.length ≤ BIG := Nat.le_trans hz (by decide)
    have fl : (figs z).length ≤ z.length := by
      unfold figs
      split
      · exact cutS_length _ _ _
      · exact Nat.le_refl _
    have fb := Nat.le_trans fl hb
    have fo : ∀ c ∈ (figs z).cps.toList, c < 0x110000 := fun c hc => by
      have hm : c ∈ z.cps.toList := by
        unfold figs at hc
        split at hc
        · rw [cut2] at hc
          exact List.mem_of_mem_drop hc
        · exact hc
      unfold PyData.strOk at ho
      rw [← Array.all_toList, List.all_eq_true] at ho
      simpa using ho c hm
    refine dq_asg (a := figs z) (d_if (dt_test (d_eq (d_slS (d_var rfl) dp_none (dp_some d_int) hb) d_str inferInstance inferInstance)) (fun _ => d_slS (d_var rfl) (dp_some d_int) dp_none hb) (fun _ => d_var rfl)) ?_
    show DS K B _ [.val z, .val (figs z), .no] _
    refine dq_when (c := !lenB (figs z) || !digsB (figs z)) (dt_or (dt_not (dt_test (d_chLtLt d_int (d_lenS (d_var rfl) fb) d_int))) fun _ => dt_test ?_) (fun h => ?_) (fun h => ?_)
    · refine DE.is (d_neNil (DO.l (do_lc (fun x : Str => !digsB x) (fun x => x) (di_str (d_var rfl)) (by rw [signs_len]; exact fb) fun x hx => ?_)) fun x hx => ?_) ?_
      · obtain ⟨c, _, rfl⟩ := List.mem_map.mp hx
        refine ⟨_, _, dg_name, by simp, DT.is (dt_test (d_notInSign (d_var rfl) d_str)) ?_, fun _ => d_var rfl⟩
        simp [digsB]
      · rw [List.map_id'] at hx
        obtain ⟨hx, _⟩ := List.mem_filter.mp hx
        obtain ⟨c, hc, rfl⟩ := List.mem_map.mp hx
        have := fo c hc
        simp [PyData.strOk, this]
      · rw [List.map_id']
        rw [filt_signs]
    · refine ds_retE q d_bl ?_
      have nn : ∀ m, numIn (figs z) 12 = some m → False := fun m hm => by
        obtain ⟨o, _⟩ := numIn_some hm
        unfold numOk at o
        simp only [Bool.and_eq_true, decide_eq_true_eq] at o
        have : lenB (figs z) = true := by
          unfold lenB
          rw [decide_eq_true o.1.1.1, decide_eq_true (by omega)]
          rfl
        rw [this, o.1.2] at h
        cases h
      show false = (intIn z 12).isSome
      unfold intIn
      unfold figs at nn
      by_cases c : decide (cutS z none (some 1) = minus) = true
      · rw [if_pos c] at nn ⊢
        cases hn : numIn (cutS z (some 1) none) 12 with
        | none => rfl
        | some m => exact (nn m hn).elim
      · rw [if_neg c] at nn ⊢
        cases hn : numIn z 12 with
        | none => rfl
        | some m => exact (nn m hn).elim
    · have hh : lenB (figs z) = true ∧ digsB (figs z) = true := by
        revert h
        cases lenB (figs z) <;> cases digsB (figs z) <;> simp
      obtain ⟨h1, h2⟩ := hh
      have l0 : 0 < (figs z).cps.toList.length := by
        have hl : (figs z).cps.toList.length = (figs z).length := by rw [Array.length_toList]; rfl
        unfold lenB at h1
        rw [Bool.and_eq_true] at h1
        have := of_decide_eq_true h1.1
        omega
      refine ds_retE q (d_orV (d_andV (d_eq (d_var rfl) d_str inferInstance inferInstance) fun _ => d_eq (d_var rfl) d_str inferInstance inferInstance) fun _ => d_ne (d_ixS (c := (figs z).cps.toList[0]) (d_var rfl) d_int fb (atI_nat (j := 0) (List.getElem?_eq_getElem l0))) d_str inferInstance inferInstance) ?_
      rw [sign0 l0]
      exact ints_same z l0 h1 h2
end
end WW

set_option Elab.async false
set_option linter.all false
set_option maxRecDepth 100000
set_option maxHeartbeats 4000000
namespace WW
open PySem L2
/-! ### what makes a row valid, told of all its things at once -/
theorem rising_left {xs ys : List V} (h : risingV (xs ++ ys) = true) : risingV xs = true := by
  refine risingV_of fun i hi => ?_
  have q := risingV_at h (i := i) (by rw [List.length_append]; omega)
  simp only [List.getD_eq_getElem?_getD] at q ⊢
  rw [List.getElem?_append_left (by omega), List.getElem?_append_left (by omega)] at q
  exact q
theorem rising_mid {xs ys : List V} (h : risingV (xs ++ ys) = true) : risingV (xs.drop (xs.length - 1) ++ ys) = true := by
  refine risingV_of fun i hi => ?_
  rw [List.length_append, List.length_drop] at hi
  have q := risingV_at h (i := xs.length - 1 + i) (by rw [List.length_append]; omega)
  have e : ∀ k, (xs.drop (xs.length - 1) ++ ys)[k]? = (xs ++ ys)[xs.length - 1 + k]? := fun k => by
    by_cases hx : xs.length = 0
    · have : xs = [] := List.eq_nil_of_length_eq_zero hx
      subst this
      simp
    · by_cases c : k < 1
      · rw [List.getElem?_append_left (by rw [List.length_drop]; omega), List.getElem?_drop, List.getElem?_append_left (by omega)]
      · rw [List.getElem?_append_right (by rw [List.length_drop]; omega), List.getElem?_append_right (by omega), List.length_drop]
        congr 1
        omega
  simp only [List.getD_eq_getElem?_getD] at q ⊢
  rw [e, e, ← Nat.add_assoc]
  exact q
theorem rising_join {xs ys : List V} (h1 : risingV xs = true) (h2 : risingV (xs.drop (xs.length - 1) ++ ys) = true) : risingV (xs ++ ys) = true := by
  refine risingV_of fun i hi => ?_
  rw [List.length_append] at hi
  by_cases c : i + 1 < xs.length
  · have q := risingV_at h1 c
    simp only [List.getD_eq_getElem?_getD] at q ⊢
    rw [List.getElem?_append_left (by omega), List.getElem?_append_left (by omega)]
    exact q
  · have e : ∀ k, (xs.drop (xs.length - 1) ++ ys)[k]? = (xs ++ ys)[xs.length - 1 + k]? := fun k => by
      by_cases hx : xs.length = 0
      · have : xs = [] := List.eq_nil_of_length_eq_zero hx
        subst this
        simp
      · by_cases c : k < 1
        · rw [List.getElem?_append_left (by rw [List.length_drop]; omega), List.getElem?_drop, List.getElem?_append_left (by omega)]
        · rw [List.getElem?_append_right (by rw [List.length_drop]; omega), List.getElem?_append_right (by omega), List.length_drop]
          congr 1
          omega
    have q := risingV_at h2 (i := i - (xs.length - 1)) (by rw [List.length_append, List.length_drop]; omega)
    simp only [List.getD_eq_getElem?_getD] at q ⊢
    rw [e, e, show xs.length - 1 + (i - (xs.length - 1) + 1) = i + 1 by omega, show xs.length - 1 + (i - (xs.length - 1)) = i by omega] at q
    exact q
theorem valid_iff {A Bs : List V} {m : Int} (hA : A.all isThingV = true) (hB : Bs.all isThingV = true) (b0 : Bs ≠ []) (m0 : 0 ≤ m) :
    wrongW (some A) (some Bs) (.int m) = .non ↔ risingV (A ++ Bs) = true ∧ (if hd Bs = .non then lst Bs = .non ∧ m = 0 else intOf (lst Bs) ≤ intOf (hd Bs) + m) := by
  have nm : isNumV (.int m) = true := decide_eq_true m0
  have e : cutV A (some (-1)) none = A.drop (A.length - 1) := cut_lastW
  have bi : Bs.isEmpty = false := by cases Bs with
    | nil => exact absurd rfl b0
    | cons _ _ => rfl
  constructor
  · intro h
    obtain ⟨ht, hr, k0, kt, kr, nm', kz⟩ := wrong_ok h
    rw [e] at kr
    refine ⟨rising_join hr kr, ?_⟩
    unfold wrongW at h
    dsimp only at h
    rw [ht, hr] at h
    have h : wrongA A Bs (.int m) = .non := h
    unfold wrongA at h
    rw [bi, hB, e, kr, nm] at h
    by_cases c : hd Bs = .non
    · rw [if_pos c]
      rw [decide_eq_true c] at h
      by_cases cl : lst Bs = .non
      · refine ⟨cl, ?_⟩
        rw [decide_eq_true cl] at h
        have h : (if hd Bs = .non then (if V.int m = .int 0 then V.non else .str "more") else _) = V.non := h
        rw [if_pos c] at h
        by_cases cm : V.int m = .int 0
        · injection cm
        · rw [if_neg cm] at h
          cases h
      · rw [decide_eq_false cl] at h
        cases h
    · rw [if_neg c]
      rw [decide_eq_false c] at h
      have h : (if hd Bs = .non then _ else if intOf (lst Bs) ≤ intOf (hd Bs) + intOf (.int m) then V.non else .str "more") = V.non := h
      rw [if_neg c] at h
      by_cases cm : intOf (lst Bs) ≤ intOf (hd Bs) + m
      · exact cm
      · have h : (if intOf (lst Bs) ≤ intOf (hd Bs) + m then V.non else .str "more") = V.non := h
        rw [if_neg cm] at h
        cases h
  · rintro ⟨hr, hc⟩
    unfold wrongW
    dsimp only
    rw [hA, rising_left hr]
    show wrongA A Bs (.int m) = .non
    unfold wrongA
    rw [bi, hB, e, rising_mid hr, nm]
    by_cases c : hd Bs = .non
    · rw [if_pos c] at hc
      rw [decide_eq_true c, decide_eq_true hc.1]
      show (if hd Bs = .non then (if V.int m = .int 0 then V.non else .str "more") else _) = V.non
      rw [if_pos c, hc.2]
      rfl
    · rw [if_neg c] at hc
      rw [decide_eq_false c]
      show (if hd Bs = .non then _ else if intOf (lst Bs) ≤ intOf (hd Bs) + m then V.non else .str "more") = V.non
      rw [if_neg c, if_pos hc]
end WW

set_option Elab.async false
set_option linter.all false
set_option maxRecDepth 100000
set_option maxHeartbeats 4000000
namespace WW
open PySem PySem.Spec PyProof.Rows L2
/-- what is due: a word, or a told row -/
inductive DU where
  | s (z : Str)
  | t (a b : List (Option Int)) (m : Int)
instance : Enc DU where
  rep K S v x := match x with
    | .s z => v = .str z
    | .t a b m => Enc.rep K S v (T3.mk (α := L (Option Int)) (β := L (Option Int)) a b m)
  mono {K H H' v a} e h := by
    cases a with
    | s z => exact h
    | t a b m => exact Enc.mono (α := T3 (L (Option Int)) (L (Option Int)) Int) e h
def validB (a b : List (Option Int)) (m : Int) : Bool := decide (wrongW (some (a.map toV)) (some (b.map toV)) (.int m) = .non)
def dueS (ws : List Str) : DU := match parse ws with
  | none => .s "text"
  | some (a, b, m) => if validB a b m = true then .t a b m else .s "row"
theorem pi_zipL {X : Cx} (K : PySem.W.Frag) {e e2 : Expr} {ta : TA} {p pos tpos : Pos} {elts : List Expr} {kk : Nat} (hg : Gl X "zip") (hm : X.mg "zip" = none) (ha : PA X [e, e2] ta) (h : X.K = K := by rfl)
    (hs : starEach [e, e2] X.env = (false, eval e X.env) :: starEach [e2] X.env := by rfl) (hpl : (backTo pos (starEach [e2] X.env)).any (·.1) = false := by rfl) :
    PI X (.Tuple elts kk tpos) (.Call (.Name "zip" p) [e, e2] [] pos) (iZip K ta) := by
  subst h
  exact pi_zip hg hm ha hs hpl
section
variable {K : PySem.W.Frag} {B : Addr → Prop} {ρ ρ' ρ1 ρ2 : List Slot} {ta tb tc te : TE} {t u : TT} {ts tu tz : TS} {Φ : Post} {α β : Type} {e_α : Enc α} {e_β : Enc β} {a : α} {i j : Int}
theorem d_unS {a : α} (h : DE K B te ρ (some a)) : DE K B te ρ a := h
theorem d_dus {z : Str} (h : DE K B te ρ z) : DE K B te ρ (DU.s z) := h
theorem d_dut {a b : List (Option Int)} {m : Int} (h : DE K B te ρ (T3.mk (α := L (Option Int)) (β := L (Option Int)) a b m)) : DE K B te ρ (DU.t a b m) := h
theorem DO.is {xs ys : List α} (h : DO K B te ρ xs) (e : xs = ys) : DO K B te ρ ys := e ▸ h
theorem di_zip {xs : List α} {ys : List β} (h1 : DE K B ta ρ (α := L α) xs) (h2 : DE K B tb ρ (α := L β) ys) : DI K B (iZip K (tCons ta (tCons tb tNil))) ρ (xs.zip ys) := fun S0 H0 S H σ E R q =>
  h1 S0 H0 S H σ E _ fun v S1 H1 e1 r1 => h2 S0 H0 S1 H1 σ (E.go e1) _ fun w S2 H2 e2 ⟨hl2, p2, vs2, z2, hh2, r2⟩ => by
    obtain ⟨hl1, p1, vs1, z1, hh1, q1⟩ := Enc.mono e2.s r1
    clear r1
    subst z1
    subst z2
    refine ⟨p1, p2, vs1, vs2, rfl, .inl (.inl (e2.i _ _ hh1)), .inl (.inl (e2.i _ _ hh2)), q _ S2 H2 (e1.trans e2) fun S3 H3 s3 i3 => ?_⟩
    have g1 : SqL K H3 p1 vs1 := .inl (.inl (i3 _ _ (s3 _ _ hh1)))
    have g2 : SqL K H3 p2 vs2 := .inl (.inl (i3 _ _ (s3 _ _ hh2)))
    refine ⟨fun n x hx => ?_, vs1, vs2, g1, g2, by rw [List.length_zip, q1.length, r2.length]; omega⟩
    rw [List.getElem?_zip_eq_some] at hx
    obtain ⟨u1, f1, f2⟩ := Paired.at q1 hx.1
    obtain ⟨u2, k1, k2⟩ := Paired.at r2 hx.2
    refine ⟨⟨vs1, vs2, u1, u2, g1, g2, f1, k1⟩, fun v' H4 hy => ?_⟩
    obtain ⟨T, y1, y2, rfl, hT, rfl, a1, a2⟩ := hy
    have c1 := a1 vs1 g1
    have c2 := a2 vs2 g2
    rw [f1] at c1
    rw [k1] at c2
    cases c1
    cases c2
    have e4 : Ext B S3 H3 (upd S3 T (.tup [u1, u2])) (upd H3 T (.tup [u1, u2])) := Ext.new i3 hT
    exact ⟨_, e4, T, u1, u2, rfl, .inl (.inl upd_same), Enc.mono (s3.trans e4.s) f2, Enc.mono (s3.trans e4.s) k2⟩
end
/-! ### the words, once more -/
def bad (w : Str) : Bool := !decide (w = minus) && !(intIn w 12).isSome
def thgV (w : Str) : Option Int := (thg1 w).getD none
theorem bad_is (w : Str) : bad w = (thg1 w).isNone := by
  unfold bad thg1
  by_cases c : w = minus
  · rw [decide_eq_true c, if_pos c]
    rfl
  · rw [decide_eq_false c, if_neg c]
    cases intIn w 12 <;> rfl
theorem thgIn_ok : ∀ {ws : List Str}, (∀ w ∈ ws, bad w = false) → thgIn ws = some (ws.map thgV)
  | [], _ => rfl
  | w :: r, h => by
    rw [thgIn, thgIn_ok fun x hx => h x (List.mem_cons_of_mem _ hx)]
    have := h w List.mem_cons_self
    rw [bad_is] at this
    unfold thgV
    cases e : thg1 w with
    | none => rw [e] at this; cases this
    | some t => simp [e]
theorem thgIn_bad : ∀ {ws : List Str} {w : Str}, w ∈ ws → bad w = true → thgIn ws = none
  | x :: r, w, h, hb => by
    rw [thgIn]
    rcases List.mem_cons.mp h with e | e
    · subst e
      rw [bad_is] at hb
      cases ht : thg1 w with
      | none => rfl
      | some t => rw [ht] at hb; cases hb
    · rw [thgIn_bad e hb]
      cases thg1 x <;> rfl
theorem sIx_neg2 {n : Nat} (h : 2 ≤ n) : HT.sIx n n (some (-2)) = n - 2 := by
  show (if (-2 : Int) < 0 then ((-2 : Int) + (n : Int)).toNat else min (-2 : Int).toNat n) = n - 2
  rw [if_pos (by decide)]
  omega
theorem mid_len {ws : List Str} (h : 4 ≤ ws.length) : (midW ws).length = ws.length - 2 - (ws.idxOf bar + 1) := by
  unfold midW cutA
  rw [show ((ws.idxOf bar : Int) + 1) = ((ws.idxOf bar + 1 : Nat) : Int) by omega, HT.sIx_nat, sIx_neg2 (by omega), List.length_take, List.length_drop]
  omega
theorem parse_no {ws : List Str} (h : formOk ws = false ∨ ¬ ws.idxOf bar + 4 ≤ ws.length ∨ thgIn (ws.take (ws.idxOf bar)) = none ∨ thgIn (midW ws) = none ∨ numIn (lastW ws) 12 = none) : parse ws = none := by
  unfold parse
  by_cases fo : formOk ws = true
  · rw [if_pos fo]
    have c2 : 4 ≤ ws.length := by
      unfold formOk at fo
      rw [Bool.and_eq_true, Bool.and_eq_true] at fo
      exact of_decide_eq_true fo.2.1
    rcases h with h | h | h | h | h
    · rw [fo] at h; cases h
    · have e : midW ws = [] := List.eq_nil_of_length_eq_zero (by rw [mid_len c2]; omega)
      rw [e]
      cases thgIn (ws.take (ws.idxOf bar)) <;> cases numIn (lastW ws) 12 <;> rfl
    · rw [h]
    · rw [h]
      cases thgIn (ws.take (ws.idxOf bar)) <;> rfl
    · rw [h]
      cases thgIn (ws.take (ws.idxOf bar)) <;> cases thgIn (midW ws) <;> rfl
  · rw [if_neg fo]
theorem parse_yes {ws : List Str} {a b : List (Option Int)} {m : Int} (fo : formOk ws = true) (c2 : 4 ≤ ws.length) (h : ws.idxOf bar + 4 ≤ ws.length) (ha : thgIn (ws.take (ws.idxOf bar)) = some a) (hb : thgIn (midW ws) = some b) (hm : numIn (lastW ws) 12 = some m) : parse ws = some (a, b, m) ∧ b ≠ [] := by
  have b0 : b ≠ [] := fun z => by
    have e := thgIn_len hb
    rw [mid_len c2, z] at e
    have : ([] : List (Option Int)).length = 0 := rfl
    omega
  refine ⟨?_, b0⟩
  unfold parse
  rw [if_pos fo, ha, hb, hm]
  show (if b = [] then none else some (a, b, m)) = _
  rw [if_neg b0]
/-- the last word -/
theorem last_num (z : Str) : (!(intIn z 12).isSome || decide (z.cps.toList.head? = some 45)) = true → numIn z 12 = none := by
  intro h
  cases hn : numIn z 12 with
  | none => rfl
  | some n =>
    exfalso
    obtain ⟨o, _⟩ := numIn_some hn
    obtain ⟨d1, d2, _⟩ := numOk_d o
    have n45 : ¬ z.cps.toList.head? = some 45 := fun e => by
      cases hz : z.cps.toList with
      | nil => exact d2 hz
      | cons c r =>
        rw [hz] at e
        have e : some c = some 45 := e
        have := d1 c (by rw [hz]; exact List.mem_cons_self)
        injection e with e
        omega
    have ng : ¬ cutS z none (some 1) = minus := fun e => by
      obtain ⟨cs, hz⟩ := is_neg.mp e
      rw [hz] at n45
      exact n45 rfl
    have ei : intIn z 12 = some n := by
      unfold intIn
      rw [if_neg (by rw [decide_eq_false ng]; exact fun z => nomatch z), hn]
    rw [ei, decide_eq_false n45] at h
    cases h
theorem last_num' {z : Str} (h : (!(intIn z 12).isSome || decide (z.cps.toList.head? = some 45)) = false) : ∃ m, numIn z 12 = some m ∧ intIn z 12 = some m := by
  rw [Bool.or_eq_false_iff] at h
  have ng : ¬ cutS z none (some 1) = minus := fun e => by
    obtain ⟨cs, hz⟩ := is_neg.mp e
    have := of_decide_eq_false h.2
    rw [hz] at this
    exact this rfl
  have ei : intIn z 12 = numIn z 12 := by
    unfold intIn
    rw [if_neg (by rw [decide_eq_false ng]; exact fun z => nomatch z)]
  cases hi : intIn z 12 with
  | none => rw [hi] at h; cases h.1
  | some m => exact ⟨m, by rw [← ei, hi], rfl⟩
theorem cutA_from {δ : Type} {xs : List δ} {t : Nat} : cutA xs (some (t : Int)) none = xs.drop t := by
  unfold cutA
  rw [HT.sIx_none, HT.sIx_nat]
  by_cases h : t ≤ xs.length
  · rw [Nat.min_eq_left h, List.take_of_length_le (by rw [List.length_drop]; omega)]
  · rw [Nat.min_eq_right (by omega), List.drop_of_length_le (Nat.le_refl _), List.drop_of_length_le (by omega), List.take_nil]
section
variable {P : Program} {w : World} {K : PySem.W.Frag} {mg : Str → Option Value} {base : Heap} {f : Addr} {fd : FuncData}
abbrev s_l_due : Stmt := top 35
abbrev N_l_due : List Str := ["_law_line", "_law_words", "_law_at", "_law_some", "_law_first", "_law_again", "_law_more", "_law_here", "_law_there", "_law_word"]
theorem sc_l_due : FnScope N_l_due ["_law_line"] (defScope s_l_due) := ⟨rfl, rfl, rfl, by decide +kernel, rfl, by decide +kernel, by decide +kernel⟩

theorem ok_due (F : FnP K "_law_due" s_l_due f fd) (m_len : mg "len" = none) (m_int : mg "int" = none) (m_zip : mg "zip" = none) (g_l_is_integer : FnAt P w K mg base CX0 1 "_law_is_integer" ["_law_word"] (spT K (dp1 (fun z : Str => z.length ≤ 100000 ∧ PyData.strOk z = true) fun z => (intIn z 12).isSome))) :
    FnOk P w K mg base CX0 2 f fd ["_law_line"] (spT K (dp1 (fun z : Str => z.length ≤ 15000 ∧ PyData.strOk z = true) fun z => dueS (Txt.split z " "))) := by
  refine okT F sc_l_due (fun ss R h => ?_) (fun cdv A outer s H E hr => ⟨_, (pss_cons (ps_set (i := 1) sc_l_due.nd rfl (.inl rfl) (pe_split (pv 0) (pe_str)))
 (pss_cons (ps_if (PW.pt (pw_or (pt_cmpR op_ne (pe_bmK K PySem.F.plainAttrs_list PySem.F.slot_list_count PySem.F.type_list_count (mt_lcountF K) (pv 1) (pa_cons (pe_str) (pa_nil))) (pe_int) (nomark _)) (pw_or (pt_cmpR op_lt (pe_callB (call_lenK K) rfl m_len (by decide +kernel) (pa_cons (pv 1) (pa_nil))) (pe_int) (nomark _)) (pw_or (pt_cmpR op_ne (pe_ix (ix_sqK K) (pv 1) (pe_un un_neg (pe_int)) (fun _ _ => rfl)) (pe_str) (nomark _)) (pw_or1 (pt_cmpR op_gt (pe_bmK K PySem.F.plainAttrs_list PySem.F.slot_list_index PySem.F.type_list_index (mt_indexK K) (pv 1) (pa_cons (pe_str) (pa_nil))) (pe_op op_sub (pe_callB (call_lenK K) rfl m_len (by decide +kernel) (pa_cons (pv 1) (pa_nil))) (pe_int)) (nomark _))))))) (pss_one (ps_ret (pe_str))) (pss_nil))
 (pss_cons (ps_set (i := 2) sc_l_due.nd rfl (.inl rfl) (pe_bmK K PySem.F.plainAttrs_list PySem.F.slot_list_index PySem.F.type_list_index (mt_indexK K) (pv 1) (pa_cons (pe_str) (pa_nil))))
 (pss_cons (ps_if (pt_cmpR (op_neDK K hr) (pe_lc (own := [("_law_word", 9)]) rfl sc_l_due.nd (pi_seqK K (pe_op op_cat (pe_slice (sl_sqK K) (pv 1) (po_none) (po_some (pv 2))) (pe_slice (sl_sqK K) (pv 1) (po_some (pe_op op_add (pv 2) (pe_int))) (po_some (pe_un un_neg (pe_int)))))) (blkOk_by (N := N_l_due) (sc := defScope s_l_due) (by decide +kernel)) (fun _ _ _ _ _ => pg_name (i := 9) sc_l_due.nd rfl (.inl rfl)) (fun _ _ _ _ _ => pts_one (PW.pt (pw_and (pt_cmpR op_ne (pv 9) (pe_str) (nomark _)) (pw_and1 (pt_not (pt_val (pe_fn g_l_is_integer hr rfl (pa_cons (pv 9) (pa_nil))))))))) (fun _ _ _ _ _ => pv 9)) (pe_lst (pa_nil)) (nomark _)) (pss_one (ps_ret (pe_str))) (pss_nil))
 (pss_cons (ps_if (PW.pt (pw_or (pt_not (pt_val (pe_fn g_l_is_integer hr rfl (pa_cons (pe_ix (ix_sqK K) (pv 1) (pe_un un_neg (pe_int)) (fun _ _ => rfl)) (pa_nil))))) (pw_or1 (pt_cmpR op_eq (pe_ix ix_str (pe_ix (ix_sqK K) (pv 1) (pe_un un_neg (pe_int)) (fun _ _ => rfl)) (pe_int) (fun _ _ => rfl)) (pe_str) (nomark _))))) (pss_one (ps_ret (pe_str))) (pss_nil))
 (pss_cons (ps_setLc (i := 3) (own := [("_law_word", 9)]) rfl sc_l_due.nd rfl rfl (sw_true rfl rfl rfl (by decide +kernel)) (pi_seqK K (pe_op op_cat (pe_slice (sl_sqK K) (pv 1) (po_none) (po_some (pv 2))) (pe_slice (sl_sqK K) (pv 1) (po_some (pe_op op_add (pv 2) (pe_int))) (po_some (pe_un un_neg (pe_int)))))) (blkOk_by (N := N_l_due) (sc := defScope s_l_due) (by decide +kernel)) (fun _ _ _ _ _ => pg_name (i := 9) sc_l_due.nd rfl (.inl rfl)) (fun _ _ _ _ _ => pts_nil) (fun _ _ _ _ _ => pe_ifExp (pt_cmpR op_eq (pv 9) (pe_str) (nomark _)) (pe_non) (pe_callTy call_int_str rfl m_int (by decide +kernel) (pa_cons (pv 9) (pa_nil)))))
 (pss_cons (ps_par3 (i := 4) (j := 5) (l := 6) rfl sc_l_due.nd rfl rfl rfl (by decide) (by decide) (by decide) rfl rfl rfl (pa_cons (pe_slice (sl_sqK K) (pv 3) (po_none) (po_some (pv 2))) (pa_cons (pe_slice (sl_sqK K) (pv 3) (po_some (pv 2)) (po_none)) (pa_cons (pe_callTy call_int_str rfl m_int (by decide +kernel) (pa_cons (pe_ix (ix_sqK K) (pv 1) (pe_un un_neg (pe_int)) (fun _ _ => rfl)) (pa_nil))) (pa_nil)))) rfl)
 (pss_cons (ps_for PassesOwn.never rfl (pi_zipL K rfl m_zip (pa_cons (pv 3) (pa_cons (pe_slice (sl_sqK K) (pv 3) (po_some pe_int) po_none) pa_nil))) (pg_tupK (n := 2) K rfl (pgs_cons (pg_name (i := 7) sc_l_due.nd rfl (.inl rfl)) (pgs_cons (pg_name (i := 8) sc_l_due.nd rfl (.inl rfl)) (pgs_nil)))) (pss_one (ps_if (PW.pt (pw_and (pt_cmpR op_notN (pv 7) (pe_non) (nomark _)) (pw_and1 (PW.pt (pw_or (pt_cmpR op_isN (pv 8) (pe_non) (nomark _)) (pw_or1 (pt_cmpR op_lt (pv 8) (pv 7) (nomark _)))))))) (pss_one (ps_ret (pe_str))) (pss_nil))))
 (pss_cons (ps_if (pt_cmpR op_isN (pe_ix (ix_sqK K) (pv 5) (pe_int) (fun _ _ => rfl)) (pe_non) (nomark _)) (pss_one (ps_ret (pe_ifExp (PW.pt (pw_or (pt_cmpR op_notN (pe_ix (ix_sqK K) (pv 5) (pe_un un_neg (pe_int)) (fun _ _ => rfl)) (pe_non) (nomark _)) (pw_or1 (pt_cmpR op_ne (pv 6) (pe_int) (nomark _))))) (pe_str) (pe_tup (pa_cons (pv 4) (pa_cons (pv 5) (pa_cons (pv 6) (pa_nil)))))))) (pss_nil))
 (pss_one (ps_ret (pe_ifExp (pt_cmpR op_le (pe_ix (ix_sqK K) (pv 5) (pe_un un_neg (pe_int)) (fun _ _ => rfl)) (pe_op op_add (pe_ix (ix_sqK K) (pv 5) (pe_int) (fun _ _ => rfl)) (pv 6)) (nomark _)) (pe_tup (pa_cons (pv 4) (pa_cons (pv 5) (pa_cons (pv 6) (pa_nil))))) (pe_str))))))))))))), fun B ss R h => ?_⟩)
  · obtain ⟨x, rfl, _⟩ := h
    rfl
  · obtain ⟨z, rfl, ⟨hz, ho⟩, q⟩ := h
    obtain ⟨wl, wp⟩ := words_len (x := .str z) hz
    have wo := split_ok ho
    show DS K B _ [.val z, .no, .no, .no, .no, .no, .no, .no, .no, .no] _
    have hzb : z.length + 2 ≤ BIG := Nat.le_trans (Nat.add_le_add_right hz 2) (by decide)
    refine dq_asgI (δ := L Str) (Txt.split z " ") (DO.l (do_split (d_var rfl) d_str (by decide) hzb (Nat.le_trans wl (by decide)))) ?_
    show DS K B _ [.val z, .val (α := L Str) (Txt.split z " "), .no, .no, .no, .no, .no, .no, .no, .no] _
    have wl : (Txt.split z " ").length ≤ 16000 := wl
    have wp : ∀ w ∈ Txt.split z " ", w.length ≤ 16000 := wp
    have q : R (.val (dueS (Txt.split z " "))) := q
    generalize Txt.split z " " = ws at wl wp wo q ⊢
    have two : 4 ≤ ws.length → atI ws (-2) = some ((atI ws (-2)).getD Str.empty) := fun h => by
      have e := at_neg (xs := ws) (k := 2) (by decide) (by omega)
      rw [show (-(2 : Int)) = -((2 : Nat) : Int) by rfl, e, List.getElem?_eq_getElem (by omega)]
      rfl
    have one : 4 ≤ ws.length → atI ws (-1) = some (lastW ws) := fun h => by
      unfold lastW
      have e := at_neg (xs := ws) (k := 1) (by decide) (by omega)
      rw [show (-(1 : Int)) = -((1 : Nat) : Int) by rfl, e, List.getElem?_eq_getElem (by omega)]
      rfl
    have text : parse ws = none → dueS ws = .s "text" := fun h => by
      unfold dueS
      rw [h]
    have cnt : ∀ {b : Bool}, (!decide (((ws.count (Str.ofString "|") : Nat) : Int) = 1)) = b → b = false → ws.count bar = 1 := fun h1 h2 => by
      subst h2
      have : ((ws.count (Str.ofString "|") : Nat) : Int) = 1 := by simpa using h1
      show ws.count (Str.ofString "|") = 1
      omega
    refine dq_when (c := !(formOk ws && decide (ws.idxOf bar + 4 ≤ ws.length))) (DT.is (dt_or (dt_test (d_ne (d_countS (d_var rfl) d_str) d_int inferInstance inferInstance)) fun h1 => dt_or (dt_test (d_lt (d_len (d_Lq (d_var rfl))) d_int)) fun h2 => dt_or (dt_test (d_ne (d_ix (x := (atI ws (-2)).getD Str.empty) (d_Lq (d_var rfl)) (d_neg d_int) (two (by have := of_decide_eq_false h2; omega))) d_str inferInstance inferInstance)) fun _ => dt_test (d_gt (d_indexS (d_var rfl) d_str (idx_at (cnt rfl h1)).1 (idx_at (cnt rfl h1)).2) (d_sub (d_len (d_Lq (d_var rfl))) d_int))) ?_) (fun h => ?_) (fun h => ?_)
    · unfold formOk
      by_cases c1 : ws.count bar = 1
      · have c1' : ((ws.count (Str.ofString "|") : Nat) : Int) = 1 := by
          have : ws.count (Str.ofString "|") = 1 := c1
          omega
        rw [decide_eq_true c1, decide_eq_true c1']
        by_cases c2 : 4 ≤ ws.length
        · rw [decide_eq_true c2, two c2, show decide ((ws.length : Int) < 4) = false from decide_eq_false (by omega)]
          have e4 : decide ((ws.length : Int) - 4 < (ws.idxOf bar : Int)) = !decide (ws.idxOf bar + 4 ≤ ws.length) := by
            by_cases c : ws.idxOf bar + 4 ≤ ws.length
            · rw [decide_eq_true c, decide_eq_false (by omega)]
              rfl
            · rw [decide_eq_false c, decide_eq_true (by omega)]
              rfl
          show (!true || (false || (!decide ((atI ws (-2)).getD Str.empty = Str.ofString "+") || decide ((ws.length : Int) - 4 < (ws.idxOf bar : Int))))) = _
          rw [e4]
          simp
        · rw [decide_eq_false c2, show decide ((ws.length : Int) < 4) = true from decide_eq_true (by omega)]
          rfl
      · have c1' : ¬ ((ws.count (Str.ofString "|") : Nat) : Int) = 1 := fun z => c1 (show ws.count (Str.ofString "|") = 1 by omega)
        rw [decide_eq_false c1, decide_eq_false c1']
        rfl
    · refine ds_retE q (d_dus d_str) (text (parse_no ?_)).symm
      cases hf : formOk ws with
      | false => exact .inl rfl
      | true =>
        rw [hf] at h
        refine .inr (.inl fun z => ?_)
        rw [decide_eq_true z] at h
        cases h
    · have hh : formOk ws = true ∧ ws.idxOf bar + 4 ≤ ws.length := by
        cases hf : formOk ws with
        | false => rw [hf] at h; cases h
        | true =>
          rw [hf] at h
          refine ⟨rfl, ?_⟩
          by_cases c : ws.idxOf bar + 4 ≤ ws.length
          · exact c
          · rw [decide_eq_false c] at h
            cases h
      obtain ⟨fo, hi4⟩ := hh
      have fo' := fo
      unfold formOk at fo'
      rw [Bool.and_eq_true, Bool.and_eq_true] at fo'
      have c1 := of_decide_eq_true fo'.1
      have c2 := of_decide_eq_true fo'.2.1
      obtain ⟨i1, i2⟩ := idx_at c1
      have lm : lastW ws ∈ ws := by
        have e := one c2
        have e2 := at_neg (xs := ws) (k := 1) (by decide) (by omega)
        rw [show (-(1 : Int)) = -((1 : Nat) : Int) by rfl, e2] at e
        exact List.mem_of_getElem? e
      refine dq_asg (d_indexS (d_var rfl) d_str i1 i2) ?_
      show DS K B _ [.val z, .val (α := L Str) ws, .val (ws.idxOf bar : Int), .no, .no, .no, .no, .no, .no, .no] _
      have hall : DO K B (tOp rCat (tSl (rSlQ K) (tVar 1) tNoPart (tPart (tVar 2))) (tSl (rSlQ K) (tVar 1) (tPart (tOp (rI0 fun i j => V.int (i + j)) (tVar 2) (tC (V.int 1)))) (tPart (tUn (rU fun i => V.int (-i)) (tC (V.int 2))))))
          [.val z, .val (α := L Str) ws, .val (ws.idxOf bar : Int), .no, .no, .no, .no, .no, .no, .no] (ws.take (ws.idxOf bar) ++ midW ws) := by
        refine DO.is (do_cat (DO.l (do_slice (d_var rfl) dp_none (dp_some (d_var rfl)))) (DO.l (do_slice (d_var rfl) (dp_some (d_add (d_var rfl) d_int)) (dp_some (d_neg d_int)))) ?_) (by rw [cutA_to]; rfl)
        · have l1 := cutA_len ws none (some (ws.idxOf bar : Int))
          have l2 := cutA_len ws (some ((ws.idxOf bar : Int) + 1)) (some (-2))
          have : (32000 : Nat) ≤ BIG := by decide
          omega
      have mem_all : ∀ w ∈ ws.take (ws.idxOf bar) ++ midW ws, w ∈ ws := fun w hw => by
        rcases List.mem_append.mp hw with e | e
        · exact List.mem_of_mem_take e
        · exact cutA_mem e
      have len_all : (ws.take (ws.idxOf bar) ++ midW ws).length ≤ BIG := by
        rw [List.length_append, mid_len c2, List.length_take]
        have : (32000 : Nat) ≤ BIG := by decide
        omega
      refine dq_when (c := !((ws.take (ws.idxOf bar) ++ midW ws).filter bad).isEmpty) (DT.is (dt_test (d_neNil (DO.l (do_lc bad (fun x => x) (di_seq (DO.q hall)) len_all fun x hx => ?_)) fun w hw => ?_)) (by rw [List.map_id'])) (fun h => ?_) (fun h => ?_)
      · have hm := mem_all x hx
        refine ⟨_, _, dg_name, by simp, ?_, fun _ => d_var rfl⟩
        exact DT.is (dt_and (dt_test (d_ne (d_var rfl) d_str inferInstance inferInstance)) fun _ => dt_not (dt_B (d_call1 (d_var rfl) ⟨Nat.le_trans (wp x hm) (by decide), wo x hm⟩))) rfl
      · rw [List.map_id'] at hw
        exact wo w (mem_all w (List.mem_filter.mp hw).1)
      · refine ds_retE q (d_dus d_str) (text (parse_no ?_)).symm
        have ne : (ws.take (ws.idxOf bar) ++ midW ws).filter bad ≠ [] := fun z => by
          rw [z] at h
          cases h
        obtain ⟨w, hw⟩ := List.exists_mem_of_ne_nil _ ne
        obtain ⟨h1, h2⟩ := List.mem_filter.mp hw
        rcases List.mem_append.mp h1 with e | e
        · exact .inr (.inr (.inl (thgIn_bad e h2)))
        · exact .inr (.inr (.inr (.inl (thgIn_bad e h2))))
      · have good : ∀ w ∈ ws.take (ws.idxOf bar) ++ midW ws, bad w = false := fun w hw => by
          cases hb : bad w with
          | false => rfl
          | true =>
            have : w ∈ (ws.take (ws.idxOf bar) ++ midW ws).filter bad := List.mem_filter.mpr ⟨hw, hb⟩
            cases hf : (ws.take (ws.idxOf bar) ++ midW ws).filter bad with
            | nil => rw [hf] at this; cases this
            | cons _ _ => rw [hf] at h; cases h
        have ta := thgIn_ok fun w hw => good w (List.mem_append_left _ hw)
        have tb := thgIn_ok fun w hw => good w (List.mem_append_right _ hw)
        have hlb : (lastW ws).length ≤ BIG := Nat.le_trans (wp _ lm) (by decide)
        have hfirst : (intIn (lastW ws) 12).isSome = true → 0 < (lastW ws).cps.toList.length := fun hs => by
          cases hl : (lastW ws).cps.toList with
          | nil =>
            have : (intIn (lastW ws) 12) = none := by
              have e0 : lastW ws = Str.empty := str_ext (by rw [hl]; rfl)
              rw [e0]
              decide
            rw [this] at hs
            cases hs
          | cons _ _ => exact Nat.succ_pos _
        refine dq_when (c := !(intIn (lastW ws) 12).isSome || decide ((lastW ws).cps.toList.head? = some 45)) (DT.is (dt_or (dt_not (dt_B (d_call1 (d_ix (d_Lq (d_var rfl)) (d_neg d_int) (one c2)) ⟨Nat.le_trans (wp _ lm) (by decide), wo _ lm⟩))) fun h1 => dt_test (d_eq (d_ixS (c := (lastW ws).cps.toList.head?.getD 0) (d_ix (d_Lq (d_var rfl)) (d_neg d_int) (one c2)) d_int hlb ?_) d_str inferInstance inferInstance)) ?_) (fun h => ?_) (fun h => ?_)
        · have hp := hfirst (by simpa using h1)
          rw [List.head?_eq_getElem?, List.getElem?_eq_getElem hp]
          exact atI_nat (j := 0) (List.getElem?_eq_getElem hp)
        · cases hs : (intIn (lastW ws) 12).isSome with
          | false => rfl
          | true =>
            have hp := hfirst hs
            have e45 : Str.ofString "-" = ⟨#[45]⟩ := by decide
            rw [List.head?_eq_getElem?, List.getElem?_eq_getElem hp, e45]
            show (false || decide ((⟨#[(lastW ws).cps.toList[0]]⟩ : Str) = ⟨#[45]⟩)) = (false || decide (some (lastW ws).cps.toList[0] = some 45))
            by_cases c : (lastW ws).cps.toList[0] = 45
            · rw [c]
              rfl
            · rw [decide_eq_false (fun h => c (by simpa using h)), decide_eq_false (fun h => c (by injection h))]
        · exact ds_retE q (d_dus d_str) (text (parse_no (.inr (.inr (.inr (.inr (last_num _ h))))))).symm
        · obtain ⟨m, hm1, hm2⟩ := last_num' h
          obtain ⟨iv1, iv2⟩ := intIn_val hm2
          obtain ⟨ep, b0⟩ := parse_yes fo c2 hi4 ta tb hm1
          have m0 : 0 ≤ m := by
            obtain ⟨_, e⟩ := numIn_some hm1
            rw [e]
            exact Int.natCast_nonneg _
          have al : ((ws.take (ws.idxOf bar)).map thgV).length = ws.idxOf bar := by
            rw [List.length_map, List.length_take]
            omega
          have bl : ((midW ws).map thgV).length ≤ 16000 := by
            rw [List.length_map]
            exact Nat.le_trans (cutA_len _ _ _) wl
          refine dq_asgI (δ := L (Option Int)) ((ws.take (ws.idxOf bar)).map thgV ++ (midW ws).map thgV) (DO.l (DO.is (do_map thgV (di_seq (DO.q hall)) len_all fun x hx => ⟨_, _, dg_name, by simp, ?_⟩) (List.map_append ..))) ?_
          · have hm := mem_all x hx
            have hg := good x hx
            by_cases c : x = minus
            · have e : thgV x = none := by unfold thgV thg1; rw [if_pos c]; rfl
              rw [e]
              exact d_ifE (c := true) (DT.is (dt_test (d_eq (d_var rfl) d_str inferInstance inferInstance)) (decide_eq_true c)) (fun _ => d_none) (fun h => nomatch h)
            · cases hi : intIn x 12 with
              | none =>
                unfold bad at hg
                rw [hi, decide_eq_false c] at hg
                cases hg
              | some n =>
                have e : thgV x = some n := by unfold thgV thg1; rw [if_neg c, hi]; rfl
                rw [e]
                obtain ⟨v1, v2⟩ := intIn_val hi
                exact d_ifE (c := false) (DT.is (dt_test (d_eq (d_var rfl) d_str inferInstance inferInstance)) (decide_eq_false c)) (fun h => nomatch h) (fun _ => d_some (d_intS (d_var rfl) v1 (by omega)))
          · show DS K B _ [.val z, .val (α := L Str) ws, .val (ws.idxOf bar : Int), .val (α := L (Option Int)) ((ws.take (ws.idxOf bar)).map thgV ++ (midW ws).map thgV), .no, .no, .no, .no, .no, .no] _
            generalize (ws.take (ws.idxOf bar)).map thgV = a at ta ep al ⊢
            generalize (midW ws).map thgV = b at tb ep b0 bl ⊢
            have due : dueS ws = if validB a b m = true then .t a b m else .s "row" := by
              unfold dueS
              rw [ep]
            rw [due] at q
            refine dq_par3 (DE.is (DO.l (do_slice (d_var rfl) dp_none (dp_some (d_var rfl)))) (show cutA (a ++ b) none (some (ws.idxOf bar : Int)) = a by rw [cutA_to, ← al, List.take_left'  rfl])) (DE.is (DO.l (do_slice (d_var rfl) (dp_some (d_var rfl)) dp_none)) (show cutA (a ++ b) (some (ws.idxOf bar : Int)) none = b by rw [cutA_from, ← al, List.drop_left' rfl])) (d_intS (d_ix (d_Lq (d_var rfl)) (d_neg d_int) (one c2)) iv1 (by omega)) ?_
            show DS K B _ [.val z, .val (α := L Str) ws, .val (ws.idxOf bar : Int), .val (α := L (Option Int)) (a ++ b), .val (α := L (Option Int)) a, .val (α := L (Option Int)) b, .val m, .no, .no, .no] _
            have tA : (a.map toV).all isThingV = true := by rw [List.all_map]; exact List.all_eq_true.mpr fun x _ => toV_th x
            have tB : (b.map toV).all isThingV = true := by rw [List.all_map]; exact List.all_eq_true.mpr fun x _ => toV_th x
            have vi := valid_iff (A := a.map toV) (Bs := b.map toV) (m := m) tA tB (fun z => b0 (List.map_eq_nil_iff.mp z)) m0
            have vb : validB a b m = true ↔ wrongW (some (a.map toV)) (some (b.map toV)) (.int m) = .non := by
              unfold validB
              exact decide_eq_true_iff
            rw [← vb] at vi
            rw [← List.map_append] at vi
            have gd : ∀ k, ((a ++ b).map toV).getD k .non = toV ((a ++ b).getD k none) := fun k => by
              rw [List.getD_eq_getElem?_getD, List.getElem?_map, List.getD_eq_getElem?_getD]
              cases (a ++ b)[k]? <;> rfl
            refine dq_for (di_zip (d_var rfl) (DE.is (DO.l (do_slice (d_var rfl) (dp_some d_int) dp_none)) (show cutA (a ++ b) (some 1) none = (a ++ b).drop 1 from cutA_from (t := 1)))) (fun i ρ => ∃ s7 s8, ρ = [.val z, .val (α := L Str) ws, .val (ws.idxOf bar : Int), .val (α := L (Option Int)) (a ++ b), .val (α := L (Option Int)) a, .val (α := L (Option Int)) b, .val m, s7, s8, .no] ∧ ∀ k, k < i → belowV (toV ((a ++ b).getD (k + 1) none)) (toV ((a ++ b).getD k none)) = false) ⟨.no, .no, rfl, fun k hk => absurd hk (Nat.not_lt_zero _)⟩ (fun i xy ρ1 hx hI => ?_) (fun ρ1 hI => ?_)
            · obtain ⟨s7, s8, rfl, hk⟩ := hI
              obtain ⟨x, y⟩ := xy
              rw [List.getElem?_zip_eq_some] at hx
              obtain ⟨hx, hy⟩ := hx
              rw [List.getElem?_drop, Nat.add_comm] at hy
              refine ⟨_, _, DG.pair dg_name dg_name, ?_⟩
              refine ds_if (c := belowV (toV y) (toV x)) ?_ (fun h => ?_) (fun h => ds_next ?_)
              · cases x with
                | none => exact DT.is (dt_andF (DT.is (dt_test (d_notN (d_var rfl) inferInstance)) rfl)) (by cases y <;> rfl)
                | some i =>
                  cases y with
                  | none => exact DT.is (dt_and (dt_test (d_notN (d_var rfl) inferInstance)) fun _ => dt_orT (DT.is (dt_test (d_isN (d_var rfl) inferInstance)) rfl)) rfl
                  | some j => exact DT.is (dt_and (dt_test (d_notN (d_var rfl) inferInstance)) fun _ => dt_or (dt_test (d_isN (d_var rfl) inferInstance)) fun _ => dt_test (d_lt (d_get rfl) (d_get rfl))) rfl
              · refine ds_retE q (d_dus d_str) ?_
                rw [if_neg]
                intro hv
                have hr := (vi.mp hv).1
                have hlt : i + 1 < ((a ++ b).map toV).length := by
                  rw [List.length_map]
                  exact (List.getElem?_eq_some_iff.mp hy).1
                have e := risingV_at hr hlt
                rw [gd, gd, List.getD_eq_getElem?_getD, hy, List.getD_eq_getElem?_getD, hx] at e
                have e : belowV (toV y) (toV x) = false := e
                rw [e] at h
                cases h
              · refine ⟨_, _, rfl, fun k hk' => ?_⟩
                by_cases c : k < i
                · exact hk k c
                · have : k = i := by omega
                  subst this
                  rw [List.getD_eq_getElem?_getD, hy, List.getD_eq_getElem?_getD, hx]
                  exact h
            · obtain ⟨s7, s8, rfl, hk⟩ := hI
              have hr : risingV ((a ++ b).map toV) = true := risingV_of fun i hi => by
                rw [List.length_map] at hi
                rw [gd, gd]
                refine hk i ?_
                rw [List.length_zip, List.length_drop]
                omega
              have ends : ∃ x y, atI b 0 = some x ∧ atI b (-1) = some y ∧ hd (b.map toV) = toV x ∧ lst (b.map toV) = toV y := by
                rcases List.eq_nil_or_concat b with rfl | ⟨xs, y, rfl⟩
                · exact absurd rfl b0
                · rw [List.concat_eq_append]
                  refine ⟨(xs ++ [y]).getD 0 none, y, ?_, atI_last xs y, ?_, ?_⟩
                  · refine atI_nat (j := 0) ?_
                    cases xs <;> rfl
                  · unfold hd
                    cases xs <;> rfl
                  · unfold lst
                    rw [List.map_append, List.getD_eq_getElem?_getD, List.length_append, List.length_map]
                    show ((xs.map toV ++ [toV y])[xs.length + 1 - 1]?).getD V.non = toV y
                    rw [Nat.add_sub_cancel, List.getElem?_append_right (by simp)]
                    simp
              obtain ⟨x, y, hx, hy, ex, ey⟩ := ends
              rw [ex, ey] at vi
              cases x with
              | none =>
                refine dq_when (c := true) (DT.is (dt_test (d_isN (d_ix (d_Lq (d_var rfl)) d_int hx) inferInstance)) rfl) (fun _ => ?_) (fun h => nomatch h)
                cases y with
                | some j =>
                  exact ds_retE q (d_ifE (c := true) (dt_orT (DT.is (dt_test (d_notN (d_ix (d_Lq (d_var rfl)) (d_neg d_int) hy) inferInstance)) rfl)) (fun _ => d_dus d_str) (fun h => nomatch h)) (by
                    rw [if_neg]
                    intro hv
                    have e := (vi.mp hv).2
                    rw [if_pos (show toV none = V.non from rfl)] at e
                    cases e.1)
                | none =>
                  by_cases c : m = 0
                  · refine ds_retE q (d_ifE (c := false) (DT.is (dt_or (dt_test (d_notN (d_ix (d_Lq (d_var rfl)) (d_neg d_int) hy) inferInstance)) fun _ => dt_test (d_ne (d_var rfl) d_int inferInstance inferInstance)) (by simp [c])) (fun h => nomatch h) (fun _ => d_dut (d_triple (d_var rfl) (d_var rfl) (d_var rfl)))) ?_
                    rw [if_pos]
                    refine vi.mpr ⟨hr, ?_⟩
                    rw [if_pos (show toV none = V.non from rfl)]
                    exact ⟨rfl, c⟩
                  · refine ds_retE q (d_ifE (c := true) (DT.is (dt_or (dt_test (d_notN (d_ix (d_Lq (d_var rfl)) (d_neg d_int) hy) inferInstance)) fun _ => dt_test (d_ne (d_var rfl) d_int inferInstance inferInstance)) (by simp [c])) (fun _ => d_dus d_str) (fun h => nomatch h)) ?_
                    rw [if_neg]
                    intro hv
                    have e := (vi.mp hv).2
                    rw [if_pos (show toV none = V.non from rfl)] at e
                    exact c e.2
              | some i =>
                refine dq_when (c := false) (DT.is (dt_test (d_isN (d_ix (d_Lq (d_var rfl)) d_int hx) inferInstance)) rfl) (fun h => nomatch h) (fun _ => ?_)
                cases y with
                | none =>
                  have rb : risingV (b.map toV) = true := by
                    rw [List.map_append] at hr
                    exact rising_drop hr
                  have lb : 0 < b.length := List.length_pos_iff.mpr b0
                  have ii := rising_ints tB rb (by
                    show isIntV (hd (b.map toV)) = true
                    rw [ex]
                    rfl) (b.length - 1) (by rw [List.length_map]; omega)
                  have e : lst (b.map toV) = (b.map toV).getD (b.length - 1) .non := by
                    unfold lst
                    rw [List.length_map]
                  rw [← e, ey] at ii
                  cases ii
                | some j =>
                  have e : (validB a b m = true) ↔ (decide (j ≤ i + m) = true) := by
                    rw [vi, decide_eq_true_iff, if_neg (fun h => nomatch h)]
                    exact ⟨fun h => h.2, fun h => ⟨hr, h⟩⟩
                  refine ds_ret (d_ifE (c := decide (j ≤ i + m)) (dt_test (d_le (d_unS (d_ix (d_Lq (d_var rfl)) (d_neg d_int) hy)) (d_add (d_unS (d_ix (d_Lq (d_var rfl)) d_int hx)) (d_var rfl)))) (fun h => DE.is (d_dut (d_triple (d_var rfl) (d_var rfl) (d_var rfl))) (if_pos (e.mpr h)).symm) (fun h => DE.is (d_dus d_str) (if_neg (fun hv => by rw [e.mp hv] at h; cases h)).symm)) q
end
end WW

set_option Elab.async false
set_option linter.all false
set_option maxRecDepth 100000
set_option maxHeartbeats 4000000
namespace WW
open PySem PySem.Spec PyProof.Rows L2
/-! ### try with several clauses, each with a name or none -/
abbrev Sui := Addr → Value → Option Addr → TS
inductive NmOk (X : Cx) : Option Str → Option Nat → Prop
  | no : NmOk X none none
  | as {n : Str} {i : Nat} (hi : X.N[i]? = some n) (hl : X.env.kindOf n = some .local) : NmOk X (some n) (some i)
def nmIn : Option Nat → Addr → L2.St → L2.St
  | none, _, σ => σ
  | some i, a, σ => σ.set i (some (.ref a))
def nmOut : Option Nat → L2.St → L2.St
  | none, σ => σ
  | some i, σ => σ.set i none
def nmEnds (o : Option Nat) (D : Ends) : Ends := { nx := fun σ H => D.nx (nmOut o σ) H, rt := D.rt, bk := fun σ H => D.bk (nmOut o σ) H, ct := fun σ H => D.ct (nmOut o σ) H }
/-- what the clauses wish of an exception -/
def wNm (K : PySem.W.Frag) (D : Ends) : List (Value × Option Nat × Sui) → WX
  | [] => fun _ _ _ _ => False
  | (c, o, ts) :: r => fun cls d σ H => ∃ b, PySem.W.exmOne K cls c = some b ∧ (b = true → ∀ a, H a = none → ts a cls d (nmEnds o D) (nmIn o a σ) H) ∧ (b = false → wNm K D r cls d σ H)
inductive ClOk (X : Cx) : List ExceptHandler → List (Value × Option Nat × Sui) → Prop
  | nil : ClOk X [] []
  | cons {x : Str} {c : Value} {on : Option Str} {o : Option Nat} {ts : Sui} {b₀ : Stmt} {suite : List Stmt} {np pos' : Pos} {hds : List ExceptHandler} {l : List (Value × Option Nat × Sui)} (hc : Names X x c) (hn : NmOk X on o)
      (hsu : ∀ (a : Addr) (oe : Obj) (cls : Value) (d : Option Addr) (pn : List (Addr × Obj)), Zc cls d oe → (∃ vs, oe.data = .fields vs) → PSs (X.suite a ((a, oe) :: pn)) (b₀ :: suite) (ts a cls d)) (r : ClOk X hds l) :
      ClOk X (.ExceptHandler (some (.Name x np)) on (b₀ :: suite) pos' :: hds) ((c, o, ts) :: l)
section
variable {X : Cx} {body : List Stmt} {h₀ : ExceptHandler} {hds : List ExceptHandler} {l : List (Value × Option Nat × Sui)} {pos : Pos} {tb : WX → TS}
theorem sp_unsuite {D : Ends} {pins : List (Addr × Obj)} {a : Addr} {q : Addr × Obj} {f : Flow} {s : Shared} (ok : X.Ok) (h : SP (X.suite a (q :: (X.pn ++ pins))) [] D f s) : SP X pins D f s := by
  cases f with
  | ret u =>
    obtain ⟨v, σ1, H1, S1, r, q1⟩ := h
    exact ⟨v, σ1, H1, S1.unsuite ok, r, q1⟩
  | _ =>
    obtain ⟨σ1, H1, S1, q1⟩ := h
    exact ⟨σ1, H1, S1.unsuite ok, q1⟩
theorem sp_oftry {D : Ends} {pins pn : List (Addr × Obj)} {xe : Value → Shared → Prop} {f : Flow} {s : Shared} (ok : X.Ok) (h : SP (X.tr (X.pn ++ pins) xe) [] D f s) : SP X pins D f s := by
  cases f with
  | ret u =>
    obtain ⟨v, σ1, H1, S1, r, q1⟩ := h
    exact ⟨v, σ1, H1, S1.ofTry ok, r, q1⟩
  | _ =>
    obtain ⟨σ1, H1, S1, q1⟩ := h
    exact ⟨σ1, H1, S1.ofTry ok, q1⟩
/-- the name's end behind its suite -/
theorem sp_gone {D : Ends} {pins : List (Addr × Obj)} {f : Flow} {s : Shared} {n : Str} {i : Nat} {p : Pos} {E : Value → Shared → Prop} (hN : X.N.Nodup) (hi : X.N[i]? = some n) (hl : X.env.kindOf n = some .local) (h : SP X pins (nmEnds (some i) D) f s) :
    wpAny (model X.prog X.w) X.A (do bindName X.env n .none; unbindBehindTheSuite X.env n p) (fun _ s7 => SP X pins D f s7) E s := by
  cases f with
  | ret u =>
    obtain ⟨v, σ1, H1, S1, r, q1⟩ := h
    exact gone_ok S1 hN hi hl fun s7 J => ⟨v, _, H1, J, r, q1⟩
  | _ =>
    obtain ⟨σ1, H1, S1, q1⟩ := h
    exact gone_ok S1 hN hi hl fun s7 J => ⟨_, H1, J, q1⟩
theorem ps_try_nm (hs : X.stack = X.env :: X.outer) (hf : X.env.frame = some X.env.locals) (hN : X.N.Nodup)
    (hb : ∀ (W : WX) (pn : List (Addr × Obj)) (xe : Value → Shared → Prop), Takes (X.tr pn xe) W → PassesOwn (model X.prog X.w) X.A X.env xe → PSs (X.tr pn xe) body (tb W))
    (hh : ClOk X (h₀ :: hds) l) : PS X (.Try body (h₀ :: hds) [] [] pos) (fun D σ H => tb (wNm X.K D l) D σ H) := by
  refine ⟨fun pins s σ H D I h => ?_⟩
  have ok := I.ok
  refine wpAny_Try_except (wpAny_mono ((hb (wNm X.K D l) (X.pn ++ pins) _ (fun u s1 xx => ?_) PassesOwn.looking).run [] s σ H D (I.toTry _) h) (fun f s1 q => ?_) fun e s1 he => he)
  · obtain ⟨a, B, sI, pins', σ1, H1, cls, d, rfl, J0, nb, up, sky, na, os, ag, w⟩ := xx
    have J : Inv X pins σ1 H1 sI := J0.ofTry ok
    have sky1 : Sky B (X.env :: X.outer) a (Zc cls d) X.env.locals s1.heap := hs ▸ sky
    show wpAny (model X.prog X.w) X.A (noteFrame (.ref a) X.env) _ _ _
    refine Sky.land Zc.steady (by rw [ok.frames, hs]) hf sky1 fun h3 fl3 up3 => ?_
    have begin_ : ∀ h4, HandSPX.FlyingZ B (X.env :: X.outer) a (Zc cls d) h4 → s1.heap.UpToSlots h4 → ∃ oe, Zc cls d oe ∧ (∃ vs, oe.data = .fields vs) ∧ h4.get? a = some oe ∧ Inv (X.suite a ((a, oe) :: (X.pn ++ pins))) [] σ1 H1 { s1 with heap := h4 } := fun h4 fl4 up4 => by
      obtain ⟨oe, vs, he, hz, hd⟩ := fl4.there
      have nfr : a ∉ frs (X.env :: X.outer) := fun hm => by
        obtain ⟨_, o2, e2, hnf⟩ := fl4.2.2.1.mem hm
        rw [he] at e2
        cases e2
        exact hnf _ hd
      refine ⟨oe, hz, ⟨vs, hd⟩, he, (show Inv X pins σ1 H1 { s1 with heap := h4 } from J.landed nb fl4.1 (up.trans up4) os ag).suite he hd na (fun z => nfr (List.mem_filterMap.mpr ⟨X.env, List.mem_cons_self, by rw [hf, z]⟩)) fun hm => ?_⟩
      obtain ⟨e, he2, q⟩ := List.mem_filterMap.mp hm
      exact nfr (List.mem_filterMap.mpr ⟨e, List.mem_cons_of_mem _ he2, q⟩)
    obtain ⟨oe3, hz3, hd3, he3, S3⟩ := begin_ h3 fl3 up3
    have J3 : Inv X pins σ1 H1 { s1 with heap := h3 } := S3.unsuite ok
    clear hb h sky sky1
    show wpAny (model X.prog X.w) X.A (handleBy (.ref a) X.env (h₀ :: hds)) _ _ _
    generalize h₀ :: hds = hl at hh
    induction hh with
    | nil => exact w.elim
    | @cons x c on o ts b₀ suite np pos' hds2 l2 hc hn hsu r ih =>
      obtain ⟨b, hb1, hyes, hno⟩ := w
      refine wpAny_handleBy_cons (codeAny_handlers_test ?_) (by intro q; cases q)
      have LM := PySem.W.exm_one (M := model X.prog X.w) J3.kIn (fun A Q E s k q => wpAny_typeOf_ref (k _ _ he3) (by rw [hz3.1]; exact q)) hb1
      have test : ∀ {Q : Value → Shared → Prop} {E : Value → Shared → Prop}, Q c { s1 with heap := h3 } → wpAny (model X.prog X.w) (X.A.mark (some (.ref a))) (eval (.Name x np) X.env) Q E { s1 with heap := h3 } := fun {Q E} q => by
        obtain ⟨hg, hdbg, hm | ⟨hm, hv, hnn⟩⟩ := hc
        · exact ld_glob (X := X.suite a ((a, oe3) :: (X.pn ++ pins))) S3 hg hm q hdbg
        · exact ld_blt (X := X.suite a ((a, oe3) :: (X.pn ++ pins))) S3 hg hm hv q hnn hdbg
      refine test (LM.here ?_)
      cases b with
      | false => exact ih (hno rfl)
      | true =>
        have go := hyes rfl a na
        cases hn with
        | no =>
          refine codeAny_handlers_suite (HandSPX.lands_againZ fl3 fun h4 fl4 up4 => ?_)
          obtain ⟨oe4, hz4, hd4, _, S4⟩ := begin_ h4 fl4 (up3.trans up4)
          exact wpAny_mono ((hsu a oe4 cls d _ hz4 hd4).run [] _ _ H1 _ S4 go) (fun f s6 q => by
            have q2 := sp_unsuite ok q
            cases f <;> exact q2) fun _ _ z => False.elim z
        | as hi hln =>
          refine codeAny_handlers_suite_as (HandSPX.lands_againZ fl3 fun h4 fl4 up4 => ?_)
          obtain ⟨oe4, hz4, hd4, _, S4⟩ := begin_ h4 fl4 (up3.trans up4)
          refine store_ok (X := X.suite a ((a, oe4) :: (X.pn ++ pins))) (v := .ref a) S4 hN hi (.inl hln) rfl (fun s5 S5 => ?_) (.inr hln)
          exact wpAny_mono ((hsu a oe4 cls d _ hz4 hd4).run [] s5 _ H1 _ S5 go) (fun f s6 q => sp_gone hN hi hln (sp_unsuite ok q)) fun _ _ z => False.elim z
  · cases f with
    | next =>
      obtain ⟨σ1, H1, J, q1⟩ := q
      exact wpAny_execs_nil ⟨σ1, H1, J.ofTry ok, q1⟩
    | _ => exact sp_oftry (pn := []) ok q
end
end WW

set_option Elab.async false
set_option linter.all false
set_option maxRecDepth 100000
set_option maxHeartbeats 4000000
namespace WW
open PySem PySem.Spec PyProof.Rows L2
/-! ### a row, or a word -/
inductive HR where
  | row (r : RR)
  | s (z : Str)
instance : Enc HR where
  rep K S v x := match x with
    | .row r => Enc.rep K S v r
    | .s z => v = .str z
  mono {K H H' v a} e h := by
    cases a with
    | row r => exact Enc.mono (α := RR) e h
    | s z => exact h
def heardS (x : TX) : HR := match parse (wordsOf x) with
  | none => .s "text"
  | some (a, b, m) => if validB a b m = true then .row (rrOf (a.map toV) (b.map toV) m) else .s "row"
section
variable {P : Program} {w : World} {K : PySem.W.Frag} {mg : Str → Option Value} {base : Heap} {f : Addr} {fd : FuncData}
abbrev s_l_heard : Stmt := top 36
abbrev N_l_heard : List Str := ["_law_line", "_law_found", "e"]
theorem sc_l_heard : FnScope N_l_heard ["_law_line"] (defScope s_l_heard) := ⟨rfl, rfl, rfl, by decide +kernel, rfl, by decide +kernel, by decide +kernel⟩

theorem ok_lheard (F : FnP K "_law_heard" s_l_heard f fd) (m_InvalidText : mg "InvalidText" = some (.ref (He.ga K "InvalidText"))) (m_InvalidRow : mg "InvalidRow" = some (.ref (He.ga K "InvalidRow"))) (v_Row : ∃ u, mg "Row" = some u ∧ RelV (.ref (He.ga K "Row")) u)
    (xf_InvalidText : XfC K (He.ga K "InvalidText")) (nf_InvalidText_at : PySem.W.findIn K (.ref (He.ga K "InvalidText")) "at" = some none)
    (k1 : PySem.W.exmOne K (.ref (He.ga K "InvalidText")) (.ref (He.ga K "InvalidText")) = some true) (k2 : PySem.W.exmOne K (.ref (He.ga K "InvalidRow")) (.ref (He.ga K "InvalidText")) = some false) (k3 : PySem.W.exmOne K (.ref (He.ga K "InvalidRow")) (.ref (He.ga K "InvalidRow")) = some true)
    (CM : CmAt P w K mg base (L2.CX P w) 6 (He.ga K "Row") "read" (spTX K (dpRead K))) : FnOk P w K mg base CX0 7 f fd ["_law_line"] (spT K (dp1 TX.small heardS)) := by
  refine okT F sc_l_heard (fun ss R h => ?_) (fun cdv A outer s H E hr => ⟨_, (pss_cons (ps_set (i := 1) sc_l_heard.nd rfl (.inl rfl) (pe_str))
 (pss_cons (ps_try_nm rfl rfl sc_l_heard.nd (fun W pn xe tk po => pss_one (ps_set (i := 1) sc_l_heard.nd rfl (.inl rfl) (pe_cmX K CM tk hr (pe_gv rfl v_Row) (pa_cons (pv 0) pa_nil)))) (.cons ⟨rfl, by decide, .inl m_InvalidText⟩ (NmOk.as (i := 2) rfl rfl) (fun a oe cls d pn hz hf => pss_one (ps_set (i := 1) sc_l_heard.nd rfl (.inl rfl) (pe_ifExp (pt_cmpR op_eq (pe_xf xf_InvalidText nf_InvalidText_at hz hf (pv 2)) (pe_int) (nomark _)) (pe_str) (pe_str)))) (.cons ⟨rfl, by decide, .inl m_InvalidRow⟩ NmOk.no (fun a oe cls d pn hz hf => pss_one (ps_set (i := 1) sc_l_heard.nd rfl (.inl rfl) (pe_str))) (.nil))))
 (pss_one (ps_ret (pv 1))))), fun B ss R h => ?_⟩)
  · obtain ⟨x, rfl, _⟩ := h
    rfl
  · obtain ⟨x, rfl, hs, q⟩ := h
    show DS K B _ [.val x, .no, .no] _
    refine dq_asg (α := HR) (a := .s "other") d_str ?_
    show DS K B _ [.val x, .val (HR.s "other"), .no] _
    refine ds_seq fun S0 H0 S H σ D En px n r b c => ?_
    have fin : ∀ (S2 H2 : Hp) (σ2 : L2.St), Same S S2 → WW.En K B S0 H0 S2 H2 σ2 [.val x, .val (heardS x), .no] → D.nx σ2 H2 := fun S2 H2 σ2 sm E2 => n _ σ2 S2 H2 (ds_ret (d_var rfl) q) sm E2
    refine ⟨rfl, ?_⟩
    refine (d_var rfl : DE K B (tVar 0) _ x) S0 H0 S H σ En _ fun v S1 H1 e1 r1 => ?_
    refine ⟨B, S1, [.val (V.ref (He.ga K "Row")), .val x], fun s => ∃ a b m, parse (wordsOf x) = some (a, b, m) ∧ wrongW (some (a.map toV)) (some (b.map toV)) (.int m) = .non ∧ s = .val (rrOf (a.map toV) (b.map toV) m), fun C fs => (C = He.ga K "InvalidText" ∧ fs = ([("at", .int 0)] : List (Str × V)) ∧ heardS x = .s "text") ∨ (C = He.ga K "InvalidRow" ∧ heardS x = .s "row"), e1.i, fun p hp => ⟨((En.go e1).bx p hp).1, ((En.go e1).bx p hp).2.1⟩, .cons rfl rfl (.cons r1 rfl .nil), ⟨x, rfl, hs, fun hp => .inl ⟨rfl, rfl, ?_⟩, fun a b m hp => ⟨fun hv => ⟨a, b, m, hp, hv, rfl⟩, fun hv => .inr ⟨rfl, ?_⟩⟩⟩, fun s v S2 H2 hs2 e2 ok => ?_, fun C fs d S2 H2 hx e2 nd hd => ?_⟩
    · unfold heardS
      rw [hp]
    · unfold heardS validB
      rw [hp]
      exact if_neg (fun h => hv (of_decide_eq_true h))
    · obtain ⟨a, b, m, hp, hv, rfl⟩ := hs2
      have eh : heardS x = .row (rrOf (a.map toV) (b.map toV) m) := by
        unfold heardS validB
        rw [hp]
        exact if_pos (decide_eq_true hv)
      refine fin S2 H2 _ (e1.trans e2).s ?_
      exact (En.go (e1.trans e2)).setV (i := 1) (a := heardS x) (by rw [eh]; exact ok)
    · rcases hx with ⟨rfl, rfl, eh⟩ | ⟨rfl, eh⟩
      · refine ⟨true, k1, fun _ a na => ?_, fun z => nomatch z⟩
        have E3 : WW.En K B S0 H0 S2 H2 (σ.set 2 (some (.ref a))) [.val x, .val (HR.s "other"), .no] := (En.go (e1.trans e2)).set (i := 2) (s := .no) (o := some (.ref a)) trivial rfl
        have ok2 : (σ.set 2 (some (V.ref a)))[2]? = some (some (V.ref a)) := by
          rw [List.getElem?_set_self]
          rw [En.len]
          exact (by decide : 2 < 3)
        refine ⟨_, ok2, rfl, rfl, d, _, _, rfl, hd, rfl, ?_⟩
        refine ⟨rfl, true, rfl, ?_⟩
        refine fin S2 H2 _ (e1.trans e2).s ?_
        have E4 := E3.setV (i := 1) (v := .str "text") (a := heardS x) (by rw [eh]; rfl)
        exact E4.set (i := 2) (s := .no) (o := none) trivial rfl
      · refine ⟨false, k2, (fun z => Bool.noConfusion z), fun _ => ⟨true, k3, fun _ a na => ?_, fun z => nomatch z⟩⟩
        refine fin S2 H2 _ (e1.trans e2).s ?_
        exact (En.go (e1.trans e2)).setV (i := 1) (a := heardS x) (by rw [eh]; rfl)
end
end WW

set_option Elab.async false
set_option linter.all false
set_option maxRecDepth 100000
set_option maxHeartbeats 4000000
namespace WW
open PySem PySem.Spec PyProof.Rows L2
theorem SameBut.refl (x : Addr) (H : Hp) : SameBut x H H := fun _ _ _ h => h
theorem SameBut.trans {x : Addr} {H H1 H2 : Hp} (a : SameBut x H H1) (b : SameBut x H1 H2) : SameBut x H H2 := fun c o n h => b c o n (a c o n h)
theorem SameBut.of {x : Addr} {H H' : Hp} (e : Same H H') : SameBut x H H' := fun a o _ h => e a o h
theorem SameBut.upd (x : Addr) (H : Hp) (o : HO) : SameBut x H (upd H x o) := fun _ _ n h => (upd_ne n).trans h
theorem SameBut.sq {x a : Addr} {K : PySem.W.Frag} {H H' : Hp} {xs : List V} (e : SameBut x H H') (n : a ≠ x) (h : Sq K H a xs) : Sq K H' a xs := by
  rcases h with ((h | ⟨u, h⟩) | h) | ((h | ⟨u, h⟩) | h)
  · exact .inl (.inl (.inl (e _ _ n h)))
  · exact .inl (.inl (.inr ⟨u, e _ _ n h⟩))
  · exact .inl (.inr h)
  · exact .inr (.inl (.inl (e _ _ n h)))
  · exact .inr (.inl (.inr ⟨u, e _ _ n h⟩))
  · exact .inr (.inr h)
/-- none of what was free is the box -/
theorem Box.ne {H : Hp} {b a : Addr} (h : Box H b) (n : H a = none) : a ≠ b := fun z => by
  obtain ⟨x, y, w, e⟩ := h
  rw [z, e] at n
  cases n
theorem Box.ex {H H' : Hp} {b : Addr} (e : Same H H') (h : Box H b) : Box H' b := by
  obtain ⟨x, y, z, h⟩ := h
  exact ⟨x, y, z, e _ _ h⟩
section
variable {P : Program} {w : World} {K : PySem.W.Frag} {mg : Str → Option Value} {base : Heap} {f : Addr} {fd : FuncData}
def spBox (K : PySem.W.Frag) : Sp := fun vs H Q _ => ∃ (a : Addr) (ns : List Int) (k : Int), vs = [.ref a, .int k] ∧ SqL K H a (ns.map V.int) ∧ 0 ≤ k ∧ ns.length ≤ 1000 ∧
  ∀ p H', Same H H' → H p = none → Box H' p → Q (.ref p) H'
abbrev s_l_box : Stmt := top 25
abbrev N_l_box : List Str := ["_law_script", "_law_k", "_law_cell", "_law_seed"]
theorem sc_l_box : FnScope N_l_box ["_law_script", "_law_k"] (defScope s_l_box) := ⟨rfl, rfl, rfl, by decide +kernel, rfl, by decide +kernel, by decide +kernel⟩

theorem ok_box (F : FnP K "_law_box" s_l_box f fd) (m_int : mg "int" = none) (m_len : mg "len" = none) (m_abs : mg "abs" = none) : FnOk P w K mg base CX0 1 f fd ["_law_script", "_law_k"] (spBox K) := by
  refine F.ok sc_l_box (fun vs H Q E h => ?_) (fun cdv A outer s H vs Q E hr h => ?_)
  · obtain ⟨a, ns, k, rfl, _⟩ := h
    rfl
  · obtain ⟨a, ns, k, rfl, hq, k0, hl, q⟩ := h
    refine ⟨_, PSs.nox (pss_cons (ps_set (i := 2) sc_l_box.nd rfl (.inl rfl) (pe_op op_add (pe_op op_mul (pe_int) (pv 1)) (pe_int)))
 (pss_cons (ps_if (pt_cmpR op_lt (pv 1) (pe_callB (call_lenK K) rfl m_len (by decide +kernel) (pa_cons (pv 0) (pa_nil))) (nomark _)) (pss_one (ps_set (i := 2) sc_l_box.nd rfl (.inl rfl) (pe_callB call_abs rfl m_abs (by decide +kernel) (pa_cons (pe_ix (ix_sqK K) (pv 0) (pv 1) (fun _ _ => rfl)) (pa_nil))))) (pss_one (ps_if (pt_cmpR op_gt (pe_callB (call_lenK K) rfl m_len (by decide +kernel) (pa_cons (pv 0) (pa_nil))) (pe_int) (nomark _)) (pss_one (ps_set (i := 2) sc_l_box.nd rfl (.inl rfl) (pe_op op_add (pv 2) (pe_op op_mul (pe_op op_mod (pe_callTy call_int1 rfl m_int (by decide +kernel) (pa_cons (pe_callB call_abs rfl m_abs (by decide +kernel) (pa_cons (pe_callTy call_int1 rfl m_int (by decide +kernel) (pa_cons (pe_ix (ix_sqK K) (pv 0) (pe_op op_mod (pe_callTy call_int1 rfl m_int (by decide +kernel) (pa_cons (pv 1) (pa_nil))) (pe_callB (call_lenK K) rfl m_len (by decide +kernel) (pa_cons (pv 0) (pa_nil)))) (fun _ _ => rfl)) (pa_nil))) (pa_nil))) (pa_nil))) (pe_int)) (pe_int))))) (pss_nil))))
 (pss_cons (ps_set (i := 3) sc_l_box.nd rfl (.inl rfl) (pe_op op_add (pe_op op_mod (pe_callTy call_int1 rfl m_int (by decide +kernel) (pa_cons (pe_op op_add (pe_op op_mul (pe_op op_mod (pe_callTy call_int1 rfl m_int (by decide +kernel) (pa_cons (pv 2) (pa_nil))) (pe_int)) (pe_int)) (pe_op op_mul (pe_int) (pv 1))) (pa_nil))) (pe_int)) (pe_int)))
 (pss_one (ps_ret (pe_lst (pa_cons (pe_ix (ix_sqK K) (pe_lst (pa_cons (pe_int) (pa_cons (pv 2) (pa_nil)))) (pe_callTy call_int1 rfl m_int (by decide +kernel) (pa_cons (pe_cmpR op_ge (pv 2) (pe_op op_pow (pe_int) (pe_int)) (nomark _)) (pa_nil))) (fun _ _ => rfl)) (pa_cons (pv 3) (pa_cons (pe_int) (pa_nil)))))))))), ?_⟩
    have hsq : Sq K H a (ns.map V.int) := .inl hq
    have hlen : ((ns.map V.int).length : Int) = (ns.length : Int) := by rw [List.length_map]
    -- what stands behind the cell
    refine ⟨_, rfl, _, _, rfl, rfl, .inl ⟨by decide, by decide⟩, _, _, rfl, rfl, ?_⟩
    refine ⟨_, rfl, _, rfl, a, _, rfl, hsq, _, _, rfl, rfl, _, rfl, ?_⟩
    have fin : ∀ c : Int, (tSeq
      (tAsg (tOp (rI0 fun i j => V.int (i + j)) (tOp (rI (fun _ j => 0 < j) fun i j => V.int (i % j)) (tCB (fun xs H Q => (∃ i, xs = [V.int i] ∧ Q (V.int i) H) ∨ ∃ k, xs = [V.bl k] ∧ Q (V.int (if k = true then 1 else 0)) H)
        (tCons (tOp (rI0 fun i j => V.int (i + j)) (tOp (rI CMul fun i j => V.int (i * j)) (tOp (rI (fun _ j => 0 < j) fun i j => V.int (i % j)) (tCB (fun xs H Q => (∃ i, xs = [V.int i] ∧ Q (V.int i) H) ∨ ∃ k, xs = [V.bl k] ∧ Q (V.int (if k = true then 1 else 0)) H) (tCons (tVar 2) tNil)) (tC (.int 2147483629))) (tC (.int 48271))) (tOp (rI CMul fun i j => V.int (i * j)) (tC (.int 42043)) (tVar 1))) tNil)) (tC (.int 2147483629))) (tC (.int 1))) (gName 3))
      (tRet (tLst (tCons (tOp (rIxQ K) (tLst (tCons (tC (.int 0)) (tCons (tVar 2) tNil))) (tCB (fun xs H Q => (∃ i, xs = [V.int i] ∧ Q (V.int i) H) ∨ ∃ k, xs = [V.bl k] ∧ Q (V.int (if k = true then 1 else 0)) H) (tCons (tOp (rI0 fun i j => V.bl (decide (j ≤ i))) (tVar 2) (tOp (rI CPow fun i j => V.int (i ^ j.toNat)) (tC (.int 10)) (tC (.int 18)))) tNil))) (tCons (tVar 3) (tCons (tC (.int 0)) tNil))))))
      { nx := fun _ H' => Q .non H', rt := Q } [some (.ref a), some (.int k), some (.int c), none] H := by
      intro c
      refine ⟨_, rfl, .inl ⟨_, rfl, _, _, rfl, rfl, (by show (0 : Int) < _; decide), _, _, rfl, rfl, .inr ⟨by decide, by decide⟩, _, rfl, _, _, rfl, rfl, .inl ⟨by decide, by decide⟩, _, _, rfl, rfl, .inl ⟨_, rfl, _, _, rfl, rfl, (by show (0 : Int) < _; decide), _, _, rfl, rfl, ?_⟩⟩⟩
      refine ⟨_, rfl, by show 2 ≤ sizeLine; decide, fun p np => ?_⟩
      refine ⟨_, rfl, _, _, rfl, rfl, ⟨by decide, by decide, by decide⟩, _, _, rfl, rfl, .inr ⟨_, rfl, ?_⟩⟩
      have s1 : Same H (upd H p (.lst [.int 0, .int c])) := same_new np
      by_cases hc : (10 : Int) ^ (18 : Int).toNat ≤ c
      · rw [decide_eq_true hc]
        refine ⟨p, _, 1, _, rfl, rfl, .l upd_same, rfl, _, rfl, by show 3 ≤ sizeLine; decide, fun p2 n2 => ?_⟩
        exact q p2 _ (s1.trans (same_new n2)) (s1.free n2) ⟨_, _, _, upd_same⟩
      · rw [decide_eq_false hc]
        refine ⟨p, _, 0, _, rfl, rfl, .l upd_same, rfl, _, rfl, by show 3 ≤ sizeLine; decide, fun p2 n2 => ?_⟩
        exact q p2 _ (s1.trans (same_new n2)) (s1.free n2) ⟨_, _, _, upd_same⟩
    refine ite2 (fun c => ?_) (fun c => ?_)
    · have c := of_decide_eq_true c
      rw [hlen] at c
      have hk : k.toNat < (ns.map V.int).length := by rw [List.length_map]; omega
      have e : (ns.map V.int)[k.toNat] = .int (ns[k.toNat]'(by omega)) := by rw [List.getElem_map]
      have ea := at_toNat (xs := ns.map V.int) k0 hk
      rw [e] at ea
      exact ⟨_, rfl, _, rfl, a, _, _, _, rfl, rfl, hsq, ea, _, rfl, fin _⟩
    · refine ⟨_, rfl, a, _, rfl, hsq, _, _, rfl, rfl, _, rfl, ite2 (fun c2 => ?_) (fun c2 => fin _)⟩
      have c2 := of_decide_eq_true c2
      rw [hlen] at c2
      have hp : (0 : Int) < ((ns.map V.int).length : Int) := by rw [hlen]; exact c2
      have h1 := Int.emod_nonneg k (b := ((ns.map V.int).length : Int)) (by omega)
      have h2 := Int.emod_lt_of_pos k hp
      have hk : (k % ((ns.map V.int).length : Int)).toNat < (ns.map V.int).length := by omega
      have hk2 : (k % ((ns.map V.int).length : Int)).toNat < ns.length := by rw [List.length_map] at hk; rw [List.length_map]; exact hk
      have e : (ns.map V.int)[(k % ((ns.map V.int).length : Int)).toNat] = .int (ns[(k % ((ns.map V.int).length : Int)).toNat]'hk2) := by rw [List.getElem_map]
      have ea := at_toNat (xs := ns.map V.int) h1 hk
      rw [e] at ea
      exact ⟨_, rfl, _, rfl, _, rfl, .inl ⟨_, rfl, _, rfl, a, _, rfl, hsq, _, _, rfl, rfl, hp, a, _, _, _, rfl, rfl, hsq, ea, .inl ⟨_, rfl, _, rfl, .inl ⟨_, rfl, _, _, rfl, rfl, (by show (0 : Int) < _; decide), _, _, rfl, rfl, .inr ⟨by decide, by decide⟩, _, _, rfl, rfl, fin _⟩⟩⟩⟩
end
end WW

set_option Elab.async false
set_option linter.all false
set_option maxRecDepth 100000
set_option maxHeartbeats 4000000
namespace WW
open PySem PySem.Spec PyProof.Rows L2
/-- a drawn row: nothing n times, times, times that come again, growth -/
structure Drawn (fs : List V) (ag : List Int) (m : Int) : Prop where
  ex : ∃ (n : Nat) (is : List Int), fs = List.replicate n V.non ++ is.map V.int ∧ n ≤ 2 ∧ is.length ≤ 3 ∧ (is ++ ag).Pairwise (· ≤ ·) ∧ ∀ v ∈ is ++ ag, -4 ≤ v ∧ v ≤ 40
  l1 : 1 ≤ ag.length
  l3 : ag.length ≤ 3
  m0 : lastI ag - ag.getD 0 0 ≤ m
  m1 : m ≤ 50
/-- what is drawn so far: times that rise up to here -/
def Up (is : List Int) (h c : Int) : Prop := (is ++ [h]).Pairwise (· ≤ ·) ∧ (∀ v ∈ is ++ [h], -4 ≤ v) ∧ h ≤ c
theorem Up.next {is : List Int} {h c d e : Int} (u : Up is h c) (h0 : 0 ≤ d) (h1 : d ≤ e) : Up (is ++ [h]) (h + d) (c + e) := by
  obtain ⟨p, b, l⟩ := u
  have bh := b h (List.mem_append_right _ (List.mem_singleton.mpr rfl))
  refine ⟨?_, fun v hv => ?_, by omega⟩
  · rw [List.pairwise_append]
    refine ⟨p, List.pairwise_singleton _ _, fun x hx y hy => ?_⟩
    rw [List.mem_singleton.mp hy]
    rw [List.pairwise_append] at p
    rcases List.mem_append.mp hx with hx | hx
    · have := p.2.2 x hx h (List.mem_singleton.mpr rfl)
      omega
    · rw [List.mem_singleton.mp hx]
      omega
  · rcases List.mem_append.mp hv with hv | hv
    · exact b v hv
    · rw [List.mem_singleton.mp hv]
      omega
theorem Up.le {is : List Int} {h c : Int} (u : Up is h c) : ∀ v ∈ is, v ≤ h := fun v hv => by
  have p := u.1
  rw [List.pairwise_append] at p
  exact p.2.2 v hv h (List.mem_singleton.mpr rfl)
section
variable {P : Program} {w : World} {K : PySem.W.Frag} {mg : Str → Option Value} {base : Heap} {f : Addr} {fd : FuncData}
/-- a told row at p: a tuple of two lists and a number -/
def Told (H : Hp) (p : Addr) (fs : List V) (ag : List Int) (m : Int) : Prop := ∃ p1 p2, H p = some (.tup [.ref p1, .ref p2, .int m]) ∧ H p1 = some (.lst fs) ∧ H p2 = some (.lst (ag.map V.int))
def spRow : Sp := fun vs H Q _ => ∃ (b : Addr) (lo : Bool), vs = [.ref b, .bl lo] ∧ Box H b ∧
  ∀ p H' fs ag m, Drawn fs ag m → SameBut b H H' → Box H' b → (∃ p1 p2, H' p = some (.tup [.ref p1, .ref p2, .int m]) ∧ H' p1 = some (.lst fs) ∧ H' p2 = some (.lst (ag.map V.int)) ∧ p ≠ b ∧ p1 ≠ b ∧ p2 ≠ b) → Q (.ref p) H'
/-- the same, all of it new -/
def spRowF : Sp := fun vs H Q _ => ∃ (b : Addr) (lo : Bool), vs = [.ref b, .bl lo] ∧ Box H b ∧
  ∀ p H' fs ag m, Drawn fs ag m → SameBut b H H' → Box H' b → (∃ p1 p2, H' p = some (.tup [.ref p1, .ref p2, .int m]) ∧ H' p1 = some (.lst fs) ∧ H' p2 = some (.lst (ag.map V.int)) ∧ p ≠ b ∧ p1 ≠ b ∧ p2 ≠ b ∧ H p = none ∧ H p1 = none ∧ H p2 = none) → Q (.ref p) H'
theorem SameBut.free {b a : Addr} {H H' : Hp} (h : SameBut b H H') (n : a ≠ b) (e : H' a = none) : H a = none := by
  cases c : H a with
  | none => rfl
  | some o =>
    rw [h a o n c] at e
    cases e
theorem SameBut.app {b p : Addr} {H Hc : Hp} {o : HO} (h : SameBut b H Hc) (n : H p = none) : SameBut b H (L2.upd Hc p o) := fun a u na ha => by
  rw [upd_ne (ne_of_none ha n)]
  exact h a u na ha
theorem pick4 {a b c d : Int} {v : V} (h : v ∈ [V.int a, V.int b, V.int c, V.int d]) (ha : 0 ≤ a ∧ a ≤ d) (hb : 0 ≤ b ∧ b ≤ d) (hc : 0 ≤ c ∧ c ≤ d) (hd : 0 ≤ d) : ∃ i, v = .int i ∧ 0 ≤ i ∧ i ≤ d := by
  simp only [List.mem_cons, List.not_mem_nil, or_false] at h
  rcases h with rfl | rfl | rfl | rfl
  · exact ⟨a, rfl, ha⟩
  · exact ⟨b, rfl, hb⟩
  · exact ⟨c, rfl, hc⟩
  · exact ⟨d, rfl, hd, Int.le_refl d⟩
abbrev s_l_row : Stmt := top 29
abbrev N_l_row : List Str := ["_law_box_here", "_law_is_low", "_law_here", "_law_first", "_law_turn", "_law_again"]
theorem sc_l_row : FnScope N_l_row ["_law_box_here", "_law_is_low"] (defScope s_l_row) := ⟨rfl, rfl, rfl, by decide +kernel, rfl, by decide +kernel, by decide +kernel⟩

theorem ok_rowF (F : FnP K "_law_row" s_l_row f fd) (m_int : mg "int" = none) (m_range : mg "range" = none) (g_l_take : FnAt P w K mg base CX0 1 "_law_take" ["_law_box_here", "_law_many"] spTake) (g_l_pick : FnAt P w K mg base CX0 2 "_law_pick" ["_law_box_here", "_law_some"] (spPick K)) :
    FnOk P w K mg base CX0 3 f fd ["_law_box_here", "_law_is_low"] spRowF := by
  refine F.ok sc_l_row (fun vs H Q E h => ?_) (fun cdv A outer s H vs Q E hr h => ?_)
  · obtain ⟨b, lo, rfl, _⟩ := h
    rfl
  · obtain ⟨b, lo, rfl, hb, q⟩ := h
    refine ⟨_, PSs.nox (pss_cons (ps_set (i := 2) sc_l_row.nd rfl (.inl rfl) (pe_op op_sub (pe_fn g_l_take hr rfl (pa_cons (pv 0) (pa_cons (pe_int) (pa_nil)))) (pe_op op_mul (pe_int) (pe_callTy call_int1 rfl m_int (by decide +kernel) (pa_cons (pv 1) (pa_nil))))))
 (pss_cons (ps_set (i := 3) sc_l_row.nd rfl (.inl rfl) (pe_lst (pa_nil)))
 (Evl.pss_cut (ps_for PassesOwn.never rfl (pi_range1 rfl m_range (pa_cons (pe_fn g_l_take hr rfl (pa_cons (pv 0) (pa_cons (pe_int) (pa_nil)))) (pa_nil))) (pg_name (i := 4) sc_l_row.nd rfl (.inl rfl)) (pss_cons (ps_expr (pe_bmK K PySem.F.plainAttrs_list PySem.F.slot_list_append PySem.F.type_list_append mt_append (pv 3) (pa_cons (pv 2) (pa_nil))))
 (pss_one (ps_set (i := 2) sc_l_row.nd rfl (.inl rfl) (pe_op op_add (pv 2) (pe_fn g_l_pick hr rfl (pa_cons (pv 0) (pa_cons (pe_lst (pa_cons (pe_int) (pa_cons (pe_int) (pa_cons (pe_int) (pa_cons (pe_int) (pa_nil)))))) (pa_nil)))))))))
 (Evl.pss_cut (ps_if (pt_cmpR op_eq (pe_fn g_l_take hr rfl (pa_cons (pv 0) (pa_cons (pe_int) (pa_nil)))) (pe_int) (nomark _)) (pss_one (ps_set (i := 3) sc_l_row.nd rfl (.inl rfl) (pe_op op_cat (pe_op op_rep (pe_lst (pa_cons (pe_non) (pa_nil))) (pe_op op_add (pe_int) (pe_fn g_l_take hr rfl (pa_cons (pv 0) (pa_cons (pe_int) (pa_nil)))))) (pv 3)))) (pss_nil))
 (pss_cons (ps_set (i := 5) sc_l_row.nd rfl (.inl rfl) (pe_lst (pa_nil)))
 (Evl.pss_cut (ps_for PassesOwn.never rfl (pi_range1 rfl m_range (pa_cons (pe_op op_add (pe_int) (pe_fn g_l_take hr rfl (pa_cons (pv 0) (pa_cons (pe_int) (pa_nil))))) (pa_nil))) (pg_name (i := 4) sc_l_row.nd rfl (.inl rfl)) (pss_cons (ps_expr (pe_bmK K PySem.F.plainAttrs_list PySem.F.slot_list_append PySem.F.type_list_append mt_append (pv 5) (pa_cons (pv 2) (pa_nil))))
 (pss_one (ps_set (i := 2) sc_l_row.nd rfl (.inl rfl) (pe_op op_add (pv 2) (pe_fn g_l_pick hr rfl (pa_cons (pv 0) (pa_cons (pe_lst (pa_cons (pe_int) (pa_cons (pe_int) (pa_cons (pe_int) (pa_cons (pe_int) (pa_nil)))))) (pa_nil)))))))))
 (pss_one (ps_ret (pe_tup (pa_cons (pv 3) (pa_cons (pv 5) (pa_cons (pe_op op_add (pe_op op_sub (pe_ix (ix_sqK K) (pv 5) (pe_un un_neg (pe_int)) (fun _ _ => rfl)) (pe_ix (ix_sqK K) (pv 5) (pe_int) (fun _ _ => rfl))) (pe_fn g_l_take hr rfl (pa_cons (pv 0) (pa_cons (pe_int) (pa_nil))))) (pa_nil))))))))))))), ?_⟩
    -- here
    refine ⟨_, rfl, b, 7, rfl, hb, by decide, by decide, fun x0 y0 z0 d0 l0 u0 => ?_⟩
    refine ⟨_, rfl, .inr ⟨_, rfl, _, _, rfl, rfl, .inl ⟨by decide, by decide⟩, _, _, rfl, rfl, ?_⟩⟩
    obtain ⟨h0, e0, l0', u0'⟩ : ∃ h0, h0 = d0 - 4 * (if lo = true then 1 else 0) ∧ -4 ≤ h0 ∧ h0 ≤ 6 := by
      cases lo
      · exact ⟨_, rfl, by simp; omega, by simp; omega⟩
      · exact ⟨_, rfl, by simp; omega, by simp; omega⟩
    -- first = []
    refine ⟨by decide, fun p1 n1 => ?_⟩
    have bx1 : Box (upd (upd H b (bx x0 y0 z0)) p1 (.lst [])) b := ⟨_, _, _, same_new n1 _ _ upd_same⟩
    have np1 : p1 ≠ b := Box.ne ⟨_, _, _, upd_same⟩ n1
    have sb1 : SameBut b H (upd (upd H b (bx x0 y0 z0)) p1 (.lst [])) := (SameBut.upd b H _).trans (.of (same_new n1))
    have hn1 : H p1 = none := by
      rw [upd_ne np1] at n1
      exact n1
    refine ⟨fun σ Hc => ∃ (h : Int) (is : List Int) (v4 : Option V), σ = [some (.ref b), some (.bl lo), some (.int h), some (.ref p1), v4, none] ∧ SameBut b H Hc ∧ Box Hc b ∧ Hc p1 = some (.lst (is.map V.int)) ∧ is.length ≤ 3 ∧ Up is h 21, ?_, ?_⟩
    · refine ⟨_, rfl, b, 4, rfl, bx1, by decide, by decide, fun x1 y1 z1 d1 l1 u1 => ⟨d1, rfl, by omega, by omega, ?_⟩⟩
      refine for_range (fun i σ Hc => ∃ (h : Int) (is : List Int) (v4 : Option V), σ = [some (.ref b), some (.bl lo), some (.int h), some (.ref p1), v4, none] ∧ SameBut b H Hc ∧ Box Hc b ∧ Hc p1 = some (.lst (is.map V.int)) ∧ is.length = i ∧ Up is h (6 + 5 * (i : Int))) ⟨h0, [], none, by rw [e0]; rfl, sb1.trans (SameBut.upd b _ _), ⟨_, _, _, upd_same⟩, (upd_ne np1).trans upd_same, rfl, ?_⟩ ?_ ?_
      · refine ⟨List.pairwise_singleton _ _, fun v hv => ?_, by omega⟩
        rw [List.mem_singleton.mp hv]
        omega
      · rintro i σ Hc hi ⟨h, is, v4, rfl, sb, bx2, hp1, hlen, up⟩
        refine ⟨_, rfl, .inl ⟨rfl, _, .inl (.inl hp1)⟩, _, rfl, p1, _, _, rfl, rfl, hp1, ?_, ?_⟩
        · rw [List.length_map]
          exact Nat.lt_of_lt_of_le (show is.length < 1000 by omega) (by decide)
        · have bx3 : Box (upd Hc p1 (.lst (is.map V.int ++ [.int h]))) b := by
            obtain ⟨x, y, z, e⟩ := bx2
            exact ⟨x, y, z, (upd_ne (Ne.symm np1)).trans e⟩
          refine ⟨_, rfl, _, rfl, by show 4 ≤ sizeLine; decide, fun l nl => ?_⟩
          refine ⟨b, l, [.int 0, .int 1, .int 2, .int 5], rfl, bx3.ex (same_new nl), .l upd_same, Box.ne bx3 nl, by show 0 < 4; decide, by show 4 < 1000; decide, fun x y z v hv => ?_⟩
          obtain ⟨d, rfl, hd0, hd1⟩ := pick4 hv (by decide) (by decide) (by decide) (by decide)
          have hl1 : p1 ≠ l := ne_of_none upd_same nl
          refine ⟨_, _, rfl, rfl, h + d, is ++ [h], some (.int (0 + (i : Int))), rfl, ?_, ⟨_, _, _, upd_same⟩, ?_, by rw [List.length_append, hlen]; rfl, ?_⟩
          · exact ((sb.app hn1).trans (.of (same_new nl))).trans (SameBut.upd b _ _)
          · rw [upd_ne np1, upd_ne hl1, upd_same, List.map_append]
            rfl
          · have := up.next hd0 hd1
            rw [show (6 : Int) + 5 * (i : Int) + 5 = 6 + 5 * ((i + 1 : Nat) : Int) by omega] at this
            exact this
      · rintro σ Hc ⟨h, is, v4, rfl, sb, bx2, hp1, hlen, a1, a2, a3⟩
        exact ⟨h, is, v4, rfl, sb, bx2, hp1, by omega, a1, a2, by omega⟩
    rintro σ Hc ⟨h, is, v4, rfl, sb, bx2, hp1, il, ub⟩
    -- nothing ahead
    refine ⟨fun σ H2 => ∃ (pf : Addr) (n : Nat), σ = [some (.ref b), some (.bl lo), some (.int h), some (.ref pf), v4, none] ∧ SameBut b H H2 ∧ Box H2 b ∧ H pf = none ∧ pf ≠ b ∧ n ≤ 2 ∧ H2 pf = some (.lst (List.replicate n V.non ++ is.map V.int)), ?_, ?_⟩
    · refine ⟨_, rfl, b, 4, rfl, bx2, by decide, by decide, fun x y z d dl du => ⟨rfl, _, rfl, ite2 (fun c => ?_) (fun c => ?_)⟩⟩
      · have sb2 : SameBut b H (upd Hc b (bx x y z)) := sb.trans (SameBut.upd b _ _)
        refine ⟨by decide, fun l nl => ?_⟩
        have hlb : l ≠ b := Box.ne ⟨_, _, _, upd_same⟩ nl
        refine ⟨_, rfl, b, 2, rfl, ⟨_, _, _, same_new nl _ _ upd_same⟩, by decide, by decide, fun x2 y2 z2 d2 dl2 du2 => ⟨_, _, rfl, rfl, l, _, [.non], rfl, rfl, (upd_ne hlb).trans upd_same, by omega, by omega, ?_, fun l2 nl2 => ?_⟩⟩
        · show 1 * (1 + d2).toNat ≤ sizeLine
          exact Nat.le_trans (show 1 * (1 + d2).toNat ≤ 3 by omega) (by decide)
        · have er : (List.replicate (1 + d2).toNat [V.non]).flatten = List.replicate (1 + d2).toNat V.non := by
            generalize (1 + d2).toNat = k
            induction k with
            | zero => rfl
            | succ k ih => rw [List.replicate_succ, List.flatten_cons, ih]; rfl
          have hl2b : l2 ≠ b := Box.ne ⟨_, _, _, upd_same⟩ nl2
          have hp1b : (upd (upd (upd Hc b (bx x y z)) l (.lst [.non])) b (bx x2 y2 z2)) p1 = some (.lst (is.map V.int)) := by
            rw [upd_ne np1]
            refine same_new nl _ _ ?_
            rw [upd_ne np1]
            exact hp1
          refine ⟨_, rfl, l2, p1, _, _, rfl, rfl, upd_same, same_new nl2 _ _ hp1b, ?_, fun l3 nl3 => ⟨l3, (1 + d2).toNat, rfl, ?_, ?_, ?_, ?_, by omega, ?_⟩⟩
          · rw [er, List.length_replicate, List.length_map]
            exact Nat.le_trans (show (1 + d2).toNat + is.length ≤ 10 by omega) (by decide)
          · exact (((sb2.trans (.of (same_new nl))).trans (SameBut.upd b _ _)).trans (.of (same_new nl2))).trans (.of (same_new nl3))
          · exact Box.ex (same_new nl3) (Box.ex (same_new nl2) ⟨_, _, _, upd_same⟩)
          · exact SameBut.free (((sb2.trans (.of (same_new nl))).trans (SameBut.upd b _ _)).trans (.of (same_new nl2))) (Box.ne (Box.ex (same_new nl2) ⟨_, _, _, upd_same⟩) nl3) nl3
          · exact Box.ne (Box.ex (same_new nl2) ⟨_, _, _, upd_same⟩) nl3
          · rw [upd_same, er]
      · exact ⟨p1, 0, rfl, sb.trans (SameBut.upd b _ _), ⟨_, _, _, upd_same⟩, hn1, np1, by omega, by rw [upd_ne np1, hp1]; rfl⟩
    rintro σ H2 ⟨pf, n, rfl, sb2, bx4, fpf, npf, hn2, hpf⟩
    -- again = []
    refine ⟨by decide, fun p2 n2 => ?_⟩
    have np2 : p2 ≠ b := Box.ne bx4 n2
    have sb3 : SameBut b H (upd H2 p2 (.lst [])) := sb2.trans (.of (same_new n2))
    have hpf3 : (upd H2 p2 (.lst [])) pf = some (.lst (List.replicate n V.non ++ is.map V.int)) := same_new n2 _ _ hpf
    have nf2 : pf ≠ p2 := ne_of_none hpf n2
    refine ⟨fun σ H3 => ∃ (h' : Int) (ag : List Int) (v4 : Option V), σ = [some (.ref b), some (.bl lo), some (.int h'), some (.ref pf), v4, some (.ref p2)] ∧ SameBut b H H3 ∧ Box H3 b ∧ H3 pf = some (.lst (List.replicate n V.non ++ is.map V.int)) ∧ H3 p2 = some (.lst (ag.map V.int)) ∧ 1 ≤ ag.length ∧ ag.length ≤ 3 ∧ Up (is ++ ag) h' 33, ?_, ?_⟩
    · refine ⟨_, rfl, b, 3, rfl, bx4.ex (same_new n2), by decide, by decide, fun x1 y1 z1 d1 l1 u1 => ⟨_, _, rfl, rfl, 1 + d1, rfl, by omega, by omega, ?_⟩⟩
      refine for_range (fun i σ Hc => ∃ (h' : Int) (ag : List Int) (v4 : Option V), σ = [some (.ref b), some (.bl lo), some (.int h'), some (.ref pf), v4, some (.ref p2)] ∧ SameBut b H Hc ∧ SameBut b H2 Hc ∧ Box Hc b ∧ Hc p2 = some (.lst (ag.map V.int)) ∧ ag.length = i ∧ Up (is ++ ag) h' (21 + 4 * (i : Int))) ⟨h, [], v4, rfl, sb3.trans (SameBut.upd b _ _), SameBut.trans (.of (same_new n2)) (SameBut.upd b _ _), ⟨_, _, _, upd_same⟩, (upd_ne np2).trans upd_same, rfl, by rw [List.append_nil]; exact ub⟩ ?_ ?_
      · rintro i σ Hc hi ⟨h', ag, v4, rfl, sb, sbb, bx5, hp2, hlen, up⟩
        refine ⟨_, rfl, .inl ⟨rfl, _, .inl (.inl hp2)⟩, _, rfl, p2, _, _, rfl, rfl, hp2, ?_, ?_⟩
        · rw [List.length_map]
          exact Nat.lt_of_lt_of_le (show ag.length < 1000 by omega) (by decide)
        · have bx3 : Box (upd Hc p2 (.lst (ag.map V.int ++ [.int h']))) b := by
            obtain ⟨x, y, z, e⟩ := bx5
            exact ⟨x, y, z, (upd_ne (Ne.symm np2)).trans e⟩
          refine ⟨_, rfl, _, rfl, by show 4 ≤ sizeLine; decide, fun l nl => ?_⟩
          refine ⟨b, l, [.int 0, .int 1, .int 2, .int 4], rfl, bx3.ex (same_new nl), .l upd_same, Box.ne bx3 nl, by show 0 < 4; decide, by show 4 < 1000; decide, fun x y z v hv => ?_⟩
          obtain ⟨d, rfl, hd0, hd1⟩ := pick4 hv (by decide) (by decide) (by decide) (by decide)
          have hl1 : p2 ≠ l := ne_of_none upd_same nl
          refine ⟨_, _, rfl, rfl, h' + d, ag ++ [h'], some (.int (0 + (i : Int))), rfl, ?_, ?_, ⟨_, _, _, upd_same⟩, ?_, by rw [List.length_append, hlen]; rfl, ?_⟩
          · refine (SameBut.trans ?_ (.of (same_new nl))).trans (SameBut.upd b _ _)
            refine fun a o na ha => ?_
            rw [upd_ne (ne_of_none (sb2 a o na ha) n2)]
            exact sb a o na ha
          · exact ((sbb.app n2).trans (.of (same_new nl))).trans (SameBut.upd b _ _)
          · rw [upd_ne np2, upd_ne hl1, upd_same, List.map_append]
            rfl
          · have := up.next hd0 hd1
            rw [show (21 : Int) + 4 * (i : Int) + 4 = 21 + 4 * ((i + 1 : Nat) : Int) by omega, List.append_assoc] at this
            exact this
      · rintro σ Hc ⟨h', ag, v4, rfl, sb, sbb, bx5, hp2, hlen, up⟩
        obtain ⟨a1, a2, a3⟩ := up
        exact ⟨h', ag, v4, rfl, sb, bx5, sbb _ _ npf hpf, hp2, by omega, by omega, a1, a2, by omega⟩
    rintro σ H3 ⟨h', ag, v4, rfl, sb4, bx6, hpf4, hp24, al1, al3, up⟩
    -- the end
    have at0 : atI (ag.map V.int) 0 = some (.int (ag.getD 0 0)) := ints_at (i := 0) (by omega)
    have atL := ints_last (ag := ag) (by omega)
    refine ⟨_, rfl, _, rfl, _, rfl, 1, rfl, p2, _, _, _, rfl, rfl, .l hp24, atL, _, rfl, p2, _, _, _, rfl, rfl, .l hp24, at0, _, _, rfl, rfl, _, rfl, b, 5, rfl, bx6, by decide, by decide, fun x y z d dl du => ⟨_, _, rfl, rfl, by show 3 ≤ sizeLine; decide, fun p np => ?_⟩⟩
    have nb : p ≠ b := Box.ne ⟨_, _, _, upd_same⟩ np
    refine q p _ (List.replicate n V.non ++ is.map V.int) ag (lastI ag - ag.getD 0 0 + d) ?_ ((sb4.trans (SameBut.upd b _ _)).trans (.of (same_new np))) (Box.ex (same_new np) ⟨_, _, _, upd_same⟩) ⟨pf, p2, upd_same, same_new np _ _ ((upd_ne npf).trans hpf4), same_new np _ _ ((upd_ne np2).trans hp24), nb, npf, np2, SameBut.free (sb4.trans (SameBut.upd b _ _)) nb np, fpf, SameBut.free sb2 np2 n2⟩
    have hle := up.le
    obtain ⟨u1, u2, u3⟩ := up
    have bd : ∀ v ∈ is ++ ag, -4 ≤ v ∧ v ≤ 40 := fun v hv => ⟨u2 v (List.mem_append_left _ hv), by have := hle v hv; omega⟩
    have mem : ∀ i, i < ag.length → ag.getD i 0 ∈ is ++ ag := fun i hi => by
      rw [List.getD_eq_getElem?_getD, List.getElem?_eq_getElem hi]
      exact List.mem_append_right _ (List.getElem_mem hi)
    have b0 := bd _ (mem 0 (by omega))
    have bL := bd _ (mem (ag.length - 1) (by omega))
    refine ⟨⟨n, is, rfl, hn2, il, ?_, bd⟩, al1, al3, by omega, ?_⟩
    · rw [List.pairwise_append] at u1
      exact u1.1
    · have : lastI ag = ag.getD (ag.length - 1) 0 := rfl
      omega
theorem ok_row (F : FnP K "_law_row" s_l_row f fd) (m_int : mg "int" = none) (m_range : mg "range" = none) (g_l_take : FnAt P w K mg base CX0 1 "_law_take" ["_law_box_here", "_law_many"] spTake) (g_l_pick : FnAt P w K mg base CX0 2 "_law_pick" ["_law_box_here", "_law_some"] (spPick K)) :
    FnOk P w K mg base CX0 3 f fd ["_law_box_here", "_law_is_low"] spRow :=
  (ok_rowF F m_int m_range g_l_take g_l_pick).imp fun vs H Q E h => by
    obtain ⟨b, lo, e, hb, q⟩ := h
    refine ⟨b, lo, e, hb, fun p H' fs ag m d sb bx h => ?_⟩
    obtain ⟨p1, p2, h1, h2, h3, n1, n2, n3, _⟩ := h
    exact q p H' fs ag m d sb bx ⟨p1, p2, h1, h2, h3, n1, n2, n3⟩
end
end WW

set_option Elab.async false
set_option linter.all false
set_option maxRecDepth 100000
set_option maxHeartbeats 4000000
namespace WW
open PySem PySem.Spec PyProof.Rows L2
/-! ### slots forgotten -/
inductive Wk : List Slot → List Slot → Prop
  | nil : Wk [] []
  | keep {s : Slot} {r r' : List Slot} : Wk r r' → Wk (s :: r) (s :: r')
  | drop {s : Slot} {r r' : List Slot} : Wk r r' → Wk (s :: r) (.no :: r')
def Slot.unbox : Slot → Slot
  | .box => .no
  | s => s
theorem Wk.refl : ∀ r : List Slot, Wk r r
  | [] => .nil
  | _ :: r => .keep (Wk.refl r)
theorem Wk.trans : ∀ {a b c : List Slot}, Wk a b → Wk b c → Wk a c
  | _, _, _, .nil, .nil => .nil
  | _, _, _, .keep h, .keep k => .keep (h.trans k)
  | _, _, _, .keep h, .drop k => .drop (h.trans k)
  | _, _, _, .drop h, .keep k => .drop (h.trans k)
  | _, _, _, .drop h, .drop k => .drop (h.trans k)
theorem Wk.unbox : ∀ {a b : List Slot}, Wk a b → Wk (a.map Slot.unbox) (b.map Slot.unbox)
  | _, _, .nil => .nil
  | _, _, .keep h => .keep h.unbox
  | _, _, .drop h => .drop h.unbox
theorem Wk.length : ∀ {a b : List Slot}, Wk a b → a.length = b.length
  | _, _, .nil => rfl
  | _, _, .keep h => by rw [List.length_cons, List.length_cons, h.length]
  | _, _, .drop h => by rw [List.length_cons, List.length_cons, h.length]
theorem Wk.at' : ∀ {a b : List Slot}, Wk a b → ∀ (i : Nat) (s : Slot), b[i]? = some s → a[i]? = some s ∨ (s = .no ∧ ∃ u, a[i]? = some u)
  | _, _, .nil, i, s, e => by simp at e
  | _, _, .keep h, 0, s, e => .inl e
  | _, _, .drop h, 0, s, e => .inr ⟨by simp at e; exact e.symm, _, rfl⟩
  | _, _, .keep h, i + 1, s, e => by
    simp only [List.getElem?_cons_succ] at e ⊢
    exact h.at' i s e
  | _, _, .drop h, i + 1, s, e => by
    simp only [List.getElem?_cons_succ] at e ⊢
    exact h.at' i s e
section
variable {K : PySem.W.Frag} {B : Addr → Prop} {ρ ρ' ρ1 ρ2 : List Slot} {ta tb tc te : TE} {t u : TT} {ts tu tz : TS} {Φ : Post} {α β γ : Type} {e_α : Enc α} {e_β : Enc β} {e_γ : Enc γ} {a : α} {b : β} {i j : Int}
theorem En.weak {S0 H0 S H : Hp} {σ : L2.St} (E : En K B S0 H0 S H σ ρ) (h : Wk ρ ρ') : En K B S0 H0 S H σ ρ' := by
  refine ⟨E.i0, E.bx, E.ext, E.len.trans h.length, fun i s hs => ?_, fun i j s u n h1 h2 o1 o2 => ?_⟩
  · rcases h.at' i s hs with q | ⟨rfl, u, q⟩
    · exact E.at' i s q
    · obtain ⟨o, e, _⟩ := E.at' i u q
      exact ⟨o, e, by cases o <;> trivial⟩
  · rcases h.at' i s h1 with q | ⟨rfl, _⟩
    · rcases h.at' j u h2 with q2 | ⟨rfl, _⟩
      · exact E.ne i j s u n q q2 o1 o2
      · cases o2
    · cases o1
theorem DS.weak (h : DS K B ts ρ' Φ) (w : Wk ρ ρ') : DS K B ts ρ Φ := fun S0 H0 S H σ D E => h S0 H0 S H σ D (E.weak w)
theorem DG.weak {g : TG} {js : List Nat} (h : DG K B g a ρ' ρ2 js) (w : Wk ρ ρ') : DG K B g a ρ ρ2 js := fun S0 H0 S H σ v E => h S0 H0 S H σ v (E.weak w)
/-- a loop whose turns keep some slots and forget the others -/
theorem dq_forW {wi : TI} {g : TG} {xs : List α} (ρf : List Slot) (hi : DI K B wi ρ xs) (h0 : Wk ρ ρf)
    (hs : ∀ x ∈ xs, ∃ ρ2 js, DG K B g x ρf ρ2 js ∧ DS K B ts ρ2 ⟨fun r => Wk r ρf, Φ.rt, fun ρ' => DS K B tz ρ' Φ, fun r => Wk r ρf, Φ.px⟩) (hd : DS K B tz ρf Φ) : DS K B (tSeq (tFor wi g ts) tz) ρ Φ :=
  dq_for hi (fun _ r => Wk r ρf) h0 (fun i x ρ1 hx hw => by
    obtain ⟨ρ2, js, h1, h2⟩ := hs x (List.mem_of_getElem? hx)
    exact ⟨ρ2, js, h1.weak hw, h2⟩) fun ρ1 hw => hd.weak hw
theorem ds_forW {wi : TI} {g : TG} {xs : List α} (ρf : List Slot) (hi : DI K B wi ρ xs) (h0 : Wk ρ ρf)
    (hs : ∀ x ∈ xs, ∃ ρ2 js, DG K B g x ρf ρ2 js ∧ DS K B ts ρ2 ⟨fun r => Wk r ρf, Φ.rt, Φ.nx, fun r => Wk r ρf, Φ.px⟩) (hd : ∀ r, Wk r ρf → Φ.nx r) : DS K B (tFor wi g ts) ρ Φ :=
  ds_for hi (fun _ r => Wk r ρf) h0 (fun i x ρ1 hx hw => by
    obtain ⟨ρ2, js, h1, h2⟩ := hs x (List.mem_of_getElem? hx)
    exact ⟨ρ2, js, h1.weak hw, h2⟩) fun ρ1 hw => hd ρ1 hw
/-! ### lists, each one of some -/
theorem rep_len {S : Hp} {v : V} {xs : List α} (h : Enc.rep K S v (α := L α) xs) : xs.length ≤ BIG := h.1
theorem r_cat {S H : Hp} {x y : V} {xs ys : List α} (i : Same S H) (h1 : Enc.rep K S x (α := L α) xs) (h2 : Enc.rep K S y (α := L α) ys) (hl : xs.length + ys.length ≤ BIG) (Q : VK)
    (q : ∀ v S' H', Ext B S H S' H' → Enc.rep K S' v (α := L α) (xs ++ ys) → Q v H') : rCat x y H Q := by
  obtain ⟨l1, p1, vs1, rfl, hh1, r1⟩ := h1
  obtain ⟨l2, p2, vs2, rfl, hh2, r2⟩ := h2
  refine ⟨p1, p2, vs1, vs2, rfl, rfl, i _ _ hh1, i _ _ hh2, ?_, fun p hp => ?_⟩
  · rw [r1.length, r2.length]
    exact Nat.le_trans hl big_line
  · have e : Ext B S H (upd S p (.lst (vs1 ++ vs2))) (upd H p (.lst (vs1 ++ vs2))) := Ext.new i hp
    exact q _ _ _ e ⟨by rw [List.length_append]; exact hl, p, _, rfl, upd_same, Paired.mono (fun _ _ => Enc.mono e.s) (Paired.app r1 r2)⟩
theorem dn_cat {P1 P2 : List α → Prop} (h1 : DN K B ta ρ (α := L α) P1) (h2 : DN K B tb ρ (α := L α) P2) (hl : ∀ xs ys, P1 xs → P2 ys → xs.length + ys.length ≤ BIG) : DN K B (tOp rCat ta tb) ρ (α := L α) (fun zs => ∃ xs ys, P1 xs ∧ P2 ys ∧ zs = xs ++ ys) :=
  dn_op h1 h2 fun xs ys p1 p2 x y S H i r1 r2 Q q => r_cat i r1 r2 (hl xs ys p1 p2) Q fun v S' H' e r => q v _ S' H' ⟨xs, ys, p1, p2, rfl⟩ e r
theorem dn_lst1 {P : α → Prop} (h : DN K B te ρ P) : DN K B (tLst (tCons te tNil)) ρ (α := L α) (fun xs => ∃ a, P a ∧ xs = [a]) := fun S0 H0 S H σ E Q q =>
  h S0 H0 S H σ E _ fun v a S1 H1 pa e1 r1 => ⟨by show 1 ≤ sizeLine; decide, fun p hp => by
    have e2 : Ext B S1 H1 (upd S1 p (.lst [v])) (upd H1 p (.lst [v])) := Ext.new e1.i hp
    exact q _ [a] _ _ ⟨a, pa, rfl⟩ (e1.trans e2) ⟨by show 1 ≤ BIG; decide, p, _, rfl, upd_same, .cons (Enc.mono e2.s r1) .nil⟩⟩
theorem dn_rep {P : α → Prop} {P' : Int → Prop} (h : DN K B ta ρ (α := L α) (fun xs => ∃ a, P a ∧ xs = [a])) (hi : DN K B tb ρ P') (h0 : ∀ i, P' i → 0 ≤ i ∧ i ≤ BIG) : DN K B (tOp rRep ta tb) ρ (α := L α) (fun zs => ∃ a i, P a ∧ P' i ∧ zs = List.replicate i.toNat a) :=
  dn_op h hi fun xs i p1 p2 x y S H im r1 r2 Q q => by
    obtain ⟨a, pa, rfl⟩ := p1
    obtain ⟨i0, hl⟩ := h0 i p2
    obtain ⟨hl1, p, vs, rfl, hh, r⟩ := r1
    cases r2
    cases r with
    | cons ra rn =>
      cases rn
      rename_i x
      have hb : i.toNat ≤ BIG := by omega
      have b62 : (BIG : Int) < 2 ^ 62 := by decide
      refine ⟨p, i, [x], rfl, rfl, im _ _ hh, by omega, by omega, ?_, fun w hw => ?_⟩
      · rw [List.length_singleton, Nat.one_mul]
        exact Nat.le_trans hb big_line
      · have ef : (List.replicate i.toNat [x]).flatten = List.replicate i.toNat x := by
          generalize i.toNat = n
          induction n with
          | zero => rfl
          | succ n ih => rw [List.replicate_succ, List.flatten_cons, ih]; rfl
        rw [ef]
        have e : Ext B S H (upd S w (.lst (List.replicate i.toNat x))) (upd H w (.lst (List.replicate i.toNat x))) := Ext.new im hw
        have pr : ∀ (S' : Hp) (n : Nat), Enc.rep K S' x a → Paired (Enc.rep K S') (List.replicate n x) (List.replicate n a) := fun S' n h => by
          induction n with
          | zero => exact .nil
          | succ n ih => rw [List.replicate_succ, List.replicate_succ]; exact .cons h ih
        exact q _ _ _ _ ⟨a, i, pa, p2, rfl⟩ e ⟨by rw [List.length_replicate]; exact hb, w, _, rfl, upd_same, pr _ _ (Enc.mono e.s ra)⟩
theorem dn_sl {P : Int → Prop} {xs : List α} (h : DE K B te ρ (α := L α) xs) (hl : DN K B tb ρ P) : DN K B (tSl (rSlQ K) te (tPart tb) tNoPart) ρ (α := L α) (fun zs => ∃ i, P i ∧ zs = cutA xs (some i) none) := fun S0 H0 S H σ E Q q =>
  h S0 H0 S H σ E _ fun v S1 H1 e1 r1 => hl S0 H0 S1 H1 σ (E.go e1) _ fun w i S3 H3 pi e3 r3 => by
    cases r3
    have e13 := e1.trans e3
    obtain ⟨hl, p, vs, rfl, hq, r⟩ := Enc.mono e3.s r1
    have lc : (cutA xs (some i) none).length ≤ BIG := Nat.le_trans (cutA_len _ _ _) hl
    refine ⟨i, rfl, .inl ⟨p, vs, rfl, Evl.ex_l e3.i (.inl (.inl hq)), fun w hw => ?_⟩⟩
    have e4 : Ext B S3 H3 (upd S3 w (.lst (cutV vs (some i) none))) (upd H3 w (.lst (cutV vs (some i) none))) := Ext.new e3.i hw
    exact q _ _ _ _ ⟨i, pi, rfl⟩ (e13.trans e4) ⟨lc, w, _, rfl, upd_same, Paired.mono (fun _ _ => Enc.mono e4.s) (paired_cut r)⟩
end
end WW

set_option Elab.async false
set_option linter.all false
set_option maxRecDepth 100000
set_option maxHeartbeats 4000000
namespace WW
open PySem PySem.Spec PyProof.Rows L2
/-! ### the older promises, typed -/
theorem FnAt.imp {P : Program} {w : World} {K : PySem.W.Frag} {mg : Str → Option Value} {base : Heap} {CX : CXT} {k : Nat} {x : Str} {ps : List Str} {sp sp' : Sp} (F : FnAt P w K mg base CX k x ps sp) (h : ∀ vs H Q E, sp' vs H Q E → sp vs H Q E) : FnAt P w K mg base CX k x ps sp' := by
  obtain ⟨⟨fd, F1, b⟩, kp, g⟩ := F
  exact ⟨⟨fd, F1.imp h, b⟩, kp, g⟩
section
variable {B : Addr → Prop} {S H : Hp} {b : Addr}
theorem Ext.box {x y z : Int} (i : Same S H) (hb : B b) (s : S b = none) : Ext B S H S (upd H b (bx x y z)) := by
  refine ⟨Same.refl S, fun a o ha => ?_, fun a h1 h2 => ⟨h1, ?_⟩⟩
  · have n : a ≠ b := fun e => by rw [e, s] at ha; cases ha
    rw [upd_ne n]
    exact i _ _ ha
  · by_cases e : a = b
    · subst e
      exact .inr ⟨hb, x, y, z, upd_same⟩
    · exact .inl (upd_ne e)
end
section
variable {K : PySem.W.Frag}
abbrev dpTake : List Slot → (Slot → Prop) → Prop := dpb1 (fun m : Int => 0 < m ∧ m < 1073741824) (fun m (c : Int) => 0 ≤ c ∧ c < m)
theorem imp_take (vs : List V) (H : Hp) (Q : VK) (E : XK) (h : spT K dpTake vs H Q E) : spTake vs H Q E := by
  obtain ⟨B, S, ss, R, i, hb, ar, ⟨m, rfl, ⟨m0, m1⟩, r⟩, q⟩ := h
  cases ar with
  | cons h1 h2 h3 =>
    cases h3 with
    | cons k1 k2 k3 =>
      cases k3
      obtain ⟨p, rfl, bp⟩ := h1
      cases k1
      obtain ⟨sn, bx⟩ := hb p bp
      exact ⟨p, m, rfl, bx, m0, m1, fun x y z d d0 d1 => q (.val d) _ S _ (r d ⟨d0, d1⟩) (Ext.box i bp sn) rfl⟩
abbrev dpPick (α : Type) [Enc α] : List Slot → (Slot → Prop) → Prop := dpb1 (fun xs : L α => 0 < List.length xs ∧ List.length xs < 1000) (fun (xs : L α) (c : α) => List.Mem c xs)
theorem paired_mem {α : Type} {r : V → α → Prop} : ∀ {vs : List V} {xs : List α}, Paired r vs xs → ∀ v ∈ vs, ∃ x, x ∈ xs ∧ r v x
  | _, _, .nil, v, h => nomatch h
  | _, _, .cons h t, v, hm => by
    rcases List.mem_cons.mp hm with rfl | hm
    · exact ⟨_, List.mem_cons_self, h⟩
    · obtain ⟨x, h1, h2⟩ := paired_mem t v hm
      exact ⟨x, List.mem_cons_of_mem _ h1, h2⟩
theorem imp_pick {α : Type} [Enc α] (vs : List V) (H : Hp) (Q : VK) (E : XK) (h : spT K (dpPick α) vs H Q E) : spPick K vs H Q E := by
  obtain ⟨B, S, ss, R, i, hb, ar, ⟨xs, rfl, ⟨m0, m1⟩, r⟩, q⟩ := h
  cases ar with
  | cons h1 h2 h3 =>
    cases h3 with
    | cons k1 k2 k3 =>
      cases k3
      obtain ⟨p, rfl, bp⟩ := h1
      obtain ⟨_, l, ws, rfl, hh, pr⟩ := k1
      obtain ⟨sn, bx⟩ := hb p bp
      have hl := pr.length
      refine ⟨p, l, ws, rfl, bx, Sq.l (i _ _ hh), ?_, by omega, by omega, fun x y z v hv => ?_⟩
      · intro e
        subst e
        rw [sn] at hh
        cases hh
      · obtain ⟨c, c1, c2⟩ := paired_mem pr v hv
        exact q (.val c) v S _ (r c c1) (Ext.box i bp sn) c2
/-- a drawn row -/
abbrev TR3 := T3 (L V) (L V) Int
def DrawnT (t : TR3) : Prop := ∃ (ag : List Int), t.b = ag.map V.int ∧ Drawn t.a ag t.c
abbrev dpRow : List Slot → (Slot → Prop) → Prop := dpb1 (fun _ : Bool => True) (fun _ (t : TR3) => DrawnT t)
theorem pair_V' {S : Hp} : ∀ xs : List V, Paired (Enc.rep K S) xs xs
  | [] => .nil
  | x :: r => .cons rfl (pair_V' r)
theorem imp_row (vs : List V) (H : Hp) (Q : VK) (E : XK) (h : spT K dpRow vs H Q E) : spRowF vs H Q E := by
  obtain ⟨B, S, ss, R, i, hb, ar, ⟨lo, rfl, _, r⟩, q⟩ := h
  cases ar with
  | cons h1 h2 h3 =>
    cases h3 with
    | cons k1 k2 k3 =>
      cases k3
      obtain ⟨b, rfl, bp⟩ := h1
      cases k1
      obtain ⟨sn, bx⟩ := hb b bp
      refine ⟨b, lo, rfl, bx, fun p H' fs ag m dr sb bx' ⟨p1, p2, e0, e1, e2, n0, n1, n2, f0, f1, f2⟩ => ?_⟩
      let S' : Hp := fun a => if a = p ∨ a = p1 ∨ a = p2 then H' a else S a
      have st : ∀ a o, H a = some o → ¬ (a = p ∨ a = p1 ∨ a = p2) := fun a o ha z => by
        rcases z with rfl | rfl | rfl
        · rw [f0] at ha; cases ha
        · rw [f1] at ha; cases ha
        · rw [f2] at ha; cases ha
      have sx : S' p = H' p := if_pos (.inl rfl)
      have s1' : S' p1 = H' p1 := if_pos (.inr (.inl rfl))
      have s2' : S' p2 = H' p2 := if_pos (.inr (.inr rfl))
      have ex : Ext B S H S' H' := by
        refine ⟨fun a o ha => ?_, fun a o ha => ?_, fun a h1 h2 => ?_⟩
        · exact (if_neg (st a o (i _ _ ha))).trans ha
        · have ha : (if a = p ∨ a = p1 ∨ a = p2 then H' a else S a) = some o := ha
          by_cases z : a = p ∨ a = p1 ∨ a = p2
          · rw [if_pos z] at ha
            exact ha
          · rw [if_neg z] at ha
            exact sb a o (fun e => by rw [e, sn] at ha; cases ha) (i _ _ ha)
        · cases hh : H a with
          | none => exact absurd hh h2
          | some o =>
            refine ⟨(if_neg (st a o hh)).trans h1, ?_⟩
            by_cases e : a = b
            · subst e
              exact .inr ⟨bp, bx'⟩
            · exact .inl (sb a o e hh)
      obtain ⟨n, is, ef, hn, hl, _⟩ := dr.ex
      have l1 : fs.length ≤ BIG := by
        rw [ef, List.length_append, List.length_replicate, List.length_map]
        exact Nat.le_trans (show n + is.length ≤ 10 by omega) (by decide)
      have l2 : (ag.map V.int).length ≤ BIG := by
        rw [List.length_map]
        exact Nat.le_trans dr.l3 (by decide)
      exact q (.val (T3.mk (α := L V) (β := L V) fs (ag.map V.int) m)) _ S' H' (r _ ⟨ag, rfl, dr⟩) ex ⟨p, _, _, _, rfl, .inl (.inl (sx.trans e0)), ⟨l1, p1, _, rfl, s1'.trans e1, pair_V' _⟩, ⟨l2, p2, _, rfl, s2'.trans e2, pair_V' _⟩, rfl⟩
end
/-! ### the law's script, and a box made by the def itself -/
structure Scr where
  ns : List Int
instance : Enc Scr where
  rep K S v x := ∃ a, v = .ref a ∧ SqL K S a (x.ns.map V.int)
  mono e h := by
    obtain ⟨a, z, h⟩ := h
    exact ⟨a, z, Evl.ex_l e h⟩
section
variable {K : PySem.W.Frag} {B : Addr → Prop} {ρ : List Slot} {ta tb te : TE} {tz : TS} {Φ : Post} {S0 H0 S H S1 H1 : Hp} {σ : L2.St}
theorem pair_int {S : Hp} : ∀ ns : List Int, Paired (Enc.rep K S) (ns.map V.int) ns
  | [] => .nil
  | _ :: r => .cons rfl (pair_int r)
theorem d_scr {x : Scr} (h : DE K B te ρ x) (hl : x.ns.length ≤ BIG) : DE K B te ρ x.ns := fun S0 H0 S H σ E Q q =>
  h S0 H0 S H σ E Q fun v S1 H1 e ⟨a, z, r⟩ => q v S1 H1 e ⟨hl, a, _, z, .inl r, pair_int _⟩
theorem SlotOk.unbox {p : Addr} {o : Option V} {s : Slot} (h : SlotOk K (fun q => q = p ∨ B q) H1 S H o s) (fr : ∀ a, H1 a = none → H0 a = none) : SlotOk K B H0 S H o s.unbox := by
  cases s with
  | no => cases o <;> trivial
  | box => cases o <;> trivial
  | val a =>
    cases o with
    | none => exact h
    | some v => exact h
  | own xs =>
    cases o with
    | none => exact h
    | some v =>
      obtain ⟨hl, q, vs, e, f, r⟩ := h
      exact ⟨hl, q, vs, e, fr q f, r⟩
theorem Ext.unbox {p : Addr} (i0 : Same S0 H0) (e1 : Ext B S0 H0 S H) (hp : H0 p = none) (e2 : Ext (fun q => q = p ∨ B q) S H S1 H1) : Ext B S0 H0 S1 H1 := by
  refine ⟨e1.s.trans e2.s, e2.i, fun a h1 h2 => ?_⟩
  obtain ⟨q1, q2⟩ := e1.p a h1 h2
  have ha : H a ≠ none := by
    rcases q2 with q2 | ⟨_, x, y, z, q2⟩
    · rw [q2]; exact h2
    · rw [q2]; exact fun z => nomatch z
  obtain ⟨r1, r2⟩ := e2.p a q1 ha
  refine ⟨r1, ?_⟩
  rcases r2 with r2 | ⟨rb | rb, r3⟩
  · rcases q2 with q2 | ⟨qb, q2⟩
    · exact .inl (r2.trans q2)
    · exact .inr ⟨qb, by rw [r2]; exact q2⟩
  · rw [rb] at h2
    exact absurd hp h2
  · exact .inr ⟨rb, r3⟩
theorem En.unbox {p : Addr} {ρ' : List Slot} {σ' : L2.St} (i0 : Same S0 H0) (e1 : Ext B S0 H0 S H) (hb : ∀ q, B q → H0 q ≠ none) (hp : H0 p = none) (E : En K (fun q => q = p ∨ B q) S H S1 H1 σ' ρ') : En K B S0 H0 S1 H1 σ' (ρ'.map Slot.unbox) := by
  refine ⟨i0, fun q hq => ⟨(E.bx q (.inr hq)).1, (E.bx q (.inr hq)).2.1, hb q hq⟩, e1.unbox i0 hp E.ext, by rw [List.length_map]; exact E.len, fun i s h => ?_, fun i j s u n h1 h2 o1 o2 => ?_⟩
  · rw [List.getElem?_map] at h
    cases hs : ρ'[i]? with
    | none => rw [hs] at h; cases h
    | some s' =>
      rw [hs] at h
      cases h
      obtain ⟨o, e, ok⟩ := E.at' i s' hs
      exact ⟨o, e, ok.unbox fun a ha => e1.free i0 ha⟩
  · rw [List.getElem?_map] at h1 h2
    cases hs : ρ'[i]? with
    | none => rw [hs] at h1; cases h1
    | some s' =>
      cases hu : ρ'[j]? with
      | none => rw [hu] at h2; cases h2
      | some u' =>
        rw [hs] at h1
        rw [hu] at h2
        cases h1
        cases h2
        refine E.ne i j s' u' n hs hu ?_ ?_
        · cases s' <;> first | exact o1 | cases o1
        · cases u' <;> first | exact o2 | cases o2
/-- box = _law_box(script, k): from here on the box may change -/
theorem dq_box {n : Nat} {x : Scr} {k : Int} (h1 : DE K B ta ρ x) (h2 : DE K B tb ρ k) (k0 : 0 ≤ k) (hl : x.ns.length ≤ 1000) (ho : ∀ s ∈ ρ, s.isOwn = false) (px : Φ.px = fun _ _ => True)
    (h : ∀ p, DS K (fun q => q = p ∨ B q) tz (ρ.set n .box) ⟨fun ρ' => Φ.nx (ρ'.map Slot.unbox), fun s => s ≠ .box ∧ Φ.rt s, fun ρ' => Φ.bk (ρ'.map Slot.unbox), fun ρ' => Φ.ct (ρ'.map Slot.unbox), fun _ _ => True⟩) :
    DS K B (tSeq (tAsg (tCall (spBox K) [] E0 (tCons ta (tCons tb tNil))) (gName n)) tz) ρ Φ := fun S0 H0 S H σ D E _ nx rt bk ct =>
  h1 S0 H0 S H σ E _ fun v S1 H1 e1 r1 => h2 S0 H0 S1 H1 σ (E.go e1) _ fun w S2 H2 e2 r2 => by
    cases r2
    obtain ⟨a, rfl, sq⟩ := Enc.mono e2.s r1
    have e12 := e1.trans e2
    have E2 := E.go e12
    refine ⟨a, x.ns, k, rfl, Evl.ex_l e2.i sq, k0, hl, fun p H' sm np bx' => ?_⟩
    have e3 : Ext B S2 H2 S2 H' := Ext.grow e2.i sm
    have E3 := E2.go e3
    have hp0 : H0 p = none := E2.ext.free E2.i0 np
    have sp : S2 p = none := e2.i.free np
    have E4 : En K (fun q => q = p ∨ B q) S2 H' S2 H' σ ρ := by
      refine ⟨e3.i, fun q hq => ?_, Ext.refl e3.i, E3.len, fun i s hs => ?_, fun i j s u nn hs hu o1 o2 => ?_⟩
      · rcases hq with rfl | hq
        · exact ⟨sp, bx', bx'.choose_spec.choose_spec.choose_spec ▸ fun z => nomatch z⟩
        · obtain ⟨q1, q2, _⟩ := E3.bx q hq
          exact ⟨q1, q2, q2.ne⟩
      · obtain ⟨o, e, ok⟩ := E3.at' i s hs
        refine ⟨o, e, ?_⟩
        have hs := ho s (List.mem_of_getElem? hs)
        cases s with
        | no => cases o <;> trivial
        | box =>
          cases o with
          | none => exact ok
          | some v =>
            obtain ⟨q, e, hq⟩ := ok
            exact ⟨q, e, .inr hq⟩
        | val _ =>
          cases o with
          | none => exact ok
          | some v => exact ok
        | own _ => cases hs
      · rw [ho s (List.mem_of_getElem? hs)] at o1
        cases o1
    have E5 : En K (fun q => q = p ∨ B q) S2 H' S2 H' (σ.set n (some (.ref p))) (ρ.set n .box) := E4.set (o := some (.ref p)) (s := .box) ⟨p, rfl, .inl rfl⟩ rfl
    have hbn : ∀ q, B q → H0 q ≠ none := fun q hq => (E.bx q hq).2.2
    have sm2 : Same S S2 := e12.s
    refine h p S2 H' S2 H' _ D E5 trivial (fun ρ' σ' S' H'' hn sm' E' => nx _ σ' S' H'' hn (sm2.trans sm') (E'.unbox E.i0 E3.ext hbn hp0)) (fun s v S' H'' hs ex ok => ?_) (fun ρ' σ' S' H'' hn sm' E' => bk _ σ' S' H'' hn (sm2.trans sm') (E'.unbox E.i0 E3.ext hbn hp0)) (fun ρ' σ' S' H'' hn sm' E' => ct _ σ' S' H'' hn (sm2.trans sm') (E'.unbox E.i0 E3.ext hbn hp0))
    refine rt s v S' H'' hs.2 (E3.ext.unbox E.i0 hp0 ex) ?_
    have := ok.unbox (H0 := H0) (B := B) (fun a ha => E3.ext.free E.i0 ha)
    cases s with
    | box => exact absurd rfl hs.1
    | _ => exact this
end
end WW

set_option Elab.async false
set_option linter.all false
set_option maxRecDepth 100000
set_option maxHeartbeats 4000000
namespace WW
open PySem PySem.Spec PyProof.Rows L2
/-! ### the law's own defs: text, time, times, made -/
abbrev TQ := T3 (List V) (List V) Int
structure TQ.small (t : TQ) : Prop where
  a : t.a.length ≤ 1000
  b : t.b.length ≤ 1000
  ta : ∀ y ∈ t.a, smallV y = true
  tb : ∀ y ∈ t.b, smallV y = true
  c : t.c.natAbs.log2 < 1920
def textOf (t : TQ) : Str := Txt.join " " (rowWords t.a t.b t.c)
section
variable {K : PySem.W.Frag} {B : Addr → Prop} {ρ ρ' ρ1 ρ2 : List Slot} {ta tb tc te : TE}
theorem d_lrow {t : T3 (L V) (L V) Int} (h : DE K B te ρ t) : DE K B te ρ (α := TQ) ⟨t.a, t.b, t.c⟩ := fun S0 H0 S H σ E Q q =>
  h S0 H0 S H σ E Q fun v S1 H1 e ⟨p, v1, v2, v3, z, hq, ⟨l1, p1, w1, z1, k1, r1⟩, ⟨l2, p2, w2, z2, k2, r2⟩, r3⟩ => q v S1 H1 e ⟨p, v1, v2, v3, z, hq, ⟨l1, p1, w1, z1, Sq.l k1, r1⟩, ⟨l2, p2, w2, z2, Sq.l k2, r2⟩, r3⟩
theorem d_wordV {x : V} {tx : TE} (hx : DE K B tx ρ x) (hs : smallV x = true) : DE K B (tIf (tTest (tOp (fun x y H Q => y = .non ∧ Q (.bl (decide (x = .non))) H) tx (tC .non))) (tC (.str "-")) (tCB (fun xs H Q => ∃ i, xs = [.int i] ∧ i.natAbs.log2 < 1920 ∧ Q (.str (toString i)) H) (tCons tx tNil))) ρ (wordOf x) := by
  cases x with
  | non => exact d_ifE (c := true) (DT.is (dt_test (d_isNV hx)) rfl) (fun _ => d_str) (fun h => nomatch h)
  | int i => exact d_ifE (c := false) (DT.is (dt_test (d_isNV hx)) rfl) (fun h => nomatch h) (fun _ => d_strI (d_vi hx) (of_decide_eq_true hs))
  | _ => cases hs
end
section
variable {P : Program} {w : World} {K : PySem.W.Frag} {mg : Str → Option Value} {base : Heap} {f : Addr} {fd : FuncData}
abbrev s_l_text : Stmt := top 33
abbrev N_l_text : List Str := ["_law_told", "_law_words", "_law_thing"]
theorem sc_l_text : FnScope N_l_text ["_law_told"] (defScope s_l_text) := ⟨rfl, rfl, rfl, by decide +kernel, rfl, by decide +kernel, by decide +kernel⟩

theorem ok_ltext (F : FnP K "_law_text" s_l_text f fd) (m_str : mg "str" = none) : FnOk P w K mg base CX0 1 f fd ["_law_told"] (spT K (dp1 TQ.small textOf)) := by
  refine okT F sc_l_text (fun ss R h => ?_) (fun cdv A outer s H E hr => ⟨_, (pss_cons (ps_set (i := 1) sc_l_text.nd rfl (.inl rfl) (pe_op op_cat (pe_lc (own := [("_law_thing", 2)]) rfl sc_l_text.nd (pi_seqK K (pe_ix (ix_sqK K) (pv 0) (pe_int) (fun _ _ => rfl))) (blkOk_by (N := N_l_text) (sc := defScope s_l_text) (by decide +kernel)) (fun _ _ _ _ _ => pg_name (i := 2) sc_l_text.nd rfl (.inl rfl)) (fun _ _ _ _ _ => pts_nil) (fun _ _ _ _ _ => pe_ifExp (pt_cmpR op_isN (pv 2) (pe_non) (nomark _)) (pe_str) (pe_callTy call_str_int rfl m_str (by decide +kernel) (pa_cons (pv 2) (pa_nil))))) (pe_lst (pa_cons (pe_str) (pa_nil)))))
 (pss_cons (ps_set (i := 1) sc_l_text.nd rfl (.inl rfl) (pe_op op_cat (pv 1) (pe_lc (own := [("_law_thing", 2)]) rfl sc_l_text.nd (pi_seqK K (pe_ix (ix_sqK K) (pv 0) (pe_int) (fun _ _ => rfl))) (blkOk_by (N := N_l_text) (sc := defScope s_l_text) (by decide +kernel)) (fun _ _ _ _ _ => pg_name (i := 2) sc_l_text.nd rfl (.inl rfl)) (fun _ _ _ _ _ => pts_nil) (fun _ _ _ _ _ => pe_ifExp (pt_cmpR op_isN (pv 2) (pe_non) (nomark _)) (pe_str) (pe_callTy call_str_int rfl m_str (by decide +kernel) (pa_cons (pv 2) (pa_nil)))))))
 (pss_one (ps_ret (pe_joinK K (pe_str) (pe_op op_cat (pv 1) (pe_lst (pa_cons (pe_str) (pa_cons (pe_callTy call_str_int rfl m_str (by decide +kernel) (pa_cons (pe_ix (ix_sqK K) (pv 0) (pe_int) (fun _ _ => rfl)) (pa_nil))) (pa_nil)))))))))), fun B ss R h => ?_⟩)
  · obtain ⟨x, rfl, _⟩ := h
    rfl
  · obtain ⟨t, rfl, hs, q⟩ := h
    show DS K B _ [.val t, .no, .no] _
    have l1 := hs.a
    have l2 := hs.b
    have b4 : 4000 ≤ BIG := by decide
    have w1 := len_words hs.ta
    have w2 := len_words hs.tb
    have w3 := PyProof.Rows.int_text_len_1921 hs.c
    refine dq_asgI (δ := L Str) (t.a.map wordOf ++ ([bar] : List Str)) (DO.l (do_catO (do_map wordOf (di_seq (d_t3a (d_var rfl))) (by omega) fun x hx => ⟨_, _, dg_name, by simp, d_wordV (d_var rfl) (hs.ta x hx)⟩) (do_lst (dl_cons d_str dl_nil) (by show 1 ≤ BIG; decide)) (by simp only [List.length_map, List.length_cons, List.length_nil]; omega))) ?_
    show DS K B _ [.val t, .val (α := L Str) (t.a.map wordOf ++ ([bar] : List Str)), .no] _
    refine dq_asgI (δ := L Str) ((t.a.map wordOf ++ ([bar] : List Str)) ++ t.b.map wordOf) (DO.l (do_cat (d_var rfl) (DO.l (do_map wordOf (di_seq (d_t3b (d_var rfl))) (by omega) fun x hx => ⟨_, _, dg_name, by simp, d_wordV (d_var rfl) (hs.tb x hx)⟩)) (by simp only [List.length_append, List.length_map, List.length_cons, List.length_nil]; omega))) ?_
    show DS K B _ [.val t, .val (α := L Str) ((t.a.map wordOf ++ ([bar] : List Str)) ++ t.b.map wordOf), .no] _
    have e1 : (Str.ofString "|").length = 1 := by decide
    have e2 : (Str.ofString "+").length = 1 := by decide
    have e3 : (Str.ofString " ").length = 1 := by decide
    refine ds_retE q (d_join d_str (DO.q (do_cat (d_var rfl) (DO.l (do_lst (dl_cons d_str (dl_cons (d_strI (d_t3c (d_var rfl)) hs.c) dl_nil)) (by show 2 ≤ BIG; decide))) ?_)) ?_) ?_
    · simp only [List.length_append, List.length_map, List.length_cons, List.length_nil]
      omega
    · show List.sum (List.map (fun x => Str.length x) (((t.a.map wordOf ++ ([bar] : List Str)) ++ t.b.map wordOf) ++ [Str.ofString "+", Str.ofString (toString t.c)])) + _ ≤ _
      simp only [List.map_append, List.map_cons, List.map_nil, List.sum_append, List.sum_cons, List.sum_nil, List.length_append, List.length_cons, List.length_nil, List.length_map, e1, e2, e3]
      omega
    · unfold textOf rowWords
      simp only [List.append_assoc, List.cons_append, List.nil_append]
def asRR (t : TQ) : RR := ⟨t.a, t.b, t.c⟩
abbrev s_l_time : Stmt := top 30
abbrev N_l_time : List Str := ["_law_told", "_law_n", "_law_first", "_law_again", "_law_more", "_law_thing"]
theorem sc_l_time : FnScope N_l_time ["_law_told", "_law_n"] (defScope s_l_time) := ⟨rfl, rfl, rfl, by decide +kernel, rfl, by decide +kernel, by decide +kernel⟩

theorem ok_lawtime (F : FnP K "_law_time" s_l_time f fd) (m_len : mg "len" = none) : FnOk P w K mg base CX0 1 f fd ["_law_told", "_law_n"] (spT K (dp2 (fun (t : TQ) (n : Int) => (asRR t).Ok ∧ 0 ≤ n ∧ n < 1000000) fun t n => (asRR t).T n.toNat)) := by
  refine okT F sc_l_time (fun ss R h => ?_) (fun cdv A outer s H E hr => ⟨_, (pss_cons (ps_asg (pv 0) (pg_tupK (n := 3) K rfl (pgs_cons (pg_name (i := 2) sc_l_time.nd rfl (.inl rfl)) (pgs_cons (pg_name (i := 3) sc_l_time.nd rfl (.inl rfl)) (pgs_cons (pg_name (i := 4) sc_l_time.nd rfl (.inl rfl)) (pgs_nil))))))
 (pss_cons (ps_if (pt_cmpR op_lt (pv 1) (pe_callB (call_lenK K) rfl m_len (by decide +kernel) (pa_cons (pv 2) (pa_nil))) (nomark _)) (pss_one (ps_ret (pe_ix (ix_sqK K) (pv 2) (pv 1) (fun _ _ => rfl)))) (pss_nil))
 (pss_cons (ps_set (i := 5) sc_l_time.nd rfl (.inl rfl) (pe_ix (ix_sqK K) (pv 3) (pe_op op_mod (pe_op op_sub (pv 1) (pe_callB (call_lenK K) rfl m_len (by decide +kernel) (pa_cons (pv 2) (pa_nil)))) (pe_callB (call_lenK K) rfl m_len (by decide +kernel) (pa_cons (pv 3) (pa_nil)))) (fun _ _ => rfl)))
 (pss_one (ps_ret (pe_ifExp (pt_cmpR op_isN (pv 5) (pe_non) (nomark _)) (pe_non) (pe_op op_add (pv 5) (pe_op op_mul (pe_op op_fdiv (pe_op op_sub (pv 1) (pe_callB (call_lenK K) rfl m_len (by decide +kernel) (pa_cons (pv 2) (pa_nil)))) (pe_callB (call_lenK K) rfl m_len (by decide +kernel) (pa_cons (pv 3) (pa_nil)))) (pv 4))))))))), fun B ss R h => ?_⟩)
  · obtain ⟨x, y, rfl, _⟩ := h
    rfl
  · obtain ⟨⟨fs, ys, m⟩, n, rfl, ⟨ok, n0, n1⟩, q⟩ := h
    have y0 : 0 < ys.length := ok.y0
    have y1 : ys.length ≤ 20000 := ok.y1
    have f1 : fs.length ≤ 20000 := ok.f1
    have m0 : 0 ≤ m := ok.m0
    have m1 : m < 2 ^ 60 := ok.m1
    have ty : ∀ y ∈ ys, isThingV y = true := ok.ty
    have q : R (.val (RR.T ⟨fs, ys, m⟩ n.toNat)) := q
    refine dq_asgG (d_var rfl) (DG.trip dg_name dg_name dg_name) ?_
    show DS K B _ [.val (T3.mk fs ys m), .val n, .val fs, .val ys, .val m, .no] _
    refine dq_when (dt_test (d_lt (d_var rfl) (d_len (d_var rfl)))) (fun h => ?_) (fun h => ?_)
    · have h := of_decide_eq_true h
      have hl : n.toNat < fs.length := by omega
      refine ds_retE q (d_ix (x := fs.getD n.toNat .non) (d_var rfl) (d_var rfl) ?_) ?_
      · have := atI_get hl
        rw [Int.toNat_of_nonneg n0] at this
        exact this
      · show fs.getD n.toNat .non = RR.T ⟨fs, ys, m⟩ n.toNat
        unfold RR.T
        rw [if_pos hl]
    · have h := of_decide_eq_false h
      have hl : ¬ n.toNat < fs.length := by omega
      have ed : n - (fs.length : Int) = ((n.toNat - fs.length : Nat) : Int) := by omega
      have hk : (n.toNat - fs.length) % ys.length < ys.length := Nat.mod_lt _ y0
      refine dq_asg (d_ix (x := ys.getD ((n.toNat - fs.length) % ys.length) .non) (d_var rfl) (d_mod (d_sub (d_var rfl) (d_len (d_var rfl))) (d_len (d_var rfl)) (by omega)) ?_) ?_
      · rw [ed]
        exact atI_get hk
      · have tv : isThingV (ys.getD ((n.toNat - fs.length) % ys.length) .non) = true := by
          rw [List.getD_eq_getElem?_getD, List.getElem?_eq_getElem hk]
          exact ty _ (List.getElem_mem hk)
        have eT : RR.T ⟨fs, ys, m⟩ n.toNat = addV (ys.getD ((n.toNat - fs.length) % ys.length) .non) (((n.toNat - fs.length) / ys.length : Nat) * m) := if_neg hl
        generalize ys.getD ((n.toNat - fs.length) % ys.length) .non = v at tv eT ⊢
        refine ds_retE q (DE.is ?_ eT.symm) rfl
        cases v with
        | non => exact d_ifE (c := true) (DT.is (dt_test (d_isNV (d_var rfl))) rfl) (fun _ => d_nv) (fun h => nomatch h)
        | int i =>
          refine d_ifE (c := false) (DT.is (dt_test (d_isNV (d_var rfl))) rfl) (fun h => nomatch h) (fun _ => DE.is (d_iv (d_add (d_vi (d_var rfl)) (d_mul (d_fdiv (d_sub (d_var rfl) (d_len (d_var rfl))) (d_len (d_var rfl)) ⟨by omega, by omega⟩) (d_var rfl) (.inr ⟨by omega, by omega⟩)))) ?_)
          rw [ed]
          rfl
        | _ => cases tv
abbrev s_l_times : Stmt := top 31
abbrev N_l_times : List Str := ["_law_told", "_law_many", "_law_n"]
theorem sc_l_times : FnScope N_l_times ["_law_told", "_law_many"] (defScope s_l_times) := ⟨rfl, rfl, rfl, by decide +kernel, rfl, by decide +kernel, by decide +kernel⟩

theorem ok_lawtimes (F : FnP K "_law_times" s_l_times f fd) (m_range : mg "range" = none) (g_l_time : FnAt P w K mg base CX0 1 "_law_time" ["_law_told", "_law_n"] (spT K (dp2 (fun (t : TQ) (n : Int) => (asRR t).Ok ∧ 0 ≤ n ∧ n < 1000000) fun t n => (asRR t).T n.toNat))) : FnOk P w K mg base CX0 2 f fd ["_law_told", "_law_many"] (spT K (dp2 (γ := L V) (fun (t : TQ) (n : Int) => (asRR t).Ok ∧ 0 ≤ n ∧ n ≤ 1000) fun t n => (List.range n.toNat).map (asRR t).T)) := by
  refine okT F sc_l_times (fun ss R h => ?_) (fun cdv A outer s H E hr => ⟨_, (pss_one (ps_ret (pe_lc (own := [("_law_n", 2)]) rfl sc_l_times.nd (pi_range1 rfl m_range (pa_cons (pv 1) (pa_nil))) (blkOk_by (N := N_l_times) (sc := defScope s_l_times) (by decide +kernel)) (fun _ _ _ _ _ => pg_name (i := 2) sc_l_times.nd rfl (.inl rfl)) (fun _ _ _ _ _ => pts_nil) (fun _ _ _ _ _ => pe_fn g_l_time hr rfl (pa_cons (pv 0) (pa_cons (pv 2) (pa_nil))))))), fun B ss R h => ?_⟩)
  · obtain ⟨x, y, rfl, _⟩ := h
    rfl
  · obtain ⟨t, n, rfl, ⟨ok, n0, n1⟩, q⟩ := h
    show DS K B _ [.val t, .val n, .no] _
    refine ds_retE q (DO.l (do_map (fun k : Int => (asRR t).T k.toNat) (di_rng1 (d_var rfl) (by omega) (by omega)) ?_ fun k hk => ⟨_, _, dg_name, by simp, d_call2 (d_var rfl) (d_var rfl) ⟨ok, ?_⟩⟩)) ?_
    · rw [rg_len]
      exact Nat.le_trans (show (n - 0).toNat ≤ 1000 by omega) (by decide)
    · have := rg_mem.mp hk
      omega
    · unfold rg
      rw [List.map_map, Int.sub_zero]
      refine List.map_congr_left fun k _ => ?_
      show (asRR t).T (0 + (k : Int)).toNat = (asRR t).T k
      rw [Int.zero_add, Int.toNat_natCast]
section
variable {B : Addr → Prop} {ρ : List Slot} {ta tb tc te : TE} {j : Int}
/-- Row(a, b, c), a row -/
theorem d_mkRR {gs zs : List V} {W : WX} (h1 : DE K B ta ρ gs) (h2 : DE K B tb ρ zs) (h3 : DE K B tc ρ j) (g1 : gs.length ≤ 20000) (z1 : zs.length ≤ 20000) (t1 : ∀ y ∈ gs, isThingV y = true) (t2 : ∀ y ∈ zs, isThingV y = true) (j1 : j < 2 ^ 60)
    (hw : wrongW (some gs) (some zs) (.int j) = .non) : DE K B (tMakeS (He.ga K "Row") (spInitXF K (He.ga K "Row") (He.ga K "InvalidRow")) [] (WE W) (tCons ta (tCons tb (tCons tc tNil)))) ρ (rrOf gs zs j) := fun S0 H0 S H σ En Q q => by
  refine h1 S0 H0 S H σ En _ fun v1 S1 H1 e1 r1 => h2 S0 H0 S1 H1 σ (En.go e1) _ fun v2 S2 H2 e2 r2 => h3 S0 H0 S2 H2 σ (En.go (e1.trans e2)) _ fun v3 S3 H3 e3 r3 x dx nx ndx hn => ?_
  cases r3
  have e13 := (e1.trans e2).trans e3
  obtain ⟨l1, p1, w1, rfl, s1, r1⟩ := Enc.mono (e2.s.trans e3.s) r1
  obtain ⟨l2, p2, w2, rfl, s2, r2⟩ := Enc.mono e3.s r2
  cases vals_V r1
  cases vals_V r2
  have sm := e3.i
  have hu : Same H3 (upd (upd H3 dx (.own x)) x (.ins (He.ga K "Row") dx [])) := (same_new ndx).trans (same_new ((upd_ne (Ne.symm hn)).trans nx))
  refine ⟨x, dx, _, _, gs, zs, j, rfl, upd_same, ⟨p1, rfl, s1.ex (sm.trans hu), g1, fun y hy => ⟨false, hasT_thing (t1 y hy)⟩⟩, ⟨p2, rfl, s2.ex (sm.trans hu), z1, fun y hy => ⟨false, hasT_thing (t2 y hy)⟩⟩, ?_⟩
  refine .inl ⟨hw, fun H' q1 q2 sb n1 n2 e0 e1 e2 => ⟨rfl, ?_⟩⟩
  have f1 : H3 q1 = none := hu.free n1
  have f2 : H3 q2 = none := hu.free n2
  have st : ∀ a o, H3 a = some o → ¬ (a = x ∨ a = q1 ∨ a = q2) ∧ H' a = some o := fun a o ha => by
    have z1 : a ≠ x := ne_of_none ha nx
    exact ⟨fun z => by rcases z with z | z | z; exact z1 z; exact ne_of_none ha f1 z; exact ne_of_none ha f2 z, sb a o z1 (hu _ _ ha)⟩
  let S' : Hp := fun a => if a = x ∨ a = q1 ∨ a = q2 then H' a else S3 a
  have sx : S' x = H' x := if_pos (.inl rfl)
  have s1' : S' q1 = H' q1 := if_pos (.inr (.inl rfl))
  have s2' : S' q2 = H' q2 := if_pos (.inr (.inr rfl))
  have ex : Ext B S3 H3 S' H' := by
    refine ⟨fun a o ha => ?_, fun a o ha => ?_, fun a h1 h2 => ?_⟩
    · exact (if_neg (st a o (sm _ _ ha)).1).trans ha
    · have ha : (if a = x ∨ a = q1 ∨ a = q2 then H' a else S3 a) = some o := ha
      by_cases z : a = x ∨ a = q1 ∨ a = q2
      · rw [if_pos z] at ha
        exact ha
      · rw [if_neg z] at ha
        exact (st a o (sm _ _ ha)).2
    · cases hh : H3 a with
      | none => exact absurd hh h2
      | some o => exact ⟨(if_neg (st a o hh).1).trans h1, .inl (st a o hh).2⟩
  exact q _ S' H' (e13.trans ex) ⟨(rr_ok hw g1 z1 j1).1, x, rfl, dx, q1, q2, sx.trans e0, s1'.trans e1, s2'.trans e2⟩
end
structure TQ.Row (t : TQ) : Prop where
  a : t.a.length ≤ 20000
  b : t.b.length ≤ 20000
  ta : ∀ y ∈ t.a, isThingV y = true
  tb : ∀ y ∈ t.b, isThingV y = true
  c : t.c < 2 ^ 60
  w : wrongW (some t.a) (some t.b) (.int t.c) = .non
abbrev s_l_made : Stmt := top 32
abbrev N_l_made : List Str := ["_law_told"]
theorem sc_l_made : FnScope N_l_made ["_law_told"] (defScope s_l_made) := ⟨rfl, rfl, rfl, by decide +kernel, rfl, by decide +kernel, by decide +kernel⟩

theorem ok_lmade (F : FnP K "_law_made" s_l_made f fd) (gX_Row : MkAtX P w K mg base 4 "Row" ["self", "first", "again", "more"] (spInitXF K (He.ga K "Row") (He.ga K "InvalidRow")) []) : FnOk P w K mg base CX0 6 f fd ["_law_told"] (spT K (dp1 TQ.Row fun t => rrOf t.a t.b t.c)) := by
  refine okT F sc_l_made (fun ss R h => ?_) (fun cdv A outer s H E hr => ⟨_, (pss_one (ps_ret (pe_mkrX K gX_Row takes_no hr rfl (pa_cons (pe_ix (ix_sqK K) (pv 0) pe_int (fun _ _ => rfl)) (pa_cons (pe_ix (ix_sqK K) (pv 0) pe_int (fun _ _ => rfl)) (pa_cons (pe_ix (ix_sqK K) (pv 0) pe_int (fun _ _ => rfl)) pa_nil)))))), fun B ss R h => ?_⟩)
  · obtain ⟨x, rfl, _⟩ := h
    rfl
  · obtain ⟨t, rfl, ht, q⟩ := h
    exact ds_ret (d_mkRR (d_t3a (d_var rfl)) (d_t3b (d_var rfl)) (d_t3c (d_var rfl)) ht.a ht.b ht.ta ht.tb ht.c ht.w) q
def emptyR : RR := rrOf [] [.non] 0
abbrev s_empty : Stmt := top 23
abbrev N_empty : List Str := []
theorem sc_empty : FnScope N_empty [] (defScope s_empty) := ⟨rfl, rfl, rfl, by decide +kernel, rfl, by decide +kernel, by decide +kernel⟩

theorem ok_empty (F : FnP K "empty" s_empty f fd) (gX_Row : MkAtX P w K mg base 4 "Row" ["self", "first", "again", "more"] (spInitXF K (He.ga K "Row") (He.ga K "InvalidRow")) []) : FnOk P w K mg base CX0 6 f fd [] (spT K (dp0 emptyR)) := by
  refine okT F sc_empty (fun ss R h => ?_) (fun cdv A outer s H E hr => ⟨_, (pss_one (ps_ret (pe_mkrX K gX_Row takes_no hr rfl (pa_cons (pe_tup pa_nil) (pa_cons (pe_tup (pa_cons pe_non pa_nil)) (pa_cons pe_int pa_nil)))))), fun B ss R h => ?_⟩)
  · obtain ⟨rfl, _⟩ := h
    rfl
  · obtain ⟨rfl, q⟩ := h
    refine ds_ret (d_mkRR (gs := []) (zs := [.non]) (d_Uq (d_tupU dl_nil (by show 0 ≤ BIG; decide))) (d_Uq (d_tupU (dl_cons d_nv dl_nil) (by show 1 ≤ BIG; decide))) d_int (by decide) (by decide) (fun _ h => nomatch h) (fun y hy => by rw [List.mem_singleton.mp hy]; rfl) (by decide) (by decide)) q
end
end WW

set_option Elab.async false
set_option linter.all false
set_option maxRecDepth 100000
set_option maxHeartbeats 4000000
namespace WW
open PySem PySem.Spec PyProof.Rows L2
/-! ### small rows: their texts, read again -/
theorem num_small : ∀ n : Nat, n < 128 → numIn (Str.ofString (toString (n : Int))) 12 = some (n : Int) := by decide +kernel
theorem neg_small : ∀ n : Nat, n < 5 → intIn (Str.ofString (toString (-(n : Int)))) 12 = some (-(n : Int)) := by decide +kernel
theorem pos_small : ∀ n : Nat, n < 128 → intIn (Str.ofString (toString (n : Int))) 12 = some (n : Int) := by decide +kernel
theorem nosp_neg : ∀ n : Nat, n < 5 → 32 ∉ (Str.ofString (toString (-(n : Int)))).cps.toList ∧ Str.ofString (toString (-(n : Int))) ≠ minus ∧ Str.ofString (toString (-(n : Int))) ≠ bar ∧ (Str.ofString (toString (-(n : Int)))).length ≤ 4 := by decide +kernel
theorem nosp_pos : ∀ n : Nat, n < 128 → 32 ∉ (Str.ofString (toString (n : Int))).cps.toList ∧ Str.ofString (toString (n : Int)) ≠ minus ∧ Str.ofString (toString (n : Int)) ≠ bar ∧ (Str.ofString (toString (n : Int))).length ≤ 4 := by decide +kernel
def Sml (i : Int) : Prop := -5 < i ∧ i < 128
theorem sml_cases {i : Int} (h : Sml i) : (∃ n : Nat, n < 128 ∧ i = (n : Int)) ∨ ∃ n : Nat, n < 5 ∧ i = -(n : Int) := by
  obtain ⟨h1, h2⟩ := h
  by_cases c : 0 ≤ i
  · exact .inl ⟨i.toNat, by omega, by omega⟩
  · exact .inr ⟨(-i).toNat, by omega, by omega⟩
theorem sml_int {i : Int} (h : Sml i) : intIn (Str.ofString (toString i)) 12 = some i := by
  rcases sml_cases h with ⟨n, hn, rfl⟩ | ⟨n, hn, rfl⟩
  · exact pos_small n hn
  · exact neg_small n hn
theorem sml_nosp {i : Int} (h : Sml i) : 32 ∉ (Str.ofString (toString i)).cps.toList ∧ Str.ofString (toString i) ≠ minus ∧ Str.ofString (toString i) ≠ bar ∧ (Str.ofString (toString i)).length ≤ 4 := by
  rcases sml_cases h with ⟨n, hn, rfl⟩ | ⟨n, hn, rfl⟩
  · exact nosp_pos n hn
  · exact nosp_neg n hn
def SmV (y : V) : Prop := y = .non ∨ ∃ i, y = .int i ∧ Sml i
def ofV : V → Option Int
  | .int i => some i
  | _ => none
theorem toV_ofV {y : V} (h : SmV y) : toV (ofV y) = y := by
  rcases h with rfl | ⟨i, rfl, _⟩ <;> rfl
theorem word_sm {y : V} (h : SmV y) : thg1 (wordOf y) = some (ofV y) ∧ 32 ∉ (wordOf y).cps.toList ∧ wordOf y ≠ bar ∧ (wordOf y).length ≤ 4 ∧ smallV y = true ∧ isThingV y = true := by
  rcases h with rfl | ⟨i, rfl, hi⟩
  · exact ⟨rfl, by decide, by decide, by decide, rfl, rfl⟩
  · obtain ⟨h1, h2, h3, h4⟩ := sml_nosp hi
    refine ⟨?_, h1, h3, h4, ?_, rfl⟩
    · show thg1 (Str.ofString (toString i)) = some (some i)
      unfold thg1
      rw [if_neg h2, sml_int hi]
      rfl
    · refine decide_eq_true ?_
      obtain ⟨a, b⟩ := hi
      have : i.natAbs < 128 := by omega
      rcases Nat.eq_zero_or_pos i.natAbs with z | z
      · rw [z]; decide
      · exact Nat.lt_of_lt_of_le ((Nat.log2_lt (by omega)).mpr (show i.natAbs < 2 ^ 7 from this)) (by decide)
theorem thgIn_sm : ∀ {xs : List V}, (∀ y ∈ xs, SmV y) → thgIn (xs.map wordOf) = some (xs.map ofV)
  | [], _ => rfl
  | y :: r, h => by
    rw [List.map_cons, thgIn, (word_sm (h y List.mem_cons_self)).1, thgIn_sm fun z hz => h z (List.mem_cons_of_mem _ hz)]
    rfl
structure Sm (fs : List V) (ag : List Int) (m : Int) : Prop where
  up : Ris (seqT fs ag m)
  th : ∀ y ∈ fs, SmV y
  fl : fs.length ≤ 5
  a0 : 0 < ag.length
  al : ag.length ≤ 3
  ab : ∀ i ∈ ag, Sml i
  m0 : 0 ≤ m
  m1 : m < 128
theorem Drawn.sm {fs : List V} {ag : List Int} {m : Int} (d : Drawn fs ag m) : Sm fs ag m := by
  obtain ⟨n, is, e, hn, hi, p, b⟩ := d.ex
  have l1 := d.l1
  have l3 := d.l3
  have m0 := d.m0
  have m1 := d.m1
  have pa := (List.pairwise_append.mp p).2.1
  have q := pairI pa (i := 0) (j := ag.length - 1) (by omega) (by omega)
  have eL : lastI ag = ag.getD (ag.length - 1) 0 := rfl
  have u : UpR fs ag m := ⟨⟨n, is, e, p⟩, by omega, m0⟩
  refine ⟨u.ris, fun y hy => ?_, ?_, by omega, l3, fun i hi => ?_, by omega, by omega⟩
  · rw [e] at hy
    rcases List.mem_append.mp hy with h | h
    · exact .inl (List.eq_of_mem_replicate h)
    · obtain ⟨i, hi, rfl⟩ := List.mem_map.mp h
      have := b i (List.mem_append_left _ hi)
      exact .inr ⟨i, rfl, by unfold Sml; omega⟩
  · rw [e, List.length_append, List.length_replicate, List.length_map]
    omega
  · have := b i (List.mem_append_right _ hi)
    unfold Sml
    omega
theorem shr_sub {m : Int} : ∀ (rf : List V) (ag : List Int), ∀ i ∈ (shrinkR m rf ag).2, V.int i ∈ rf ∨ i ∈ ag
  | .int x :: r, ag, i, h => by
    unfold shrinkR at h
    by_cases c : x + m = lastI ag
    · rw [if_pos c] at h
      rcases shr_sub r _ i h with h | h
      · exact .inl (List.mem_cons_of_mem _ h)
      · rcases List.mem_cons.mp h with rfl | h
        · exact .inl List.mem_cons_self
        · exact .inr (List.dropLast_subset _ h)
    · rw [if_neg c] at h
      exact .inr h
  | [], ag, i, h => by
    unfold shrinkR at h
    exact .inr h
  | .non :: r, ag, i, h => .inr (by simpa [shrinkR] using h)
  | .bl _ :: r, ag, i, h => .inr (by simpa [shrinkR] using h)
  | .str _ :: r, ag, i, h => .inr (by simpa [shrinkR] using h)
  | .ref _ :: r, ag, i, h => .inr (by simpa [shrinkR] using h)
  | .ty _ :: r, ag, i, h => .inr (by simpa [shrinkR] using h)
  | .byt _ :: r, ag, i, h => .inr (by simpa [shrinkR] using h)
  | .flt _ :: r, ag, i, h => .inr (by simpa [shrinkR] using h)
theorem Sm.things {fs : List V} {ag : List Int} {m : Int} (s : Sm fs ag m) : ∀ y ∈ fs, isThingV y = true := fun y hy => (word_sm (s.th y hy)).2.2.2.2.2
theorem Sm.least {fs : List V} {ag : List Int} {m : Int} (s : Sm fs ag m) : Sm (leastF fs ag m).1 (leastF fs ag m).2.1 (leastF fs ag m).2.2 := by
  obtain ⟨k1, k2, k3, k4⟩ := least_keeps (fs := fs) (m := m) s.a0
  have tl := turnOf_le (m := m) s.a0
  have tp := turnOf_pos ag m
  have fl := s.fl
  have al := s.al
  have a0 := s.a0
  have m0 := s.m0
  have m1 := s.m1
  refine ⟨?_, fun y hy => s.th y (k3 y hy), by omega, by omega, by omega, fun i hi => ?_, ?_, ?_⟩
  · have e : seqT (leastF fs ag m).1 (leastF fs ag m).2.1 (leastF fs ag m).2.2 = seqT fs ag m := funext k1
    rw [e]
    exact s.up
  · rcases shr_sub _ _ i hi with h | h
    · rcases s.th _ (List.mem_reverse.mp h) with z | ⟨j, z, hj⟩
      · cases z
      · rw [V.int_inj z]
        exact hj
    · exact s.ab i (List.mem_of_mem_take h)
  · exact Int.ediv_nonneg (Int.mul_nonneg m0 (Int.natCast_nonneg _)) (Int.natCast_nonneg _)
  · show m * (turnOf ag m : Int) / (ag.length : Int) < 128
    refine Int.lt_of_le_of_lt ?_ m1
    refine Int.ediv_le_of_le_mul (by omega) ?_
    exact Int.mul_le_mul_of_nonneg_left (by omega) m0
def rowQ (fs : List V) (ag : List Int) (m : Int) : TQ := ⟨fs, ag.map V.int, m⟩
theorem ab_sm {fs : List V} {ag : List Int} {m : Int} (s : Sm fs ag m) : ∀ y ∈ ag.map V.int, SmV y := fun y hy => by
  obtain ⟨i, hi, rfl⟩ := List.mem_map.mp hy
  exact .inr ⟨i, rfl, s.ab i hi⟩
theorem Sm.small {fs : List V} {ag : List Int} {m : Int} (s : Sm fs ag m) : (rowQ fs ag m).small := by
  have fl := s.fl
  have al := s.al
  refine ⟨by show fs.length ≤ 1000; omega, by show (ag.map V.int).length ≤ 1000; rw [List.length_map]; omega, fun y hy => (word_sm (s.th y hy)).2.2.2.2.1, fun y hy => (word_sm (ab_sm s y hy)).2.2.2.2.1, ?_⟩
  have := (word_sm (y := .int m) (.inr ⟨m, rfl, by have := s.m0; have := s.m1; unfold Sml; omega⟩)).2.2.2.2.1
  exact of_decide_eq_true this
theorem Sm.ok {fs : List V} {ag : List Int} {m : Int} (s : Sm fs ag m) : wrongW (some fs) (some (ag.map V.int)) (.int m) = .non := ris_val s.a0 s.things s.m0 s.up
theorem Sm.words {fs : List V} {ag : List Int} {m : Int} (s : Sm fs ag m) : ∀ w ∈ rowWords fs (ag.map V.int) m, 32 ∉ w.cps.toList ∧ w.length ≤ 4 := fun w hw => by
  unfold rowWords at hw
  rcases List.mem_append.mp hw with h | h
  · obtain ⟨y, hy, rfl⟩ := List.mem_map.mp h
    have := word_sm (s.th y hy)
    exact ⟨this.2.1, this.2.2.2.1⟩
  · rcases List.mem_cons.mp h with rfl | h
    · decide
    · rcases List.mem_append.mp h with h | h
      · obtain ⟨y, hy, rfl⟩ := List.mem_map.mp h
        have := word_sm (ab_sm s y hy)
        exact ⟨this.2.1, this.2.2.2.1⟩
      · rcases List.mem_cons.mp h with rfl | h
        · decide
        · rw [List.mem_singleton.mp h]
          have := sml_nosp (i := m) (by have := s.m0; have := s.m1; unfold Sml; omega)
          exact ⟨this.1, this.2.2.2⟩
theorem Sm.split {fs : List V} {ag : List Int} {m : Int} (s : Sm fs ag m) : Txt.split (textOf (rowQ fs ag m)) " " = rowWords fs (ag.map V.int) m := by
  refine TL.split_join (y := " ") (s := 32) (S := []) (by decide) (by decide +kernel) ?_ fun p hp => (s.words p hp).1
  unfold rowWords
  exact fun z => by simp at z
theorem Sm.parse {fs : List V} {ag : List Int} {m : Int} (s : Sm fs ag m) : parse (rowWords fs (ag.map V.int) m) = some (fs.map ofV, (ag.map V.int).map ofV, m) := by
  have nb : bar ∉ fs.map wordOf := fun h => by
    obtain ⟨y, hy, e⟩ := List.mem_map.mp h
    exact (word_sm (s.th y hy)).2.2.1 e
  have nb2 : bar ∉ (ag.map V.int).map wordOf := fun h => by
    obtain ⟨y, hy, e⟩ := List.mem_map.mp h
    exact (word_sm (ab_sm s y hy)).2.2.1 e
  have sm := sml_nosp (i := m) (by have := s.m0; have := s.m1; unfold Sml; omega)
  have ix : (rowWords fs (ag.map V.int) m).idxOf bar = fs.length := by
    unfold rowWords
    rw [List.idxOf_append, if_neg nb, List.idxOf_cons_self, List.length_map]
    exact Nat.zero_add _
  have a0 := s.a0
  have len : (rowWords fs (ag.map V.int) m).length = fs.length + ag.length + 3 := by
    unfold rowWords
    simp only [List.length_append, List.length_map, List.length_cons, List.length_nil]
    omega
  have c1 : (rowWords fs (ag.map V.int) m).count bar = 1 := by
    unfold rowWords
    rw [List.count_append, List.count_eq_zero_of_not_mem nb, List.count_cons_self, List.count_append, List.count_eq_zero_of_not_mem nb2, List.count_cons, List.count_cons, List.count_nil]
    have e1 : (plus == bar) = false := by decide
    have e2 : (Str.ofString (toString m) == bar) = false := beq_eq_false_iff_ne.mpr sm.2.2.1
    have e1' : (Str.ofString "+" == bar) = false := e1
    rw [e2, e1']
    rfl
  have cat : rowWords fs (ag.map V.int) m = (fs.map wordOf ++ bar :: (ag.map V.int).map wordOf) ++ [plus, Str.ofString (toString m)] := by
    unfold rowWords
    rw [List.append_assoc]
    rfl
  have at2 : atI (rowWords fs (ag.map V.int) m) (-2) = some plus := by
    rw [show (-2 : Int) = -((2 : Nat) : Int) from rfl, at_neg (by decide) (by omega), cat, List.getElem?_append_right (by simp only [List.length_append, List.length_map, List.length_cons, List.length_nil]; omega)]
    have e : (fs.map wordOf ++ bar :: (ag.map V.int).map wordOf ++ [plus, Str.ofString (toString m)]).length - 2 - (fs.map wordOf ++ bar :: (ag.map V.int).map wordOf).length = 0 := by
      simp only [List.length_append, List.length_map, List.length_cons, List.length_nil]
      omega
    rw [e]
    rfl
  have at1 : atI (rowWords fs (ag.map V.int) m) (-1) = some (Str.ofString (toString m)) := by
    rw [show (-1 : Int) = -((1 : Nat) : Int) from rfl, at_neg (by decide) (by omega), cat, List.getElem?_append_right (by simp only [List.length_append, List.length_map, List.length_cons, List.length_nil]; omega)]
    have e : (fs.map wordOf ++ bar :: (ag.map V.int).map wordOf ++ [plus, Str.ofString (toString m)]).length - 1 - (fs.map wordOf ++ bar :: (ag.map V.int).map wordOf).length = 1 := by
      simp only [List.length_append, List.length_map, List.length_cons, List.length_nil]
      omega
    rw [e]
    rfl
  have fo : formOk (rowWords fs (ag.map V.int) m) = true := by
    unfold formOk
    rw [decide_eq_true c1, decide_eq_true at2, decide_eq_true (show 4 ≤ _ by omega)]
    rfl
  have tk : (rowWords fs (ag.map V.int) m).take ((rowWords fs (ag.map V.int) m).idxOf bar) = fs.map wordOf := by
    rw [ix]
    unfold rowWords
    rw [List.take_left' (by rw [List.length_map])]
  have md : midW (rowWords fs (ag.map V.int) m) = (ag.map V.int).map wordOf := by
    have dr : (rowWords fs (ag.map V.int) m).drop (fs.length + 1) = (ag.map V.int).map wordOf ++ [plus, Str.ofString (toString m)] := by
      rw [cat, List.append_assoc, List.drop_append, List.drop_of_length_le (by rw [List.length_map]; omega), List.length_map, Nat.add_sub_cancel_left]
      rfl
    unfold midW cutA
    rw [ix, show ((fs.length : Int) + 1) = ((fs.length + 1 : Nat) : Int) by omega, HT.sIx_nat, sIx_neg2 (by omega), Nat.min_eq_left (by omega), dr, List.take_left' ?_]
    rw [List.length_map, List.length_map, len]
    omega
  have lw : lastW (rowWords fs (ag.map V.int) m) = Str.ofString (toString m) := by
    unfold lastW
    rw [at1]
    rfl
  refine (parse_yes fo (by omega) (by rw [ix]; omega) (by rw [tk]; exact thgIn_sm s.th) (by rw [md]; exact thgIn_sm (ab_sm s)) ?_).1
  rw [lw]
  obtain ⟨n, hn, e⟩ : ∃ n : Nat, n < 128 ∧ m = (n : Int) := ⟨m.toNat, by have := s.m0; have := s.m1; omega, by have := s.m0; omega⟩
  rw [e]
  exact num_small n hn
theorem toV_of_all : ∀ {xs : List V}, (∀ y ∈ xs, SmV y) → (xs.map ofV).map toV = xs
  | [], _ => rfl
  | y :: r, h => by
    rw [List.map_cons, List.map_cons, toV_ofV (h y List.mem_cons_self), toV_of_all fun z hz => h z (List.mem_cons_of_mem _ hz)]
theorem Sm.heard {fs : List V} {ag : List Int} {m : Int} (s : Sm fs ag m) : heardS (.str (textOf (rowQ fs ag m))) = .row (rrOf fs (ag.map V.int) m) := by
  unfold heardS wordsOf
  dsimp only
  rw [s.split, s.parse]
  dsimp only
  unfold validB
  rw [toV_of_all s.th, toV_of_all (ab_sm s), if_pos (decide_eq_true s.ok)]
theorem intOf_map (ag : List Int) : (ag.map V.int).map intOf = ag := by
  rw [List.map_map]
  exact (List.map_congr_left fun _ _ => rfl).trans (List.map_id' _)
theorem rr_sm {fs : List V} {ag : List Int} {m : Int} (h : 0 < ag.length) : rrOf fs (ag.map V.int) m = ⟨(leastF fs ag m).1, (leastF fs ag m).2.1.map V.int, (leastF fs ag m).2.2⟩ := by
  unfold rrOf leastV
  have hz : hd (ag.map V.int) ≠ .non := by
    cases ag with
    | nil => cases h
    | cons x r => exact fun z => nomatch z
  rw [if_neg hz, intOf_map]
theorem rr_again {fs : List V} {ag : List Int} {m : Int} (s : Sm fs ag m) : rrOf (leastF fs ag m).1 ((leastF fs ag m).2.1.map V.int) (leastF fs ag m).2.2 = rrOf fs (ag.map V.int) m := by
  have l := s.least
  obtain ⟨k1, k2, k3, k4⟩ := least_keeps (fs := fs) (m := m) s.a0
  rw [rr_sm l.a0, rr_sm s.a0, least_same l.a0 l.things s.a0 s.things k1]
/-! ### the fixed texts -/
theorem txt_bad : ∀ z ∈ (["5 3 | 4 + 01", "", " ", "| + 0", "0 | 1", "| 0 + 0 ", "|  0 + 0", "| 0 + -1"] : List Str), parse (Txt.split z " ") = none := by decide +kernel
theorem txt_row : heardS (.str "5 3 | 4 + 1") = .s "row" := by
  unfold heardS wordsOf
  dsimp only
  rw [show parse (Txt.split "5 3 | 4 + 1" " ") = some ([some 5, some 3], [some 4], 1) by decide +kernel]
  exact if_neg (by decide +kernel)
theorem txt_empty : parse (Txt.split "- - | - - + 0" " ") = some ([none, none], [none, none], 0) := by decide +kernel
theorem empty_is : emptyR = ⟨[], [.non], 0⟩ := rfl
theorem empty_ok : wrongW (some [V.non, V.non]) (some [V.non, V.non]) (.int 0) = .non := by decide +kernel
theorem empty_again : rrOf [V.non, V.non] [V.non, V.non] 0 = emptyR := rfl
theorem empty_text : textOf ⟨emptyR.fs, emptyR.ys, emptyR.m⟩ = "| - + 0" := by decide +kernel
end WW

set_option Elab.async false
set_option linter.all false
set_option maxRecDepth 100000
set_option maxHeartbeats 4000000
namespace WW
open PySem PySem.Spec PyProof.Rows L2
/-! ### rows: text, equality, kinds -/
theorem th_is {v : V} (h : isThingV v = true) : isTh v = true := by
  cases v <;> first | rfl | exact h
instance : OfCls RR where
  cn := "Row"
  fl := ["first", "again", "more"]
  is h := by
    obtain ⟨_, x, rfl, dx, p1, p2, hx, _⟩ := h
    exact ⟨x, dx, _, rfl, hx, rfl⟩
def DU.isT : DU → Bool
  | .s _ => false
  | .t _ _ _ => true
section
variable {K : PySem.W.Frag} {B : Addr → Prop} {ρ ρ' ρ1 ρ2 : List Slot} {ta tb tc te : TE} {r r' : RR}
theorem d_strRR (h : DE K B te ρ r) (hs : TQ.small ⟨r.fs, r.ys, r.m⟩) : DE K B (tCB (rStrO (He.ga K "Row") (spStr (He.ga K "Row"))) (tCons te tNil)) ρ (textOf ⟨r.fs, r.ys, r.m⟩) := fun S0 H0 S H σ E Q q =>
  h S0 H0 S H σ E _ fun v S1 H1 e1 ⟨o, x, z, hr⟩ => by
    have hr := RowAt.ex e1.i hr
    obtain ⟨dx, p1, p2, hx, h1, h2⟩ := id hr
    exact .mk x dx _ (by rw [z]) hx ⟨x, r.fs, r.ys, r.m, rfl, hr, hs.a, hs.b, hs.ta, hs.tb, hs.c, fun H' s => ⟨_, rfl, q _ S1 H' (e1.trans (Ext.grow e1.i s)) rfl⟩⟩
theorem d_eqRR (RC : RowC K (He.ga K "Row")) (T : TyC K (He.ga K "Row")) (neg : Bool) (ha : DE K B ta ρ r) (hb : DE K B tb ρ r') (e : r = r') : DE K B (tOp (rOwn K (He.ga K "Row") (spEq K (He.ga K "Row")) neg) ta tb) ρ (!neg) :=
  d_op ha hb fun x y S H i r1 r2 Q q => by
    subst e
    obtain ⟨o, a, rfl, h1⟩ := r1
    obtain ⟨_, b, rfl, h2⟩ := r2
    have h1 := RowAt.ex i h1
    have h2 := RowAt.ex i h2
    obtain ⟨dx, p1, p2, hx, _⟩ := id h1
    have t1 : ∀ y ∈ r.fs, isTh y = true := fun y hy => th_is (o.th y hy)
    have t2 : ∀ y ∈ r.ys, isTh y = true := fun y hy => th_is (o.ty y hy)
    refine .mk a dx _ _ rfl hx (RowAt.ty RC T h2) notFirst_self ⟨a, .ref b, r.fs, r.ys, r.m, rfl, h1, .inr ⟨b, r.fs, r.ys, r.m, rfl, h2, t1, t2, t1, t2, fun H' s => ⟨_, rfl, ?_⟩⟩⟩
    rw [decide_eq_true ⟨rfl, rfl, rfl⟩]
    cases neg <;> exact q _ S H' (Ext.grow i s) rfl
theorem d_unrow (h : DE K B te ρ (HR.row r)) : DE K B te ρ r := h
theorem d_unsS {z : Str} (h : DE K B te ρ (HR.s z)) : DE K B te ρ z := h
theorem d_duS {z : Str} (h : DE K B te ρ (DU.s z)) : DE K B te ρ z := h
theorem d_txS {z : Str} (h : DE K B te ρ z) : DE K B te ρ (TX.str z) := h
theorem d_isTup {x : DU} (h : DE K B te ρ x) : DE K B (tCB (rIsi K) (tCons te (tCons (tC (.ty "tuple")) tNil))) ρ x.isT := fun S0 H0 S H σ E Q q =>
  h S0 H0 S H σ E _ fun v S1 H1 e1 r1 => by
    cases x with
    | s z =>
      cases r1
      exact ⟨_, .ty "tuple", _, _, false, rfl, .ty "tuple", .base (.str z), kit_ty (by decide +kernel), q _ S1 H1 e1 rfl⟩
    | t a b m =>
      obtain ⟨p, v1, v2, v3, rfl, hq, _⟩ := r1
      exact ⟨_, .ty "tuple", _, _, true, rfl, .ty "tuple", tyx_same e1.i (ty_t hq), kit_ty (by decide +kernel), q _ S1 H1 e1 rfl⟩
theorem d_isRS (RC : RowC K (He.ga K "Row")) (T : TyC K (He.ga K "Row")) (kS : PySem.W.kitOne K (.ref (He.ga K "Row")) (.type "str") = some false) (h : DE K B te ρ r) : DE K B (tCB (rIsi K) (tCons te (tCons (tC (.ty "str")) tNil))) ρ false := fun S0 H0 S H σ E Q q =>
  h S0 H0 S H σ E _ fun v S1 H1 e1 r1 => by
    obtain ⟨o, a, rfl, h1⟩ := r1
    exact ⟨_, .ty "str", _, _, false, rfl, .ty "str", tyx_same e1.i (RowAt.ty RC T h1), kS, q _ S1 H1 e1 rfl⟩
theorem d_dutq {a b : List (Option Int)} {m : Int} (h : DE K B te ρ (DU.t a b m)) : DE K B te ρ (α := TQ) ⟨a.map toV, b.map toV, m⟩ := fun S0 H0 S H σ E Q q =>
  h S0 H0 S H σ E Q fun v S1 H1 e ⟨p, v1, v2, v3, z, hq, ⟨l1, p1, w1, z1, k1, r1⟩, ⟨l2, p2, w2, z2, k2, r2⟩, r3⟩ => q v S1 H1 e ⟨p, v1, v2, v3, z, hq, ⟨by rw [List.length_map]; exact l1, p1, w1, z1, Sq.l k1, pair_ov r1⟩, ⟨by rw [List.length_map]; exact l2, p2, w2, z2, Sq.l k2, pair_ov r2⟩, r3⟩
theorem d_urow {t : T3 (U V) (U V) Int} (h : DE K B te ρ t) : DE K B te ρ (α := TQ) ⟨t.a, t.b, t.c⟩ := fun S0 H0 S H σ E Q q =>
  h S0 H0 S H σ E Q fun v S1 H1 e ⟨p, v1, v2, v3, z, hq, ⟨l1, p1, w1, z1, k1, r1⟩, ⟨l2, p2, w2, z2, k2, r2⟩, r3⟩ => q v S1 H1 e ⟨p, v1, v2, v3, z, hq, ⟨l1, p1, w1, z1, .inr k1, r1⟩, ⟨l2, p2, w2, z2, .inr k2, r2⟩, r3⟩
theorem d_neVs {xs ys : List V} (ha : DE K B ta ρ (α := L V) xs) (hb : DE K B tb ρ (α := L V) ys) (t1 : ∀ y ∈ xs, isTh y = true) (t2 : ∀ y ∈ ys, isTh y = true) : DE K B (tOp (rNeD K) ta tb) ρ (!decide (xs = ys)) :=
  d_op ha hb fun x y S H hi r1 r2 Q q => by
    obtain ⟨_, p, vs, rfl, hh, r⟩ := r1
    obtain ⟨_, p2, vs2, rfl, hh2, r2⟩ := r2
    cases vals_V r
    cases vals_V r2
    exact ⟨_, _, dp_list (hi _ _ hh) t1, dp_list (hi _ _ hh2) t2, shaped_list _, shaped_list _, by rw [eqv_list t1 t2]; exact q _ S H (Ext.refl hi) rfl⟩
theorem d_readRR {x : TX} {a b : List (Option Int)} {m : Int} {W : WX} (h : DE K B te ρ x) (hs : x.small) (hp : parse (wordsOf x) = some (a, b, m)) (hv : wrongW (some (a.map toV)) (some (b.map toV)) (.int m) = .non) :
    DE K B (tCMethS (He.ga K "Row") (spTX K (dpRead K)) (WE W) (tC (.ref (He.ga K "Row"))) (tCons te tNil)) ρ (rrOf (a.map toV) (b.map toV) m) := fun S0 H0 S H σ En Q q => by
  refine ⟨rfl, ?_⟩
  refine h S0 H0 S H σ En _ fun v S1 H1 e1 r1 => ?_
  refine ⟨B, S1, [.val (V.ref (He.ga K "Row")), .val x], fun s => s = .val (rrOf (a.map toV) (b.map toV) m), fun _ _ => False, e1.i, fun p hp => ⟨((En.go e1).bx p hp).1, ((En.go e1).bx p hp).2.1⟩, .cons rfl rfl (.cons r1 rfl .nil),
    ⟨x, rfl, hs, ⟨fun z => (by rw [hp] at z; cases z), fun a' b' m' z => (by cases hp.symm.trans z; exact ⟨fun _ => rfl, fun c => absurd hv c⟩)⟩⟩, fun s v S2 H2 hs2 e2 ok => ?_, fun C fs d S2 H2 hx => hx.elim⟩
  cases hs2
  exact q v S2 H2 (e1.trans e2) ok
end
/-! ### what is put together of small words -/
theorem joinL_len {S : List Nat} {k : Nat} : ∀ {ps : List (List Nat)}, (∀ p ∈ ps, p.length ≤ k) → (TL.joinL S ps).length ≤ ps.length * (k + S.length)
  | [], _ => by show ([] : List Nat).length ≤ _; simp
  | [q], h => by
    show q.length ≤ 1 * _
    have := h q List.mem_cons_self
    omega
  | q :: r :: s, h => by
    show (q ++ (S ++ TL.joinL S (r :: s))).length ≤ _
    have h1 := h q List.mem_cons_self
    have h2 := joinL_len (S := S) (ps := r :: s) fun p hp => h p (List.mem_cons_of_mem _ hp)
    rw [List.length_append, List.length_append, List.length_cons, Nat.add_mul]
    omega
theorem joinL_all {S : List Nat} {P : Nat → Prop} (hS : ∀ c ∈ S, P c) : ∀ {ps : List (List Nat)}, (∀ p ∈ ps, ∀ c ∈ p, P c) → ∀ c ∈ TL.joinL S ps, P c
  | [], _, c, hc => nomatch hc
  | [q], h, c, hc => h q List.mem_cons_self c hc
  | q :: r :: s, h, c, hc => by
    have hc : c ∈ q ++ (S ++ TL.joinL S (r :: s)) := hc
    rcases List.mem_append.mp hc with z | z
    · exact h q List.mem_cons_self c z
    · rcases List.mem_append.mp z with z | z
      · exact hS c z
      · exact joinL_all hS (fun p hp => h p (List.mem_cons_of_mem _ hp)) c z
structure WsOk (n : Nat) (ws : List Str) : Prop where
  len : ws.length ≤ n
  wl : ∀ w ∈ ws, w.length ≤ 13
  wo : ∀ w ∈ ws, PyData.strOk w = true
theorem WsOk.join {n : Nat} {ws : List Str} (h : WsOk n ws) : (Txt.join " " ws).length ≤ n * 14 ∧ PyData.strOk (Txt.join " " ws) = true := by
  have e : TL.tl (Txt.join " " ws) = _ := (congrArg TL.tl (TL.join_eq " " ws)).trans (TL.tl_join " " ws)
  constructor
  · have e2 : (Txt.join " " ws).length = (TL.tl (Txt.join " " ws)).length := by
      show _ = (Txt.join " " ws).cps.toList.length
      rw [Array.length_toList]
      rfl
    rw [e2, e]
    refine Nat.le_trans (joinL_len (k := 13) fun p hp => ?_) ?_
    · obtain ⟨w, hw, rfl⟩ := List.mem_map.mp hp
      have := h.wl w hw
      show w.cps.toList.length ≤ 13
      rw [Array.length_toList]
      exact this
    · rw [List.length_map]
      have := h.len
      show ws.length * (13 + 1) ≤ _
      omega
  · unfold PyData.strOk
    rw [← Array.all_toList, List.all_eq_true]
    intro c hc
    have hc : c ∈ TL.tl (Txt.join " " ws) := hc
    rw [e] at hc
    refine joinL_all (P := fun c => decide (c < 0x110000) = true) (fun c hc => ?_) (fun p hp c hc => ?_) c hc
    · have hc : c ∈ [32] := hc
      rw [List.mem_singleton.mp hc]
      decide
    · obtain ⟨w, hw, rfl⟩ := List.mem_map.mp hp
      have := h.wo w hw
      unfold PyData.strOk at this
      rw [← Array.all_toList, List.all_eq_true] at this
      exact this c hc
def oddWs : List Str := ["", "-", "|", "+", "01", "-0", "x", "7", "-3", "1234567890123", "123456789012"]
theorem odd_ok : ∀ w ∈ oddWs, w.length ≤ 13 ∧ PyData.strOk w = true := by decide +kernel
theorem parse_len {ws : List Str} {a b : List (Option Int)} {m : Int} (h : parse ws = some (a, b, m)) : a.length ≤ ws.length ∧ b.length ≤ ws.length ∧ b ≠ [] ∧ 0 ≤ m ∧ m < 2 ^ 60 := by
  unfold parse at h
  by_cases fo : formOk ws = true
  · rw [if_pos fo] at h
    cases ha : thgIn (ws.take (ws.idxOf bar)) with
    | none => rw [ha] at h; cases h
    | some a' =>
      cases hb : thgIn (midW ws) with
      | none => rw [ha, hb] at h; cases h
      | some b' =>
        cases hm : numIn (lastW ws) 12 with
        | none => rw [ha, hb, hm] at h; cases h
        | some m' =>
          rw [ha, hb, hm] at h
          have h : (if b' = [] then none else some (a', b', m')) = some (a, b, m) := h
          by_cases c : b' = []
          · rw [if_pos c] at h; cases h
          · rw [if_neg c] at h
            cases h
            refine ⟨?_, ?_, c, ?_, num_lt hm⟩
            · rw [thgIn_len ha, List.length_take]
              omega
            · rw [thgIn_len hb]
              exact cutA_len _ _ _
            · obtain ⟨_, e⟩ := numIn_some hm
              rw [e]
              exact Int.natCast_nonneg _
  · rw [if_neg fo] at h
    cases h
theorem RR.T_th {r : RR} (o : r.Ok) (n : Nat) : isThingV (r.T n) = true := by
  have add : ∀ v k, isThingV v = true → isThingV (addV v k) = true := fun v k h => by
    cases v <;> first | rfl | exact h
  unfold RR.T
  by_cases c : n < r.fs.length
  · rw [if_pos c, List.getD_eq_getElem?_getD, List.getElem?_eq_getElem c]
    exact o.th _ (List.getElem_mem c)
  · rw [if_neg c]
    have hk : (n - r.fs.length) % r.ys.length < r.ys.length := Nat.mod_lt _ o.y0
    refine add _ _ ?_
    rw [List.getD_eq_getElem?_getD, List.getElem?_eq_getElem hk]
    exact o.ty _ (List.getElem_mem hk)
theorem words_ok {fs : List V} {ag : List Int} {m : Int} (s : Sm fs ag m) : WsOk 11 (rowWords fs (ag.map V.int) m) := by
  refine ⟨?_, fun w hw => ?_, fun w hw => ?_⟩
  · have := s.fl
    have := s.al
    unfold rowWords
    simp only [List.length_append, List.length_map, List.length_cons, List.length_nil]
    omega
  · have := (s.words w hw).2
    omega
  · have nm : ∀ i : Int, Sml i → PyData.strOk (Str.ofString (toString i)) = true := fun i hi => by
      rcases sml_cases hi with ⟨n, hn, rfl⟩ | ⟨n, hn, rfl⟩
      · exact (by decide +kernel : ∀ n : Nat, n < 128 → PyData.strOk (Str.ofString (toString (n : Int))) = true) n hn
      · exact (by decide +kernel : ∀ n : Nat, n < 5 → PyData.strOk (Str.ofString (toString (-(n : Int)))) = true) n hn
    have wo : ∀ y, SmV y → PyData.strOk (wordOf y) = true := fun y hy => by
      rcases hy with rfl | ⟨i, rfl, hi⟩
      · decide +kernel
      · exact nm i hi
    unfold rowWords at hw
    rcases List.mem_append.mp hw with h | h
    · obtain ⟨y, hy, rfl⟩ := List.mem_map.mp h
      exact wo y (s.th y hy)
    · rcases List.mem_cons.mp h with rfl | h
      · decide +kernel
      · rcases List.mem_append.mp h with h | h
        · obtain ⟨y, hy, rfl⟩ := List.mem_map.mp h
          exact wo y (ab_sm s y hy)
        · rcases List.mem_cons.mp h with rfl | h
          · decide +kernel
          · rw [List.mem_singleton.mp h]
            exact nm m (by have := s.m0; have := s.m1; unfold Sml; omega)
theorem text_short {fs : List V} {ag : List Int} {m : Int} (s : Sm fs ag m) : (TX.str (textOf (rowQ fs ag m))).small := by
  have := (words_ok s).join.1
  show (textOf (rowQ fs ag m)).length ≤ 15000
  unfold textOf rowQ
  dsimp only
  omega
/-! ### other things in the place of a text -/
section
variable {K : PySem.W.Frag} {B : Addr → Prop} {ρ : List Slot} {te : TE} {r : RR}
theorem d_txN : DE K B (tC .non) ρ TX.other := fun _ _ S H _ E Q q => q _ S H (Ext.refl E.i) ⟨_, .base .non, kit_ty (by decide +kernel)⟩
theorem d_txI {i : Int} (h : DE K B te ρ i) : DE K B te ρ TX.other := fun S0 H0 S H σ E Q q => h S0 H0 S H σ E Q fun v S1 H1 e r => q v S1 H1 e (by cases r; exact ⟨_, .base (.int i), kit_ty (by decide +kernel)⟩)
theorem d_txT {α : Type} [Enc α] {xs : U α} (h : DE K B te ρ xs) : DE K B te ρ TX.other := fun S0 H0 S H σ E Q q => h S0 H0 S H σ E Q fun v S1 H1 e r => q v S1 H1 e (by
  obtain ⟨_, p, vs, rfl, hh, _⟩ := r
  exact ⟨_, ty_t hh, kit_ty (by decide +kernel)⟩)
theorem d_txR (RC : RowC K (He.ga K "Row")) (T : TyC K (He.ga K "Row")) (kS : PySem.W.kitOne K (.ref (He.ga K "Row")) (.type "str") = some false) (h : DE K B te ρ r) : DE K B te ρ TX.other := fun S0 H0 S H σ E Q q => h S0 H0 S H σ E Q fun v S1 H1 e r1 => q v S1 H1 e (by
  obtain ⟨o, a, rfl, h1⟩ := r1
  exact ⟨_, RowAt.ty RC T h1, kS⟩)
end
end WW

set_option Elab.async false
set_option linter.all false
set_option maxRecDepth 100000
set_option maxHeartbeats 4000000
namespace WW
open PySem PySem.Spec PyProof.Rows L2
def spLaw (K : PySem.W.Frag) : Sp := fun vs H Q _ => ∃ (a : Addr) (ns : List Int), vs = [.ref a] ∧ SqL K H a (ns.map V.int) ∧ ns.length ≤ 63 ∧ ∀ H', Q (.bl true) H'
theorem imp_law {K : PySem.W.Frag} (vs : List V) (H : Hp) (Q : VK) (E : XK) (h : spLaw K vs H Q E) : spT K (dp1 (fun x : Scr => x.ns.length ≤ 63) fun _ => true) vs H Q E := by
  obtain ⟨a, ns, rfl, hs, hl, q⟩ := h
  refine ⟨fun _ => False, H, [.val (Scr.mk ns)], fun s => s = .val true, Same.refl H, fun p hp => hp.elim, .cons ⟨a, rfl, hs⟩ rfl .nil, ⟨⟨ns⟩, rfl, hl, rfl⟩, fun s v S' H' hs e ok => ?_⟩
  cases hs
  cases (show v = .bl true from ok)
  exact q H'
section
variable {P : Program} {w : World} {K : PySem.W.Frag} {mg : Str → Option Value} {base : Heap} {f : Addr} {fd : FuncData}
abbrev s_law : Stmt := top 37
abbrev N_law : List Str := ["_law_script", "_law_k", "_law_box_here", "_law_turn", "_law_told", "_law_made_here", "_law_line", "_law_more", "_law_odd", "_law_words", "_law_at", "_law_bent", "_law_due_here", "_law_told_by", "_law_n"]
theorem sc_law : FnScope N_law ["_law_script"] (defScope s_law) := ⟨rfl, rfl, rfl, by decide +kernel, rfl, by decide +kernel, by decide +kernel⟩

theorem ok_law (F : FnP K "law" s_law f fd) (m_range : mg "range" = none) (m_max : mg "max" = none) (m_min : mg "min" = none) (m_len : mg "len" = none) (m_str : mg "str" = none) (m_isinstance : mg "isinstance" = none) (m_tuple : mg "tuple" = none)
    (RC : RowC K (He.ga K "Row")) (T : TyC K (He.ga K "Row")) (kS : PySem.W.kitOne K (.ref (He.ga K "Row")) (.type "str") = some false) (v_Row : ∃ u, mg "Row" = some u ∧ RelV (.ref (He.ga K "Row")) u)
    (CM : CmAt P w K mg base (L2.CX P w) 6 (He.ga K "Row") "read" (spTX K (dpRead K)))
    (g_eq : EqAtC P w K mg base CX0 2 (He.ga K "Row") ["self", "other"] (spEq K (He.ga K "Row"))) (g_str : StrAtC P w K mg base CX0 2 (He.ga K "Row") ["self"] (spStr (He.ga K "Row")))
    (g_l_box : FnAt P w K mg base CX0 1 "_law_box" ["_law_script", "_law_k"] (spBox K)) (g_l_take : FnAt P w K mg base CX0 1 "_law_take" ["_law_box_here", "_law_many"] (spT K dpTake)) (g_l_pick : FnAt P w K mg base CX0 2 "_law_pick" ["_law_box_here", "_law_some"] (spT K (dpPick Str)))
    (g_l_row : FnAt P w K mg base CX0 3 "_law_row" ["_law_box_here", "_law_is_low"] (spT K dpRow)) (g_l_made : FnAt P w K mg base CX0 6 "_law_made" ["_law_told"] (spT K (dp1 TQ.Row fun t => rrOf t.a t.b t.c)))
    (g_l_text : FnAt P w K mg base CX0 1 "_law_text" ["_law_told"] (spT K (dp1 TQ.small textOf))) (g_l_heard : FnAt P w K mg base CX0 7 "_law_heard" ["_law_line"] (spT K (dp1 TX.small heardS)))
    (g_l_due : FnAt P w K mg base CX0 2 "_law_due" ["_law_line"] (spT K (dp1 (fun z : Str => z.length ≤ 15000 ∧ PyData.strOk z = true) fun z => dueS (Txt.split z " "))))
    (g_l_times : FnAt P w K mg base CX0 2 "_law_times" ["_law_told", "_law_many"] (spT K (dp2 (γ := L V) (fun (t : TQ) (n : Int) => (asRR t).Ok ∧ 0 ≤ n ∧ n ≤ 1000) fun t n => (List.range n.toNat).map (asRR t).T)))
    (g_Row_time : MthAt P w K mg base CX0 1 (He.ga K "Row") "time" ["self", "n"] (spT K (dp2 (fun (r : RR) (n : Int) => r.Ok ∧ 0 ≤ n ∧ n < 1000000) fun r n => r.T n.toNat)))
    (g_empty : FnAt P w K mg base CX0 6 "empty" [] (spT K (dp0 emptyR))) : FnOk P w K mg base CX0 8 f fd ["_law_script"] (spT K (dp1 (fun x : Scr => x.ns.length ≤ 63) fun _ => true)) := by
  have c_Row := RC.cls
  refine okT F sc_law (fun ss R h => ?_) (fun cdv A outer s H E hr => ⟨_, (pss_cons (ps_for PassesOwn.never rfl (pi_range1 rfl m_range (pa_cons (pe_callB (call_max2 rfl) rfl m_max (by decide +kernel) (pa_cons (pe_int) (pa_cons (pe_callB (call_min2 rfl) rfl m_min (by decide +kernel) (pa_cons (pe_int) (pa_cons (pe_callB (call_lenK K) rfl m_len (by decide +kernel) (pa_cons (pv 0) (pa_nil))) (pa_nil)))) (pa_nil)))) (pa_nil))) (pg_name (i := 1) sc_law.nd rfl (.inl rfl)) (pss_cons (ps_set (i := 2) sc_law.nd rfl (.inl rfl) (pe_fn g_l_box hr rfl (pa_cons (pv 0) (pa_cons (pv 1) (pa_nil)))))
 (pss_one (ps_for PassesOwn.never rfl (pi_range1 rfl m_range (pa_cons (pe_int) (pa_nil))) (pg_name (i := 3) sc_law.nd rfl (.inl rfl)) (pss_cons (ps_set (i := 4) sc_law.nd rfl (.inl rfl) (pe_fn g_l_row hr rfl (pa_cons (pv 2) (pa_cons (pe_cmpR op_eq (pe_op op_mod (pv 3) (pe_int)) (pe_int) (nomark _)) (pa_nil)))))
 (pss_cons (ps_par (i := 5) (j := 6) rfl sc_law.nd rfl rfl (by decide) rfl rfl (pa_cons (pe_fn g_l_made hr rfl (pa_cons (pv 4) (pa_nil))) (pa_cons (pe_fn g_l_text hr rfl (pa_cons (pv 4) (pa_nil))) (pa_nil))) rfl)
 (pss_cons (ps_if (PW.pt (pw_or (pt_cmpR op_ne (pe_callTy (call_strO g_str hr) rfl m_str (by decide +kernel) (pa_cons (pv 5) (pa_nil))) (pe_fn g_l_text hr rfl (pa_cons (pe_tup (pa_cons (pe_fldK K (pv 5) rfl) (pa_cons (pe_fldK K (pv 5) rfl) (pa_cons (pe_fldK K (pv 5) rfl) (pa_nil))))) (pa_nil))) (nomark _)) (pw_or1 (pt_cmpR (op_neO K g_eq hr) (pe_fn g_l_heard hr rfl (pa_cons (pv 6) (pa_nil))) (pv 5) (nomark _))))) (pss_one (ps_ret (pe_bl))) (pss_nil))
 (pss_cons (ps_if (pt_cmpR (op_neO K g_eq hr) (pe_cmX K CM takes_no hr (pe_gv rfl v_Row) (pa_cons (pe_callTy (call_strO g_str hr) rfl m_str (by decide +kernel) (pa_cons (pv 5) pa_nil)) pa_nil)) (pv 5) (nomark _)) (pss_one (ps_ret (pe_bl))) (pss_nil))
 (pss_cons (ps_for PassesOwn.never rfl (pi_range1 rfl m_range (pa_cons (pe_int) (pa_nil))) (pg_name (i := 7) sc_law.nd rfl (.inl rfl)) (pss_cons (ps_set (i := 9) sc_law.nd rfl (.inl rfl) (pe_split (pv 6) (pe_str)))
 (pss_cons (ps_set (i := 10) sc_law.nd rfl (.inl rfl) (pe_fn g_l_take hr rfl (pa_cons (pv 2) (pa_cons (pe_callB (call_lenK K) rfl m_len (by decide +kernel) (pa_cons (pv 9) (pa_nil))) (pa_nil)))))
 (pss_cons (ps_set (i := 8) sc_law.nd rfl (.inl rfl) (pe_lst (pa_cons (pe_str) (pa_cons (pe_str) (pa_cons (pe_str) (pa_cons (pe_str) (pa_cons (pe_str) (pa_cons (pe_str) (pa_cons (pe_str) (pa_cons (pe_str) (pa_cons (pe_str) (pa_cons (pe_str) (pa_cons (pe_str) (pa_nil))))))))))))))
 (pss_cons (ps_set (i := 9) sc_law.nd rfl (.inl rfl) (pe_op op_cat (pe_op op_cat (pe_slice (sl_sqK K) (pv 9) (po_none) (po_some (pv 10))) (pe_op op_rep (pe_lst (pa_cons (pe_fn g_l_pick hr rfl (pa_cons (pv 2) (pa_cons (pv 8) (pa_nil)))) (pa_nil))) (pe_fn g_l_take hr rfl (pa_cons (pv 2) (pa_cons (pe_int) (pa_nil)))))) (pe_slice (sl_sqK K) (pv 9) (po_some (pe_op op_add (pv 10) (pe_fn g_l_take hr rfl (pa_cons (pv 2) (pa_cons (pe_int) (pa_nil)))))) (po_none))))
 (pss_cons (ps_set (i := 11) sc_law.nd rfl (.inl rfl) (pe_joinK K (pe_str) (pv 9)))
 (pss_cons (ps_asg (pe_tup (pa_cons (pe_fn g_l_due hr rfl (pa_cons (pv 11) (pa_nil))) (pa_cons (pe_fn g_l_heard hr rfl (pa_cons (pv 11) (pa_nil))) (pa_nil)))) (pg_tupK (n := 2) K rfl (pgs_cons (pg_name (i := 12) sc_law.nd rfl (.inl rfl)) (pgs_cons (pg_name (i := 13) sc_law.nd rfl (.inr rfl)) (pgs_nil)))))
 (pss_one (ps_if (pt_not (pt_val (pe_callB (call_isiK1 K) rfl m_isinstance (by decide +kernel) (pa_cons (pv 12) (pa_cons (pe_bltn (v := .ty "tuple") (u := .type "tuple") rfl m_tuple (by decide +kernel) rfl) (pa_nil)))))) (pss_one (ps_if (pt_cmpR op_ne (pv 13) (pv 12) (nomark _)) (pss_one (ps_ret (pe_bl))) (pss_nil))) (pss_one (ps_if (pt_val (pe_callB (call_isiK1 K) rfl m_isinstance (by decide +kernel) (pa_cons (pv 13) (pa_cons (pe_bltn (v := .ty "str") (u := .type "str") rfl m_str (by decide +kernel) rfl) (pa_nil))))) (pss_one (ps_ret (pe_bl))) (pss_one (ps_if (pt_cmpR (op_neDK K hr) (pe_lc (own := [("_law_n", 14)]) rfl sc_law.nd (pi_range1 rfl m_range (pa_cons (pe_int) (pa_nil))) (blkOk_by (N := N_law) (sc := defScope s_law) (by decide +kernel)) (fun _ _ _ _ _ => pg_name (i := 14) sc_law.nd rfl (.inl rfl)) (fun _ _ _ _ _ => pts_nil) (fun _ _ _ _ _ => pe_mth c_Row g_Row_time hr (pv 13) (pa_cons (pv 14) (pa_nil)))) (pe_fn g_l_times hr rfl (pa_cons (pv 12) (pa_cons (pe_int) (pa_nil)))) (nomark _)) (pss_one (ps_ret (pe_bl))) (pss_nil))))))))))))))
 (pss_cons (ps_if (PW.pt (pw_or (pt_cmpR op_ne (pe_fn g_l_heard hr rfl (pa_cons (pe_str) (pa_nil))) (pe_str) (nomark _)) (pw_or1 (pt_cmpR op_ne (pe_fn g_l_heard hr rfl (pa_cons (pe_str) (pa_nil))) (pe_str) (nomark _))))) (pss_one (ps_ret (pe_bl))) (pss_nil))
 (pss_one (ps_for PassesOwn.never rfl (pi_seqK K (pe_tup (pa_cons (pe_non) (pa_cons (pe_int) (pa_cons (pe_tup (pa_cons (pe_str) (pa_nil))) (pa_cons (pv 5) (pa_cons (pe_str) (pa_cons (pe_str) (pa_cons (pe_str) (pa_cons (pe_str) (pa_cons (pe_str) (pa_cons (pe_str) (pa_cons (pe_str) (pa_nil)))))))))))))) (pg_name (i := 8) sc_law.nd rfl (.inl rfl)) (pss_one (ps_if (pt_cmpR op_ne (pe_fn g_l_heard hr rfl (pa_cons (pv 8) (pa_nil))) (pe_str) (nomark _)) (pss_one (ps_ret (pe_bl))) (pss_nil)))))))))))))))
 (pss_one (ps_ret (pe_and (pe_cmpR op_eq (pe_callTy (call_strO g_str hr) rfl m_str (by decide +kernel) (pa_cons (pe_fn0 g_empty hr rfl) (pa_nil))) (pe_str) (nomark _)) (pe_one (pe_cmpR (op_eqO K g_eq hr) (pe_cmX K CM takes_no hr (pe_gv rfl v_Row) (pa_cons pe_str pa_nil)) (pe_fn0 g_empty hr rfl) (nomark _))))))), fun B ss R h => ?_⟩)
  · obtain ⟨x, rfl, _⟩ := h
    rfl
  · obtain ⟨scr, rfl, hl, q⟩ := h
    show DS K B _ [.val scr, .no, .no, .no, .no, .no, .no, .no, .no, .no, .no, .no, .no, .no, .no] _
    have sb : scr.ns.length ≤ BIG := Nat.le_trans hl (by decide)
    refine dq_forW [.val scr, .no, .no, .no, .no, .no, .no, .no, .no, .no, .no, .no, .no, .no, .no] (di_rng1 (d_max2 d_int (d_min2 d_int (d_len (d_scr (d_var rfl) sb)))) (by omega) (by omega)) (Wk.refl _) (fun k hk => ⟨_, _, dg_name, ?_⟩) ?_
    · have hk := rg_mem.mp hk
      refine dq_box (x := scr) (k := k) (d_var rfl) (d_var rfl) hk.1 (by omega) (by simp [Slot.isOwn]) rfl fun p => ?_
      show DS K (fun q => q = p ∨ B q) _ [.val scr, .val k, .box, .no, .no, .no, .no, .no, .no, .no, .no, .no, .no, .no, .no] _
      generalize (fun q => q = p ∨ B q) = B'
      refine ds_forW [.val scr, .val k, .box, .no, .no, .no, .no, .no, .no, .no, .no, .no, .no, .no, .no] (di_rng1 d_int (by omega) (by omega)) (Wk.refl _) (fun t ht => ⟨_, _, dg_name, ?_⟩) (fun r hr => hr.unbox.trans (by (repeat' first | exact Wk.nil | exact Wk.refl _ | apply Wk.keep | apply Wk.drop)))
      show DS K B' _ [.val scr, .val k, .box, .val t, .no, .no, .no, .no, .no, .no, .no, .no, .no, .no, .no] _
      refine dq_asgN (dn_callb1 rfl (d_eq (d_mod (d_var rfl) d_int (by decide)) d_int inferInstance inferInstance) trivial) fun told ht => ?_
      obtain ⟨fs, tb, m⟩ := told
      obtain ⟨ag, e, dr⟩ := ht
      have e : tb = ag.map V.int := e
      subst e
      have s := Drawn.sm dr
      show DS K B' _ [.val scr, .val k, .box, .val t, .val (T3.mk (α := L V) (β := L V) fs (ag.map V.int) m), .no, .no, .no, .no, .no, .no, .no, .no, .no, .no] _
      have lq : (rrOf fs (ag.map V.int) m) = ⟨(leastF fs ag m).1, (leastF fs ag m).2.1.map V.int, (leastF fs ag m).2.2⟩ := rr_sm s.a0
      have la := rr_again s
      have ls := s.least
      generalize (leastF fs ag m).1 = lf at lq la ls
      generalize (leastF fs ag m).2.1 = lg at lq la ls
      generalize (leastF fs ag m).2.2 = lm at lq la ls
      have fl := s.fl
      have al := s.al
      have m0 := s.m0
      have m1 := s.m1
      refine dq_par (d_call1 (x := rowQ fs ag m) (d_lrow (t := T3.mk (α := L V) (β := L V) fs (ag.map V.int) m) (d_var rfl)) ⟨Nat.le_trans s.fl (by decide), by show (ag.map V.int).length ≤ 20000; rw [List.length_map]; omega, s.things, fun y hy => (word_sm (ab_sm s y hy)).2.2.2.2.2, Int.lt_trans s.m1 (by decide), s.ok⟩) (d_call1 (x := rowQ fs ag m) (d_lrow (t := T3.mk (α := L V) (β := L V) fs (ag.map V.int) m) (d_var rfl)) s.small) ?_
      show DS K B' _ [.val scr, .val k, .box, .val t, .val (T3.mk (α := L V) (β := L V) fs (ag.map V.int) m), .val (rrOf fs (ag.map V.int) m), .val (textOf (rowQ fs ag m)), .no, .no, .no, .no, .no, .no, .no, .no] _
      have hd := s.heard
      rw [lq] at la hd ⊢
      refine dq_when (c := false) (DT.is (dt_or (dt_test (d_ne (d_strRR (d_var rfl) ls.small) (d_call1 (x := rowQ lf lg lm) (d_urow (t := T3.mk (α := U V) (β := U V) lf (lg.map V.int) lm) (d_triple (d_lfirst (r := RR.mk lf (lg.map V.int) lm) RC (d_var rfl)) (d_lagain (r := RR.mk lf (lg.map V.int) lm) RC (d_var rfl)) (d_lmore (r := RR.mk lf (lg.map V.int) lm) RC (d_var rfl)))) ls.small) inferInstance inferInstance)) fun _ => dt_test (d_eqRR RC T true (d_unrow ((d_call1 (x := TX.str (textOf (rowQ fs ag m))) (d_txS (d_var rfl)) ?_).is hd)) (d_var rfl) rfl)) ?_) (fun h => nomatch h) fun _ => ?_
      · exact text_short s
      · show (!decide (textOf (rowQ lf lg lm) = textOf (rowQ lf lg lm)) || !true) = false
        rw [decide_eq_true rfl]
        rfl
      refine dq_when (c := false) (dt_test (d_eqRR RC T true (d_readRR (x := TX.str (textOf (rowQ lf lg lm))) (d_txS (d_strRR (r := RR.mk lf (lg.map V.int) lm) (d_var rfl) ls.small)) (text_short ls) (by show parse (Txt.split (textOf (rowQ lf lg lm)) " ") = _; rw [ls.split]; exact ls.parse) ?_) (d_var rfl) ?_)) (fun h => nomatch h) fun _ => ?_
      · rw [toV_of_all ls.th, toV_of_all (ab_sm ls)]
        exact ls.ok
      · rw [toV_of_all ls.th, toV_of_all (ab_sm ls)]
        exact la
      refine dq_forW [.val scr, .val k, .box, .no, .no, .val (RR.mk lf (lg.map V.int) lm), .val (textOf (rowQ fs ag m)), .no, .no, .no, .no, .no, .no, .no, .no] (di_rng1 d_int (by omega) (by omega)) (by (repeat' first | exact Wk.nil | exact Wk.refl _ | apply Wk.keep | apply Wk.drop)) (fun u hu => ⟨_, _, dg_name, ?_⟩) ?_
      · show DS K B' _ [.val scr, .val k, .box, .no, .no, .val (RR.mk lf (lg.map V.int) lm), .val (textOf (rowQ fs ag m)), .val u, .no, .no, .no, .no, .no, .no, .no] _
        have wl := words_ok s
        have w0 : 0 < (rowWords fs (ag.map V.int) m).length := by unfold rowWords; simp only [List.length_append, List.length_cons]; omega
        refine dq_asgI (δ := L Str) (rowWords fs (ag.map V.int) m) (DE.is (DO.l (do_split (d_var rfl) d_str (by decide) (by have := text_short s; exact Nat.le_trans (Nat.add_le_add_right this 2) (by decide)) (by rw [s.split]; exact Nat.le_trans wl.len (by decide)))) s.split) ?_
        generalize rowWords fs (ag.map V.int) m = ws at wl w0
        have wn := wl.len
        refine dq_asgN (dn_callb1 rfl (d_len (d_Lq (d_var rfl))) ⟨by omega, by omega⟩) fun at_ hat => ?_
        refine dq_asgI (δ := L Str) oddWs (DO.l (do_lst (dl_cons d_str (dl_cons d_str (dl_cons d_str (dl_cons d_str (dl_cons d_str (dl_cons d_str (dl_cons d_str (dl_cons d_str (dl_cons d_str (dl_cons d_str (dl_cons d_str dl_nil))))))))))) (by decide))) ?_
        show DS K B' _ [.val scr, .val k, .box, .no, .no, .val (RR.mk lf (lg.map V.int) lm), .val (textOf (rowQ fs ag m)), .val u, .val (α := L Str) oddWs, .val (α := L Str) ws, .val at_, .no, .no, .no, .no] _
        refine dq_asgN (α := L Str) (dn_cat (dn_cat (DE.n (DO.l (do_slice (d_var rfl) dp_none (dp_some (d_var rfl))))) (dn_rep (dn_lst1 (dn_callb1 rfl (d_var rfl) ⟨by decide, by decide⟩)) (dn_callb1 rfl d_int ⟨by decide, by decide⟩) (fun i hi => ⟨hi.1, by have := hi.2; have : i < 2 := this; exact Int.le_trans (Int.le_of_lt this) (by decide)⟩)) ?_) (dn_sl (d_var rfl) (dn_add (DE.n (d_var rfl)) (dn_callb1 rfl d_int ⟨by decide, by decide⟩))) ?_) fun bs hbs => ?_
        · rintro xs ys rfl ⟨a, i, _, hi, rfl⟩
          have := cutA_len ws none (some at_)
          have h2 : i < 2 := hi.2
          rw [List.length_replicate]
          exact Nat.le_trans (show _ ≤ 20 by omega) (by decide)
        · rintro xs ys ⟨x1, y1, rfl, ⟨a, i, _, hi, rfl⟩, rfl⟩ ⟨j, _, rfl⟩
          have := cutA_len ws none (some at_)
          have := cutA_len ws (some j) none
          have h2 : i < 2 := hi.2
          rw [List.length_append, List.length_replicate]
          exact Nat.le_trans (show _ ≤ 40 by omega) (by decide)
        have bo : WsOk 40 bs := by
          obtain ⟨xs, ys, ⟨x1, y1, rfl, ⟨a, i, ha, hi, rfl⟩, rfl⟩, ⟨j, _, rfl⟩, rfl⟩ := hbs
          have h2 : i < 2 := hi.2
          have hm : ∀ w ∈ cutA ws none (some at_) ++ List.replicate i.toNat a ++ cutA ws (some j) none, w.length ≤ 13 ∧ PyData.strOk w = true := fun w hw => by
            rcases List.mem_append.mp hw with hw | hw
            · rcases List.mem_append.mp hw with hw | hw
              · exact ⟨wl.wl w (cutA_mem hw), wl.wo w (cutA_mem hw)⟩
              · rw [List.eq_of_mem_replicate hw]
                exact odd_ok a ha
            · exact ⟨wl.wl w (cutA_mem hw), wl.wo w (cutA_mem hw)⟩
          refine ⟨?_, fun w hw => (hm w hw).1, fun w hw => (hm w hw).2⟩
          have := cutA_len ws none (some at_)
          have := cutA_len ws (some j) none
          rw [List.length_append, List.length_append, List.length_replicate]
          omega
        clear hbs
        obtain ⟨b1, b2⟩ := bo.join
        have bn := bo.len
        have bs13 : (bs.map (fun w : Str => w.length)).sum ≤ bs.length * 13 := by
          have := bo.wl
          clear b1 b2 bn bo
          induction bs with
          | nil => exact Nat.le_refl _
          | cons w r ih =>
            have h1 := this w List.mem_cons_self
            have h2 := ih fun w hw => this w (List.mem_cons_of_mem _ hw)
            rw [List.map_cons, List.sum_cons, List.length_cons]
            omega
        refine dq_asg (d_join d_str (d_Lq (d_var rfl)) ?_) ?_
        · have : (Str.ofString " ").length = 1 := by decide
          show (bs.map (fun w : Str => w.length)).sum + _ ≤ _
          rw [this]
          omega
        have hs : (TX.str (Txt.join " " bs)).small := by show (Txt.join " " bs).length ≤ 15000; omega
        refine dq_asgG (d_pair (d_call1 (x := Txt.join " " bs) (d_var rfl) ⟨hs, b2⟩) (d_call1 (x := TX.str (Txt.join " " bs)) (d_txS (d_var rfl)) hs)) (DG.pair dg_name dg_name) ?_
        have wb : (Txt.split (Txt.join " " bs) " ").length ≤ 16000 := (words_len hs).1
        show DS K B' _ [.val scr, .val k, .box, .no, .no, .val (RR.mk lf (lg.map V.int) lm), .val (textOf (rowQ fs ag m)), .val u, .val (α := L Str) oddWs, .val (α := L Str) bs, .val at_, .val (Txt.join " " bs), .val (dueS (Txt.split (Txt.join " " bs) " ")), .val (heardS (TX.str (Txt.join " " bs))), .no] _
        cases hp : parse (Txt.split (Txt.join " " bs) " ") with
        | none =>
          have e1 : dueS (Txt.split (Txt.join " " bs) " ") = .s "text" := by unfold dueS; rw [hp]
          have e2 : heardS (TX.str (Txt.join " " bs)) = .s "text" := by unfold heardS wordsOf; rw [hp]
          rw [e1, e2]
          refine ds_if (c := true) (DT.is (dt_not (dt_B (d_isTup (d_var rfl)))) rfl) (fun _ => ds_if (c := false) (DT.is (dt_test (d_ne (d_unsS (d_var rfl)) (d_duS (d_var rfl)) inferInstance inferInstance)) (by rw [decide_eq_true rfl]; rfl)) (fun h => nomatch h) fun _ => ds_next (by (repeat' first | exact Wk.nil | exact Wk.refl _ | apply Wk.keep | apply Wk.drop))) (fun h => nomatch h)
        | some abm =>
          obtain ⟨a, b, mm⟩ := abm
          by_cases hv : validB a b mm = true
          · have e1 : dueS (Txt.split (Txt.join " " bs) " ") = .t a b mm := by unfold dueS; rw [hp]; exact if_pos hv
            have e2 : heardS (TX.str (Txt.join " " bs)) = .row (rrOf (a.map toV) (b.map toV) mm) := by unfold heardS wordsOf; rw [hp]; exact if_pos hv
            rw [e1, e2]
            obtain ⟨pa, pb, p0, q0, q1⟩ := parse_len hp
            have hw := of_decide_eq_true hv
            have ta : ∀ y ∈ a.map toV, isThingV y = true := fun y hy => by obtain ⟨o, _, rfl⟩ := List.mem_map.mp hy; exact toV_th o
            have tb : ∀ y ∈ b.map toV, isThingV y = true := fun y hy => by obtain ⟨o, _, rfl⟩ := List.mem_map.mp hy; exact toV_th o
            have ok : (RR.mk (a.map toV) (b.map toV) mm).Ok := ⟨by show (a.map toV).length ≤ 20000; rw [List.length_map]; omega, by show 0 < (b.map toV).length; rw [List.length_map]; exact List.length_pos_iff.mpr p0, by show (b.map toV).length ≤ 20000; rw [List.length_map]; omega, ta, tb, q0, q1⟩
            obtain ⟨ok2, rt⟩ := rr_ok hw ok.f1 ok.y1 q1
            refine ds_if (c := false) (DT.is (dt_not (dt_B (d_isTup (d_var rfl)))) rfl) (fun h => nomatch h) fun _ => ds_if (c := false) (dt_B (d_isRS RC T kS (d_unrow (d_var rfl)))) (fun h => nomatch h) fun _ => ds_if (c := false) (DT.is (dt_test (d_neVs (DO.l (do_map (fun n : Int => (rrOf (a.map toV) (b.map toV) mm).T n.toNat) (di_rng1 d_int (by omega) (by omega)) (by decide) fun n hn => ⟨_, _, dg_name, by simp, d_meth1 (d_unrow (d_var rfl)) (d_var rfl) ⟨ok2, ?_⟩ (by decide)⟩)) (d_call2 (d_dutq (d_var rfl)) d_int ⟨ok, by decide, by decide⟩) ?_ ?_)) ?_) (fun h => nomatch h) fun _ => ds_next (by (repeat' first | exact Wk.nil | exact Wk.refl _ | apply Wk.keep | apply Wk.drop))
            · have := rg_mem.mp hn
              omega
            · intro y hy
              obtain ⟨n, _, rfl⟩ := List.mem_map.mp hy
              exact th_is (RR.T_th ok2 _)
            · intro y hy
              obtain ⟨n, _, rfl⟩ := List.mem_map.mp hy
              exact th_is (RR.T_th ok _)
            · rw [decide_eq_true]
              · rfl
              · unfold rg
                rw [List.map_map]
                refine List.map_congr_left fun n _ => ?_
                show (rrOf (a.map toV) (b.map toV) mm).T (0 + (n : Int)).toNat = RR.T ⟨a.map toV, b.map toV, mm⟩ n
                rw [Int.zero_add, Int.toNat_natCast]
                exact rt n
          · have e1 : dueS (Txt.split (Txt.join " " bs) " ") = .s "row" := by unfold dueS; rw [hp]; exact if_neg hv
            have e2 : heardS (TX.str (Txt.join " " bs)) = .s "row" := by unfold heardS wordsOf; rw [hp]; exact if_neg hv
            rw [e1, e2]
            refine ds_if (c := true) (DT.is (dt_not (dt_B (d_isTup (d_var rfl)))) rfl) (fun _ => ds_if (c := false) (DT.is (dt_test (d_ne (d_unsS (d_var rfl)) (d_duS (d_var rfl)) inferInstance inferInstance)) (by rw [decide_eq_true rfl]; rfl)) (fun h => nomatch h) fun _ => ds_next (by (repeat' first | exact Wk.nil | exact Wk.refl _ | apply Wk.keep | apply Wk.drop))) (fun h => nomatch h)
      have hb : ∀ z ∈ (["5 3 | 4 + 01", "", " ", "| + 0", "0 | 1", "| 0 + 0 ", "|  0 + 0", "| 0 + -1"] : List Str), heardS (.str z) = .s "text" ∧ (TX.str z).small := fun z hz => by
        refine ⟨?_, ?_⟩
        · unfold heardS wordsOf
          dsimp only
          rw [txt_bad z hz]
        · revert z
          show ∀ z ∈ (["5 3 | 4 + 01", "", " ", "| + 0", "0 | 1", "| 0 + 0 ", "|  0 + 0", "| 0 + -1"] : List Str), z.length ≤ 15000
          decide
      refine dq_when (c := false) (DT.is (dt_or (dt_test (d_ne (d_unsS ((d_call1 (x := TX.str "5 3 | 4 + 01") (d_txS d_str) (hb _ (by simp)).2).is (hb _ (by simp)).1)) d_str inferInstance inferInstance)) fun _ => dt_test (d_ne (d_unsS ((d_call1 (x := TX.str "5 3 | 4 + 1") (d_txS d_str) (show Str.length _ ≤ 15000 by decide)).is txt_row)) d_str inferInstance inferInstance)) (by decide)) (fun h => nomatch h) fun _ => ?_
      have nS : ∃ t, True := ⟨0, trivial⟩
      refine ds_forW (α := TX) [.val scr, .val k, .box, .no, .no, .no, .no, .no, .no, .no, .no, .no, .no, .no, .no] (di_seq (d_Uq (d_tupU (dl_cons d_txN (dl_cons (d_txI d_int) (dl_cons (d_txT (d_tupU (dl_cons d_str dl_nil) (by decide))) (dl_cons (d_txR RC T kS (d_var rfl)) (dl_cons (d_txS d_str) (dl_cons (d_txS d_str) (dl_cons (d_txS d_str) (dl_cons (d_txS d_str) (dl_cons (d_txS d_str) (dl_cons (d_txS d_str) (dl_cons (d_txS d_str) dl_nil))))))))))) (by decide)))) (by (repeat' first | exact Wk.nil | exact Wk.refl _ | apply Wk.keep | apply Wk.drop)) (fun x hx => ⟨_, _, dg_name, ?_⟩) (fun r hr => hr.trans (by (repeat' first | exact Wk.nil | exact Wk.refl _ | apply Wk.keep | apply Wk.drop)))
      have hx2 : heardS x = .s "text" ∧ x.small := by
        simp only [List.mem_cons, List.not_mem_nil, or_false] at hx
        rcases hx with rfl | rfl | rfl | rfl | rfl | rfl | rfl | rfl | rfl | rfl | rfl <;> first | exact ⟨rfl, trivial⟩ | exact hb _ (by simp)
      exact ds_if (c := false) (DT.is (dt_test (d_ne (d_unsS ((d_call1 (d_var rfl) hx2.2).is hx2.1)) d_str inferInstance inferInstance)) (by rw [decide_eq_true rfl]; rfl)) (fun h => nomatch h) fun _ => ds_next (by (repeat' first | exact Wk.nil | exact Wk.refl _ | apply Wk.keep | apply Wk.drop))
    · refine ds_retE q (d_andV (d_eq (d_strRR (d_call0) ?_) d_str inferInstance inferInstance) fun _ => d_eqRR RC T false (d_readRR (x := TX.str "- - | - - + 0") (d_txS d_str) (show Str.length _ ≤ 15000 by decide) txt_empty empty_ok) d_call0 empty_again) ?_
      · exact ⟨by decide, by decide, (fun y hy => nomatch hy), (fun y hy => by rw [List.mem_singleton.mp hy]; rfl), by decide⟩
      · rw [empty_text]
        rfl
end
end WW

set_option Elab.async false
set_option linter.all false
set_option maxRecDepth 100000
set_option maxHeartbeats 0
namespace WW
open PySem PySem.Spec PyProof.Rows L2
def d_l_take : He5.DefA := ⟨fun K => He.fAd K ("_law_take", none), "_law_take", "_law_take", defArgs s_l_take, defBody s_l_take, defScope s_l_take, [], []⟩
def d_l_pick : He5.DefA := ⟨fun K => He.fAd K ("_law_pick", none), "_law_pick", "_law_pick", defArgs s_l_pick, defBody s_l_pick, defScope s_l_pick, [], []⟩
def d_is_integer : He5.DefA := ⟨fun K => He.fAd K ("is_integer", none), "is_integer", "is_integer", defArgs s_is_integer, defBody s_is_integer, defScope s_is_integer, [], []⟩
def d_is_number : He5.DefA := ⟨fun K => He.fAd K ("is_number", none), "is_number", "is_number", defArgs s_is_number, defBody s_is_number, defScope s_is_number, [], []⟩
def d_is_sequence : He5.DefA := ⟨fun K => He.fAd K ("is_sequence", none), "is_sequence", "is_sequence", defArgs s_is_sequence, defBody s_is_sequence, defScope s_is_sequence, [], []⟩
def d_is_thing : He5.DefA := ⟨fun K => He.fAd K ("is_thing", none), "is_thing", "is_thing", defArgs s_is_thing, defBody s_is_thing, defScope s_is_thing, [], []⟩
def d_is_below : He5.DefA := ⟨fun K => He.fAd K ("is_below", none), "is_below", "is_below", defArgs s_is_below, defBody s_is_below, defScope s_is_below, [], []⟩
def d_are_rising : He5.DefA := ⟨fun K => He.fAd K ("are_rising", none), "are_rising", "are_rising", defArgs s_are_rising, defBody s_are_rising, defScope s_are_rising, [], []⟩
def d_wrong_word : He5.DefA := ⟨fun K => He.fAd K ("wrong_word", none), "wrong_word", "wrong_word", defArgs s_wrong_word, defBody s_wrong_word, defScope s_wrong_word, [], []⟩
def d_is_turn : He5.DefA := ⟨fun K => He.fAd K ("is_turn", none), "is_turn", "is_turn", defArgs s_is_turn, defBody s_is_turn, defScope s_is_turn, [], []⟩
def d_least_form : He5.DefA := ⟨fun K => He.fAd K ("least_form", none), "least_form", "least_form", defArgs s_least_form, defBody s_least_form, defScope s_least_form, [], []⟩
def d_l_box : He5.DefA := ⟨fun K => He.fAd K ("_law_box", none), "_law_box", "_law_box", defArgs s_l_box, defBody s_l_box, defScope s_l_box, [], []⟩
def d_l_row : He5.DefA := ⟨fun K => He.fAd K ("_law_row", none), "_law_row", "_law_row", defArgs s_l_row, defBody s_l_row, defScope s_l_row, [], []⟩
def d_number_in : He5.DefA := ⟨fun K => He.fAd K ("number_in", none), "number_in", "number_in", defArgs s_number_in, defBody s_number_in, defScope s_number_in, [], []⟩
def d_integer_in : He5.DefA := ⟨fun K => He.fAd K ("integer_in", none), "integer_in", "integer_in", defArgs s_integer_in, defBody s_integer_in, defScope s_integer_in, [], []⟩
def d_things_in : He5.DefA := ⟨fun K => He.fAd K ("things_in", none), "things_in", "things_in", defArgs s_things_in, defBody s_things_in, defScope s_things_in, [], []⟩
def d_Row___init__ : He5.DefA := ⟨fun K => He.fAd K ("Row", some "__init__"), "__init__", "Row.__init__", defArgs s_Row___init__, defBody s_Row___init__, defScope s_Row___init__, [.int 0], []⟩
def d_Row_time : He5.DefA := ⟨fun K => He.fAd K ("Row", some "time"), "time", "Row.time", defArgs s_Row_time, defBody s_Row_time, defScope s_Row_time, [], []⟩
def d_Row_parts : He5.DefA := ⟨fun K => He.fAd K ("Row", some "parts"), "parts", "Row.parts", defArgs s_Row_parts, defBody s_Row_parts, defScope s_Row_parts, [], []⟩
def d_Row___eq__ : He5.DefA := ⟨fun K => He.fAd K ("Row", some "__eq__"), "__eq__", "Row.__eq__", defArgs s_Row___eq__, defBody s_Row___eq__, defScope s_Row___eq__, [], []⟩
def d_word_of : He5.DefA := ⟨fun K => He.fAd K ("word_of", none), "word_of", "word_of", defArgs s_word_of, defBody s_word_of, defScope s_word_of, [], []⟩
def d_Row___str__ : He5.DefA := ⟨fun K => He.fAd K ("Row", some "__str__"), "__str__", "Row.__str__", defArgs s_Row___str__, defBody s_Row___str__, defScope s_Row___str__, [], []⟩
def d_Row_read : He5.DefA := ⟨fun K => He5.wf K (He.ga K "Row") "classmethod" "read", "read", "Row.read", defArgs s_Row_read, defBody s_Row_read, defScope s_Row_read, [], []⟩
def d_empty : He5.DefA := ⟨fun K => He.fAd K ("empty", none), "empty", "empty", defArgs s_empty, defBody s_empty, defScope s_empty, [], []⟩
def d_l_made : He5.DefA := ⟨fun K => He.fAd K ("_law_made", none), "_law_made", "_law_made", defArgs s_l_made, defBody s_l_made, defScope s_l_made, [], []⟩
def d_l_time : He5.DefA := ⟨fun K => He.fAd K ("_law_time", none), "_law_time", "_law_time", defArgs s_l_time, defBody s_l_time, defScope s_l_time, [], []⟩
def d_l_times : He5.DefA := ⟨fun K => He.fAd K ("_law_times", none), "_law_times", "_law_times", defArgs s_l_times, defBody s_l_times, defScope s_l_times, [], []⟩
def d_l_text : He5.DefA := ⟨fun K => He.fAd K ("_law_text", none), "_law_text", "_law_text", defArgs s_l_text, defBody s_l_text, defScope s_l_text, [], []⟩
def d_l_is_integer : He5.DefA := ⟨fun K => He.fAd K ("_law_is_integer", none), "_law_is_integer", "_law_is_integer", defArgs s_l_is_integer, defBody s_l_is_integer, defScope s_l_is_integer, [], []⟩
def d_l_due : He5.DefA := ⟨fun K => He.fAd K ("_law_due", none), "_law_due", "_law_due", defArgs s_l_due, defBody s_l_due, defScope s_l_due, [], []⟩
def d_l_heard : He5.DefA := ⟨fun K => He.fAd K ("_law_heard", none), "_law_heard", "_law_heard", defArgs s_l_heard, defBody s_l_heard, defScope s_l_heard, [], []⟩
def d_law : He5.DefA := ⟨fun K => He.fAd K ("law", none), "law", "law", defArgs s_law, defBody s_law, defScope s_law, [], []⟩
def steps : Nat := 4000
def fn : List He5.DefA := ([d_l_take, d_l_pick, d_is_integer, d_is_number, d_is_sequence, d_is_thing, d_is_below, d_are_rising, d_wrong_word, d_is_turn, d_least_form, d_l_box] : List He5.DefA) ++ ([d_l_row, d_number_in, d_integer_in, d_things_in, d_Row___init__, d_Row_time, d_Row_parts, d_Row___eq__, d_word_of, d_Row___str__, d_Row_read, d_empty] : List He5.DefA) ++ ([d_l_made, d_l_time, d_l_times, d_l_text, d_l_is_integer, d_l_due, d_l_heard, d_law] : List He5.DefA)
def fa : List He.Fa := ([.glo "_law_take", .glo "_law_pick", .glo "is_integer", .glo "is_number", .glo "is_sequence", .glo "is_thing", .glo "is_below", .glo "are_rising", .glo "wrong_word", .glo "is_turn", .glo "least_form", .glo "_law_box"] : List He.Fa) ++ ([.glo "_law_row", .glo "number_in", .glo "integer_in", .glo "things_in", .meth "Row" "time", .meth "Row" "parts", .glo "word_of", .glo "empty", .glo "_law_made", .glo "_law_time", .glo "_law_times", .glo "_law_text"] : List He.Fa) ++ ([.glo "_law_is_integer", .glo "_law_due", .glo "_law_heard", .glo "law", .free "int", .free "len", .free "isinstance", .free "bool", .free "list", .free "tuple", .free "any", .free "all"] : List He.Fa) ++ ([.free "range", .free "abs", .free "super", .free "str", .free "zip", .free "max", .free "min", .cls "Row", .noat "Row" "first", .noat "Row" "again", .noat "Row" "more", .mkr "Row"] : List He.Fa) ++ ([.glo "Row", .glo "InvalidRow", .glo "InvalidText", .str "DIGITS" "0123456789", .int "MOST_DIGITS" (12)] : List He.Fa)
def loose : List Str := (["_wall", "WaitError", "InvalidRow", "InvalidText", "DIGITS", "is_integer", "is_number", "is_sequence", "number_in", "integer_in", "MOST_DIGITS", "is_thing"] : List Str) ++ (["is_below", "are_rising", "wrong_word", "is_turn", "least_form", "Row", "word_of", "things_in", "empty", "_law_box", "_law_take", "_law_pick"] : List Str) ++ (["_law_mixed", "_law_row", "_law_time", "_law_times", "_law_made", "_law_text", "_law_is_integer", "_law_due", "_law_heard"] : List Str)
abbrev st_InvalidRow : Stmt := inClass (top 3) 0
abbrev st_InvalidText : Stmt := inClass (top 4) 0
def cs : List Str := ["InvalidRow", "InvalidText"]
def vsS : List SupV := [some ("InvalidRow.__init__", defArgs st_InvalidRow, .stmts (defBody st_InvalidRow), defScope st_InvalidRow, mainGlobals, builtinsNs), some ("InvalidText.__init__", defArgs st_InvalidText, .stmts (defBody st_InvalidText), defScope st_InvalidText, mainGlobals, builtinsNs)]
abbrev R : PySem.W.OpenRow := PySem.W.OpenLaw.row PySem.Challenge.rw_waitworks_k04_texts_of_rows
def fileS : Str := R.prog.main.file
def exK (K : PySem.W.Frag) : Bool := supB K fileS (He.ga K "InvalidRow") && (excCB K (He.ga K "InvalidRow") && (He.eqO (PySem.W.findIn K (.ref (He.ga K "InvalidRow")) "word") (some none) && (supB K fileS (He.ga K "InvalidText") && (excCB K (He.ga K "InvalidText") && (He.eqO (PySem.W.findIn K (.ref (He.ga K "InvalidText")) "at") (some none) && (eqB K (He.ga K "Row") && (strB K (He.ga K "Row") && ((PySem.W.readsIn K (He.ga K "Row") (.type "type") && (He5.wrapB K (He.ga K "Row") "classmethod" "classmethod.__get__" "read" && PySem.W.fnIn K (He5.wf K (He.ga K "Row") "classmethod" "read"))) && (tyB K (He.ga K "Row") && (decide (PySem.W.exmOne K (.ref (He.ga K "InvalidText")) (.ref (He.ga K "InvalidText")) = some true) && (decide (PySem.W.exmOne K (.ref (He.ga K "InvalidRow")) (.ref (He.ga K "InvalidText")) = some false) && (decide (PySem.W.exmOne K (.ref (He.ga K "InvalidRow")) (.ref (He.ga K "InvalidRow")) = some true) && (decide (PySem.W.kitOne K (.ref (He.ga K "Row")) (.type "str") = some false))))))))))))))
abbrev hk : PySem.W.Hook := hookS 10 fa fn exK cs vsS
def ob (s : PySem.W.SharedT) : (He.AlD × Bool) × List SupV := obsS 10 fa fn exK cs (HandSHeadRun.getT s)
theorem ob_eq (s : PySem.W.SharedT) : ob s = hk.obs s.abs := obsS_eq (HandSHeadRun.getT_eq s)
theorem run (w : World) : HandSHeadRun.RunEq R (PySem.W.view R.prog [37]) hk ob steps loose w := by
  intro os
  kernel_rfl
/-- Row(a, b, c): every parameter is written, a default stands behind -/
theorem init_binds {K : PySem.W.Frag} {f : Addr} {fd : FuncData} (F : FunD K "__init__" "Row.__init__" (defArgs s_Row___init__) (defBody s_Row___init__) (defScope s_Row___init__) [.int 0] [] f fd) : Binds K fd ["self", "first", "again", "more"] [] := by
  obtain ⟨ds, v, b⟩ := F.binds1 (ps := ["self", "first", "again", "more"]) 4 1 (List.cons_ne_nil _ _) rfl fun T kV doc pm an cdv ct us its hu hi => by
    match us, hu, its, hi with
    | [u1, u2, u3, u4], _, [i1], _ => exact ⟨_, rfl, rfl⟩
  cases v
  exact b
/-- Row(a, b): the growth is the default -/
theorem init_binds2 {K : PySem.W.Frag} {f : Addr} {fd : FuncData} (F : FunD K "__init__" "Row.__init__" (defArgs s_Row___init__) (defBody s_Row___init__) (defScope s_Row___init__) [.int 0] [] f fd) : ∃ ds, Vals [.int 0] ds ∧ Binds K fd ["self", "first", "again", "more"] ds :=
  F.binds1 (ps := ["self", "first", "again", "more"]) 3 0 (List.cons_ne_nil _ _) rfl fun T kV doc pm an cdv ct us its hu hi => by
    match us, hu, its, hi with
    | [u1, u2, u3], _, [i1], _ => exact ⟨_, rfl, rfl⟩
theorem facts {P : Program} {w : World} {K : PySem.W.Frag} {h : Heap} {mg : Str → Option Value} {f : Addr} (X : K.In h) (G : h.Ns mainGlobals mg) (hfa : mg ("law" : Str) = some (.ref f)) (c : SaysS fa fn exK cs vsS K) (hP1 : (P.main.file : Str) = fileS) (hP2 : (P.main.scope.names.lookup ("super" : Str)).isSome = false) :
    ∃ fd : FuncData, (∀ (s : Shared) (v : Value), BindsTo s fd ⟨[v], []⟩ [("_law_script", v)]) ∧ ∀ base : Heap, K.In base → base.Ns mainGlobals mg → FnOk P w K mg base CX0 8 f fd ["_law_script"] (spLaw K) := by
  obtain ⟨⟨c, cx⟩, cv⟩ := c
  obtain ⟨x_sup_InvalidRow, cx⟩ := He.ba cx
  obtain ⟨x_exc_InvalidRow, cx⟩ := He.ba cx
  obtain ⟨x_nf_InvalidRow_word, cx⟩ := He.ba cx
  obtain ⟨x_sup_InvalidText, cx⟩ := He.ba cx
  obtain ⟨x_exc_InvalidText, cx⟩ := He.ba cx
  obtain ⟨x_nf_InvalidText_at, cx⟩ := He.ba cx
  obtain ⟨x_eq_Row, cx⟩ := He.ba cx
  obtain ⟨x_str_Row, cx⟩ := He.ba cx
  obtain ⟨x_cm_Row_read, cx⟩ := He.ba cx
  obtain ⟨x_ty, cx⟩ := He.ba cx
  obtain ⟨x_k1, cx⟩ := He.ba cx
  obtain ⟨x_k2, cx⟩ := He.ba cx
  obtain ⟨x_k3, cx⟩ := He.ba cx
  have x_kS := cx
  have m_int := He.free_ok X G (c.fact 28 (f := .free "int") rfl)
  have m_len := He.free_ok X G (c.fact 29 (f := .free "len") rfl)
  have m_isinstance := He.free_ok X G (c.fact 30 (f := .free "isinstance") rfl)
  have m_bool := He.free_ok X G (c.fact 31 (f := .free "bool") rfl)
  have m_list := He.free_ok X G (c.fact 32 (f := .free "list") rfl)
  have m_tuple := He.free_ok X G (c.fact 33 (f := .free "tuple") rfl)
  have m_any := He.free_ok X G (c.fact 34 (f := .free "any") rfl)
  have m_all := He.free_ok X G (c.fact 35 (f := .free "all") rfl)
  have m_range := He.free_ok X G (c.fact 36 (f := .free "range") rfl)
  have m_abs := He.free_ok X G (c.fact 37 (f := .free "abs") rfl)
  have m_super := He.free_ok X G (c.fact 38 (f := .free "super") rfl)
  have m_str := He.free_ok X G (c.fact 39 (f := .free "str") rfl)
  have m_zip := He.free_ok X G (c.fact 40 (f := .free "zip") rfl)
  have m_max := He.free_ok X G (c.fact 41 (f := .free "max") rfl)
  have m_min := He.free_ok X G (c.fact 42 (f := .free "min") rfl)
  have m_Row := He.glo_ok X G (c.fact 48 (f := .glo "Row") rfl)
  have m_InvalidRow := He.glo_ok X G (c.fact 49 (f := .glo "InvalidRow") rfl)
  have m_InvalidText := He.glo_ok X G (c.fact 50 (f := .glo "InvalidText") rfl)
  have v_DIGITS : ∃ u, mg "DIGITS" = some u ∧ RelV (.str "0123456789") u := by obtain ⟨t, e⟩ := He.str_ok X G (c.fact 51 (f := .str "DIGITS" "0123456789") rfl); exact ⟨_, e, t, rfl⟩
  have v_MOST_DIGITS : ∃ u, mg "MOST_DIGITS" = some u ∧ RelV (.int (12)) u := by obtain ⟨t, e⟩ := He.int_ok X G (c.fact 52 (f := .int "MOST_DIGITS" (12)) rfl); exact ⟨_, e, t, rfl⟩
  have RC : RowC K (He.ga K "Row") := ⟨He.cls_ok (c.fact 43 (f := .cls "Row") rfl), He.noat_ok (c.fact 44 (f := .noat "Row" "first") rfl), He.noat_ok (c.fact 45 (f := .noat "Row" "again") rfl), He.noat_ok (c.fact 46 (f := .noat "Row" "more") rfl)⟩
  have v_Row : ∃ u, mg "Row" = some u ∧ RelV (.ref (He.ga K "Row")) u := ⟨_, m_Row, rfl⟩
  have cv_InvalidRow : supO K (He.ga K "InvalidRow") = some (("InvalidRow.__init__" : Str), defArgs st_InvalidRow, .stmts (defBody st_InvalidRow), defScope st_InvalidRow, mainGlobals, builtinsNs) := (List.cons.inj cv).1
  have sc_InvalidRow := supB_ok (P := P) (by rw [hP1]; exact x_sup_InvalidRow) cv_InvalidRow hP2
  have xc_InvalidRow := excCB_ok x_exc_InvalidRow
  have nf_InvalidRow_word := He.eqO_ok x_nf_InvalidRow_word
  have S_InvalidRow : SupAt P K mg "InvalidRow" "word" := ⟨⟨_, _, _, _, _, _, _, _, _, _, _, _, _, _, _, _, _, _, sc_InvalidRow, ⟨rfl, rfl, rfl, rfl, rfl, rfl, rfl, by decide +kernel, ⟨_, rfl, rfl⟩, by decide, by decide⟩, fun _ => rfl, fun _ _ _ _ _ _ _ _ us hl => match us, hl with | [_, _], _ => rfl⟩, nf_InvalidRow_word, m_InvalidRow, m_super⟩
  have cv_InvalidText : supO K (He.ga K "InvalidText") = some (("InvalidText.__init__" : Str), defArgs st_InvalidText, .stmts (defBody st_InvalidText), defScope st_InvalidText, mainGlobals, builtinsNs) := (List.cons.inj (List.cons.inj cv).2).1
  have sc_InvalidText := supB_ok (P := P) (by rw [hP1]; exact x_sup_InvalidText) cv_InvalidText hP2
  have xc_InvalidText := excCB_ok x_exc_InvalidText
  have nf_InvalidText_at := He.eqO_ok x_nf_InvalidText_at
  have S_InvalidText : SupAt P K mg "InvalidText" "at" := ⟨⟨_, _, _, _, _, _, _, _, _, _, _, _, _, _, _, _, _, _, sc_InvalidText, ⟨rfl, rfl, rfl, rfl, rfl, rfl, rfl, by decide +kernel, ⟨_, rfl, rfl⟩, by decide, by decide⟩, fun _ => rfl, fun _ _ _ _ _ _ _ _ us hl => match us, hl with | [_, _], _ => rfl⟩, nf_InvalidText_at, m_InvalidText, m_super⟩
  have f_k1 := of_decide_eq_true x_k1
  have f_k2 := of_decide_eq_true x_k2
  have f_k3 := of_decide_eq_true x_k3
  have f_kS := of_decide_eq_true x_kS
  obtain ⟨fd_l_take, F_l_take⟩ := c.def_ 0 (d := d_l_take) rfl
  obtain ⟨fd_l_pick, F_l_pick⟩ := c.def_ 1 (d := d_l_pick) rfl
  obtain ⟨fd_is_integer, F_is_integer⟩ := c.def_ 2 (d := d_is_integer) rfl
  obtain ⟨fd_is_number, F_is_number⟩ := c.def_ 3 (d := d_is_number) rfl
  obtain ⟨fd_is_sequence, F_is_sequence⟩ := c.def_ 4 (d := d_is_sequence) rfl
  obtain ⟨fd_is_thing, F_is_thing⟩ := c.def_ 5 (d := d_is_thing) rfl
  obtain ⟨fd_is_below, F_is_below⟩ := c.def_ 6 (d := d_is_below) rfl
  obtain ⟨fd_are_rising, F_are_rising⟩ := c.def_ 7 (d := d_are_rising) rfl
  obtain ⟨fd_wrong_word, F_wrong_word⟩ := c.def_ 8 (d := d_wrong_word) rfl
  obtain ⟨fd_is_turn, F_is_turn⟩ := c.def_ 9 (d := d_is_turn) rfl
  obtain ⟨fd_least_form, F_least_form⟩ := c.def_ 10 (d := d_least_form) rfl
  obtain ⟨fd_l_box, F_l_box⟩ := c.def_ 11 (d := d_l_box) rfl
  obtain ⟨fd_l_row, F_l_row⟩ := c.def_ 12 (d := d_l_row) rfl
  obtain ⟨fd_number_in, F_number_in⟩ := c.def_ 13 (d := d_number_in) rfl
  obtain ⟨fd_integer_in, F_integer_in⟩ := c.def_ 14 (d := d_integer_in) rfl
  obtain ⟨fd_things_in, F_things_in⟩ := c.def_ 15 (d := d_things_in) rfl
  obtain ⟨fd_Row___init__, F_Row___init__⟩ := c.def_ 16 (d := d_Row___init__) rfl
  obtain ⟨fd_Row_time, F_Row_time⟩ := c.def_ 17 (d := d_Row_time) rfl
  obtain ⟨fd_Row_parts, F_Row_parts⟩ := c.def_ 18 (d := d_Row_parts) rfl
  obtain ⟨fd_Row___eq__, F_Row___eq__⟩ := c.def_ 19 (d := d_Row___eq__) rfl
  obtain ⟨fd_word_of, F_word_of⟩ := c.def_ 20 (d := d_word_of) rfl
  obtain ⟨fd_Row___str__, F_Row___str__⟩ := c.def_ 21 (d := d_Row___str__) rfl
  obtain ⟨fd_Row_read, F_Row_read⟩ := c.def_ 22 (d := d_Row_read) rfl
  obtain ⟨fd_empty, F_empty⟩ := c.def_ 23 (d := d_empty) rfl
  obtain ⟨fd_l_made, F_l_made⟩ := c.def_ 24 (d := d_l_made) rfl
  obtain ⟨fd_l_time, F_l_time⟩ := c.def_ 25 (d := d_l_time) rfl
  obtain ⟨fd_l_times, F_l_times⟩ := c.def_ 26 (d := d_l_times) rfl
  obtain ⟨fd_l_text, F_l_text⟩ := c.def_ 27 (d := d_l_text) rfl
  obtain ⟨fd_l_is_integer, F_l_is_integer⟩ := c.def_ 28 (d := d_l_is_integer) rfl
  obtain ⟨fd_l_due, F_l_due⟩ := c.def_ 29 (d := d_l_due) rfl
  obtain ⟨fd_l_heard, F_l_heard⟩ := c.def_ 30 (d := d_l_heard) rfl
  obtain ⟨fd_law, F_law⟩ := c.def_ 31 (d := d_law) rfl
  have e := hfa.symm.trans (He.glo_ok X G (c.fact 27 (f := .glo "law") rfl))
  cases e
  have bL := FunD.bindsA (ps := ["_law_script"]) F_law fun _ _ _ _ _ _ us hl => match us, hl with | [_], _ => rfl
  refine ⟨fd_law, fun s v => bL s [v] rfl, fun base _ _ => ?_⟩
  have g_l_take : FnAt P w K mg base CX0 1 "_law_take" ["_law_box_here", "_law_many"] (spTake) := ⟨⟨_, ok_take F_l_take m_int, F_l_take.bindsN fun _ _ _ _ _ _ us hl => match us, hl with | [_, _], _ => rfl⟩, F_l_take.kp, He.glo_ok X G (c.fact 0 (f := .glo "_law_take") rfl)⟩
  have g_l_pick : FnAt P w K mg base CX0 2 "_law_pick" ["_law_box_here", "_law_some"] (spPick K) := ⟨⟨_, ok_pick F_l_pick m_len g_l_take, F_l_pick.bindsN fun _ _ _ _ _ _ us hl => match us, hl with | [_, _], _ => rfl⟩, F_l_pick.kp, He.glo_ok X G (c.fact 1 (f := .glo "_law_pick") rfl)⟩
  have g_is_integer : FnAt P w K mg base CX0 1 "is_integer" ["value"] (spInteger K) := ⟨⟨_, ok_is_integer F_is_integer m_isinstance m_int m_bool, F_is_integer.bindsN fun _ _ _ _ _ _ us hl => match us, hl with | [_], _ => rfl⟩, F_is_integer.kp, He.glo_ok X G (c.fact 2 (f := .glo "is_integer") rfl)⟩
  have g_is_number : FnAt P w K mg base CX0 2 "is_number" ["value"] (spNumber K) := ⟨⟨_, ok_is_number F_is_number g_is_integer, F_is_number.bindsN fun _ _ _ _ _ _ us hl => match us, hl with | [_], _ => rfl⟩, F_is_number.kp, He.glo_ok X G (c.fact 3 (f := .glo "is_number") rfl)⟩
  have g_is_sequence : FnAt P w K mg base CX0 1 "is_sequence" ["value"] (spSequence K) := ⟨⟨_, ok_is_sequence F_is_sequence m_isinstance m_list m_tuple, F_is_sequence.bindsN fun _ _ _ _ _ _ us hl => match us, hl with | [_], _ => rfl⟩, F_is_sequence.kp, He.glo_ok X G (c.fact 4 (f := .glo "is_sequence") rfl)⟩
  have g_is_thing : FnAt P w K mg base CX0 2 "is_thing" ["value"] (spThing K) := ⟨⟨_, ok_is_thing F_is_thing g_is_integer, F_is_thing.bindsN fun _ _ _ _ _ _ us hl => match us, hl with | [_], _ => rfl⟩, F_is_thing.kp, He.glo_ok X G (c.fact 5 (f := .glo "is_thing") rfl)⟩
  have g_is_below : FnAt P w K mg base CX0 1 "is_below" ["one", "other"] (spBelow) := ⟨⟨_, ok_is_below F_is_below , F_is_below.bindsN fun _ _ _ _ _ _ us hl => match us, hl with | [_, _], _ => rfl⟩, F_is_below.kp, He.glo_ok X G (c.fact 6 (f := .glo "is_below") rfl)⟩
  have g_are_rising : FnAt P w K mg base CX0 2 "are_rising" ["some"] (spRising K) := ⟨⟨_, ok_are_rising F_are_rising m_any m_len m_range g_is_below, F_are_rising.bindsN fun _ _ _ _ _ _ us hl => match us, hl with | [_], _ => rfl⟩, F_are_rising.kp, He.glo_ok X G (c.fact 7 (f := .glo "are_rising") rfl)⟩
  have g_wrong_word : FnAt P w K mg base CX0 3 "wrong_word" ["first", "again", "more"] (spWrong K) := ⟨⟨_, ok_wrong_word F_wrong_word m_all m_len g_is_sequence g_is_thing g_is_number g_are_rising, F_wrong_word.bindsN fun _ _ _ _ _ _ us hl => match us, hl with | [_, _, _], _ => rfl⟩, F_wrong_word.kp, He.glo_ok X G (c.fact 8 (f := .glo "wrong_word") rfl)⟩
  have g_is_turn : FnAt P w K mg base CX0 1 "is_turn" ["again", "more", "turn"] (spTurn K) := ⟨⟨_, ok_is_turn F_is_turn m_all m_len m_range, F_is_turn.bindsN fun _ _ _ _ _ _ us hl => match us, hl with | [_, _, _], _ => rfl⟩, F_is_turn.kp, He.glo_ok X G (c.fact 9 (f := .glo "is_turn") rfl)⟩
  have g_least_form : FnAt P w K mg base CX0 2 "least_form" ["first", "again", "more"] (spLeast K) := ⟨⟨_, ok_least_form F_least_form m_list m_len m_range m_tuple g_is_turn, F_least_form.bindsN fun _ _ _ _ _ _ us hl => match us, hl with | [_, _, _], _ => rfl⟩, F_least_form.kp, He.glo_ok X G (c.fact 10 (f := .glo "least_form") rfl)⟩
  have g_l_box : FnAt P w K mg base CX0 1 "_law_box" ["_law_script", "_law_k"] (spBox K) := ⟨⟨_, ok_box F_l_box m_int m_len m_abs, F_l_box.bindsN fun _ _ _ _ _ _ us hl => match us, hl with | [_, _], _ => rfl⟩, F_l_box.kp, He.glo_ok X G (c.fact 11 (f := .glo "_law_box") rfl)⟩
  have g_l_row : FnAt P w K mg base CX0 3 "_law_row" ["_law_box_here", "_law_is_low"] (spRowF) := ⟨⟨_, ok_rowF F_l_row m_int m_range g_l_take g_l_pick, F_l_row.bindsN fun _ _ _ _ _ _ us hl => match us, hl with | [_, _], _ => rfl⟩, F_l_row.kp, He.glo_ok X G (c.fact 12 (f := .glo "_law_row") rfl)⟩
  have g_number_in : FnAt P w K mg base CX0 1 "number_in" ["text", "most"] (spT K (dp2 (fun (z : Str) (m : Int) => z.length ≤ 100000 ∧ m ≤ 600) numIn)) := ⟨⟨_, ok_number_in F_number_in m_all m_len m_int v_DIGITS, F_number_in.bindsN fun _ _ _ _ _ _ us hl => match us, hl with | [_, _], _ => rfl⟩, F_number_in.kp, He.glo_ok X G (c.fact 13 (f := .glo "number_in") rfl)⟩
  have g_integer_in : FnAt P w K mg base CX0 2 "integer_in" ["text", "most"] (spT K (dp2 (fun (z : Str) (m : Int) => z.length ≤ 100000 ∧ m ≤ 600) intIn)) := ⟨⟨_, ok_integer_in F_integer_in g_number_in, F_integer_in.bindsN fun _ _ _ _ _ _ us hl => match us, hl with | [_, _], _ => rfl⟩, F_integer_in.kp, He.glo_ok X G (c.fact 14 (f := .glo "integer_in") rfl)⟩
  have g_things_in : FnAt P w K mg base CX0 3 "things_in" ["words"] (spT K (dp1 (γ := Option (L (Option Int))) (fun ws : List Str => ws.length ≤ 100000 ∧ ∀ w ∈ ws, w.length ≤ 100000) thgIn)) := ⟨⟨_, ok_things_in F_things_in v_MOST_DIGITS g_integer_in, F_things_in.bindsN fun _ _ _ _ _ _ us hl => match us, hl with | [_], _ => rfl⟩, F_things_in.kp, He.glo_ok X G (c.fact 15 (f := .glo "things_in") rfl)⟩
  have b_init := init_binds F_Row___init__
  have gX_Row : MkAtX P w K mg base 4 "Row" ["self", "first", "again", "more"] (spInitXF K (He.ga K "Row") (He.ga K "InvalidRow")) [] := ⟨⟨_, _, [], He.mkr_ok (c.fact 47 (f := .mkr "Row") rfl), ok_Row_initXF F_Row___init__ RC m_tuple g_wrong_word g_least_form S_InvalidRow, .nil, b_init⟩, m_Row⟩
  have g_Row_time : MthAt P w K mg base CX0 1 (He.ga K "Row") "time" ["self", "n"] (spT K (dp2 (fun (r : RR) (n : Int) => r.Ok ∧ 0 ≤ n ∧ n < 1000000) fun r n => r.T n.toNat)) := ⟨_, _, He.meth_ok (c.fact 16 (f := .meth "Row" "time") rfl), ok_ltime F_Row_time RC m_len, F_Row_time.bindsN fun _ _ _ _ _ _ us hl => match us, hl with | [_, _], _ => rfl⟩
  have g_Row_parts : MthAt P w K mg base CX0 1 (He.ga K "Row") "parts" ["self"] (spParts (He.ga K "Row")) := ⟨_, _, He.meth_ok (c.fact 17 (f := .meth "Row" "parts") rfl), ok_parts F_Row_parts RC, F_Row_parts.bindsN fun _ _ _ _ _ _ us hl => match us, hl with | [_], _ => rfl⟩
  have T := tyB_ok x_ty
  have g_eq_Row : EqAtC P w K mg base CX0 2 (He.ga K "Row") ["self", "other"] (spEq K (He.ga K "Row")) := ⟨_, _, eqB_ok x_eq_Row, ok_eq F_Row___eq__ RC T m_Row m_isinstance g_Row_parts, F_Row___eq__.bindsN fun _ _ _ _ _ _ us hl => match us, hl with | [_, _], _ => rfl⟩
  have g_word_of : FnAt P w K mg base CX0 1 "word_of" ["thing"] (spWord) := ⟨⟨_, ok_word F_word_of m_str, F_word_of.bindsN fun _ _ _ _ _ _ us hl => match us, hl with | [_], _ => rfl⟩, F_word_of.kp, He.glo_ok X G (c.fact 18 (f := .glo "word_of") rfl)⟩
  have g_str_Row : StrAtC P w K mg base CX0 2 (He.ga K "Row") ["self"] (spStr (He.ga K "Row")) := ⟨_, _, He.eqO_ok (He.ba x_str_Row).1, (He.ba x_str_Row).2, ok_str F_Row___str__ RC m_str g_word_of, F_Row___str__.bindsN fun _ _ _ _ _ _ us hl => match us, hl with | [_], _ => rfl⟩
  have CM_Row_read : CmAt P w K mg base (L2.CX P w) 6 (He.ga K "Row") "read" (spTX K (dpRead K)) := by
    obtain ⟨y1, y2⟩ := He.ba x_cm_Row_read
    obtain ⟨y2, y3⟩ := He.ba y2
    have rw_ := (ok_read F_Row_read m_isinstance m_str m_len v_MOST_DIGITS g_number_in g_things_in S_InvalidText gX_Row).raw (F_Row_read.bindsN fun _ _ _ _ _ _ us hl => match us, hl with | [_, _], _ => rfl) .nil
    exact ⟨_, _, _, cread_ok y1, He5.cmet_of y2 y3, rw_.imp fun vs H Q E h => by rw [List.append_nil]; exact h⟩
  have g_empty : FnAt P w K mg base CX0 6 "empty" [] (spT K (dp0 emptyR)) := ⟨⟨_, ok_empty F_empty gX_Row, F_empty.bindsN fun _ _ _ _ _ _ us hl => match us, hl with | [], _ => rfl⟩, F_empty.kp, He.glo_ok X G (c.fact 19 (f := .glo "empty") rfl)⟩
  have g_l_made : FnAt P w K mg base CX0 6 "_law_made" ["_law_told"] (spT K (dp1 TQ.Row fun t => rrOf t.a t.b t.c)) := ⟨⟨_, ok_lmade F_l_made gX_Row, F_l_made.bindsN fun _ _ _ _ _ _ us hl => match us, hl with | [_], _ => rfl⟩, F_l_made.kp, He.glo_ok X G (c.fact 20 (f := .glo "_law_made") rfl)⟩
  have g_l_time : FnAt P w K mg base CX0 1 "_law_time" ["_law_told", "_law_n"] (spT K (dp2 (fun (t : TQ) (n : Int) => (asRR t).Ok ∧ 0 ≤ n ∧ n < 1000000) fun t n => (asRR t).T n.toNat)) := ⟨⟨_, ok_lawtime F_l_time m_len, F_l_time.bindsN fun _ _ _ _ _ _ us hl => match us, hl with | [_, _], _ => rfl⟩, F_l_time.kp, He.glo_ok X G (c.fact 21 (f := .glo "_law_time") rfl)⟩
  have g_l_times : FnAt P w K mg base CX0 2 "_law_times" ["_law_told", "_law_many"] (spT K (dp2 (γ := L V) (fun (t : TQ) (n : Int) => (asRR t).Ok ∧ 0 ≤ n ∧ n ≤ 1000) fun t n => (List.range n.toNat).map (asRR t).T)) := ⟨⟨_, ok_lawtimes F_l_times m_range g_l_time, F_l_times.bindsN fun _ _ _ _ _ _ us hl => match us, hl with | [_, _], _ => rfl⟩, F_l_times.kp, He.glo_ok X G (c.fact 22 (f := .glo "_law_times") rfl)⟩
  have g_l_text : FnAt P w K mg base CX0 1 "_law_text" ["_law_told"] (spT K (dp1 TQ.small textOf)) := ⟨⟨_, ok_ltext F_l_text m_str, F_l_text.bindsN fun _ _ _ _ _ _ us hl => match us, hl with | [_], _ => rfl⟩, F_l_text.kp, He.glo_ok X G (c.fact 23 (f := .glo "_law_text") rfl)⟩
  have g_l_is_integer : FnAt P w K mg base CX0 1 "_law_is_integer" ["_law_word"] (spT K (dp1 (fun z : Str => z.length ≤ 100000 ∧ PyData.strOk z = true) fun z => (intIn z 12).isSome)) := ⟨⟨_, ok_lint F_l_is_integer m_len, F_l_is_integer.bindsN fun _ _ _ _ _ _ us hl => match us, hl with | [_], _ => rfl⟩, F_l_is_integer.kp, He.glo_ok X G (c.fact 24 (f := .glo "_law_is_integer") rfl)⟩
  have g_l_due : FnAt P w K mg base CX0 2 "_law_due" ["_law_line"] (spT K (dp1 (fun z : Str => z.length ≤ 15000 ∧ PyData.strOk z = true) fun z => dueS (Txt.split z " "))) := ⟨⟨_, ok_due F_l_due m_len m_int m_zip g_l_is_integer, F_l_due.bindsN fun _ _ _ _ _ _ us hl => match us, hl with | [_], _ => rfl⟩, F_l_due.kp, He.glo_ok X G (c.fact 25 (f := .glo "_law_due") rfl)⟩
  have g_l_heard : FnAt P w K mg base CX0 7 "_law_heard" ["_law_line"] (spT K (dp1 TX.small heardS)) := ⟨⟨_, ok_lheard F_l_heard m_InvalidText m_InvalidRow v_Row xc_InvalidText.2 nf_InvalidText_at f_k1 f_k2 f_k3 CM_Row_read, F_l_heard.bindsN fun _ _ _ _ _ _ us hl => match us, hl with | [_], _ => rfl⟩, F_l_heard.kp, He.glo_ok X G (c.fact 26 (f := .glo "_law_heard") rfl)⟩
  refine FnOk.imp (ok_law F_law m_range m_max m_min m_len m_str m_isinstance m_tuple RC T f_kS v_Row CM_Row_read g_eq_Row g_str_Row g_l_box (g_l_take.imp imp_take) (g_l_pick.imp imp_pick) (g_l_row.imp imp_row) g_l_made g_l_text g_l_heard g_l_due g_l_times g_Row_time g_empty) imp_law
end WW

open PySem PySem.W PySem.Calls PyProof.Rows
set_option maxRecDepth 100000 in
set_option maxHeartbeats 0 in
theorem PySem.Challenge.cw_waitworks_k04_texts_of_rows_holds : PySem.Challenge.rw_waitworks_k04_texts_of_rows.Holds := by
  w_on; o_law
  refine HandSHeadRun.head_any (r := OpenLaw.row PySem.Challenge.rw_waitworks_k04_texts_of_rows) (q := view (OpenLaw.row PySem.Challenge.rw_waitworks_k04_texts_of_rows).prog [37]) (H := WW.hk) (ob := WW.ob) (M := WW.steps) (loose := WW.loose) (d := HandSHeadRun.topDef (OpenLaw.row PySem.Challenge.rw_waitworks_k04_texts_of_rows).prog 37) (kwd := []) WW.ob_eq
    (by kernel_rfl) (fun s => by kernel_rfl) WW.run (by kernel_rfl) (by kernel_rfl) (by kernel_rfl) (by rfl) (by first | assumption | decide +kernel) (by decide +kernel) ⟨rfl, rfl, rfl, rfl, rfl, by decide +kernel⟩ ?hw ?hc
  case hw => w_witness2
  case hc =>
    refine L2.walk_ofE (l := PySem.Challenge.rw_waitworks_k04_texts_of_rows) (n := 63) (k := 8) (x := "_law_script") (CX := L2.CX0) rfl (by decide) (by kernel_rfl) ⟨rfl, by decide, by decide⟩ ?F (fun _ _ _ _ z => z)
    intro w mg fa h Y G hmg0
    obtain ⟨K, KX, c⟩ := Y
    have hmg : mg ("law" : PySem.Str) = some (.ref fa) := by
      have e : (HandSHeadRun.topDef (OpenLaw.row PySem.Challenge.rw_waitworks_k04_texts_of_rows).prog 37).name = ("law" : PySem.Str) := by kernel_rfl
      rw [← e]
      exact hmg0
    obtain ⟨fd, hb, hF⟩ := WW.facts (P := (PySem.Challenge.rw_waitworks_k04_texts_of_rows).prog) (w := w) KX G hmg c rfl (by kernel_rfl)
    exact ⟨K, fd, WW.spLaw K, KX, hb, fun H a ns hl _ hS => ⟨a, ns, rfl, hS, hl, fun _ => rfl⟩, hF⟩

