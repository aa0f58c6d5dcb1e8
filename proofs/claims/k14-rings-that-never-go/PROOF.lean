import PyProof.Rows.All
import Wide.All
import OpenK.AllK
import Wide.FinOn
import KE.KStateDown
import HandS.ForMost
import HandS.Defaults
import HandS.Property
import HandS.IsInst
import HandS.Star
import HandS.Evl
import HandS.Steps
import HandS.More
import HandS.Head0
import HandS.Head1
import HandS.Head2
import HandS.HeadEnd
import HandS.HeadHook1
import HandS.HeadHook2
import HandS.HeadHook3
import HandS.HeadHook4
import HandS.HeadNt
import KE.KCallOwn
import HandS.Text
import HandS.ExcInit
import HandS.ExcField
import HandS.ExcIs
import HandS.ExcSuper
import KE.KExcSuper
import KE.KSuper
import HandS.ExcOwn
import KE.KExcIs
import HandS.Style
import HandS.SortInts
import HandS.ClsMeth
import HandS.SetFor
import HandS.Deep
import HandS.TryMany
import HandS.Iter
import HandS.Strs
import HandS.SortRule
import KE.DatumOrd
import PyProof.Rows.StrMeet
import HandS.FStr
import HandS.DictComp
import HandS.RaiseMore
import PySem.Challenge.RW_waitworks_k14_rings_that_never_go
set_option Elab.async false
set_option linter.all false
set_option maxRecDepth 100000
set_option maxHeartbeats 4000000
namespace WW
open PySem PySem.Spec PyProof.Rows L2

/-! ### defs of the module by name -/
structure FnAt (P : Program) (w : World) (K : PySem.W.Frag) (mg : Str → Option Value) (base : Heap) (CX : CXT) (k : Nat) (x : Str) (ps : List Str) (sp : Sp) : Prop where
  ex : ∃ fd, FnOk P w K mg base CX k (He.ga K x) fd ps sp ∧ Binds K fd ps []
  kp : PySem.W.keepIn K (.ref (He.ga K x)) = true
  g : mg x = some (.ref (He.ga K x))
section
variable {X : Cx} {CX : CXT} {k j : Nat} {x : Str} {ps : List Str} {sp : Sp} {e : Expr} {es : List Expr} {t : TA} {p pos : Pos}
theorem pe_fn (F : FnAt X.prog X.w X.K X.mg X.base CX0 k x ps sp) (hr : Room j X.A) (hg : Gl X x) (ha : PA X (e :: es) t) (hk : k ≤ j := by decide)
    (hdb : (x == ("__debug__" : Str)) = false := by decide) (he : starEach (e :: es) X.env = (false, eval e X.env) :: starEach es X.env := by rfl) (hpl : (backTo pos (starEach es X.env)).any (·.1) = false := by rfl) :
    PE X (.Call (.Name x p) (e :: es) [] pos) (tCall sp [] E0 t) := by
  obtain ⟨fd, F1, b⟩ := F.ex
  exact pe_call F1 (hr.mono hk) hg F.g F.kp b .nil pass0 ha hdb he hpl
theorem pe_fn0 (F : FnAt X.prog X.w X.K X.mg X.base CX0 k x ps sp) (hr : Room j X.A) (hg : Gl X x) (hk : k ≤ j := by decide)
    (hdb : (x == ("__debug__" : Str)) = false := by decide) :
    PE X (.Call (.Name x p) [] [] pos) (tCall sp [] E0 tNil) := by
  obtain ⟨fd, F1, b⟩ := F.ex
  exact pe_call0 F1 (hr.mono hk) hg F.g F.kp b .nil pass0 hdb
end
/-! ### lists or tuples -/
def Sq (K : PySem.W.Frag) (H : Hp) (a : Addr) (xs : List V) : Prop := SqL K H a xs ∨ SqT K H a xs
theorem Sq.ex {K : PySem.W.Frag} {H H' : Hp} {a : Addr} {xs : List V} (e : Same H H') (h : Sq K H a xs) : Sq K H' a xs := by
  rcases h with h | h
  · exact .inl (Evl.ex_l e h)
  · exact .inr (Evl.ex_t e h)
theorem Sq.l {K : PySem.W.Frag} {H : Hp} {a : Addr} {xs : List V} (h : H a = some (.lst xs)) : Sq K H a xs := .inl (Evl.sq_of h)
theorem Sq.t {K : PySem.W.Frag} {H : Hp} {a : Addr} {xs : List V} (h : H a = some (.tup xs)) : Sq K H a xs := .inr (Evl.st_of h)
def rIxQ (K : PySem.W.Frag) : R2 := fun x y H Q => ∃ p xs i v, x = .ref p ∧ y = .int i ∧ Sq K H p xs ∧ atI xs i = some v ∧ Q v H
section
variable {X : Cx}
theorem ix_sq : IxR X (rIxQ X.K) := by
  intro value slice pins s σ H x y v u Q I rx ry h hs
  obtain ⟨p, xs, i, z, ex, ey, hq | hq, he, q⟩ := h
  · exact ix_list value slice pins s σ H x y v u Q I rx ry ⟨p, xs, i, z, ex, ey, hq, he, q⟩ hs
  · exact ix_tup value slice pins s σ H x y v u Q I rx ry ⟨p, xs, i, z, ex, ey, hq, he, q⟩ hs
/-- for .. in a list or a tuple -/
def iSeq (K : PySem.W.Frag) (tl : TE) : TI := fun σ H R => tl σ H fun x H1 => ∃ a, x = .ref a ∧ (((∃ xs, SqL K H1 a xs) ∧ R (Itl K a) H1) ∨ ((∃ xs, SqT K H1 a xs) ∧ R (Itt K a) H1))
theorem pi_seq {tg l : Expr} {tl : TE} (hl : PE X l tl) : PI X tg l (iSeq X.K tl) := by
  refine ⟨fun pins s0 σ H R I0 h0 => thn (hl.run pins s0 σ H _ I0 h0) fun v s ⟨x, Hx, I, rx, a, ex, qa⟩ => ?_⟩
  subst ex
  cases rx
  have sz : ∀ b ∈ [s.heap.objs.size], FpOk X pins Hx b := fun b hb => by
    rw [List.mem_singleton.mp hb]
    exact I.fpOk (Nat.le_refl _) (I.hok.fresh (Nat.le_refl _))
  rcases qa with ⟨⟨xs, hq⟩, qa⟩ | ⟨⟨xs, hq⟩, qa⟩
  · obtain ⟨its, _, pl, _⟩ := I.list hq
    exact wpAny_pyIter_list pl.isList ⟨_, [s.heap.objs.size], _, _, Hx, rfl, I.kept (t' := s.toks) fun b o eo => Heap.get?_push_of_some _ eo, turn_list a _, ⟨_, Heap.get?_push_size _ rfl, rfl, rfl⟩, sz, qa⟩
  · obtain ⟨its, _, pl, _⟩ := I.tuple hq
    exact wpAny_pyIter_tuple (show s.heap.IsTuple a its.toArray from pl) ⟨_, [s.heap.objs.size], _, _, Hx, rfl, I.kept (t' := s.toks) fun b o eo => Heap.get?_push_of_some _ eo, turn_tuple a _, ⟨_, Heap.get?_push_size _ rfl, rfl, rfl⟩, sz, qa⟩
end
theorem at_toNat {α : Type} {xs : List α} {d : Int} (h0 : 0 ≤ d) (h : d.toNat < xs.length) : atI xs d = some xs[d.toNat] := by
  have e : d = (d.toNat : Int) := by omega
  have q : atI xs (d.toNat : Int) = some xs[d.toNat] := atI_nat (List.getElem?_eq_getElem h)
  rw [← e] at q
  exact q
/-! ### a tuple's whole slice is the tuple -/
section
variable {prog : Program} {w : World} {A : Around} {E : Value → Shared → Prop} {s : Shared}
theorem tup_all {a c : Addr} {its : Array Value} {u1 u2 : Value} {lo hi : Option Int} {R : Value → Shared → Prop} (hT : IsTup s.heap a its) (hc : s.heap.IsSliceOf c u1 u2 .none) (p1 : IsPart u1 lo) (p2 : IsPart u2 hi)
    (hall : HT.sIx its.size 0 lo = 0 ∧ HT.sIx its.size its.size hi = its.size) (q : R (.ref a) s) : wpAny (model prog w) A (getItem (.ref a) (.ref c)) R E s := by
  obtain ⟨oc, e1, e2, e3⟩ := id hc
  have tc : s.TypeIs (.ref c) "slice" := ⟨oc, e1, e2⟩
  unfold getItem
  try with_reducible refine wpAny_holding ?_
  first | (refine wpAny_bind (wpAny_pure ?_)) | skip
  refine wpAny_bind (wpAny_sequenceKey hT.typeIs (by decide) ?_)
  refine wpAny_bind (wpAny_callSpecial?_slot (name := Str.ofString "__getitem__") hT.typeIs slot_tuple_getitem
    (wpAny_call_entry slot_tuple_getitem hT.typeIs PyProof.Rows.entry_tuple_getitem ?_ (PyProof.Rows.args_tuple_getitem _ _)))
  show wpAny _ _ (Builtin.Tuple.tupleItemsOf (.ref a) >>= _) _ _ s
  refine wpAny_bind (tupleItemsOf_ hT (wpAny_bind (wpAny_typeOf tc ?_)))
  rw [if_pos (by decide)]
  refine wpAny_bind (HT.sliceApplied_gen hc p1 p2 ?_)
  have hy : (((HT.sIx its.size 0 lo : Nat) : Int) == 0 && (1 : Int) == 1 && (HT.sIx its.size its.size hi - HT.sIx its.size 0 lo) == its.size) = true := by
    rw [hall.1, hall.2]
    simp
  show wpAny _ _ (if (((HT.sIx its.size 0 lo : Nat) : Int) == 0 && (1 : Int) == 1 && (HT.sIx its.size its.size hi - HT.sIx its.size 0 lo) == its.size) = true then _ else _) _ _ s
  rw [if_pos hy]
  unfold Builtin.Tuple.tupleIsExact
  refine wpAny_bind (wpAny_bind (wpAny_typeOf hT.typeIs (wpAny_pure ?_)))
  rw [if_pos (by decide)]
  refine wpAny_bind (wpAny_rule ?_)
  exact wpAny_pure ⟨_, rfl, wpAny_pure q⟩
end
/-! ### rules with the written part named -/
def rSlW (K : PySem.W.Frag) : V → Option Int → Option Int → Hp → VK → Prop := fun x lo hi H Q => ∃ a xs, x = .ref a ∧ SqT K H a xs ∧
  (HT.sIx xs.length 0 lo = 0 ∧ HT.sIx xs.length xs.length hi = xs.length) ∧ Q (.ref a) H
def rSlQ (K : PySem.W.Frag) : V → Option Int → Option Int → Hp → VK → Prop := fun x lo hi H Q => rSlL K x lo hi H Q ∨ rSlT K x lo hi H Q ∨ rSlW K x lo hi H Q
def rLenQ (K : PySem.W.Frag) : List V → Hp → VK → Prop := fun xs H Q => ∃ p ys, xs = [.ref p] ∧ Sq K H p ys ∧ Q (.int ys.length) H
def rListQ (K : PySem.W.Frag) : List V → Hp → VK → Prop := fun xs H Q => ∃ p ys, xs = [.ref p] ∧ Sq K H p ys ∧ ∀ l, H l = none → Q (.ref l) (upd H l (.lst ys))
inductive rTupQ (K : PySem.W.Frag) (xs : List V) (H : Hp) (Q : VK) : Prop
  | mk (h : ∃ p ys, xs = [.ref p] ∧ ((SqL K H p ys ∧ ∀ l, H l = none → Q (.ref l) (upd H l (.tup ys))) ∨ (SqT K H p ys ∧ Q (.ref p) H))) : rTupQ K xs H Q
section
variable {X : Cx}
theorem sl_whole : SlR X (rSlW X.K) := by
  intro pins s σ H x v vl vu lo hi sl Q I rx hs pl pu h
  obtain ⟨a, xs, rfl, hx, hw, q⟩ := h
  cases rx
  obtain ⟨its, r, hT, hz⟩ := I.tuple hx
  have hn : its.toArray.size = xs.length := by rw [List.size_toArray]; exact r.length.symm
  refine ⟨"tuple", _, slot_tuple_getitem.lookup, hT.typeIs, ?_⟩
  exact tup_all hT hs pl pu (by rw [hn]; exact hw) ⟨.ref a, H, I, rfl, q⟩
variable (K : PySem.W.Frag)
theorem ix_sqK (h : X.K = K := by rfl) : IxR X (rIxQ K) := by
  subst h
  exact ix_sq
theorem sl_sqK (h : X.K = K := by rfl) : SlR X (rSlQ K) := by
  subst h
  exact sl_list.or (sl_tup.or sl_whole)
theorem pi_seqK {tg l : Expr} {tl : TE} (hl : PE X l tl) (h : X.K = K := by rfl) : PI X tg l (iSeq K tl) := by
  subst h
  exact pi_seq hl
theorem call_lenK (h : X.K = K := by rfl) : CallR X (.builtin "len") (rLenQ K) := by
  subst h
  exact call_len_seq
theorem call_listK (h : X.K = K := by rfl) : CallR X (.type "list") (rListQ K) := by
  subst h
  exact call_list_of
theorem call_tupleK (h : X.K = K := by rfl) : CallR X (.type "tuple") (rTupQ K) := by
  subst h
  intro pins s σ H xs us Q I r ⟨q⟩
  exact call_tuple_of pins s σ H xs us Q I r q
theorem call_isiK1 (h : X.K = K := by rfl) : CallR X (.builtin "isinstance") (rIsi K) := by
  subst h
  exact call_isi
theorem call_isiTK (h : X.K = K := by rfl) : CallR X (.builtin "isinstance") (rIsiT K) := by
  subst h
  exact call_isiT
theorem cr_anyK (hc : X.calm = true := by rfl) (h : X.K = K := by rfl) : CallR X (.builtin "any") (rAny K) := by
  subst h
  exact cr_any hc
theorem cr_allK (hc : X.calm = true := by rfl) (h : X.K = K := by rfl) : CallR X (.builtin "all") (rAll K) := by
  subst h
  exact cr_all hc
theorem cr_maxK (hc : X.calm = true := by rfl) (h : X.K = K := by rfl) : CallR X (.builtin "max") (rMax K) := by
  subst h
  exact cr_max hc
theorem pa_starK {e : Expr} {es : List Expr} {p : Pos} {te : TE} {t : TA} (he : PE X e te) (hr : PA X es t) (h : X.K = K := by rfl) (hs : starEach (.Starred e p :: es) X.env = (true, eval e X.env) :: starEach es X.env := by rfl) : PA X (.Starred e p :: es) (StX.tStar K te t) := by
  subst h
  exact StX.pa_star he hr hs
theorem pe_fldK {e : Expr} {f : Str} {pos : Pos} {ta : TE} (he : PE X e ta) (hb : attributeBase e f X.env (eval e X.env) = eval e X.env) (h : X.K = K := by rfl) : PE X (.Attribute e f pos) (tFld K ta f) := by
  subst h
  exact pe_fld he hb
end
/-- o.f = .., as a target -/
def gFld (K : PySem.W.Frag) (ta : TE) (f : Str) : TG := fun v σ H Q => ta σ H fun x H1 => ∃ a C dx fs, x = .ref a ∧ H1 a = some (.ins C dx fs) ∧ Cls K C ∧ NoAttr K C f ∧ fs.length < 1000 ∧ Q σ (upd H1 a (.ins C dx (putF f v fs)))
theorem pg_fld {X : Cx} (K : PySem.W.Frag) {o : Expr} {f : Str} {pos : Pos} {ta : TE} (ho : PE X o ta) (hK : X.K = K := by rfl) : PG X (.Attribute o f pos) (gFld K ta f) := by
  subst hK
  refine ⟨fun pins s σ H v u Q I r h => ?_⟩
  rw [assign_Attribute]
  refine wpAny_bind (wpAny_holding (thn (ho.run pins s σ H _ I h) fun ov s1 ⟨x, H1, I1, r1, a, C, dx, fs, ex, ea, c, n, l, q⟩ => ?_))
  subst ex
  cases r1
  refine wpAny_bind (wpAny_standAt (wpAny_bind (wpAny_holding (setattr_ok I1 ea c n l r fun s2 I2 => ?_))))
  exact wpAny_release ⟨σ, _, I2, q⟩
theorem pg_tupK {X : Cx} (K : PySem.W.Frag) {es : List Expr} {k : Nat} {t : TGs} {n : Nat} {pos : Pos} (hc : X.calm = true) (h : PGs X es t)
    (hn : (assignEach es X.env).length = n := by rfl) (hst : (assignEach es X.env).findIdx? (·.1) = none := by rfl) (hK : X.K = K := by rfl) : PG X (.Tuple es k pos) (gTup K n t) := by
  subst hK
  exact pg_tup hc h hn hst
/-! ### making an object -/
structure MkAt (P : Program) (w : World) (K : PySem.W.Frag) (mg : Str → Option Value) (base : Heap) (CX : CXT) (k : Nat) (x : Str) (ps : List Str) (sp : Sp) (dvs : List V) : Prop where
  ex : ∃ f fd ds, Mk K (He.ga K x) f ∧ FnOk P w K mg base CX k f fd ps sp ∧ Vals dvs ds ∧ Binds K fd ps ds
  g : mg x = some (.ref (He.ga K x))
section
variable {X : Cx} {CX : CXT} {k j : Nat} {x : Str} {ps : List Str} {sp : Sp} {e : Expr} {es : List Expr} {t : TA} {p pos : Pos} {dvs : List V}
theorem pe_mkr (F : MkAt X.prog X.w X.K X.mg X.base CX0 k x ps sp dvs) (hr : Room j X.A) (hg : Gl X x) (ha : PA X (e :: es) t) (hk : k + 1 ≤ j := by decide)
    (hdb : (x == ("__debug__" : Str)) = false := by decide) (he : starEach (e :: es) X.env = (false, eval e X.env) :: starEach es X.env := by rfl) (hpl : (backTo pos (starEach es X.env)).any (·.1) = false := by rfl) :
    PE X (.Call (.Name x p) (e :: es) [] pos) (tMake (He.ga X.K x) sp dvs E0 t) := by
  obtain ⟨f, fd, ds, M, F1, v, b⟩ := F.ex
  exact pe_make M F1 (hr.mono hk) hg F.g b v pass0 ha hdb he hpl
end
/-! ### methods, properties -/
structure MthAt (P : Program) (w : World) (K : PySem.W.Frag) (mg : Str → Option Value) (base : Heap) (CX : CXT) (k : Nat) (C : Addr) (m : Str) (ps : List Str) (sp : Sp) : Prop where
  ex : ∃ f fd, Meth K C m f ∧ FnOk P w K mg base CX k f fd ps sp ∧ Binds K fd ps []
structure PrpAt (P : Program) (w : World) (K : PySem.W.Frag) (mg : Str → Option Value) (base : Heap) (CX : CXT) (k : Nat) (C : Addr) (m : Str) (ps : List Str) (sp : Sp) : Prop where
  ex : ∃ pr f fd, PropOf K C m pr f ∧ FnOk P w K mg base CX k f fd ps sp ∧ Binds K fd ps []
section
variable {X : Cx} {CX : CXT} {k j : Nat} {C : Addr} {m : Str} {ps : List Str} {sp : Sp} {o e : Expr} {es : List Expr} {ta : TE} {t : TA} {apos pos : Pos}
theorem pe_mth {pl : Sem Bool} (c : Cls X.K C) (F : MthAt X.prog X.w X.K X.mg X.base CX0 k C m ps sp) (hr : Room j X.A) (ho : PE X o ta) (ha : PA X (e :: es) t) (hk : k ≤ j := by decide)
    (hst : starEach (e :: es) X.env = (false, eval e X.env) :: starEach es X.env := by rfl) (hpl : (backTo pos (starEach es X.env)).any (·.1) = false := by rfl)
    (ht : eval (.Call (.Attribute o m apos) (e :: es) [] pos) X.env = (do let ov ← eval o X.env; standAt apos.atName; let (f, first) ← holding [ov] (getMethod ov m pl); callWith pos f first (backTo pos (starEach (e :: es) X.env)) (backToKw pos (keywordEach [] X.env))) := by rfl) : PE X (.Call (.Attribute o m apos) (e :: es) [] pos) (tMeth C m sp [] E0 ta t) := by
  obtain ⟨f, fd, M, F1, b⟩ := F.ex
  exact pe_meth ho c M F1 (hr.mono hk) b .nil pass0 ha hst hpl ht
theorem pe_mth0 {pl : Sem Bool} (c : Cls X.K C) (F : MthAt X.prog X.w X.K X.mg X.base CX0 k C m ps sp) (hr : Room j X.A) (ho : PE X o ta) (hk : k ≤ j := by decide)
    (ht : eval (.Call (.Attribute o m apos) [] [] pos) X.env = (do let ov ← eval o X.env; standAt apos.atName; let (f, first) ← holding [ov] (getMethod ov m pl); callWith pos f first (backTo pos (starEach [] X.env)) (backToKw pos (keywordEach [] X.env))) := by rfl) : PE X (.Call (.Attribute o m apos) [] [] pos) (tMeth C m sp [] E0 ta tNil) := by
  obtain ⟨f, fd, M, F1, b⟩ := F.ex
  exact pe_meth0 ho c M F1 (hr.mono hk) b .nil pass0 ht
theorem pe_prp (c : Cls X.K C) (F : PrpAt X.prog X.w X.K X.mg X.base CX0 k C m ps sp) (hr : Room j X.A) (ho : PE X o ta) (hk : k + 1 ≤ j := by decide)
    (hab : attributeBase o m X.env (eval o X.env) = eval o X.env := by rfl) : PE X (.Attribute o m pos) (tProp C sp [] E0 ta) := by
  obtain ⟨pr, f, fd, M, F1, b⟩ := F.ex
  exact pe_prop ho c M F1 (hr.mono hk) b .nil pass0 hab
theorem op_neDK (K : PySem.W.Frag) (hr : Room j X.A) (h : X.K = K := by rfl) : OpR X (compareOp .NotEq) (rNeD K) := by
  subst h
  exact op_neD (by have := hr.un; omega)
theorem op_eqDK (K : PySem.W.Frag) (hr : Room j X.A) (h : X.K = K := by rfl) : OpR X (compareOp .Eq) (rEqD K) := by
  subst h
  exact op_eqD (by have := hr.un; omega)
/-- repr of an integer, of nothing -/
inductive rRepr (xs : List V) (H : Hp) (Q : VK) : Prop
  | int (i : Int) (h : xs = [.int i]) (hz : i.natAbs.log2 < 1920) (q : Q (.str (toString i)) H) : rRepr xs H Q
  | non (h : xs = [.non]) (q : Q (.str "None") H) : rRepr xs H Q
theorem call_repr : CallR X (.builtin "repr") rRepr := by
  intro pins s σ H xs us Q I r h
  cases h with
  | int i h hz q =>
    subst h
    obtain ⟨u, rfl, t, rfl⟩ := vals1 r
    exact PySem.P.repr_of_int hz ⟨.str _, H, I.tok _, ⟨_, rfl⟩, q⟩
  | non h q =>
    subst h
    obtain ⟨u, rfl, rfl⟩ := vals1 r
    exact PySem.P.repr_of_none ⟨.str _, H, I.tok _, ⟨_, rfl⟩, q⟩
end
/-- a slice of a list or a tuple: some sequence of these items -/
theorem slq {K : PySem.W.Frag} {H : Hp} {a : Addr} {xs : List V} {lo hi : Option Int} {Q : VK} (h : Sq K H a xs) (k : ∀ p H', Same H H' → Sq K H' p (cutV xs lo hi) → Q (.ref p) H') : rSlQ K (.ref a) lo hi H Q := by
  have new : ∀ {o : HO} {p : Addr}, H p = none → Same H (upd H p o) := fun hp b u hb => (upd_ne (ne_of_none hb hp)).trans hb
  rcases h with h | h
  · exact .inl ⟨a, xs, rfl, h, fun p hp => k p _ (new hp) (.l upd_same)⟩
  · by_cases hw : HT.sIx xs.length 0 lo = 0 ∧ HT.sIx xs.length xs.length hi = xs.length
    · refine .inr (.inr ⟨a, xs, rfl, h, hw, k a H (Same.refl H) ?_⟩)
      have e : cutV xs lo hi = xs := by
        unfold cutV
        rw [hw.1, hw.2]
        simp
      rw [e]
      exact .inr h
    · exact .inr (.inl ⟨a, xs, rfl, h, hw, fun p hp => k p _ (new hp) (.t upd_same)⟩)
/-! ### the box of draws -/
def bx (x y z : Int) : HO := .lst [.int x, .int y, .int z]
def Box (H : Hp) (b : Addr) : Prop := ∃ x y z : Int, H b = some (bx x y z)
/-- take(box, many): a number below many; the box is another one -/
def spTake : Sp := fun vs H Q _ => ∃ (b : Addr) (m : Int), vs = [.ref b, .int m] ∧ Box H b ∧ 0 < m ∧ m < 1073741824 ∧
  ∀ x y z d : Int, 0 ≤ d → d < m → Q (.int d) (upd H b (bx x y z))
/-- pick(box, some) -/
def spPick (K : PySem.W.Frag) : Sp := fun vs H Q _ => ∃ (b l : Addr) (xs : List V), vs = [.ref b, .ref l] ∧ Box H b ∧ Sq K H l xs ∧ l ≠ b ∧ 0 < xs.length ∧ xs.length < 1000 ∧
  ∀ (x y z : Int) (v : V), v ∈ xs → Q v (upd H b (bx x y z))
theorem Sq.upd {K : PySem.W.Frag} {H : Hp} {a b : Addr} {o : HO} {xs : List V} (hn : a ≠ b) (h : Sq K H a xs) : Sq K (upd H b o) a xs := by
  rcases h with h | h
  · rcases h with h | h
    · refine .inl (.inl ?_)
      rcases h with h | ⟨u, h⟩
      · exact .inl ((upd_ne hn).trans h)
      · exact .inr ⟨u, (upd_ne hn).trans h⟩
    · exact .inl (.inr h)
  · rcases h with h | h
    · refine .inr (.inl ?_)
      rcases h with h | ⟨u, h⟩
      · exact .inl ((upd_ne hn).trans h)
      · exact .inr ⟨u, (upd_ne hn).trans h⟩
    · exact .inr (.inr h)

/-! ### values -/
def isIntV : V → Bool
  | .int _ => true
  | _ => false
/-- what isinstance tells of a value: whether it is an integer, whether it is a list or a tuple -/
def HasT (K : PySem.W.Frag) (H : Hp) (x : V) (sq : Bool) : Prop := ∃ (t : Value) (b1 b2 : Bool), TyX K H x t ∧ PySem.W.kitOne K t (.type "int") = some b1 ∧ PySem.W.kitOne K t (.type "bool") = some b2 ∧ (b1 && !b2) = isIntV x ∧
  PySem.W.kitAny K t [.type "list", .type "tuple"] = some sq
section
variable {K : PySem.W.Frag} {H : Hp}
theorem hasT_non : HasT K H .non false := ⟨_, false, false, .base .non, kit_ty (by decide +kernel), kit_ty (by decide +kernel), rfl, by rw [kitAny_cons (kit_ty (b := "list") (r := false) (by decide +kernel)) (fun _ => kitAny_cons (kit_ty (b := "tuple") (r := false) (by decide +kernel)) (fun _ => rfl) (fun z => nomatch z)) (fun z => nomatch z)]⟩
theorem hasT_bl (b : Bool) : HasT K H (.bl b) false := ⟨_, true, true, .base (.bl b), kit_ty (by decide +kernel), kit_ty (by decide +kernel), rfl, by rw [kitAny_cons (kit_ty (b := "list") (r := false) (by decide +kernel)) (fun _ => kitAny_cons (kit_ty (b := "tuple") (r := false) (by decide +kernel)) (fun _ => rfl) (fun z => nomatch z)) (fun z => nomatch z)]⟩
theorem hasT_int (i : Int) : HasT K H (.int i) false := ⟨_, true, false, .base (.int i), kit_ty (by decide +kernel), kit_ty (by decide +kernel), rfl, by rw [kitAny_cons (kit_ty (b := "list") (r := false) (by decide +kernel)) (fun _ => kitAny_cons (kit_ty (b := "tuple") (r := false) (by decide +kernel)) (fun _ => rfl) (fun z => nomatch z)) (fun z => nomatch z)]⟩
theorem hasT_str (z : Str) : HasT K H (.str z) false := ⟨_, false, false, .base (.str z), kit_ty (by decide +kernel), kit_ty (by decide +kernel), rfl, by rw [kitAny_cons (kit_ty (b := "list") (r := false) (by decide +kernel)) (fun _ => kitAny_cons (kit_ty (b := "tuple") (r := false) (by decide +kernel)) (fun _ => rfl) (fun z => nomatch z)) (fun z => nomatch z)]⟩
theorem hasT_l {x : V} (h : TyX K H x (.type "list")) (hx : isIntV x = false) : HasT K H x true := ⟨_, false, false, h, kit_ty (by decide +kernel), kit_ty (by decide +kernel), hx.symm, by rw [kitAny_cons (kit_ty (b := "list") (r := true) (by decide +kernel)) (fun z => nomatch z) (fun z => rfl)]⟩
theorem hasT_t {x : V} (h : TyX K H x (.type "tuple")) (hx : isIntV x = false) : HasT K H x true := ⟨_, false, false, h, kit_ty (by decide +kernel), kit_ty (by decide +kernel), hx.symm, by rw [kitAny_cons (kit_ty (b := "list") (r := false) (by decide +kernel)) (fun _ => kitAny_cons (kit_ty (b := "tuple") (r := true) (by decide +kernel)) (fun z => nomatch z) (fun z => rfl)) (fun z => nomatch z)]⟩
theorem Sq.hasT {a : Addr} {xs : List V} (h : Sq K H a xs) : HasT K H (.ref a) true := by
  rcases h with h | h
  · refine hasT_l ?_ rfl
    rcases h with (h | ⟨o, h⟩) | ⟨o, its, n, h1, h2, _⟩
    · exact .base (.lst h)
    · exact .base (.frz h)
    · exact .kList h1 h2
  · refine hasT_t ?_ rfl
    rcases h with (h | ⟨o, h⟩) | ⟨o, its, n, h1, h2, _⟩
    · exact .base (.tup h)
    · exact .fTuple h
    · exact .kTuple h1 h2
end
theorem tyx_same {K : PySem.W.Frag} {H H' : Hp} {x : V} {t : Value} (e : Same H H') (h : TyX K H x t) : TyX K H' x t := by
  cases h with
  | base b =>
    cases b with
    | non => exact .base .non
    | bl y => exact .base (.bl y)
    | int i => exact .base (.int i)
    | str y => exact .base (.str y)
    | flt y => exact .base (.flt y)
    | lst ea => exact .base (.lst (e _ _ ea))
    | frz ea => exact .base (.frz (e _ _ ea))
    | tup ea => exact .base (.tup (e _ _ ea))
    | dK ea => exact .base (.dK (e _ _ ea))
    | dT ea => exact .base (.dT (e _ _ ea))
    | ins ea cl ha hn htk hm => exact .base (.ins (e _ _ ea) cl ha hn htk hm)
  | byt y => exact .byt y
  | set ea => exact .set (e _ _ ea)
  | kList a c => exact .kList a c
  | kTuple a c => exact .kTuple a c
  | kDict a c => exact .kDict a c
  | fTuple ea => exact .fTuple (e _ _ ea)
  | fDict ea => exact .fDict (e _ _ ea)
theorem HasT.ex {K : PySem.W.Frag} {H H' : Hp} {x : V} {sq : Bool} (e : Same H H') (h : HasT K H x sq) : HasT K H' x sq := by
  obtain ⟨t, b1, b2, ty, r⟩ := h
  exact ⟨t, b1, b2, tyx_same e ty, r⟩
/-! ### readings opened one step -/
section
variable {σ : L2.St} {H : Hp} {Q : VK} {D : Ends} {te : TE} {t : TA} {tu tz : TS} {g : TG} {r : List V → Hp → VK → Prop}
theorem q_seq (h : tu { D with nx := tz D } σ H) : tSeq tu tz D σ H := h
theorem q_asg (h : te σ H (fun x H1 => g x σ H1 D.nx)) : tAsg te g D σ H := h
theorem q_if {tc : TT} (h : tc σ H (fun c H1 => if c = true then tu D σ H1 else tz D σ H1)) : tIfS tc tu tz D σ H := h
theorem q_name {i : Nat} {v : V} {R : L2.St → Hp → Prop} (h : R (σ.set i (some v)) H) : gName i v σ H R := h
theorem q_ret (h : te σ H D.rt) : tRet te D σ H := h
theorem q_cb (h : t σ H (fun vs H1 => r vs H1 Q)) : tCB r t σ H Q := h
theorem q_one {R : List V → Hp → Prop} (h : te σ H (fun x H1 => R [x] H1)) : tCons te tNil σ H R := h
theorem q_cons {R : List V → Hp → Prop} (h : te σ H (fun x H1 => t σ H1 fun xs H2 => R (x :: xs) H2)) : tCons te t σ H R := h
theorem q_call {sp : Sp} {dvs : List V} {E : XK} (h : t σ H (fun vs H1 => sp (vs ++ dvs) H1 Q E)) : tCall sp dvs E t σ H Q := h
end
/-! ### comprehensions -/
theorem wipe1 {σ : L2.St} {j : Nat} {x : Option V} : wipe ((wipe σ [j]).set j x) [j] = wipe σ [j] := by
  show ((σ.set j none).set j x).set j none = σ.set j none
  rw [List.set_set, List.set_set]
theorem same_app {H H' : Hp} {D : Addr} {xs : List V} (e : Same H H') (h : H D = none) : Same H (upd H' D (.lst xs)) := fun a o ha => by
  rw [upd_ne (ne_of_none ha h)]
  exact e a o ha
/-- [e for x in xs], e a value of x; xs evaluated on the way -/
theorem lc_sqG {K : PySem.W.Frag} {σ : L2.St} {H : Hp} {Q : VK} {tl te : TE} {j : Nat} {xs : List V} (φ : V → V) (hv : ∀ R : VK, (∀ a H', Same H H' → Sq K H' a xs → R (.ref a) H') → tl σ H R) (hl : xs.length ≤ 100000)
    (he : ∀ x ∈ xs, ∀ H1, Same H H1 → ∀ R : VK, (∀ H2, Same H1 H2 → R (φ x) H2) → te ((wipe σ [j]).set j (some x)) H1 R)
    (k : ∀ D H', Same H H' → H D = none → H' D = some (.lst (xs.map φ)) → Q (.ref D) H') : tLc (iSeq K tl) (gName j) tYes te [j] σ H Q := by
  refine hv _ fun a H0 s0 hq => ⟨a, rfl, ?_⟩
  have turn : ∀ (D : Addr), H0 D = none → ∀ i x Hc, xs[i]? = some x → (Same H0 Hc ∧ Hc D = some (.lst ((xs.take i).map φ))) → gName j x (wipe σ [j]) Hc fun σ2 H2 => wipe σ2 [j] = wipe σ [j] ∧ tYes σ2 H2 fun b H3 =>
      if b = true then te σ2 H3 fun y H4 => ∃ acc, H4 D = some (.lst acc) ∧ acc.length < sizeLine ∧ (Same H0 (upd H4 D (.lst (acc ++ [y]))) ∧ (upd H4 D (.lst (acc ++ [y]))) D = some (.lst ((xs.take (i + 1)).map φ))) else (Same H0 H3 ∧ H3 D = some (.lst ((xs.take (i + 1)).map φ))) := by
    intro D hD i x Hc hx ⟨sm, hd⟩
    refine ⟨wipe1, ?_⟩
    refine he x (List.mem_of_getElem? hx) Hc (s0.trans sm) _ fun H2 s2 => ⟨_, s2 _ _ hd, ?_, same_app (sm.trans s2) hD, ?_⟩
    · rw [List.length_map, List.length_take]
      exact Nat.lt_of_le_of_lt (Nat.le_trans (Nat.min_le_right _ _) hl) (by decide)
    · rw [upd_same, List.take_add_one, hx, List.map_append]
      rfl
  rcases hq with hq | hq
  · refine .inl ⟨⟨xs, hq⟩, fun D hD => ?_⟩
    refine lc_list (K := K) (a := a) (xs := xs) (fun i Hc => Same H0 Hc ∧ Hc D = some (.lst ((xs.take i).map φ))) ⟨same_app (Same.refl H0) hD, upd_same⟩ (fun i Hc _ p => Evl.ex_l p.1 hq) (turn D hD) fun Hc p => ?_
    rw [List.take_length] at p
    exact k D Hc (s0.trans p.1) (s0.free hD) p.2
  · refine .inr ⟨⟨xs, hq⟩, fun D hD => ?_⟩
    refine lc_tup (K := K) (a := a) (xs := xs) (fun i Hc => Same H0 Hc ∧ Hc D = some (.lst ((xs.take i).map φ))) ⟨same_app (Same.refl H0) hD, upd_same⟩ (fun i Hc _ p => Evl.ex_t p.1 hq) (turn D hD) fun Hc p => ?_
    rw [List.take_length] at p
    exact k D Hc (s0.trans p.1) (s0.free hD) p.2
theorem lc_sq {K : PySem.W.Frag} {σ : L2.St} {H : Hp} {Q : VK} {tl te : TE} {a : Addr} {j : Nat} {xs : List V} (φ : V → V) (hv : ∀ R : VK, R (.ref a) H → tl σ H R) (hq : Sq K H a xs) (hl : xs.length ≤ 100000)
    (he : ∀ x ∈ xs, ∀ H1, Same H H1 → ∀ R : VK, (∀ H2, Same H1 H2 → R (φ x) H2) → te ((wipe σ [j]).set j (some x)) H1 R)
    (k : ∀ D H', Same H H' → H D = none → H' D = some (.lst (xs.map φ)) → Q (.ref D) H') : tLc (iSeq K tl) (gName j) tYes te [j] σ H Q :=
  lc_sqG φ (fun R r => hv R (r a H (Same.refl H) hq)) hl he k
/-- [e for x in range(..)] -/
theorem lc_rg {σ : L2.St} {H : Hp} {Qd : Hp → Prop} {te : TE} {j n : Nat} {lo : Int} {D : Addr} (φ : Nat → V) (hl : n ≤ 100000) (hD : H D = none)
    (he : ∀ i, i < n → ∀ H1, Same H H1 → ∀ R : VK, (∀ H2, Same H1 H2 → R (φ i) H2) → te ((wipe σ [j]).set j (some (.int (lo + i)))) H1 R)
    (k : ∀ H', Same H H' → H' D = some (.lst ((List.range n).map φ)) → Qd H') :
    ∃ W : Nat → Nat → Hp → Prop, (∃ m, W 0 m (upd H D (.lst []))) ∧ ∀ i m H, W i m H →
      ((Itr lo n).stop i H ∧ Qd H) ∨ ((Itr lo n).go i H ∧ ∃ Nx : Hp → Prop, (∀ H', Nx H' → ∃ m', m' < m ∧ W (i + 1) m' H') ∧ ∀ x H', (Itr lo n).yld i H x H' → gName j x (wipe σ [j]) H' fun σ2 H2 => wipe σ2 [j] = wipe σ [j] ∧ tYes σ2 H2 fun b H3 =>
        if b = true then te σ2 H3 fun y H4 => ∃ acc, H4 D = some (.lst acc) ∧ acc.length < sizeLine ∧ Nx (upd H4 D (.lst (acc ++ [y]))) else Nx H3) := by
  refine lc_range (fun i Hc => Same H Hc ∧ Hc D = some (.lst ((List.range i).map φ))) ⟨same_app (Same.refl H) hD, upd_same⟩ (fun i Hc hi ⟨sm, hd⟩ => ⟨wipe1, ?_⟩) fun Hc p => k Hc p.1 p.2
  refine he i hi Hc sm _ fun H2 s2 => ⟨_, s2 _ _ hd, ?_, same_app (sm.trans s2) hD, ?_⟩
  · rw [List.length_map, List.length_range]
    exact Nat.lt_of_lt_of_le (Nat.lt_of_lt_of_le hi hl) (by decide)
  · rw [upd_same, List.range_succ, List.map_append]
    rfl
/-- [e for x in range(..) if test] -/
theorem lc_rgF {σ : L2.St} {H : Hp} {Qd : Hp → Prop} {tt : TT} {te : TE} {j n : Nat} {lo : Int} {D : Addr} (p : Nat → Bool) (φ : Nat → V) (hl : n ≤ 100000) (hD : H D = none)
    (ht : ∀ i, i < n → ∀ H1, Same H H1 → ∀ R : Bool → Hp → Prop, (∀ H2, Same H1 H2 → R (p i) H2) → tt ((wipe σ [j]).set j (some (.int (lo + i)))) H1 R)
    (he : ∀ i, i < n → ∀ H1, Same H H1 → ∀ R : VK, (∀ H2, Same H1 H2 → R (φ i) H2) → te ((wipe σ [j]).set j (some (.int (lo + i)))) H1 R)
    (k : ∀ H', Same H H' → H' D = some (.lst (((List.range n).filter p).map φ)) → Qd H') :
    ∃ W : Nat → Nat → Hp → Prop, (∃ m, W 0 m (upd H D (.lst []))) ∧ ∀ i m H, W i m H →
      ((Itr lo n).stop i H ∧ Qd H) ∨ ((Itr lo n).go i H ∧ ∃ Nx : Hp → Prop, (∀ H', Nx H' → ∃ m', m' < m ∧ W (i + 1) m' H') ∧ ∀ x H', (Itr lo n).yld i H x H' → gName j x (wipe σ [j]) H' fun σ2 H2 => wipe σ2 [j] = wipe σ [j] ∧ tt σ2 H2 fun b H3 =>
        if b = true then te σ2 H3 fun y H4 => ∃ acc, H4 D = some (.lst acc) ∧ acc.length < sizeLine ∧ Nx (upd H4 D (.lst (acc ++ [y]))) else Nx H3) := by
  refine lc_range (fun i Hc => Same H Hc ∧ Hc D = some (.lst (((List.range i).filter p).map φ))) ⟨same_app (Same.refl H) hD, upd_same⟩ (fun i Hc hi ⟨sm, hd⟩ => ⟨wipe1, ?_⟩) fun Hc q => k Hc q.1 q.2
  refine ht i hi Hc sm _ fun H1 s1 => ?_
  cases hp : p i with
  | false =>
    refine ⟨sm.trans s1, ?_⟩
    rw [List.range_succ, List.filter_append, List.filter_cons, if_neg (by rw [hp]; decide), List.filter_nil, List.append_nil]
    exact s1 _ _ hd
  | true =>
    refine he i hi H1 (sm.trans s1) _ fun H2 s2 => ⟨_, s2 _ _ (s1 _ _ hd), ?_, same_app ((sm.trans s1).trans s2) hD, ?_⟩
    · rw [List.length_map]
      have e := List.length_filter_le p (List.range i)
      rw [List.length_range] at e
      exact Nat.lt_of_le_of_lt e (Nat.lt_of_lt_of_le (Nat.lt_of_lt_of_le hi hl) (by decide))
    · rw [upd_same, List.range_succ, List.filter_append, List.filter_cons, if_pos hp, List.filter_nil, List.map_append]
      rfl
/-- [x for x in xs if test] -/
theorem lc_sqF {K : PySem.W.Frag} {σ : L2.St} {H : Hp} {Q : VK} {tl te : TE} {tt : TT} {j : Nat} {xs : List V} (p : V → Bool) (hv : ∀ R : VK, (∀ a H', Same H H' → Sq K H' a xs → R (.ref a) H') → tl σ H R) (hl : xs.length ≤ 100000)
    (ht : ∀ x ∈ xs, ∀ H1, Same H H1 → ∀ R : Bool → Hp → Prop, (∀ H2, Same H1 H2 → R (p x) H2) → tt ((wipe σ [j]).set j (some x)) H1 R)
    (he : ∀ x ∈ xs, ∀ H1, Same H H1 → ∀ R : VK, (∀ H2, Same H1 H2 → R x H2) → te ((wipe σ [j]).set j (some x)) H1 R)
    (k : ∀ D H', Same H H' → H D = none → H' D = some (.lst (xs.filter p)) → Q (.ref D) H') : tLc (iSeq K tl) (gName j) tt te [j] σ H Q := by
  refine hv _ fun a H0 s0 hq => ⟨a, rfl, ?_⟩
  have turn : ∀ (D : Addr), H0 D = none → ∀ i x Hc, xs[i]? = some x → (Same H0 Hc ∧ Hc D = some (.lst ((xs.take i).filter p))) → gName j x (wipe σ [j]) Hc fun σ2 H2 => wipe σ2 [j] = wipe σ [j] ∧ tt σ2 H2 fun b H3 =>
      if b = true then te σ2 H3 fun y H4 => ∃ acc, H4 D = some (.lst acc) ∧ acc.length < sizeLine ∧ (Same H0 (upd H4 D (.lst (acc ++ [y]))) ∧ (upd H4 D (.lst (acc ++ [y]))) D = some (.lst ((xs.take (i + 1)).filter p))) else (Same H0 H3 ∧ H3 D = some (.lst ((xs.take (i + 1)).filter p))) := by
    intro D hD i x Hc hx ⟨sm, hd⟩
    refine ⟨wipe1, ?_⟩
    have mx := List.mem_of_getElem? hx
    refine ht x mx Hc (s0.trans sm) _ fun H1 s1 => ?_
    cases hp : p x with
    | false =>
      refine ⟨sm.trans s1, ?_⟩
      rw [List.take_add_one, hx, List.filter_append]
      show H1 D = some (.lst ((xs.take i).filter p ++ [x].filter p))
      rw [List.filter_cons, if_neg (by rw [hp]; decide), List.filter_nil, List.append_nil]
      exact s1 _ _ hd
    | true =>
      refine he x mx H1 (s0.trans (sm.trans s1)) _ fun H2 s2 => ⟨_, s2 _ _ (s1 _ _ hd), ?_, same_app ((sm.trans s1).trans s2) hD, ?_⟩
      · have e := List.length_filter_le p (xs.take i)
        rw [List.length_take] at e
        exact Nat.lt_of_le_of_lt (Nat.le_trans e (Nat.le_trans (Nat.min_le_right _ _) hl)) (by decide)
      · rw [upd_same, List.take_add_one, hx, List.filter_append]
        show some (HO.lst ((xs.take i).filter p ++ [x])) = some (.lst ((xs.take i).filter p ++ [x].filter p))
        rw [List.filter_cons, if_pos hp, List.filter_nil]
  rcases hq with hq | hq
  · refine .inl ⟨⟨xs, hq⟩, fun D hD => ?_⟩
    refine lc_list (K := K) (a := a) (xs := xs) (fun i Hc => Same H0 Hc ∧ Hc D = some (.lst ((xs.take i).filter p))) ⟨same_app (Same.refl H0) hD, upd_same⟩ (fun i Hc _ r => Evl.ex_l r.1 hq) (turn D hD) fun Hc r => ?_
    rw [List.take_length] at r
    exact k D Hc (s0.trans r.1) (s0.free hD) r.2
  · refine .inr ⟨⟨xs, hq⟩, fun D hD => ?_⟩
    refine lc_tup (K := K) (a := a) (xs := xs) (fun i Hc => Same H0 Hc ∧ Hc D = some (.lst ((xs.take i).filter p))) ⟨same_app (Same.refl H0) hD, upd_same⟩ (fun i Hc _ r => Evl.ex_t r.1 hq) (turn D hD) fun Hc r => ?_
    rw [List.take_length] at r
    exact k D Hc (s0.trans r.1) (s0.free hD) r.2
theorem same_new {H : Hp} {p : Addr} {o : HO} (h : H p = none) : Same H (upd H p o) := fun _ _ ha => (upd_ne (ne_of_none ha h)).trans ha
/-! ### the head's facts -/
section
def obsW (n : Nat) (fa : List He.Fa) (fn : List He5.DefA) (ex : PySem.W.Frag → Bool) (g : Addr → Option Obj) : He.AlD × Bool := (He5.obsA fa fn (He.frG g (He.asD g n)), ex (He.frG g (He.asD g n)))
def SaysW (fa : List He.Fa) (fn : List He5.DefA) (ex : PySem.W.Frag → Bool) (K : PySem.W.Frag) : Prop := He5.SaysA fa fn K ∧ ex K = true
def hookW (n : Nat) (fa : List He.Fa) (fn : List He5.DefA) (ex : PySem.W.Frag → Bool) : PySem.W.Hook where
  α := He.AlD × Bool
  obs := fun s => obsW n fa fn ex s.heap.get?
  val := fun _ => (He5.valA fn, true)
  says := fun _ h => ∃ K : PySem.W.Frag, K.In h ∧ SaysW fa fn ex K
  of := fun _ s e => ⟨He.frG s.heap.get? (He.asD s.heap.get? n), He.frG_in, congrArg Prod.fst e, congrArg Prod.snd e⟩
  keeps := fun _ _ _ ⟨K, hK, c⟩ k => ⟨K, PySem.W.Frag.In.keeps hK k, c⟩
theorem obsW_eq {n : Nat} {fa : List He.Fa} {fn : List He5.DefA} {ex : PySem.W.Frag → Bool} {g : Addr → Option Obj} {s : Shared} (h : ∀ a, g a = s.heap.get? a) : obsW n fa fn ex g = (hookW n fa fn ex).obs s := by
  rw [show g = s.heap.get? from funext h]
  rfl
/-- a property of a class, as the head tells it -/
def propB (K : PySem.W.Frag) (C : Addr) (f : Str) : Bool :=
  He.eqO (PySem.W.findIn K (.ref C) f) (some (some (.ref (He.ma K C f)))) && (He.eqO (PySem.W.specialIn K (.ref (He.ma K C f)) "__get__") (some (some (.builtin "property.__get__"))) && (decide (PySem.W.takesIn K (.ref (He.ma K C f)) = some true) &&
    (match PySem.W.recIn K (He.ma K C f) "property" with
      | some (.ref _ :: _) => true
      | _ => false)))
theorem propB_ok {K : PySem.W.Frag} {C : Addr} {f : Str} (h : propB K C f = true) : PropOf K C f (He.ma K C f) (He5.wf K C "property" f) := by
  obtain ⟨h1, h⟩ := He.ba h
  obtain ⟨h2, h⟩ := He.ba h
  obtain ⟨h3, h4⟩ := He.ba h
  refine ⟨He.eqO_ok h1, He.eqO_ok h2, of_decide_eq_true h3, ?_⟩
  unfold He5.wf
  revert h4
  cases e : PySem.W.recIn K (He.ma K C f) "property" with
  | none => exact fun z => nomatch z
  | some l =>
    cases l with
    | nil => exact fun z => nomatch z
    | cons v r =>
      cases v with
      | ref g => exact fun _ => ⟨r, rfl⟩
      | _ => exact fun z => nomatch z
end
section
variable {X : Cx} {o e : Expr} {es : List Expr} {to : TE} {t : TA} {name : Str} {apos cpos : Pos} {T id : String} {r : V → List V → Hp → VK → Prop}
theorem pe_bm0K (K : PySem.W.Frag) (pa : PlainAttrs T) (slot : Slot T name id) (hty : typeOf (.builtin id) = pure (.type "method_descriptor")) (hm : MtR X id r) (ho : PE X o to)
    (hbase : attributeBase o name X.env (eval o X.env) = eval o X.env := by rfl) (hline : (apos.endLine == cpos.line) = true := by rfl) (hK : X.K = K := by rfl) : PE X (.Call (.Attribute o name apos) [] [] cpos) (tBM0 K T r to) := by
  subst hK
  exact pe_bm0 pa slot hty hm ho hbase hline
theorem pe_bmK (K : PySem.W.Frag) (pa : PlainAttrs T) (slot : Slot T name id) (hty : typeOf (.builtin id) = pure (.type "method_descriptor")) (hm : MtR X id r) (ho : PE X o to) (ha : PA X (e :: es) t)
    (hbase : attributeBase o name X.env (eval o X.env) = eval o X.env := by rfl)
    (hfew : ((backTo cpos (starEach (e :: es) X.env)).all (fun x => !x.1) && (backToKw cpos (keywordEach [] X.env)).all (fun x => x.1.isSome)
      && decide ((e :: es).length + ([] : List Keyword).length + (if ([] : List Keyword).isEmpty then 0 else 1) < 30)) = true := by rfl)
    (hline : (apos.endLine == cpos.line) = true := by rfl) (hs : starEach (e :: es) X.env = (false, eval e X.env) :: starEach es X.env := by rfl) (hplain : (backTo cpos (starEach es X.env)).any (·.1) = false := by rfl) (hK : X.K = K := by rfl) :
    PE X (.Call (.Attribute o name apos) (e :: es) [] cpos) (tBM K T r to t) := by
  subst hK
  exact pe_bm pa slot hty hm ho ha hbase hfew hline hs hplain
end
end WW

set_option Elab.async false
set_option linter.all false
set_option maxRecDepth 100000
set_option maxHeartbeats 4000000
namespace WW
open PySem PySem.Spec PyProof.Rows L2
/-! ### == and != by an own __eq__ -/
section
variable {X : Cx} {CX : CXT} {k : Nat} {C f : Addr} {fd : FuncData} {ps : List Str} {sp : Sp}
/-- the def at f called with two values, somewhere below the body -/
theorem run2 {A : Around} {pins : List (Addr × Obj)} {σ : L2.St} {H : Hp} {s : Shared} {Q : VK} {x y : V} {u v : Value} (F : FnOk X.prog X.w X.K X.mg X.base CX0 k f fd ps sp) (hA : Room k A) (hf : A.frames = X.A.frames) (b : Binds X.K fd ps [])
    (I : Inv X pins σ H s) (rx : RelV x u) (ry : RelV y v) (h : sp [x, y] H Q E0) : wpAny (model X.prog X.w) A (call (.ref f) [u, v]) (EP X pins σ Q) X.xe s := by
  have i0 := I.env0
  have i1 : Env0 X.prog X.w X.K X.mg X.base A X.stack s H := ⟨hf.trans i0.frames, i0.mod, i0.bs, i0.bsz, i0.funs, i0.frf, i0.hok, i0.bare⟩
  have n2 : [u, v].length = ps.length := (show [u, v].length = [x, y].length from rfl).trans (F.len _ _ _ _ h)
  have bt : BindsTo s fd ⟨[u, v], []⟩ (ps.zip [u, v]) := by
    have z := b s [u, v] I.kIn (by rw [List.append_nil]; exact n2)
    rw [List.append_nil] at z
    exact z
  refine wpAny_call (codeAny_mono (F.run A X.stack s H ⟨[u, v], []⟩ [u, v] [x, y] Q E0 hA i1 bt (.cons rx (.cons ry .nil)) h) fun r s' hq => ?_)
  cases r with
  | error e => exact (pass0 (X := X) pins σ H s e s' I hq)
  | ok fl =>
    cases fl with
    | ret z => exact I.after hq
    | next => exact hq.elim
    | brk => exact hq.elim
    | cont => exact hq.elim
/-- the class at C has its own __eq__ (at f) and no __ne__ -/
structure EqC (K : PySem.W.Frag) (C f : Addr) : Prop where
  eq : PySem.W.findIn K (.ref C) "__eq__" = some (some (.ref f))
  fn : PySem.W.isFn K (.ref f) = true
  ne : PySem.W.findIn K (.ref C) "__ne__" = some (some (.builtin "object.__ne__"))
  ob : PySem.W.mroIn K C (.type "object") = some true
structure EqAtC (P : Program) (w : World) (K : PySem.W.Frag) (mg : Str → Option Value) (base : Heap) (CX : CXT) (k : Nat) (C : Addr) (ps : List Str) (sp : Sp) : Prop where
  ex : ∃ f fd, EqC K C f ∧ FnOk P w K mg base CX k f fd ps sp ∧ Binds K fd ps []
/-- x == y, x != y, x an instance of the class at C -/
inductive rOwn (K : PySem.W.Frag) (C : Addr) (sp : Sp) (neg : Bool) (x y : V) (H : Hp) (Q : VK) : Prop
  | mk (a dx : Addr) (fs : List (Str × V)) (t : Value) (e : x = .ref a) (ha : H a = some (.ins C dx fs)) (ht : TyX K H y t) (hn : PySem.W.notFirst K C t = true) (h : sp [x, y] H (fun v H' => ∃ b, v = .bl b ∧ Q (.bl (if neg then !b else b)) H') E0) : rOwn K C sp neg x y H Q
theorem op_eqO (K : PySem.W.Frag) {j : Nat} (F : EqAtC X.prog X.w X.K X.mg X.base CX0 k C ps sp) (hr : Room j X.A) (hk : k ≤ j := by decide) (hK : X.K = K := by rfl) : OpR X (compareOp .Eq) (rOwn K C sp false) := by
  subst hK
  obtain ⟨f, fd, ec, FN, b⟩ := F.ex
  intro pins s σ H x y u v Q I rx ry h
  cases h with
  | mk a dx fs t e ha ht hn h =>
    subst e
    cases rx
    obtain ⟨mA, O, _⟩ := ins_get I.hok ha
    obtain ⟨od, J, _⟩ := O.look
    obtain ⟨Pk, Z, pz, _⟩ := kit_of I ry ht
    obtain ⟨m, hF⟩ := I.fr
    unfold compareOp
    refine PySem.W.cmp_K (op := .Eq) (tb := t) (by have := hr.un; omega) hF I.ok.mod.kin J (Z.ty _ _ I.kIn pz) hn ec.eq ec.fn (wpAny_mono (run2 (x := .ref a) FN (hr.mono hk) rfl b I rfl ry h) (fun z s' hz => ?_) fun _ _ e => e)
    obtain ⟨w1, H1, I1, r1, b1, rfl, q1⟩ := hz
    cases r1
    exact ⟨.bl b1, H1, I1, rfl, q1⟩
theorem ne_bound {M : Model} {A : Around} {E : Value → Shared → Prop} {s : Shared} {K : PySem.W.Frag} {x : Addr} {ox : Obj} {od : Option Obj} {rest : List Value} {R : Option Value → Shared → Prop} (hK : K.In s.heap) (J : PySem.W.InstAt s.heap x ox C od) (hc : PySem.W.findIn K (.ref C) "__ne__" = some (some (.builtin "object.__ne__")))
    (q : wpAny M A (call (.builtin "object.__ne__") (.ref x :: rest)) (fun v => R (some v)) E s) : wpAny M A (callSpecialIfBound? (.ref x) "__ne__" rest) R E s := by
  simp only [callSpecialIfBound?, bindSpecialIfBound?]
  refine wpAny_holding (wpAny_bind (wpAny_bind (wpAny_bind (J.type.here ((PySem.W.looks_findIn hK hc).here (wpAny_bind (wpAny_askSetting (wpAny_ite ?_))))))))
  have last : wpAny M A (call (.builtin "object.__ne__") ([.ref x] ++ rest) >>= fun v => pure (some v)) R E s := wpAny_bind (wpAny_mono q (fun v s' hv => wpAny_pure hv) fun _ _ z => z)
  split
  · exact wpAny_bind (wpAny_of_eq (F.cmp_object.ne.bind _) (wpAny_pure (by exact last)))
  · exact wpAny_tryCatch (wpAny_bind (wpAny_of_eq (F.cmp_object.ne.bind _) (wpAny_pure (by exact last))))
theorem ne_entry {prog : Program} {w : World} {A : Around} {E : Value → Shared → Prop} {s : Shared} {K : PySem.W.Frag} {x : Addr} {v : Value} {ox : Obj} {od : Option Obj} {R : Fin → Shared → Prop} (hu : A.units < cLine) (hK : K.In s.heap) (J : PySem.W.InstAt s.heap x ox C od) (ec : EqC K C f)
    (q : wpAny (model prog w) A (call (.ref f) [.ref x, v]) (fun r s' => ∃ b, r = .bool b ∧ R (.done (.ret (.bool (!b)))) s') E s) : wpAny (model prog w) A (Builtin.«object.__ne__» ⟨[.ref x, v], []⟩) R E s := by
  unfold Builtin.«object.__ne__»
  repeat (first
    | with_reducible refine wpAny_cRoomFor hu ?_
    | (refine wpAny_bind (m := callSpecialIfBound? (.ref x) (Str.ofString "__eq__") [v]) (PySem.W.ifBound_K hK J ec.eq ec.fn (wpAny_mono q (fun r s' hr => by
          obtain ⟨b, rfl, hq⟩ := hr
          repeat (first | exact hq | exact wpAny_pure hq | exact wpAny_truthy_bool hq | (refine wpAny_bind (m := truthy (.bool _)) (wpAny_truthy_bool ?_)) | wp_step)) fun _ _ e => e)))
    | wp_step)
theorem op_neO (K : PySem.W.Frag) {j : Nat} (F : EqAtC X.prog X.w X.K X.mg X.base CX0 k C ps sp) (hr : Room j X.A) (hk : k + 1 ≤ j := by decide) (hK : X.K = K := by rfl) : OpR X (compareOp .NotEq) (rOwn K C sp true) := by
  subst hK
  obtain ⟨f, fd, ec, FN, b⟩ := F.ex
  intro pins s σ H x y u v Q I rx ry h
  cases h with
  | mk a dx fs t e ha ht hn h =>
    subst e
    cases rx
    obtain ⟨mA, O, _⟩ := ins_get I.hok ha
    obtain ⟨od, J, _⟩ := O.look
    obtain ⟨Pk, Z, pz, _⟩ := kit_of I ry ht
    have hu : X.A.units + 1 < cLine := by have := hr.un; omega
    have go : wpAny (model X.prog X.w) X.A (tryCompare (.ref a) "__ne__" v) (fun r s' => ∃ b1, r = some (.bool (!b1)) ∧ EP X pins σ Q (.bool (!b1)) s') X.xe s := by
      unfold tryCompare
      refine wpAny_bind (ne_bound I.kIn J ec.ne (wpAny_call (codeAny_call_builtin PySem.F.cmp_object.ne.plain PySem.F.cmpEntry_ne (PySem.W.check_slot PySem.F.cmpKind_ne PySem.F.cmpSplit_ne (J.type.andThen (PySem.W.looks_mroIn I.kIn ec.ob)) (PySem.F.cmpArgs_ne _ _)
        (ne_entry (A := X.A.in1) hu I.kIn J ec (wpAny_mono (run2 (x := .ref a) FN (hr.mono hk).in1 rfl b I rfl ry h) (fun z s' hz => ?_) fun _ _ e => e))))))
      obtain ⟨w1, H1, I1, r1, b1, rfl, q1⟩ := hz
      cases r1
      exact ⟨b1, rfl, wpAny_pure ⟨b1, rfl, .bl (!b1), H1, I1, rfl, q1⟩⟩
    unfold compareOp richCompare
    simp only [oneThing_ref]
    refine wpAny_holding (wpAny_bind (wpAny_cRoomFor (by omega) ?_))
    refine wpAny_bind (J.type.here (wpAny_bind ((Z.ty _ _ I.kIn pz).here ?_)))
    split
    · rename_i c0
      have sf : PySem.W.subIn X.K t (.ref C) = some false := by
        rcases Bool.or_eq_true_iff.mp hn with e | e
        · rw [beq_iff_eq.mp e] at c0
          simp at c0
        · exact beq_iff_eq.mp e
      refine wpAny_bind ((PySem.W.looks_subIn I.kIn sf).here ?_)
      simp only [Bool.false_eq_true, if_false]
      refine wpAny_bind (wpAny_mono go (fun r s1 z => ?_) fun _ _ e => e)
      obtain ⟨b1, rfl, h1⟩ := z
      exact wpAny_pure h1
    · refine wpAny_bind (wpAny_pure ?_)
      simp only [Bool.false_eq_true, if_false]
      refine wpAny_bind (wpAny_mono go (fun r s1 z => ?_) fun _ _ e => e)
      obtain ⟨b1, rfl, h1⟩ := z
      exact wpAny_pure h1
end
end WW

set_option Elab.async false
set_option linter.all false
set_option maxRecDepth 100000
set_option maxHeartbeats 4000000
namespace WW
open PySem PySem.Spec PyProof.Rows L2
/-! ### str(x) by an own __str__ -/
section
variable {X : Cx} {CX : CXT} {k : Nat} {C f : Addr} {fd : FuncData} {ps : List Str} {sp : Sp}
theorem run1 {A : Around} {pins : List (Addr × Obj)} {σ : L2.St} {H : Hp} {s : Shared} {Q : VK} {x : V} {u : Value} (F : FnOk X.prog X.w X.K X.mg X.base CX0 k f fd ps sp) (hA : Room k A) (hf : A.frames = X.A.frames) (b : Binds X.K fd ps [])
    (I : Inv X pins σ H s) (rx : RelV x u) (h : sp [x] H Q E0) : wpAny (model X.prog X.w) A (call (.ref f) [u]) (EP X pins σ Q) X.xe s := by
  have i0 := I.env0
  have i1 : Env0 X.prog X.w X.K X.mg X.base A X.stack s H := ⟨hf.trans i0.frames, i0.mod, i0.bs, i0.bsz, i0.funs, i0.frf, i0.hok, i0.bare⟩
  have n2 : [u].length = ps.length := (show [u].length = [x].length from rfl).trans (F.len _ _ _ _ h)
  have bt : BindsTo s fd ⟨[u], []⟩ (ps.zip [u]) := by
    have z := b s [u] I.kIn (by rw [List.append_nil]; exact n2)
    rw [List.append_nil] at z
    exact z
  refine wpAny_call (codeAny_mono (F.run A X.stack s H ⟨[u], []⟩ [u] [x] Q E0 hA i1 bt (.cons rx .nil) h) fun r s' hq => ?_)
  cases r with
  | error e => exact (pass0 (X := X) pins σ H s e s' I hq)
  | ok fl =>
    cases fl with
    | ret z => exact I.after hq
    | next => exact hq.elim
    | brk => exact hq.elim
    | cont => exact hq.elim
structure StrAtC (P : Program) (w : World) (K : PySem.W.Frag) (mg : Str → Option Value) (base : Heap) (CX : CXT) (k : Nat) (C : Addr) (ps : List Str) (sp : Sp) : Prop where
  ex : ∃ f fd, PySem.W.findIn K (.ref C) "__str__" = some (some (.ref f)) ∧ PySem.W.isFn K (.ref f) = true ∧ FnOk P w K mg base CX k f fd ps sp ∧ Binds K fd ps []
inductive rStrO (C : Addr) (sp : Sp) (xs : List V) (H : Hp) (Q : VK) : Prop
  | mk (a dx : Addr) (fs : List (Str × V)) (e : xs = [.ref a]) (ha : H a = some (.ins C dx fs)) (h : sp [.ref a] H (fun v H' => ∃ z, v = .str z ∧ Q (.str z) H') E0) : rStrO C sp xs H Q
theorem call_strO {j : Nat} (F : StrAtC X.prog X.w X.K X.mg X.base CX0 k C ps sp) (hr : Room j X.A) (hk : k + 2 ≤ j := by decide) : CallR X (.type "str") (rStrO C sp) := by
  obtain ⟨f, fd, e1, e2, FN, b⟩ := F.ex
  intro pins s σ H xs us Q I r h
  cases h with
  | mk a dx fs e ha h =>
    subst e
    obtain ⟨u, rfl, ru⟩ := vals1 r
    cases ru
    obtain ⟨mA, O, _⟩ := ins_get I.hok ha
    obtain ⟨od, J, _⟩ := O.look
    have r2 := (hr.mono hk).in1.in1
    refine PySem.W.kso_call (by have := r2.un; omega) I.kIn J e1 e2 (wpAny_mono (run1 (x := .ref a) FN r2 rfl b I rfl h) (fun z s' hz => ?_) fun _ _ e => e)
    obtain ⟨w1, H1, I1, r1, z1, rfl, q1⟩ := hz
    obtain ⟨t, rfl⟩ := r1
    exact ⟨.str z1, H1, I1, ⟨t, rfl⟩, q1⟩
end
/-! ### sep.join(..) with the written part named -/
inductive rJoin (K : PySem.W.Frag) (x : V) (xs : List V) (H : Hp) (Q : VK) : Prop
  | mk (a : Str) (p : Addr) (ys : List Str) (e : x = .str a) (e2 : xs = [.ref p]) (h : Sq K H p (ys.map V.str)) (hz : (ys.map (·.length)).sum + ys.length * a.length ≤ 16777216) (q : Q (.str (Txt.join a ys)) H) : rJoin K x xs H Q
theorem mt_joinK {X : Cx} (K : PySem.W.Frag) (h : X.K = K := by rfl) : MtR X "str.join" (rJoin K) := by
  subst h
  intro pins s σ H x xs v us Q I rx rs h
  cases h with
  | mk a p ys e e2 h hz q => exact mt_join pins s σ H x xs v us Q I rx rs ⟨a, p, ys, e, e2, h, hz, q⟩
theorem pe_joinK {X : Cx} (K : PySem.W.Frag) {o e : Expr} {to te : TE} {apos pos : Pos} (ho : PE X o to) (he : PE X e te) (hK : X.K = K := by rfl) (hs : starEach [e] X.env = [(false, eval e X.env)] := by rfl) (hbase : attributeBase o "join" X.env (eval o X.env) = eval o X.env := by rfl) (hline : (apos.endLine == pos.line) = true := by rfl) :
    PE X (.Call (.Attribute o "join" apos) [e] [] pos) (tM1 (rJoin K) to te) :=
  pe_m1 F.slot_str_join F.type_str_join (mt_joinK K hK) ho he hs hbase hline
theorem q_star {K : PySem.W.Frag} {σ : L2.St} {H : Hp} {te : TE} {t : TA} {R : List V → Hp → Prop} (h : te σ H fun x H1 => ∃ p xs, x = V.ref p ∧ (SqT K H1 p xs ∨ SqL K H1 p xs) ∧ t σ H1 fun ys H2 => R (xs ++ ys) H2) : StX.tStar K te t σ H R := h
theorem q_c {σ : L2.St} {H : Hp} {v : V} {R : VK} (h : R v H) : tC v σ H R := h
theorem q_ifE {σ : L2.St} {H : Hp} {R : VK} {tt : TT} {ta tb : TE} (h : tt σ H fun c H1 => if c = true then ta σ H1 R else tb σ H1 R) : tIf tt ta tb σ H R := h
theorem q_tst {σ : L2.St} {H : Hp} {te : TE} {R : Bool → Hp → Prop} (h : te σ H fun x H1 => ∃ b, x = .bl b ∧ R b H1) : tTest te σ H R := h
theorem q_op {σ : L2.St} {H : Hp} {ta tb : TE} {r : R2} {R : VK} (h : ta σ H fun x H1 => tb σ H1 fun y H2 => r x y H2 R) : tOp r ta tb σ H R := h
theorem q_next {D : Ends} {σ : L2.St} {H : Hp} (h : D.nx σ H) : tNext D σ H := h
/-- a test that fails -/
theorem q_no {D : Ends} {σ : L2.St} {H : Hp} {b : Bool} {u : Prop} (hb : b = false) (h : D.nx σ H) : if b = true then u else tNext D σ H := by
  subst hb
  exact h
/-! ### what the head tells of a class with its own __eq__ -/
structure TyC (K : PySem.W.Frag) (C : Addr) : Prop where
  cl : PySem.W.findIn K (.ref C) "__class__" = some (some (.builtin "object.__class__"))
  ge : PySem.W.specialIn K (.builtin "object.__class__") "__get__" = some (some (.builtin "getset_descriptor.__get__"))
  tk : PySem.W.takesIn K (.builtin "object.__class__") = some true
  ob : PySem.W.mroIn K C (.type "object") = some true
  own : PySem.W.kitOne K (.ref C) (.ref C) = some true
def tyB (K : PySem.W.Frag) (C : Addr) : Bool :=
  He.eqO (PySem.W.findIn K (.ref C) "__class__") (some (some (.builtin "object.__class__"))) && (He.eqO (PySem.W.specialIn K (.builtin "object.__class__") "__get__") (some (some (.builtin "getset_descriptor.__get__"))) && (decide (PySem.W.takesIn K (.builtin "object.__class__") = some true) &&
    (decide (PySem.W.mroIn K C (.type "object") = some true) && decide (PySem.W.kitOne K (.ref C) (.ref C) = some true))))
theorem tyB_ok {K : PySem.W.Frag} {C : Addr} (h : tyB K C = true) : TyC K C := by
  obtain ⟨h1, h⟩ := He.ba h
  obtain ⟨h2, h⟩ := He.ba h
  obtain ⟨h3, h⟩ := He.ba h
  obtain ⟨h4, h5⟩ := He.ba h
  exact ⟨He.eqO_ok h1, He.eqO_ok h2, of_decide_eq_true h3, of_decide_eq_true h4, of_decide_eq_true h5⟩
/-- a type that is not the class at C -/
structure Apart (K : PySem.W.Frag) (C : Addr) (t : String) : Prop where
  no : PySem.W.kitOne K (.type t) (.ref C) = some false
  nf : PySem.W.notFirst K C (.type t) = true
def apB (K : PySem.W.Frag) (C : Addr) (t : String) : Bool := decide (PySem.W.kitOne K (.type t) (.ref C) = some false) && PySem.W.notFirst K C (.type t)
theorem apB_ok {K : PySem.W.Frag} {C : Addr} {t : String} (h : apB K C t = true) : Apart K C t := by
  obtain ⟨h1, h2⟩ := He.ba h
  exact ⟨of_decide_eq_true h1, h2⟩
def eqB (K : PySem.W.Frag) (C : Addr) : Bool :=
  He.eqO (PySem.W.findIn K (.ref C) "__eq__") (some (some (.ref (He.ma K C "__eq__")))) && (PySem.W.isFn K (.ref (He.ma K C "__eq__")) && (He.eqO (PySem.W.findIn K (.ref C) "__ne__") (some (some (.builtin "object.__ne__"))) && decide (PySem.W.mroIn K C (.type "object") = some true)))
theorem eqB_ok {K : PySem.W.Frag} {C : Addr} (h : eqB K C = true) : EqC K C (He.ma K C "__eq__") := by
  obtain ⟨h1, h⟩ := He.ba h
  obtain ⟨h2, h⟩ := He.ba h
  obtain ⟨h3, h4⟩ := He.ba h
  exact ⟨He.eqO_ok h1, h2, He.eqO_ok h3, of_decide_eq_true h4⟩
def strB (K : PySem.W.Frag) (C : Addr) : Bool := He.eqO (PySem.W.findIn K (.ref C) "__str__") (some (some (.ref (He.ma K C "__str__")))) && PySem.W.isFn K (.ref (He.ma K C "__str__"))
theorem notFirst_self {K : PySem.W.Frag} {C : Addr} : PySem.W.notFirst K C (.ref C) = true := by
  unfold PySem.W.notFirst
  simp
/-! ### equal things -/
def dT : V → PyData
  | .int i => .int i
  | _ => .none
def isTh : V → Bool
  | .non => true
  | .int _ => true
  | _ => false
theorem dp_all {K : PySem.W.Frag} {H : Hp} : ∀ {xs : List V}, (∀ y ∈ xs, isTh y = true) → DpAll K H xs (xs.map dT)
  | [], _ => .nil
  | x :: r, h => by
    refine .cons ?_ (dp_all fun y hy => h y (List.mem_cons_of_mem _ hy))
    have := h x List.mem_cons_self
    revert this
    cases x with
    | non => exact fun _ => .non
    | int i => exact fun _ => .int i
    | _ => exact fun z => nomatch z
theorem eqv_th {x y : V} (hx : isTh x = true) (hy : isTh y = true) : PyData.eqv (dT x) (dT y) = decide (x = y) := by
  revert hx hy
  cases x with
  | non =>
    cases y with
    | non => exact fun _ _ => rfl
    | int j => exact fun _ _ => (decide_eq_false (p := V.non = V.int j) (fun z => by cases z)).symm
    | _ => exact fun _ z => nomatch z
  | int i =>
    cases y with
    | non => exact fun _ _ => (decide_eq_false (p := V.int i = V.non) (fun z => by cases z)).symm
    | int j =>
      intro _ _
      show (i == j) = decide (V.int i = V.int j)
      by_cases c : i = j
      · subst c
        simp
      · rw [decide_eq_false (fun z => c (by injection z)), beq_eq_false_iff_ne.mpr c]
    | _ => exact fun _ z => nomatch z
  | _ => exact fun z => nomatch z
theorem eqv_ths : ∀ {xs ys : List V}, (∀ y ∈ xs, isTh y = true) → (∀ y ∈ ys, isTh y = true) → PyData.eqvAll (xs.map dT) (ys.map dT) = decide (xs = ys)
  | [], [], _, _ => rfl
  | x :: r, y :: q, h, k => by
    show (PyData.eqv (dT x) (dT y) && PyData.eqvAll (r.map dT) (q.map dT)) = _
    rw [eqv_th (h x List.mem_cons_self) (k y List.mem_cons_self), eqv_ths (fun z hz => h z (List.mem_cons_of_mem _ hz)) fun z hz => k z (List.mem_cons_of_mem _ hz)]
    by_cases c1 : x = y
    · by_cases c2 : r = q
      · simp [c1, c2]
      · simp [c1, c2]
    · simp [c1]
  | [], y :: q, _, _ => by
    show false = _
    simp
  | x :: r, [], _, _ => by
    show false = _
    simp
theorem can_th (x : V) : PyData.canLay0 (dT x) = true := by
  cases x <;> simp [dT, PyData.canLay0]
theorem dep_th (x : V) : PyData.depth (dT x) = 0 := by
  cases x <;> simp [dT, PyData.depth]
theorem can_ths : ∀ xs : List V, PyData.canLayAll0 (xs.map dT) = true
  | [] => by simp [PyData.canLayAll0]
  | x :: r => by
    rw [List.map_cons, PyData.canLayAll0, can_th, can_ths r]
    rfl
theorem dep_ths : ∀ xs : List V, PyData.depthAll (xs.map dT) = 0
  | [] => by simp [PyData.depthAll]
  | x :: r => by
    rw [List.map_cons, PyData.depthAll, dep_th, dep_ths r]
    rfl
theorem shaped_list (xs : List V) : SeqAt.shaped (.list (xs.map dT)) = true := by
  unfold SeqAt.shaped
  rw [PyData.canLay0, PyData.depth, can_ths, dep_ths]
  rfl
theorem shaped_th (x : V) : SeqAt.shaped (dT x) = true := by
  unfold SeqAt.shaped
  rw [can_th, dep_th]
  rfl
/-- the parts of a row as data -/
def partsD (fs ys : List V) (m : Int) : PyData := .tuple [.tuple (fs.map dT), .tuple (ys.map dT), .int m]
theorem shaped_parts (fs ys : List V) (m : Int) : SeqAt.shaped (partsD fs ys m) = true := by
  unfold SeqAt.shaped partsD
  simp only [PyData.canLay0, PyData.canLayAll0, PyData.depth, PyData.depthAll, can_ths, dep_ths]
  rfl
theorem eqv_parts {fs ys gs zs : List V} {m k : Int} (h1 : ∀ y ∈ fs, isTh y = true) (h2 : ∀ y ∈ ys, isTh y = true) (h3 : ∀ y ∈ gs, isTh y = true) (h4 : ∀ y ∈ zs, isTh y = true) : PyData.eqv (partsD fs ys m) (partsD gs zs k) = decide (fs = gs ∧ ys = zs ∧ m = k) := by
  unfold partsD
  simp only [PyData.eqv, PyData.eqvAll]
  rw [eqv_ths h1 h3, eqv_ths h2 h4]
  by_cases c1 : fs = gs <;> by_cases c2 : ys = zs <;> by_cases c3 : m = k <;> simp [c1, c2, c3]
theorem dp_parts {K : PySem.W.Frag} {H : Hp} {p p1 p2 : Addr} {fs ys : List V} {m : Int} (h : H p = some (.tup [.ref p1, .ref p2, .int m])) (h1 : H p1 = some (.tup fs)) (h2 : H p2 = some (.tup ys)) (t1 : ∀ y ∈ fs, isTh y = true) (t2 : ∀ y ∈ ys, isTh y = true) : Dp K H (.ref p) (partsD fs ys m) :=
  .tup (.inl (.inl h)) (.cons (.tup (.inl (.inl h1)) (dp_all t1)) (.cons (.tup (.inl (.inl h2)) (dp_all t2)) (.cons (.int m) .nil)))
theorem dp_list {K : PySem.W.Frag} {H : Hp} {p : Addr} {xs : List V} (h : H p = some (.lst xs)) (t : ∀ y ∈ xs, isTh y = true) : Dp K H (.ref p) (.list (xs.map dT)) := .lst (.inl (.inl h)) (dp_all t)
theorem eqv_list {xs ys : List V} (h : ∀ y ∈ xs, isTh y = true) (k : ∀ y ∈ ys, isTh y = true) : PyData.eqv (.list (xs.map dT)) (.list (ys.map dT)) = decide (xs = ys) := by
  rw [PyData.eqv, eqv_ths h k]
theorem dp_th {K : PySem.W.Frag} {H : Hp} {x : V} (h : isTh x = true) : Dp K H x (dT x) := by
  revert h
  cases x with
  | non => exact fun _ => .non
  | int i => exact fun _ => .int i
  | _ => exact fun z => nomatch z
end WW

set_option Elab.async false
set_option linter.all false
set_option maxRecDepth 100000
set_option maxHeartbeats 4000000
namespace WW
open PySem PySem.Spec PyProof.Rows L2
/-- super().__init__(text); self.f = x -/
def supBody (p0 p1 p2 p3 p4 p5 p6 p7 p8 p9 : Pos) (j : Nat) (txt fld px : Str) : List Stmt :=
  [.Expr (.Call (.Attribute (.Call (.Name "super" p0) [] [] p1) "__init__" p2) [.Constant (.str txt) j p9] [] p3) p4, .Assign [.Attribute (.Name "self" p5) fld p6] (.Name px p7) p8]
structure SupScope (scope : Scope) (params : Arguments) (px : Str) : Prop where
  ks : scope.names.lookup ("super" : Str) = some .globalImplicit
  kc : scope.names.lookup ("__class__" : Str) = some .free
  kself : scope.names.lookup ("self" : Str) = some .local
  kx : scope.names.lookup px = some .local
  kind : scope.kind = .function
  co : scope.isCoroutine = false
  gen : scope.isGenerator = false
  nocell : ∀ x ∈ scope.names, x.2 ≠ .cell
  hd : ∃ ar, (params.posonlyargs ++ params.args).head? = some ar ∧ ar.arg = ("self" : Str)
  ne : px ≠ ("self" : Str)
  dbg : (px == ("__debug__" : Str)) = false
/-- what the written part says of such a class -/
structure SupC (P : Program) (K : PySem.W.Frag) (C fI : Addr) (qual : Str) (params : Arguments) (body : List Stmt) (scope : Scope) : Prop where
  oex : OexC K C
  ini : PySem.W.findIn K (.ref C) "__init__" = some (some (.ref fI))
  tyI : PySem.W.typeIn K (.ref fI) = some (.type "function")
  fn : ∃ (nm : Str) (oc : Value) (od : Option Addr) (kV doc pm : Value) (an : Option Addr) (cda cc : Addr) (ct : Value) (osl : Array (Option Value)) (ccl : Value) (cdd : Option Addr) (vs : Array Value) (ccs : Array (Option Value)) (file : Str) (tf : Tok) (cl : Value) (cld : Option Addr) (csl : Array (Option Value)),
    K.lookup fI = some ⟨oc, od, .func (PySem.W.ksFn nm qual params body scope .none kV doc pm an (.ref cda) ct cc), osl⟩ ∧ PySem.W.codeIn K (.ref cda) qual = true ∧ K.lookup cda = some ⟨ccl, cdd, .fields vs, ccs⟩ ∧ vs[2]? = some (.str file tf) ∧ ((P.main.file : Str) == file) = true ∧ K.lookup cc = some ⟨cl, cld, .cell (some (.ref C)), csl⟩
  sup : PySem.W.ks_superIn K C C "__init__" = some (some (.builtin "ValueError.__init__"))
  sub : PySem.W.mroIn K C (.ref C) = some true
  ve : PySem.W.subIn K (.ref C) (.type "ValueError") = some true
  opq : PySem.W.nsIn K cStatics "thirdparty.any" = some none
  top : (P.main.scope.names.lookup ("super" : Str)).isSome = false
theorem sup_code {prog : Program} {w : World} {A : Around} {K : PySem.W.Frag} {mg : Str → Option Value} {base hp : Heap} {g : Array GenState} {d : PySem.Drawn} {t : Nat} {os : OsState} {C fI a t0 : Addr} {qual : Str} {params : Arguments} {scope : Scope} {u : Value} {R : Result → Shared → Prop}
    {p0 p1 p2 p3 p4 p5 p6 p7 p8 p9 : Pos} {j : Nat} {txt fld px : Str}
    (SC : SupC prog K C fI qual params (supBody p0 p1 p2 p3 p4 p5 p6 p7 p8 p9 j txt fld px) scope) (SS : SupScope scope params px) (M0 : Mod K mg base) (kb : ∀ b o, base.get? b = some o → hp.get? b = some o) (hab : base.get? a = none) (hsup : mg "super" = none)
    (hroom : A.depth < recursionLimit) (hno : PySem.W.findIn K (.ref C) fld = some none) {pl : Env → Sem Bool}
    (hev : ∀ env : Env, eval (.Call (.Attribute (.Call (.Name "super" p0) [] [] p1) "__init__" p2) [.Constant (.str txt) j p9] [] p3) env = (do
      let ov ← attributeBase (.Call (.Name "super" p0) [] [] p1) "__init__" env (eval (.Call (.Name "super" p0) [] [] p1) env)
      standAt p2.atName
      let (f, first) ← holding [ov] (getMethod ov "__init__" (pl env))
      callWith p3 f first (backTo p3 (starEach [.Constant (.str txt) j p9] env)) []))
    (hbind : ∀ (nm : Str) (kV doc pm : Value) (an : Option Addr) (cdv ct : Value) (cc : Addr) (us : List Value), us.length = 2 → bindArgs (PySem.W.ksFn nm qual params (supBody p0 p1 p2 p3 p4 p5 p6 p7 p8 p9 j txt fld px) scope .none kV doc pm an cdv ct cc) ⟨us, []⟩ = pure ((["self", px] : List Str).zip us))
    (hx : hp.get? a = some (PySem.HandSPX.excO C t0))
    (hq : ∀ h' tk' dx t1, (∀ b o, b ≠ a → hp.get? b = some o → h'.get? b = some o) → hp.objs.size ≤ dx → dx ≠ a → h'.get? a = some ({ cls := .ref C, dict := some dx, data := .fields #[.ref t1, .none, .none, .none, .bool false, .none] } : Obj) →
      h'.Ns1 dx (fun y => if y = fld then some u else none) → R (.ok (.ret .none)) ⟨h', g, d, tk', os⟩) :
    codeAny (model prog w) A (.call (.ref fI) ⟨[.ref a, u], []⟩) R ⟨hp, g, d, t, os⟩ := by
  obtain ⟨nm, oc, od, kV, doc, pm, an, cda, cc, ct, osl, ccl, cdd, vs, ccs, file, tf, cl, cld, csl, hf, hcd, hcode, hvs, hfile, hcell⟩ := SC.fn
  have X : K.In hp := M0.kin.keeps kb
  have bt : BindsTo ⟨hp, g, d, t, os⟩ (PySem.W.ksFn nm qual params (supBody p0 p1 p2 p3 p4 p5 p6 p7 p8 p9 j txt fld px) scope .none kV doc pm an (.ref cda) ct cc) ⟨[.ref a, u], []⟩ [(("self" : Str), .ref a), (px, u)] := by
    intro M A Q E hQ
    rw [hbind _ _ _ _ _ _ _ _ [.ref a, u] rfl]
    exact wpAny_pure hQ
  refine PySem.ks_codeAny_call_defAt hroom (X _ _ hf) rfl (M0.nolimit.keeps kb) (PySem.W.codeRec_of X hcd) rfl bt SS.nocell ?_ (fun h₀ hns k0 => ?_) SS.co SS.gen SS.kind
  · intro x hx
    simp only [List.mem_cons, List.not_mem_nil, or_false] at hx
    rcases hx with rfl | rfl
    · exact SS.kself
    · exact SS.kx
  have X0 : K.In h₀ := X.keeps k0
  have hx0 : h₀.get? a = some (PySem.HandSPX.excO C t0) := k0 _ _ hx
  obtain ⟨ar, har, hself⟩ := SS.hd
  obtain ⟨mb, hb1, hb2⟩ := M0.blt
  obtain ⟨nm', q', N', bs', bm', sn', sub', ab', col', dd', e0, e1, e2, e3, e5, hC, hbm⟩ := SC.oex.cls
  have hcl : PySem.W.clsIn K C = some { name := nm', bases := bs', mro := .ref C :: bm', ns := N', qualname := q', hasDict := true, slotNames := sn', subclasses := sub', abstract := ab', collection := col', hasDel := false } := by unfold PySem.W.clsIn; rw [hC] <;> rfl
  have kbh : ∀ b o, base.get? b = some o → h₀.get? b = some o := fun b o e => k0 b o (kb b o e)
  have v1 : (fun x => [(("self" : Str), Value.ref a), (px, u)].reverse.lookup x) ("self" : Str) = some (.ref a) := by
    show ([(px, u), (("self" : Str), Value.ref a)] : List (Str × Value)).lookup ("self" : Str) = _
    have n : ((("self" : Str) == px) = false) := by
      rw [beq_eq_false_iff_ne]
      exact Ne.symm SS.ne
    simp [List.lookup, n]
  have v2 : (fun x => [(("self" : Str), Value.ref a), (px, u)].reverse.lookup x) px = some u := by
    show ([(px, u), (("self" : Str), Value.ref a)] : List (Str × Value)).lookup px = _
    simp [List.lookup]
  generalize (fun x => [(("self" : Str), Value.ref a), (px, u)].reverse.lookup x) = m at hns v1 v2
  show PySem.wpAt (model prog w) (A.deeper (PySem.W.ksEnv qual scope hp.objs.size fI (.ref cda) cc)) (.func (supBody p0 p1 p2 p3 p4 p5 p6 p7 p8 p9 j txt fld px) (PySem.W.ksEnv qual scope hp.objs.size fI (.ref cda) cc)) (execs [.Expr (.Call (.Attribute (.Call (.Name "super" p0) [] [] p1) "__init__" p2) [.Constant (.str txt) j p9] [] p3) p4, .Assign [.Attribute (.Name "self" p5) fld p6] (.Name px p7) p8] (PySem.W.ksEnv qual scope hp.objs.size fI (.ref cda) cc)) _ _ ⟨h₀, g, d, t + 2, os⟩
  refine PySem.ks_wpAt_execs_cons (PySem.ks_wpAt_Expr_any (PySem.ks_wpAt_MethodCall ?_ (hev _)) (by show (scope.kind == .module && _) = false; rw [SS.kind]; rfl))
  refine PySem.ks_wpAt_super_base (env := PySem.W.ksEnv qual scope hp.objs.size fI (.ref cda) cc) SS.ks SS.kc (by decide) rfl (X0 _ _ hf) rfl har rfl (X0 _ _ hcode) rfl hvs hfile SC.top ?_
  refine PySem.W.ks_loadName_global SS.kind SS.ks (Calls.loadGlobal_builtin (env := PySem.W.ksEnv qual scope hp.objs.size fI (.ref cda) cc) (M0.glob.keeps kbh) hsup (hb1.keeps kbh) ((hb2 _ (by decide)).trans (by kernel_rfl)) ⟨rfl, ?_⟩)
  refine wpAny_loadName_free SS.kind SS.kc rfl ⟨_, X0 _ _ hcell, rfl⟩ ?_
  rw [hself]
  refine wpAny_loadName_local SS.kind SS.kself hns v1 ?_
  refine PySem.ks_wpAny_isType_cls (X0 _ _ hC) rfl ⟨rfl, ?_⟩
  refine PySem.ks_wpAny_call_super (X0 _ _ hC) rfl hx0 rfl (fun c e => nomatch e) (PySem.W.looks_mroIn X0 SC.sub) (fun h1 hso k1 => ?_)
  have X1 : K.In h1 := X0.keeps k1
  have hx1 := k1 _ _ hx0
  have I1 : PySem.W.InstAt h1 a (PySem.HandSPX.excO C t0) C none := ⟨hx1, rfl, rfl, trivial⟩
  have hsI : PySem.W.alongIn K "__init__" (((Value.ref C :: bm').dropWhile (· != .ref C)).drop 1) = some (some (.builtin "ValueError.__init__")) := by
    have z := SC.sup
    unfold PySem.W.ks_superIn at z
    rw [hcl] at z
    exact z
  refine PySem.W.kxs_getMethod PySem.W.kxs_ValueError hso (PySem.W.looks_opaque X1 SC.opq) (l₀ := Value.ref C :: bm') ?_ rfl X1 hsI (I1.type.andThen (PySem.W.looks_subIn X1 SC.ve)) (PySem.W.ks_ne X1 I1 hcl) (by decide) ?_
  · exact fun A Q E s k q => wpAny_bind ((PySem.W.looks_clsIn X1 hcl) A _ E s k (wpAny_pure q))
  have hu : (h1.push (PySem.W.kxs_mw "ValueError.__init__" a)).get? h1.objs.size = some (PySem.W.kxs_mw "ValueError.__init__" a) := Heap.get?_push_at rfl rfl
  have k2 : ∀ b o, h1.get? b = some o → (h1.push (PySem.W.kxs_mw "ValueError.__init__" a)).get? b = some o := fun b o e => Heap.get?_push_of_some _ e
  generalize h1.push (PySem.W.kxs_mw "ValueError.__init__" a) = h2 at hu k2
  have hse : starEach [Expr.Constant (Const.str txt) j p9] (PySem.W.ksEnv qual scope hp.objs.size fI (.ref cda) cc) = (false, eval (Expr.Constant (Const.str txt) j p9) (PySem.W.ksEnv qual scope hp.objs.size fI (.ref cda) cc)) :: starEach [] (PySem.W.ksEnv qual scope hp.objs.size fI (.ref cda) cc) := rfl
  dsimp only
  refine PySem.W.kxs_callWith (i := "ValueError.__init__") (x := a) rfl ?_
  rw [hse]
  refine Calls.evalArgs_plain ?_
  show wpAny _ _ (spliced (backTo p3 (starEach [Expr.Constant (Const.str txt) j p9] (PySem.W.ksEnv qual scope hp.objs.size fI (.ref cda) cc)))) _ _ _
  refine PyProof.Rows.args_cons (wpAny_Constant_str (PyProof.Rows.args_nil ⟨hu, ?_⟩)) hse
  have X2 : K.In h2 := X1.keeps k2
  have hx2 := k2 _ _ hx1
  refine wpAny_call (codeAny_of_tree ?_)
  show wpAny _ _ (callAny (.ref h1.objs.size) ⟨[] ++ [Value.str txt _], []⟩) _ _ _
  simp only [callAny]
  refine wpAny_bind (wpAny_load hu ?_)
  simp only [PySem.W.kxs_mw, show (Value.type "method-wrapper" == Value.type "method" || Value.type "method-wrapper" == Value.type "builtin_function_or_method" || Value.type "method-wrapper" == Value.type "method-wrapper") = true by decide, if_true]
  refine PySem.W.KFB.if_so (by decide) ?_
  refine wpAny_bind (PySem.W.check_bound_init F.excBase_ValueError.toExcCallFacts (X2 _ _ hC) hx2 rfl ?_)
  refine wpAny_bind (wpAny_pure (wpAny_pure ?_))
  refine ⟨plainId_quiet F.excBase_ValueError.init.plain _, codeAny_builtin F.excBase_ValueError.initEntry ?_⟩
  refine PySem.W.exc_init_tree (cls := .ref C) (t0 := t0) (dv := none) (c2 := .none) (c3 := .none) (b4 := .bool false) hx2 (by show 1 ≤ sizeLine; decide) (fun h3 k3 hx3 ht3 => ?_)
  have hLa : hp.objs.size ≠ a := Ne.symm (Nat.ne_of_lt (Heap.lt_size hx))
  have k03 : ∀ b o, b ≠ a → h₀.get? b = some o → h3.get? b = some o := fun b o hb e => k3 b o hb (k2 _ _ (k1 _ _ e))
  have X3 : K.In h3 := M0.kin.keeps fun b o e => k03 b o (fun z => by rw [z, hab] at e; cases e) (kbh b o e)
  have hns3 : h3.Ns hp.objs.size m := by
    obtain ⟨oL, es, ep, hL, r⟩ := hns
    exact ⟨oL, es, ep, k03 _ _ hLa hL, r⟩
  show PySem.wpAt _ _ _ (execs [Stmt.Assign [(Expr.Name "self" p5).Attribute fld p6] (Expr.Name px p7) p8] (PySem.W.ksEnv qual scope hp.objs.size fI (.ref cda) cc)) _ _ _
  refine PySem.ks_wpAt_execs_cons (PySem.ks_wpAt_Assign_Attr (wpAt_of_wpAny (PySem.ESX.ldL (env := PySem.W.ksEnv qual scope hp.objs.size fI (.ref cda) cc) hns3 v2 (PySem.ESX.ldL (env := PySem.W.ksEnv qual scope hp.objs.size fI (.ref cda) cc) hns3 v1 ?_ SS.kind SS.kself (by decide)) SS.kind SS.kx SS.dbg)))
  refine PySem.W.set_plain X3 (ox := { cls := .ref C, dict := none, data := .fields #[.ref h2.objs.size, .none, .none, .none, .bool false, .none] }) (od := none) ⟨hx3, rfl, rfl, trivial⟩ SC.oex.sa ?_
  refine PySem.HandSPX.exc_osa X3 hx3 hcl (show PySem.HandSPX.refsVE (.ref C :: bm') = true from hbm) rfl hno (fun h' tk' dx k dn dne hx' hn => ?_)
  refine wpAt_of_wpAny (wpAny_execs_nil ?_)
  refine hq h' _ dx _ (fun b o hb e => k b o hb (k03 b o hb (k0 _ _ e))) ?_ dne hx' hn
  obtain ⟨oL, es, ep, hL, r⟩ := hns3
  exact Nat.le_trans (Nat.le_of_lt (Heap.lt_size hL)) dn
/-- an own exception class by its name: super().__init__(text); self.fld = x -/
structure SupAt (P : Program) (K : PySem.W.Frag) (mg : Str → Option Value) (x fld : Str) : Prop where
  ex : ∃ (fI : Addr) (qual : Str) (params : Arguments) (scope : Scope) (p0 p1 p2 p3 p4 p5 p6 p7 p8 p9 : Pos) (j : Nat) (txt px : Str) (pl : Env → Sem Bool),
    SupC P K (He.ga K x) fI qual params (supBody p0 p1 p2 p3 p4 p5 p6 p7 p8 p9 j txt fld px) scope ∧ SupScope scope params px ∧
    (∀ env : Env, eval (.Call (.Attribute (.Call (.Name "super" p0) [] [] p1) "__init__" p2) [.Constant (.str txt) j p9] [] p3) env = (do
      let ov ← attributeBase (.Call (.Name "super" p0) [] [] p1) "__init__" env (eval (.Call (.Name "super" p0) [] [] p1) env)
      standAt p2.atName
      let (f, first) ← holding [ov] (getMethod ov "__init__" (pl env))
      callWith p3 f first (backTo p3 (starEach [.Constant (.str txt) j p9] env)) [])) ∧
    (∀ (nm : Str) (kV doc pm : Value) (an : Option Addr) (cdv ct : Value) (cc : Addr) (us : List Value), us.length = 2 → bindArgs (PySem.W.ksFn nm qual params (supBody p0 p1 p2 p3 p4 p5 p6 p7 p8 p9 j txt fld px) scope .none kV doc pm an cdv ct cc) ⟨us, []⟩ = pure ((["self", px] : List Str).zip us))
  no : PySem.W.findIn K (.ref (He.ga K x)) fld = some none
  g : mg x = some (.ref (He.ga K x))
  sup : mg "super" = none
/-- C(e), C such a class -/
def tMkS (C : Addr) (fld : Str) (te : TE) : L2.St → Hp → XK → Prop := fun σ H Q => te σ H fun y H1 => ∀ d, H1 d = none → Q (.ref C) (some d) (upd H1 d (.xd [(fld, y)]))
section
variable {X : Cx} {e : Expr} {te : TE} {p pos : Pos}
theorem pmk_sup {x fld : Str} {k : Nat} (S : SupAt X.prog X.K X.mg x fld) (hr : Room k X.A) (hg : Gl X x) (ha : PE X e te) (hk : 1 ≤ k := by decide)
    (hdb : (x == ("__debug__" : Str)) = false := by decide) (he : starEach [e] X.env = (false, eval e X.env) :: starEach [] X.env := by rfl) :
    PMk X (.Call (.Name x p) [e] [] pos) (tMkS (He.ga X.K x) fld te) := by
  intro pins s σ H Q I h
  obtain ⟨fI, qual, params, scope, p0, p1, p2, p3, p4, p5, p6, p7, p8, p9, j, txt, px, pl, SC, SS, hev, hbind⟩ := S.ex
  have T := SC.oex
  obtain ⟨nm, q, N, bs, bm, sn, sub, ab, col, dd, k0, k1, k2, k3, k5, hC, hbm⟩ := T.cls
  refine wpAny_Call_Name_kw (ld_glob I hg S.g ?_ hdb)
  refine PySem.W.callWith_K (h₀ := X.base) I.ok.mod.kin T.kC (PyProof.Rows.args_cons (thn (ha.run pins s σ H _ I h) fun u s1 ⟨y, H1, I1, ry, q1⟩ => PyProof.Rows.args_nil ⟨I1.kIn, ?_⟩) he) he rfl
  show wpAny _ _ (call (.ref (He.ga X.K x)) [u]) _ _ _
  obtain ⟨hp, g, dr, tk, os⟩ := s1
  have hsz : hp.objs.size ≤ hp.objs.size + 1 := Nat.le_succ _
  have hn : H1 (hp.objs.size + 1) = none := I1.hok.fresh hsz
  have kk : ∀ b o, hp.get? b = some o → ((hp.push (PySem.W.kdv_tup [u])).push (PySem.HandSPX.excO (He.ga X.K x) hp.objs.size)).get? b = some o := fun b o e => Heap.get?_push_of_some _ (Heap.get?_push_of_some _ e)
  have hget : ((hp.push (PySem.W.kdv_tup [u])).push (PySem.HandSPX.excO (He.ga X.K x) hp.objs.size)).get? (hp.objs.size + 1) = some (PySem.HandSPX.excO (He.ga X.K x) hp.objs.size) := by heap_get
  have hsz2 : hp.objs.size ≤ ((hp.push (PySem.W.kdv_tup [u])).push (PySem.HandSPX.excO (He.ga X.K x) hp.objs.size)).objs.size := Nat.le_of_lt (Nat.lt_trans (Nat.lt_succ_self _) (Heap.lt_size hget))
  have hab : X.base.get? (hp.objs.size + 1) = none := by
    cases z : X.base.get? (hp.objs.size + 1) with
    | none => rfl
    | some o => exact absurd (Heap.lt_size (I1.bk _ _ z)) (by show ¬ hp.objs.size + 1 < hp.objs.size; omega)
  refine wpAny_call (PySem.HandSPX.call_own F.excBase_ValueError (fun Y => PySem.HandSPX.refsVE_contains Y bm hbm) (I1.kIn _ _ hC) (PySem.W.looks_findIn I1.kIn SC.ini) (fun self => PySem.W.bind_fn I1.kIn self SC.tyI) (by show 1 ≤ sizeLine; decide)
    (sup_code SC SS I.ok.mod (fun b o e => kk b o (I1.bk b o e)) hab S.sup ((hr.mono hk).make (He.ga X.K x) [u] []).depth S.no hev hbind hget (fun h' tk' dx t1 k dn dne hx hns => ?_)))
  refine ⟨rfl, ?_⟩
  have hnd : H1 dx = none := I1.hok.fresh (Nat.le_trans hsz2 dn)
  generalize ea0 : hp.objs.size + 1 = a at *
  generalize eC : He.ga X.K x = C at *
  generalize (hp.push (PySem.W.kdv_tup [u])).push (PySem.HandSPX.excO C hp.objs.size) = hp2 at *
  have I2 : Inv X pins σ (upd H1 a (exo a C none)) ⟨hp2, g, dr, tk, os⟩ := I1.laid (t' := tk) (a := a) (o := exo a C none) (h' := hp2) kk hsz (exo_ok hget)
  have e : (upd H1 a (exo a C none)) a = some (exo a C none) := upd_same
  have hnd2 : (upd H1 a (exo a C none)) dx = none := (upd_ne dne).trans hnd
  have nd : ∀ {b : Addr} {o : Obj}, hp2.get? b = some o → b ≠ dx := fun {b o} q => Nat.ne_of_lt (Nat.lt_of_lt_of_le (Heap.lt_size q) dn)
  have na : ∀ {b : Addr}, (upd H1 a (exo a C none)) b = none → b ≠ a := fun {b} n z => by
    rw [z, e] at n
    cases n
  generalize hH : upd H1 a (exo a C none) = HH at *
  have Un1 : Un (frs X.stack) [] HH (upd (upd HH dx (exd dx [(fld, y)])) a (exo a C (some dx))) hp2 h' := {
    keep := fun b o q n _ _ => k b o (na n) q
    slot := fun b o q n _ _ => ⟨o.slots, k b o (na n) q⟩
    free := fun b o q n _ => by rw [upd_ne (na n), upd_ne (nd q)]; exact n
    there := fun b o q _ => by
      by_cases hb : b = a
      · exact ⟨_, by rw [hb]; exact hx⟩
      · exact ⟨o, k b o hb q⟩
    tups := fun b xs q => by rw [upd_ne (at_ne e q exo_tup), upd_ne (ne_of_none q hnd2)]; exact q
    frzs := fun b o v q => by rw [upd_ne (at_ne e q exo_frz), upd_ne (ne_of_none q hnd2)]; exact q
    tbls := fun b ps q => ⟨#[], by rw [upd_ne (at_ne e q exo_tbl), upd_ne (ne_of_none q hnd2), q]; simp⟩ }
  have hok2 : HOk X.prog X.w (upd (upd HH dx (exd dx [(fld, y)])) a (exo a C (some dx))) h' := fun b o q => by
    by_cases hb : b = a
    · subst hb
      rw [upd_same] at q
      cases q
      exact exo_ok hx
    · rw [upd_ne hb] at q
      by_cases hd : b = dx
      · subst hd
        rw [upd_same] at q
        cases q
        exact exd_ok hns (relO_put (fs := []) ry fun g => True.intro)
      · rw [upd_ne hd] at q
        exact (I2.hok b o q).stay (fun c v hc z => k c v (by
            rcases hc with hc | hc
            · rw [hc]
              exact hb
            · exact at_ne e hc exo_own) z)
          (fun c hc => by rw [upd_ne (at_ne e hc exo_own), upd_ne (ne_of_none hc hnd2)]; exact hc) (fun c xs hc => by rw [upd_ne (at_ne e hc exo_tup), upd_ne (ne_of_none hc hnd2)]; exact hc)
  have ea : (upd (upd HH dx (exd dx [(fld, y)])) a (exo a C (some dx))) a = some (exo a C (some dx)) := upd_same
  have ed : (upd (upd HH dx (exd dx [(fld, y)])) a (exo a C (some dx))) dx = some (exd dx [(fld, y)]) := (upd_ne dne).trans upd_same
  have eF : upd (del (upd (upd HH dx (exd dx [(fld, y)])) a (exo a C (some dx))) a) dx (.xd [(fld, y)]) = upd H1 dx (.xd [(fld, y)]) := by
    funext b
    by_cases hd : b = dx
    · rw [hd, upd_same, upd_same]
    · rw [upd_ne hd, upd_ne hd]
      by_cases hb : b = a
      · rw [hb, del_same, hn]
      · rw [del_ne hb, upd_ne hb, upd_ne hd, ← hH, upd_ne hb]
  rw [← hH] at Un1
  refine mk_end (raises_own T.exC T.tyC) I1 hsz kk Un1 (by rw [hH]; exact hok2) rfl I1.bare (by rw [hH]; exact ea) (by rw [hH]; exact ed) hnd ?_
  rw [hH, eF]
  exact q1 dx hnd
end
end WW

set_option Elab.async false
set_option linter.all false
set_option maxRecDepth 100000
set_option maxHeartbeats 4000000
namespace WW
open PySem PySem.Spec PyProof.Rows L2
/-- isinstance(e, c), isinstance(e, (c, ..)), e the exception that the suite holds -/
def rIsX (K : PySem.W.Frag) (D a : Addr) : List V → Hp → VK → Prop := fun xs H Q => ∃ (c : V) (u : Value) (b : Bool), xs = [.ref a, c] ∧ ClsV c u ∧ PySem.W.kitOne K (.ref D) u = some b ∧ Q (.bl b) H
def rIsXT (K : PySem.W.Frag) (D a : Addr) : List V → Hp → VK → Prop := fun xs H Q => ∃ (tp : Addr) (cs : List V) (us : List Value) (b : Bool), xs = [.ref a, .ref tp] ∧ H tp = some (.tup cs) ∧ Paired ClsV cs us ∧ PySem.W.kitAny K (.ref D) us = some b ∧ Q (.bl b) H
section
variable {X : Cx} {a D : Addr} {oe : Obj} {cls : Value} {d : Option Addr} {pn : List (Addr × Obj)}
theorem inst_x {pins : List (Addr × Obj)} {σ : L2.St} {H : Hp} {s : Shared} (hz : Zc (.ref D) d oe) (hf : ∃ vs, oe.data = .fields vs) (hd : ∀ dd, d = some dd → ∃ fs, H dd = some (.xd fs)) (I : Inv (X.suite a ((a, oe) :: pn)) pins σ H s) : ∃ od, PySem.W.InstAt s.heap a oe D od := by
  obtain ⟨hget, _⟩ := I.pin (a, oe) (List.mem_append.mpr (.inl List.mem_cons_self))
  obtain ⟨vs, hv⟩ := hf
  have hn : PySem.W.notCls oe = true := by unfold PySem.W.notCls; rw [hv] <;> rfl
  cases hd' : d with
  | none => exact ⟨none, hget, hz.1, hn, by rw [hz.2, hd']; trivial⟩
  | some dd =>
    obtain ⟨fs, e⟩ := hd dd hd'
    have hx : ObjOk X.prog X.w H s.heap dd (.xd fs) := I.hok dd _ e
    obtain ⟨mA, ⟨o, es, ep, ho, _⟩, _⟩ := hx
    exact ⟨some o, hget, hz.1, hn, by rw [hz.2, hd']; exact ho⟩
theorem call_isX (K : PySem.W.Frag) (C : ExcC X.K D) (hz : Zc cls d oe) (hf : ∃ vs, oe.data = .fields vs) (hK : X.K = K := by rfl) : CallR (X.suite a ((a, oe) :: pn)) (.builtin "isinstance") (fun xs H Q => cls = .ref D ∧ (∀ dd, d = some dd → ∃ fs, H dd = some (.xd fs)) ∧ rIsX K D a xs H Q) := by
  subst hK
  intro pins s σ H xs us Q I r h
  obtain ⟨ec, hd, c, u, b, rfl, k, e, q⟩ := h
  subst ec
  obtain ⟨u1, u2, rfl, r1, r2⟩ := vals2 r
  have e2 := k.eq r2
  subst e2
  cases r1
  obtain ⟨od, J⟩ := inst_x hz hf hd I
  exact PySem.W.kia_one (PySem.W.kitx_exc (by obtain ⟨cd, hc, _⟩ := PySem.W.any_some C.hd; rw [hc]; rfl) C.hg C.hk C.hs C.ha C.hn C.ht C.hm) I.kIn J e (fun z => nomatch z) fun tk => ⟨.bl b, H, I.tok tk, rfl, q⟩
theorem call_isXT (K : PySem.W.Frag) (C : ExcC X.K D) (hz : Zc cls d oe) (hf : ∃ vs, oe.data = .fields vs) (hK : X.K = K := by rfl) : CallR (X.suite a ((a, oe) :: pn)) (.builtin "isinstance") (fun xs H Q => cls = .ref D ∧ (∀ dd, d = some dd → ∃ fs, H dd = some (.xd fs)) ∧ rIsXT K D a xs H Q) := by
  subst hK
  intro pins s σ H xs us Q I r h
  obtain ⟨ec, hd, tp, cs, ws, b, rfl, hT, k, e, q⟩ := h
  subst ec
  obtain ⟨u1, u2, rfl, r1, r2⟩ := vals2 r
  cases (show u2 = Value.ref tp from r2)
  cases r1
  obtain ⟨od, J⟩ := inst_x hz hf hd I
  obtain ⟨_, its, rv, o, h1, h2, n, h3⟩ := (show ObjOk X.prog X.w H s.heap tp (.tup cs) from I.hok tp _ hT)
  have e3 := ClsV.all k rv
  subst e3
  obtain ⟨oc, od', dt, sl⟩ := o
  simp only at h2 h3
  subst h2 h3
  exact PySem.W.kia_tup (PySem.W.kitx_exc (by obtain ⟨cd, hc, _⟩ := PySem.W.any_some C.hd; rw [hc]; rfl) C.hg C.hk C.hs C.ha C.hn C.ht C.hm) I.kIn J h1 e (fun z => nomatch z) fun tk => ⟨.bl b, H, I.tok tk, rfl, q⟩
end
theorem takes_no {X : Cx} : Takes X (fun _ _ _ _ => False) := fun u s' x => by
  obtain ⟨_, _, _, _, _, _, _, _, _, _, _, _, _, _, _, _, w⟩ := x
  exact w.elim
/-! ### making an object, by an __init__ that may raise -/
structure MkAtX (P : Program) (w : World) (K : PySem.W.Frag) (mg : Str → Option Value) (base : Heap) (k : Nat) (x : Str) (ps : List Str) (sp : Sp) (dvs : List V) : Prop where
  ex : ∃ f fd ds, Mk K (He.ga K x) f ∧ FnOk P w K mg base (L2.CX P w) k f fd ps sp ∧ Vals dvs ds ∧ Binds K fd ps ds
  g : mg x = some (.ref (He.ga K x))
def tMakeS (C : Addr) (sp : Sp) (dvs : List V) (E : L2.St → XK) (t : TA) : TE := fun σ H Q => t σ H fun vs H1 => ∀ x dx, H1 x = none → H1 dx = none → dx ≠ x → sp (.ref x :: (vs ++ dvs)) (upd (upd H1 dx (.own x)) x (.ins C dx [])) (fun v H2 => v = .non ∧ Q (.ref x) H2) (E σ)
section
variable {X : Cx} {k j : Nat} {x : Str} {ps : List Str} {sp : Sp} {e : Expr} {es : List Expr} {t : TA} {p pos : Pos} {dvs : List V} {W : WX}
theorem pe_mkrX (K : PySem.W.Frag) (F : MkAtX X.prog X.w K X.mg X.base k x ps sp dvs) (tk : Takes X W) (hr : Room j X.A) (hg : Gl X x) (ha : PA X (e :: es) t) (hk : k + 1 ≤ j := by decide) (hK : X.K = K := by rfl)
    (hdb : (x == ("__debug__" : Str)) = false := by decide) (he : starEach (e :: es) X.env = (false, eval e X.env) :: starEach es X.env := by rfl) (hpl : (backTo pos (starEach es X.env)).any (·.1) = false := by rfl) :
    PE X (.Call (.Name x p) (e :: es) [] pos) (tMakeS (He.ga K x) sp dvs (WE W) t) := by
  subst hK
  obtain ⟨f, fd, ds, M, F1, hd, hb⟩ := F.ex
  refine ⟨fun pins s0 σ H0 Q I0 h0 => ?_⟩
  refine wpAny_Call_Name_kw (ld_glob I0 hg F.g ?_ hdb)
  refine PySem.W.callWith_K (h₀ := X.base) I0.ok.mod.kin M.kp (thn (ha.run pos pins s0 σ H0 _ I0 h0) fun us s ⟨vs, H, I, r, h⟩ => ⟨I.kIn, ?_⟩) he hpl
  have hq := h (s.heap.objs.size + 1) s.heap.objs.size (I.hok.fresh (Nat.le_succ _)) (I.hok.fresh (Nat.le_refl _)) (Nat.ne_of_lt (Nat.lt_succ_self _))
  have I2 := Inv.made (C := He.ga X.K x) I
  have r2 : Vals (V.ref (s.heap.objs.size + 1) :: (vs ++ dvs)) (Value.ref (s.heap.objs.size + 1) :: (us ++ ds)) := .cons rfl (r.append hd)
  have hl : (Value.ref (s.heap.objs.size + 1) :: us ++ ds).length = ps.length := by
    have e := r2.length
    rw [F1.len _ _ _ _ hq] at e
    exact e.symm
  show wpAny _ _ (call (.ref (He.ga X.K x)) us) _ _ _
  refine wpAny_call (make_map (f := f) I.kIn M.makes M.init (beq_iff_eq.mp M.fn) (codeAny_mono (F1.run _ X.stack _ _ ⟨Value.ref (s.heap.objs.size + 1) :: us, []⟩ (Value.ref (s.heap.objs.size + 1) :: (us ++ ds)) _ _ (WE W σ) ((hr.mono hk).make (He.ga X.K x) us [])
    (I2.env0.make (He.ga X.K x) us []) (hb _ (Value.ref (s.heap.objs.size + 1) :: us) I2.kIn hl) r2 hq) fun r s' hq' => ?_))
  cases r with
  | error e => exact passAt tk σ pins _ _ e s' I2 hq'
  | ok fl =>
    cases fl with
    | ret u =>
      obtain ⟨v, H', I3, rv, ev, q3⟩ := I2.after hq'
      subst ev
      exact ⟨rv, ⟨V.ref (s.heap.objs.size + 1), H', I3, rfl, q3⟩⟩
    | next => exact False.elim hq'
    | brk => exact False.elim hq'
    | cont => exact False.elim hq'
end
end WW

set_option Elab.async false
set_option linter.all false
set_option maxRecDepth 100000
set_option maxHeartbeats 4000000
namespace WW
open PySem PySem.Spec PyProof.Rows L2
/-! ### typed values: what a value stands for, told by the stable heap -/
class Enc (α : Type) where
  rep : PySem.W.Frag → Hp → V → α → Prop
  mono : ∀ {K : PySem.W.Frag} {H H' : Hp} {v : V} {a : α}, Same H H' → rep K H v a → rep K H' v a
def BIG : Nat := 1000000
theorem big_line : BIG ≤ sizeLine := by decide
instance : Enc Int := ⟨fun _ _ v i => v = .int i, fun _ h => h⟩
instance : Enc Bool := ⟨fun _ _ v b => v = .bl b, fun _ h => h⟩
instance : Enc Unit := ⟨fun _ _ v _ => v = .non, fun _ h => h⟩
instance : Enc Str := ⟨fun _ _ v z => v = .str z, fun _ h => h⟩
instance {α : Type} [Enc α] : Enc (Option α) where
  rep K H v o := match o with
    | none => v = .non
    | some a => Enc.rep K H v a
  mono {K H H' v a} e h := by
    cases a with
    | none => exact h
    | some a => exact Enc.mono e h
theorem Paired.at {α β : Type} {F : α → β → Prop} : ∀ {l : List α} {r : List β} {i : Nat} {b : β}, Paired F l r → r[i]? = some b → ∃ a, l[i]? = some a ∧ F a b
  | _, _, _, _, .nil, e => by simp at e
  | _, _, 0, _, .cons f _, e => by
    simp at e
    subst e
    exact ⟨_, rfl, f⟩
  | _, _, i + 1, b, .cons _ t, e => by
    obtain ⟨u, h1, h2⟩ := Paired.at (i := i) (b := b) t (by simpa using e)
    exact ⟨u, by simpa using h1, h2⟩
theorem Paired.app {α β : Type} {F : α → β → Prop} : ∀ {l l' : List α} {r r' : List β}, Paired F l r → Paired F l' r' → Paired F (l ++ l') (r ++ r')
  | _, _, _, _, .nil, h => h
  | _, _, _, _, .cons f t, h => .cons f (Paired.app t h)
theorem Paired.tk {α β : Type} {F : α → β → Prop} : ∀ {l : List α} {r : List β} (n : Nat), Paired F l r → Paired F (l.take n) (r.take n)
  | _, _, 0, _ => by simp; exact .nil
  | _, _, _ + 1, .nil => .nil
  | _, _, n + 1, .cons f t => .cons f (Paired.tk n t)
theorem Paired.dr {α β : Type} {F : α → β → Prop} : ∀ {l : List α} {r : List β} (n : Nat), Paired F l r → Paired F (l.drop n) (r.drop n)
  | _, _, 0, h => h
  | _, _, _ + 1, .nil => .nil
  | _, _, n + 1, .cons _ t => Paired.dr n t
/-- a list or a tuple -/
instance {α : Type} [Enc α] : Enc (List α) where
  rep K H v xs := xs.length ≤ BIG ∧ ∃ p vs, v = .ref p ∧ Sq K H p vs ∧ Paired (Enc.rep K H) vs xs
  mono e h := by
    obtain ⟨hl, p, vs, r, hq, hp⟩ := h
    exact ⟨hl, p, vs, r, hq.ex e, Paired.mono (fun _ _ => Enc.mono e) hp⟩
/-- surely a list; surely a tuple -/
def L (α : Type) := List α
def U (α : Type) := List α
instance {α : Type} [Enc α] : Enc (L α) where
  rep K H v xs := List.length xs ≤ BIG ∧ ∃ p vs, v = .ref p ∧ H p = some (.lst vs) ∧ Paired (Enc.rep K H) vs xs
  mono e h := by
    obtain ⟨hl, p, vs, r, hq, hp⟩ := h
    exact ⟨hl, p, vs, r, e _ _ hq, Paired.mono (fun _ _ => Enc.mono e) hp⟩
instance {α : Type} [Enc α] : Enc (U α) where
  rep K H v xs := List.length xs ≤ BIG ∧ ∃ p vs, v = .ref p ∧ SqT K H p vs ∧ Paired (Enc.rep K H) vs xs
  mono e h := by
    obtain ⟨hl, p, vs, r, hq, hp⟩ := h
    exact ⟨hl, p, vs, r, Evl.ex_t e hq, Paired.mono (fun _ _ => Enc.mono e) hp⟩
instance {α β : Type} [Enc α] [Enc β] : Enc (α × β) where
  rep K H v ab := ∃ p v1 v2, v = .ref p ∧ SqT K H p [v1, v2] ∧ Enc.rep K H v1 ab.1 ∧ Enc.rep K H v2 ab.2
  mono e h := by
    obtain ⟨p, v1, v2, r, hq, h1, h2⟩ := h
    exact ⟨p, v1, v2, r, Evl.ex_t e hq, Enc.mono e h1, Enc.mono e h2⟩
structure T3 (α β γ : Type) where
  a : α
  b : β
  c : γ
instance {α β γ : Type} [Enc α] [Enc β] [Enc γ] : Enc (T3 α β γ) where
  rep K H v t := ∃ p v1 v2 v3, v = .ref p ∧ SqT K H p [v1, v2, v3] ∧ Enc.rep K H v1 t.a ∧ Enc.rep K H v2 t.b ∧ Enc.rep K H v3 t.c
  mono e h := by
    obtain ⟨p, v1, v2, v3, r, hq, h1, h2, h3⟩ := h
    exact ⟨p, v1, v2, v3, r, Evl.ex_t e hq, Enc.mono e h1, Enc.mono e h2, Enc.mono e h3⟩
/-! ### the stable heap S within the heap H; boxes B may change -/
def IsBx (o : Option HO) : Prop := ∃ x y z : Int, o = some (bx x y z)
structure Ext (B : Addr → Prop) (S H S' H' : Hp) : Prop where
  s : Same S S'
  i : Same S' H'
  p : ∀ a, S a = none → H a ≠ none → S' a = none ∧ (H' a = H a ∨ (B a ∧ IsBx (H' a)))
section
variable {B : Addr → Prop} {S H S1 H1 S2 H2 : Hp}
theorem IsBx.ne {o : Option HO} (h : IsBx o) : o ≠ none := by
  obtain ⟨x, y, z, e⟩ := h
  rw [e]
  exact fun q => nomatch q
theorem Ext.refl (h : Same S H) : Ext B S H S H := ⟨Same.refl S, h, fun a h _ => ⟨h, .inl rfl⟩⟩
theorem Ext.trans (a : Ext B S H S1 H1) (b : Ext B S1 H1 S2 H2) : Ext B S H S2 H2 := by
  refine ⟨a.s.trans b.s, b.i, fun x h1 h2 => ?_⟩
  obtain ⟨q1, q2⟩ := a.p x h1 h2
  have n1 : H1 x ≠ none := by
    rcases q2 with q2 | ⟨_, q2⟩
    · rw [q2]
      exact h2
    · exact q2.ne
  obtain ⟨r1, r2⟩ := b.p x q1 n1
  refine ⟨r1, ?_⟩
  rcases r2 with r2 | r2
  · rcases q2 with q2 | ⟨k, q2⟩
    · exact .inl (r2.trans q2)
    · exact .inr ⟨k, by rw [r2]; exact q2⟩
  · exact .inr r2
/-- what is free behind was free ahead -/
theorem Ext.free (e : Ext B S H S1 H1) (i : Same S H) {a : Addr} (h : H1 a = none) : H a = none := by
  cases q : S a with
  | some o => rw [e.i _ _ (e.s _ _ q)] at h; cases h
  | none =>
    cases r : H a with
    | none => rfl
    | some o =>
      rcases (e.p a q (by rw [r]; exact fun z => nomatch z)).2 with z | ⟨_, z⟩
      · rw [z, r] at h; cases h
      · exact absurd h z.ne
/-- something new, stable -/
theorem Ext.new {p : Addr} {o : HO} (i : Same S H) (h : H p = none) : Ext B S H (upd S p o) (upd H p o) := by
  have sn := i.free h
  refine ⟨same_new sn, fun a u e => ?_, fun a h1 h2 => ?_⟩
  · by_cases z : a = p
    · subst z
      rw [upd_same] at e ⊢
      exact e
    · rw [upd_ne z] at e ⊢
      exact i _ _ e
  · have z : a ≠ p := fun z => h2 (by rw [z]; exact h)
    rw [upd_ne z, upd_ne z]
    exact ⟨h1, .inl rfl⟩
/-- something new, private -/
theorem Ext.priv {p : Addr} {o : HO} (i : Same S H) (h : H p = none) : Ext B S H S (upd H p o) := by
  refine ⟨Same.refl S, i.trans (same_new h), fun a h1 h2 => ⟨h1, .inl (upd_ne fun z => h2 (by rw [z]; exact h))⟩⟩
/-- garbage -/
theorem Ext.grow (i : Same S H) (h : Same H H1) : Ext B S H S H1 := by
  refine ⟨Same.refl S, i.trans h, fun a h1 h2 => ⟨h1, .inl ?_⟩⟩
  cases q : H a with
  | none => exact absurd q h2
  | some o => exact h _ _ q
/-- what was private and new becomes stable -/
theorem Ext.frz {p : Addr} {o : HO} (e : Ext B S H S1 H1) (h : H p = none) (i : Same S H) (h1 : H1 p = some o) (h2 : S1 p = none) : Ext B S H (upd S1 p o) H1 := by
  refine ⟨e.s.trans (same_new h2), fun a u q => ?_, fun a q1 q2 => ?_⟩
  · by_cases z : a = p
    · subst z
      rw [upd_same] at q
      cases q
      exact h1
    · rw [upd_ne z] at q
      exact e.i _ _ q
  · have z : a ≠ p := fun z => q2 (by rw [z]; exact h)
    rw [upd_ne z]
    exact e.p a q1 q2
end
/-! ### slots -/
/-- what an object of one's own is -/
structure OwnP where
  rep : PySem.W.Frag → Hp → HO → Prop
  mono : ∀ {K : PySem.W.Frag} {S S' : Hp} {o : HO}, Same S S' → rep K S o → rep K S' o
inductive Slot : Type 1
  | no | box
  | val {α : Type} [e : Enc α] (a : α)
  | obj (P : OwnP)
  | out (P : OwnP)
def ownL {α : Type} [Enc α] (xs : List α) : OwnP := ⟨fun K S o => xs.length ≤ BIG ∧ ∃ vs, o = .lst vs ∧ Paired (Enc.rep K S) vs xs, fun e ⟨l, vs, r, h⟩ => ⟨l, vs, r, Paired.mono (fun _ _ => Enc.mono e) h⟩⟩
@[reducible] def Slot.own {α : Type} [Enc α] (xs : List α) : Slot := .obj (ownL xs)
def Slot.isOwn : Slot → Bool
  | .obj _ => true
  | _ => false
/-- H0: the heap at the def's start (what is owned is new since) -/
def SlotOk (K : PySem.W.Frag) (B : Addr → Prop) (H0 S H : Hp) : Option V → Slot → Prop
  | _, .no => True
  | some v, @Slot.val _ e a => e.rep K S v a
  | some v, .obj P => ∃ p o, v = .ref p ∧ H0 p = none ∧ S p = none ∧ H p = some o ∧ P.rep K S o
  | some v, .out P => ∃ p o, v = .ref p ∧ ¬ B p ∧ H0 p ≠ none ∧ S p = none ∧ H p = some o ∧ P.rep K S o
  | some v, .box => ∃ p, v = .ref p ∧ B p
  | none, _ => False
structure En (K : PySem.W.Frag) (B : Addr → Prop) (S0 H0 S H : Hp) (σ : L2.St) (ρ : List Slot) : Prop where
  i0 : Same S0 H0
  bx : ∀ p, B p → S p = none ∧ IsBx (H p) ∧ H0 p ≠ none
  ext : Ext B S0 H0 S H
  len : σ.length = ρ.length
  at' : ∀ (i : Nat) (s : Slot), ρ[i]? = some s → ∃ o, σ[i]? = some o ∧ SlotOk K B H0 S H o s
  ne : ∀ (i j : Nat) (s u : Slot), i ≠ j → ρ[i]? = some s → ρ[j]? = some u → s.isOwn = true → u.isOwn = true → σ[i]? ≠ σ[j]?
section
variable {K : PySem.W.Frag} {B : Addr → Prop} {S0 H0 S H S1 H1 : Hp} {σ : L2.St} {ρ : List Slot}
theorem En.i (E : En K B S0 H0 S H σ ρ) : Same S H := E.ext.i
theorem SlotOk.ext {o : Option V} {s : Slot} (e : Ext B S H S1 H1) (hb : ∀ p, B p → H0 p ≠ none) (h : SlotOk K B H0 S H o s) : SlotOk K B H0 S1 H1 o s := by
  cases s with
  | no => cases o <;> trivial
  | box =>
    cases o with
    | none => cases h
    | some v => exact h
  | val a =>
    cases o with
    | none => cases h
    | some v => exact Enc.mono e.s h
  | obj P =>
    cases o with
    | none => cases h
    | some v =>
      obtain ⟨p, u, r, h0, hs, hh, hp⟩ := h
      obtain ⟨q1, q2⟩ := e.p p hs (by rw [hh]; exact fun z => nomatch z)
      refine ⟨p, u, r, h0, q1, ?_, P.mono e.s hp⟩
      rcases q2 with q2 | ⟨q2, _⟩
      · rw [q2]
        exact hh
      · exact absurd h0 (hb p q2)
  | out P =>
    cases o with
    | none => cases h
    | some v =>
      obtain ⟨p, u, r, nb, h0, hs, hh, hp⟩ := h
      obtain ⟨q1, q2⟩ := e.p p hs (by rw [hh]; exact fun z => nomatch z)
      refine ⟨p, u, r, nb, h0, q1, ?_, P.mono e.s hp⟩
      rcases q2 with q2 | ⟨q2, _⟩
      · rw [q2]
        exact hh
      · exact absurd q2 nb
theorem En.go (E : En K B S0 H0 S H σ ρ) (e : Ext B S H S1 H1) : En K B S0 H0 S1 H1 σ ρ := by
  refine ⟨E.i0, fun p hp => ?_, E.ext.trans e, E.len, fun i s h => ?_, E.ne⟩
  · obtain ⟨h1, h2, h3⟩ := E.bx p hp
    obtain ⟨q1, q2⟩ := e.p p h1 h2.ne
    refine ⟨q1, ?_, h3⟩
    rcases q2 with q2 | ⟨_, q2⟩
    · rw [q2]
      exact h2
    · exact q2
  · obtain ⟨o, h1, h2⟩ := E.at' i s h
    exact ⟨o, h1, h2.ext e fun p hp => (E.bx p hp).2.2⟩
theorem En.val {i : Nat} {α : Type} [Enc α] {a : α} (E : En K B S0 H0 S H σ ρ) (h : ρ[i]? = some (.val a)) : ∃ v, σ[i]? = some (some v) ∧ Enc.rep K S v a := by
  obtain ⟨o, h1, h2⟩ := E.at' i _ h
  cases o with
  | none => cases h2
  | some v => exact ⟨v, h1, h2⟩
theorem En.obj {i : Nat} {P : OwnP} (E : En K B S0 H0 S H σ ρ) (h : ρ[i]? = some (.obj P)) : ∃ p o, σ[i]? = some (some (.ref p)) ∧ H0 p = none ∧ S p = none ∧ H p = some o ∧ P.rep K S o := by
  obtain ⟨o, h1, h2⟩ := E.at' i _ h
  cases o with
  | none => cases h2
  | some v =>
    obtain ⟨p, u, rfl, r⟩ := h2
    exact ⟨p, u, h1, r⟩
theorem En.own {i : Nat} {α : Type} [Enc α] {xs : List α} (E : En K B S0 H0 S H σ ρ) (h : ρ[i]? = some (.own xs)) : xs.length ≤ BIG ∧ ∃ p vs, σ[i]? = some (some (.ref p)) ∧ H0 p = none ∧ S p = none ∧ H p = some (.lst vs) ∧ Paired (Enc.rep K S) vs xs := by
  obtain ⟨p, o, h1, h0, hs, hh, hl, vs, rfl, r⟩ := E.obj h
  exact ⟨hl, p, vs, h1, h0, hs, hh, r⟩
theorem En.out {i : Nat} {P : OwnP} (E : En K B S0 H0 S H σ ρ) (h : ρ[i]? = some (.out P)) : ∃ p o, σ[i]? = some (some (.ref p)) ∧ ¬ B p ∧ H0 p ≠ none ∧ S p = none ∧ H p = some o ∧ P.rep K S o := by
  obtain ⟨o, h1, h2⟩ := E.at' i _ h
  cases o with
  | none => cases h2
  | some v =>
    obtain ⟨p, u, rfl, r⟩ := h2
    exact ⟨p, u, h1, r⟩
theorem En.box {i : Nat} (E : En K B S0 H0 S H σ ρ) (h : ρ[i]? = some .box) : ∃ p, σ[i]? = some (some (.ref p)) ∧ B p := by
  obtain ⟨o, h1, h2⟩ := E.at' i _ h
  cases o with
  | none => cases h2
  | some v =>
    obtain ⟨p, rfl, hb⟩ := h2
    exact ⟨p, h1, hb⟩
/-- a slot is set to something that is not owned -/
theorem En.set {i : Nat} {o : Option V} {s : Slot} (E : En K B S0 H0 S H σ ρ) (h : SlotOk K B H0 S H o s) (hs : s.isOwn = false) : En K B S0 H0 S H (σ.set i o) (ρ.set i s) := by
  refine ⟨E.i0, E.bx, E.ext, by rw [List.length_set, List.length_set]; exact E.len, fun j u hj => ?_, fun j k u w n hj hk ju kw => ?_⟩
  · rw [List.getElem?_set] at hj ⊢
    by_cases z : i = j
    · subst z
      rw [if_pos rfl] at hj ⊢
      rw [E.len]
      by_cases q : i < ρ.length
      · rw [if_pos q] at hj ⊢
        cases hj
        exact ⟨o, rfl, h⟩
      · rw [if_neg q] at hj
        cases hj
    · rw [if_neg z] at hj ⊢
      exact E.at' j u hj
  · rw [List.getElem?_set] at hj hk
    have z1 : i ≠ j := fun z => by
      rw [if_pos z] at hj
      split at hj
      · cases hj
        rw [hs] at ju
        cases ju
      · cases hj
    have z2 : i ≠ k := fun z => by
      rw [if_pos z] at hk
      split at hk
      · cases hk
        rw [hs] at kw
        cases kw
      · cases hk
    rw [if_neg z1] at hj
    rw [if_neg z2] at hk
    rw [List.getElem?_set_ne z1, List.getElem?_set_ne z2]
    exact E.ne j k u w n hj hk ju kw
theorem En.setV {i : Nat} {v : V} {α : Type} [Enc α] {a : α} (E : En K B S0 H0 S H σ ρ) (h : Enc.rep K S v a) : En K B S0 H0 S H (σ.set i (some v)) (ρ.set i (.val a)) := E.set h rfl
/-- an owned address is no other's -/
theorem En.ownNe {i j : Nat} {s u : Slot} {p q : Addr} (E : En K B S0 H0 S H σ ρ) (n : i ≠ j) (h1 : ρ[i]? = some s) (h2 : ρ[j]? = some u) (o1 : s.isOwn = true) (o2 : u.isOwn = true) (e1 : σ[i]? = some (some (.ref p))) (e2 : σ[j]? = some (some (.ref q))) : p ≠ q := fun z => E.ne i j s u n h1 h2 o1 o2 (by rw [e1, e2, z])
/-- a slot is set to something new that is owned -/
theorem En.setOb {i : Nat} {p : Addr} {u : HO} {P : OwnP} (E : En K B S0 H0 S H σ ρ) (e : Ext B S H S1 H1) (hp : H p = none) (hs : S1 p = none) (hh : H1 p = some u) (r : P.rep K S1 u) :
    En K B S0 H0 S1 H1 (σ.set i (some (.ref p))) (ρ.set i (.obj P)) := by
  have E1 := E.go e
  have h0 : H0 p = none := E.ext.free E.i0 hp
  refine ⟨E1.i0, E1.bx, E1.ext, by rw [List.length_set, List.length_set]; exact E1.len, fun j u hj => ?_, fun j k u w n hj hk ju kw => ?_⟩
  · rw [List.getElem?_set] at hj ⊢
    by_cases z : i = j
    · subst z
      rw [if_pos rfl] at hj ⊢
      rw [E.len]
      by_cases q : i < ρ.length
      · rw [if_pos q] at hj ⊢
        cases hj
        exact ⟨_, rfl, p, _, rfl, h0, hs, hh, r⟩
      · rw [if_neg q] at hj
        cases hj
    · rw [if_neg z] at hj ⊢
      exact E1.at' j u hj
  · have old : ∀ (j : Nat) (u : Slot), ρ[j]? = some u → u.isOwn = true → σ[j]? ≠ some (some (V.ref p)) := fun j u hu ou z => by
      obtain ⟨o, h1, h2⟩ := E.at' j u hu
      rw [z] at h1
      cases h1
      cases u with
      | obj P =>
        obtain ⟨q, _, z1, _, _, z2, _⟩ := h2
        cases z1
        rw [hp] at z2
        cases z2
      | _ => cases ou
    rw [List.getElem?_set] at hj hk
    by_cases z1 : i = j
    · have z2 : i ≠ k := fun z => n (z1.symm.trans z)
      rw [if_neg z2] at hk
      subst z1
      rw [List.getElem?_set_ne z2]
      have il : i < σ.length := by
        rw [if_pos rfl] at hj
        split at hj
        · rw [E.len]; assumption
        · cases hj
      rw [List.getElem?_set_self il]
      exact fun z => old k w hk kw z.symm
    · rw [if_neg z1] at hj
      rw [List.getElem?_set_ne z1]
      by_cases z2 : i = k
      · subst z2
        have il : i < σ.length := by
          rw [if_pos rfl] at hk
          split at hk
          · rw [E.len]; assumption
          · cases hk
        rw [List.getElem?_set_self il]
        exact old j u hj ju
      · rw [if_neg z2] at hk
        rw [List.getElem?_set_ne z2]
        exact E.ne j k u w n hj hk ju kw
theorem En.setO {i : Nat} {p : Addr} {vs : List V} {α : Type} [Enc α] {xs : List α} (E : En K B S0 H0 S H σ ρ) (e : Ext B S H S1 H1) (hp : H p = none) (hs : S1 p = none) (hh : H1 p = some (.lst vs)) (r : Paired (Enc.rep K S1) vs xs) (hl : xs.length ≤ BIG) :
    En K B S0 H0 S1 H1 (σ.set i (some (.ref p))) (ρ.set i (.own xs)) := E.setOb e hp hs hh ⟨hl, vs, rfl, r⟩
/-- an owned object is changed -/
theorem En.chgOb {i : Nat} {p : Addr} {u' : HO} {P P' : OwnP} (E : En K B S0 H0 S H σ ρ) (hi : ρ[i]? = some (.obj P)) (hσ : σ[i]? = some (some (.ref p))) (r : P'.rep K S u') :
    En K B S0 H0 S (upd H p u') σ (ρ.set i (.obj P')) := by
  obtain ⟨p', ws, e1, h0, hs, hh, _⟩ := E.obj hi
  rw [hσ] at e1
  cases e1
  have nb : ∀ q, B q → q ≠ p := fun q hq z => (E.bx q hq).2.2 (by rw [z]; exact h0)
  refine ⟨E.i0, fun q hq => ?_, ⟨E.ext.s, fun a u q => ?_, fun a q1 q2 => ?_⟩, by rw [List.length_set]; exact E.len, fun j u hj => ?_, fun j k u w n hj hk ju kw => ?_⟩
  · rw [upd_ne (nb q hq)]
    exact E.bx q hq
  · rw [upd_ne (fun z => by rw [z, hs] at q; cases q)]
    exact E.i _ _ q
  · rw [upd_ne (fun z => q2 (by rw [z]; exact h0))]
    exact E.ext.p a q1 q2
  · rw [List.getElem?_set] at hj
    by_cases z : i = j
    · subst z
      rw [if_pos rfl] at hj
      split at hj
      · cases hj
        exact ⟨_, hσ, p, _, rfl, h0, hs, upd_same, r⟩
      · cases hj
    · rw [if_neg z] at hj
      obtain ⟨o, h1, h2⟩ := E.at' j u hj
      refine ⟨o, h1, ?_⟩
      cases u with
      | no => cases o <;> trivial
      | box =>
        cases o with
        | none => cases h2
        | some v => exact h2
      | val a =>
        cases o with
        | none => cases h2
        | some v => exact h2
      | obj P =>
        cases o with
        | none => cases h2
        | some v =>
          obtain ⟨q, us, rfl, g0, gs, gh, gr⟩ := h2
          refine ⟨q, us, rfl, g0, gs, ?_, gr⟩
          rw [upd_ne (fun y => E.ownNe z hi hj rfl rfl hσ h1 y.symm)]
          exact gh
      | out P =>
        cases o with
        | none => cases h2
        | some v =>
          obtain ⟨q, us, rfl, nb, g0, gs, gh, gr⟩ := h2
          refine ⟨q, us, rfl, nb, g0, gs, ?_, gr⟩
          rw [upd_ne (fun y => g0 (by rw [y]; exact h0))]
          exact gh
  · have up : ∀ (j : Nat) (u : Slot), (ρ.set i (.obj P'))[j]? = some u → u.isOwn = true → ∃ s : Slot, ρ[j]? = some s ∧ s.isOwn = true := fun j u hj ju => by
      rw [List.getElem?_set] at hj
      by_cases z : i = j
      · subst z
        exact ⟨_, hi, rfl⟩
      · rw [if_neg z] at hj
        exact ⟨u, hj, ju⟩
    obtain ⟨s, h1, h2⟩ := up j u hj ju
    obtain ⟨t, h3, h4⟩ := up k w hk kw
    exact E.ne j k s t n h1 h3 h2 h4
/-- an owned list is changed -/
theorem En.chg {i : Nat} {p : Addr} {vs : List V} {α β : Type} [Enc α] [Enc β] {xs : List α} {ys : List β} (E : En K B S0 H0 S H σ ρ) (hi : ρ[i]? = some (.own xs)) (hσ : σ[i]? = some (some (.ref p))) (r : Paired (Enc.rep K S) vs ys) (hl : ys.length ≤ BIG) :
    En K B S0 H0 S (upd H p (.lst vs)) σ (ρ.set i (.own ys)) := E.chgOb hi hσ ⟨hl, vs, rfl, r⟩
/-- an owned object becomes a value -/
theorem En.frzOb {i : Nat} {P : OwnP} {α : Type} [Enc α] {a : α} (E : En K B S0 H0 S H σ ρ) (hi : ρ[i]? = some (.obj P)) (cv : ∀ (S1 : Hp) (p : Addr) (u : HO), S1 p = some u → P.rep K S1 u → Enc.rep K S1 (.ref p) a) : ∃ S1, Ext B S0 H0 S1 H ∧ Same S S1 ∧ En K B S0 H0 S1 H σ (ρ.set i (.val a)) := by
  obtain ⟨p, w, e1, h0, hs, hh, r⟩ := E.obj hi
  have sm : Same S (upd S p w) := same_new hs
  have ex : Ext B S0 H0 (upd S p w) H := E.ext.frz h0 E.i0 hh hs
  refine ⟨_, ex, sm, ⟨E.i0, fun q hq => ?_, ex, by rw [List.length_set]; exact E.len, fun j u hj => ?_, fun j k u w n hj hk ju kw => ?_⟩⟩
  · rw [upd_ne (fun z => (E.bx q hq).2.2 (by rw [z]; exact h0))]
    exact E.bx q hq
  · rw [List.getElem?_set] at hj
    by_cases z : i = j
    · subst z
      rw [if_pos rfl] at hj
      split at hj
      · cases hj
        exact ⟨_, e1, cv _ p w upd_same (P.mono sm r)⟩
      · cases hj
    · rw [if_neg z] at hj
      obtain ⟨o, h1, h2⟩ := E.at' j u hj
      refine ⟨o, h1, ?_⟩
      cases u with
      | no => cases o <;> trivial
      | box =>
        cases o with
        | none => cases h2
        | some v => exact h2
      | val a =>
        cases o with
        | none => cases h2
        | some v => exact Enc.mono sm h2
      | obj P =>
        cases o with
        | none => cases h2
        | some v =>
          obtain ⟨q, us, rfl, g0, gs, gh, gr⟩ := h2
          refine ⟨q, us, rfl, g0, ?_, gh, P.mono sm gr⟩
          rw [upd_ne (fun y => E.ownNe z hi hj rfl rfl e1 h1 y.symm)]
          exact gs
      | out P =>
        cases o with
        | none => cases h2
        | some v =>
          obtain ⟨q, us, rfl, nb, g0, gs, gh, gr⟩ := h2
          refine ⟨q, us, rfl, nb, g0, ?_, gh, P.mono sm gr⟩
          rw [upd_ne (fun y => g0 (by rw [y]; exact h0))]
          exact gs
  · have up : ∀ (j : Nat) (u : Slot), (ρ.set i (.val a))[j]? = some u → u.isOwn = true → ρ[j]? = some u := fun j u hj ju => by
      rw [List.getElem?_set] at hj
      by_cases z : i = j
      · subst z
        rw [if_pos rfl] at hj
        split at hj
        · cases hj
          cases ju
        · cases hj
      · rw [if_neg z] at hj
        exact hj
    exact E.ne j k u w n (up j u hj ju) (up k w hk kw) ju kw
theorem En.frz {i : Nat} {α : Type} [Enc α] {xs : List α} (E : En K B S0 H0 S H σ ρ) (hi : ρ[i]? = some (.own xs)) : ∃ S1, Ext B S0 H0 S1 H ∧ Same S S1 ∧ En K B S0 H0 S1 H σ (ρ.set i (.val (α := L α) xs)) :=
  E.frzOb hi fun S1 p u hp ⟨hl, vs, e, r⟩ => ⟨hl, p, vs, rfl, by rw [hp, e], r⟩
end
end WW

set_option Elab.async false
set_option linter.all false
set_option maxRecDepth 100000
set_option maxHeartbeats 4000000
namespace WW
open PySem PySem.Spec PyProof.Rows L2
/-! ### judgements over typed slots -/
inductive ArgsOk (K : PySem.W.Frag) (B : Addr → Prop) (H0 S H : Hp) : List V → List Slot → Prop
  | nil : ArgsOk K B H0 S H [] []
  | cons {v : V} {s : Slot} {vs : List V} {ss : List Slot} : SlotOk K B H0 S H (some v) s → s.isOwn = false → ArgsOk K B H0 S H vs ss → ArgsOk K B H0 S H (v :: vs) (s :: ss)
section
variable (K : PySem.W.Frag) (B : Addr → Prop)
/-- an expression: a value; one of some values; a new list of one's own; a test; arguments; a slice's part; what is walked; a target -/
def DE {α : Type} [Enc α] (te : TE) (ρ : List Slot) (a : α) : Prop := ∀ S0 H0 S H σ, En K B S0 H0 S H σ ρ → ∀ Q : VK, (∀ v S' H', Ext B S H S' H' → Enc.rep K S' v a → Q v H') → te σ H Q
def DN {α : Type} [Enc α] (te : TE) (ρ : List Slot) (P : α → Prop) : Prop := ∀ S0 H0 S H σ, En K B S0 H0 S H σ ρ → ∀ Q : VK, (∀ v a S' H', P a → Ext B S H S' H' → Enc.rep K S' v a → Q v H') → te σ H Q
def DO {α : Type} [Enc α] (te : TE) (ρ : List Slot) (xs : List α) : Prop := ∀ S0 H0 S H σ, En K B S0 H0 S H σ ρ → ∀ Q : VK, (∀ p vs S' H', Ext B S H S' H' → H p = none → S' p = none → H' p = some (.lst vs) → Paired (Enc.rep K S') vs xs → xs.length ≤ BIG → Q (.ref p) H') → te σ H Q
def DT (tt : TT) (ρ : List Slot) (b : Bool) : Prop := ∀ S0 H0 S H σ, En K B S0 H0 S H σ ρ → ∀ Q : Bool → Hp → Prop, (∀ S' H', Ext B S H S' H' → Q b H') → tt σ H Q
def DA (ta : TA) (ρ : List Slot) (ss : List Slot) : Prop := ∀ S0 H0 S H σ, En K B S0 H0 S H σ ρ → ∀ Q : List V → Hp → Prop, (∀ vs S' H', Ext B S H S' H' → ArgsOk K B H' S' H' vs ss → Q vs H') → ta σ H Q
def DP (to : TO) (ρ : List Slot) (o : Option Int) : Prop := ∀ S0 H0 S H σ, En K B S0 H0 S H σ ρ → ∀ Q : Option Int → Hp → Prop, (∀ S' H', Ext B S H S' H' → Q o H') → to σ H Q
def Yld {α : Type} [Enc α] (S0 H0 : Hp) (J : It) (S : Hp) (xs : List α) : Prop := ∀ S1 H1, Same S S1 → Ext B S0 H0 S1 H1 →
  (∀ i x, xs[i]? = some x → J.go i H1 ∧ ∀ v H2, J.yld i H1 v H2 → ∃ S2, Ext B S1 H1 S2 H2 ∧ Enc.rep K S2 v x) ∧ J.stop xs.length H1
def DI {α : Type} [Enc α] (wi : TI) (ρ : List Slot) (xs : List α) : Prop := ∀ S0 H0 S H σ, En K B S0 H0 S H σ ρ → ∀ R : It → Hp → Prop, (∀ J S' H', Ext B S H S' H' → Yld K B S0 H0 J S' xs → R J H') → wi σ H R
def DG {α : Type} [Enc α] (g : TG) (a : α) (ρ ρ' : List Slot) (js : List Nat) : Prop := ∀ S0 H0 S H σ v, En K B S0 H0 S H σ ρ → Enc.rep K S v a → ∀ R : L2.St → Hp → Prop, (∀ σ', En K B S0 H0 S H σ' ρ' → σ'.length = σ.length → (∀ i, i ∉ js → σ'[i]? = σ[i]?) → R σ' H) → g v σ H R
structure Post where
  nx : List Slot → Prop
  rt : Slot → Prop
  bk : List Slot → Prop := fun _ => False
  ct : List Slot → Prop := fun _ => False
  px : Hp → Hp → Prop := fun _ _ => True
def DS (ts : TS) (ρ : List Slot) (Φ : Post) : Prop := ∀ S0 H0 S H σ (D : Ends), En K B S0 H0 S H σ ρ → Φ.px S0 H0 →
  (∀ ρ' σ' S' H', Φ.nx ρ' → Same S S' → En K B S0 H0 S' H' σ' ρ' → D.nx σ' H') → (∀ s v S' H', Φ.rt s → Ext B S0 H0 S' H' → SlotOk K B H0 S' H' (some v) s → D.rt v H') →
  (∀ ρ' σ' S' H', Φ.bk ρ' → Same S S' → En K B S0 H0 S' H' σ' ρ' → D.bk σ' H') → (∀ ρ' σ' S' H', Φ.ct ρ' → Same S S' → En K B S0 H0 S' H' σ' ρ' → D.ct σ' H') → ts D σ H
end
section
variable {K : PySem.W.Frag} {B : Addr → Prop} {ρ ρ' ρ1 : List Slot} {ta tb tc te : TE} {t u : TT} {α β γ : Type} {e_α : Enc α} {e_β : Enc β} {e_γ : Enc γ} {a : α} {b : β} {i j : Int}
/-! ### expressions -/
theorem DE.is {a' : α} (h : DE K B te ρ a) (e : a = a') : DE K B te ρ a' := e ▸ h
theorem d_var {n : Nat} (h : ρ[n]? = some (.val a)) : DE K B (tVar n) ρ a := fun S0 H0 S H σ E Q q => by
  obtain ⟨v, h1, h2⟩ := E.val h
  exact ⟨v, h1, q v S H (Ext.refl E.i) h2⟩
theorem d_get {n : Nat} (h : ρ[n]? = some (.val (some a))) : DE K B (tVar n) ρ a := fun S0 H0 S H σ E Q q => by
  obtain ⟨v, h1, h2⟩ := E.val h
  exact ⟨v, h1, q v S H (Ext.refl E.i) h2⟩
theorem d_some (h : DE K B te ρ a) : DE K B te ρ (some a) := h
theorem d_int : DE K B (tC (.int i)) ρ i := fun _ _ S H _ E Q q => q _ S H (Ext.refl E.i) rfl
theorem d_bl {b : Bool} : DE K B (tC (.bl b)) ρ b := fun _ _ S H _ E Q q => q _ S H (Ext.refl E.i) rfl
theorem d_str {z : Str} : DE K B (tC (.str z)) ρ z := fun _ _ S H _ E Q q => q _ S H (Ext.refl E.i) rfl
theorem d_none : DE K B (tC .non) ρ (none : Option α) := fun _ _ S H _ E Q q => q _ S H (Ext.refl E.i) rfl
theorem d_unit : DE K B (tC .non) ρ () := fun _ _ S H _ E Q q => q _ S H (Ext.refl E.i) rfl
/-- two parts, one behind the other -/
theorem d_op {r : R2} {c : γ} (ha : DE K B ta ρ a) (hb : DE K B tb ρ b) (hr : ∀ x y S H, Same S H → Enc.rep K S x a → Enc.rep K S y b → ∀ Q : VK, (∀ v S' H', Ext B S H S' H' → Enc.rep K S' v c → Q v H') → r x y H Q) : DE K B (tOp r ta tb) ρ c := fun S0 H0 S H σ E Q q =>
  ha S0 H0 S H σ E _ fun x S1 H1 e1 r1 => hb S0 H0 S1 H1 σ (E.go e1) _ fun y S2 H2 e2 r2 => hr x y S2 H2 e2.i (Enc.mono e2.s r1) r2 Q fun v S3 H3 e3 r3 => q v S3 H3 ((e1.trans e2).trans e3) r3
theorem d_un {r : V → Hp → VK → Prop} {c : γ} (ha : DE K B ta ρ a) (hr : ∀ x S H, Same S H → Enc.rep K S x a → ∀ Q : VK, (∀ v S' H', Ext B S H S' H' → Enc.rep K S' v c → Q v H') → r x H Q) : DE K B (tUn r ta) ρ c := fun S0 H0 S H σ E Q q =>
  ha S0 H0 S H σ E _ fun x S1 H1 e1 r1 => hr x S1 H1 e1.i r1 Q fun v S3 H3 e3 r3 => q v S3 H3 (e1.trans e3) r3
theorem d_add (ha : DE K B ta ρ i) (hb : DE K B tb ρ j) : DE K B (tOp (rI0 fun i j => .int (i + j)) ta tb) ρ (i + j) :=
  d_op ha hb fun x y S H hi r1 r2 Q q => ⟨i, j, r1, r2, q _ S H (Ext.refl hi) rfl⟩
theorem d_sub (ha : DE K B ta ρ i) (hb : DE K B tb ρ j) : DE K B (tOp (rI0 fun i j => .int (i - j)) ta tb) ρ (i - j) :=
  d_op ha hb fun x y S H hi r1 r2 Q q => ⟨i, j, r1, r2, q _ S H (Ext.refl hi) rfl⟩
theorem d_mul (ha : DE K B ta ρ i) (hb : DE K B tb ρ j) (hc : CMul i j) : DE K B (tOp (rI CMul fun i j => .int (i * j)) ta tb) ρ (i * j) :=
  d_op ha hb fun x y S H hi r1 r2 Q q => ⟨i, j, r1, r2, hc, q _ S H (Ext.refl hi) rfl⟩
theorem d_fdiv (ha : DE K B ta ρ i) (hb : DE K B tb ρ j) (hc : CDiv i j) : DE K B (tOp (rI CDiv fun i j => .int (i / j)) ta tb) ρ (i / j) :=
  d_op ha hb fun x y S H hi r1 r2 Q q => ⟨i, j, r1, r2, hc, q _ S H (Ext.refl hi) rfl⟩
theorem d_mod (ha : DE K B ta ρ i) (hb : DE K B tb ρ j) (hc : 0 < j) : DE K B (tOp (rI (fun _ j => 0 < j) fun i j => .int (i % j)) ta tb) ρ (i % j) :=
  d_op ha hb fun x y S H hi r1 r2 Q q => ⟨i, j, r1, r2, hc, q _ S H (Ext.refl hi) rfl⟩
theorem d_neg (ha : DE K B ta ρ i) : DE K B (tUn (rU fun i => .int (-i)) ta) ρ (-i) :=
  d_un ha fun x S H hi r1 Q q => ⟨i, r1, q _ S H (Ext.refl hi) rfl⟩
theorem d_lt (ha : DE K B ta ρ i) (hb : DE K B tb ρ j) : DE K B (tOp (rI0 fun i j => .bl (decide (i < j))) ta tb) ρ (decide (i < j)) :=
  d_op ha hb fun x y S H hi r1 r2 Q q => ⟨i, j, r1, r2, q _ S H (Ext.refl hi) rfl⟩
theorem d_le (ha : DE K B ta ρ i) (hb : DE K B tb ρ j) : DE K B (tOp (rI0 fun i j => .bl (decide (i ≤ j))) ta tb) ρ (decide (i ≤ j)) :=
  d_op ha hb fun x y S H hi r1 r2 Q q => ⟨i, j, r1, r2, q _ S H (Ext.refl hi) rfl⟩
theorem d_gt (ha : DE K B ta ρ i) (hb : DE K B tb ρ j) : DE K B (tOp (rI0 fun i j => .bl (decide (j < i))) ta tb) ρ (decide (j < i)) :=
  d_op ha hb fun x y S H hi r1 r2 Q q => ⟨i, j, r1, r2, q _ S H (Ext.refl hi) rfl⟩
theorem d_ge (ha : DE K B ta ρ i) (hb : DE K B tb ρ j) : DE K B (tOp (rI0 fun i j => .bl (decide (j ≤ i))) ta tb) ρ (decide (j ≤ i)) :=
  d_op ha hb fun x y S H hi r1 r2 Q q => ⟨i, j, r1, r2, q _ S H (Ext.refl hi) rfl⟩
/-- == of plain things: told by one place -/
class Flat (α : Type) [Enc α] [DecidableEq α] : Prop where
  eq : ∀ {K : PySem.W.Frag} {S : Hp} {x y : V} {a b : α}, Enc.rep K S x a → Enc.rep K S y b → scal x y = true ∧ decide (x = y) = decide (a = b)
instance : Flat Int where
  eq h1 h2 := by
    cases h1
    cases h2
    exact ⟨rfl, by simp⟩
instance : Flat Bool where
  eq h1 h2 := by
    cases h1
    cases h2
    exact ⟨rfl, by simp⟩
instance : Flat Str where
  eq h1 h2 := by
    cases h1
    cases h2
    exact ⟨rfl, by simp⟩
instance : Flat (Option Int) where
  eq {K S x y a b} h1 h2 := by
    cases a <;> cases b <;> cases h1 <;> cases h2 <;> exact ⟨rfl, by simp⟩
instance : Flat (Option Str) where
  eq {K S x y a b} h1 h2 := by
    cases a <;> cases b <;> cases h1 <;> cases h2 <;> exact ⟨rfl, by simp⟩
theorem d_eq {a a' : α} (ha : DE K B ta ρ a) (hb : DE K B tb ρ a') (inst : DecidableEq α) (fl : Flat α) : DE K B (tOp rEq ta tb) ρ (decide (a = a')) :=
  d_op ha hb fun x y S H hi r1 r2 Q q => by
    obtain ⟨h1, h2⟩ := Flat.eq r1 r2
    refine ⟨h1, ?_⟩
    rw [h2]
    exact q _ S H (Ext.refl hi) rfl
theorem d_ne {a a' : α} (ha : DE K B ta ρ a) (hb : DE K B tb ρ a') (inst : DecidableEq α) (fl : Flat α) : DE K B (tOp rNe ta tb) ρ (!decide (a = a')) :=
  d_op ha hb fun x y S H hi r1 r2 Q q => by
    obtain ⟨h1, h2⟩ := Flat.eq r1 r2
    refine ⟨h1, ?_⟩
    rw [h2]
    exact q _ S H (Ext.refl hi) rfl
/-- what is never None -/
class NotN (α : Type) [Enc α] : Prop where
  ne : ∀ {K : PySem.W.Frag} {S : Hp} {x : V} {a : α}, Enc.rep K S x a → x ≠ .non
instance : NotN Int := ⟨fun h => by cases h; exact fun z => nomatch z⟩
instance : NotN Bool := ⟨fun h => by cases h; exact fun z => nomatch z⟩
instance : NotN Str := ⟨fun h => by cases h; exact fun z => nomatch z⟩
instance : NotN (List α) := ⟨fun h => by obtain ⟨_, p, vs, rfl, _⟩ := h; exact fun z => nomatch z⟩
instance : NotN (L α) := ⟨fun h => by obtain ⟨_, p, vs, rfl, _⟩ := h; exact fun z => nomatch z⟩
instance : NotN (U α) := ⟨fun h => by obtain ⟨_, p, vs, rfl, _⟩ := h; exact fun z => nomatch z⟩
instance : NotN (α × β) := ⟨fun h => by obtain ⟨p, v1, v2, rfl, _⟩ := h; exact fun z => nomatch z⟩
instance : NotN (T3 α β γ) := ⟨fun h => by obtain ⟨p, v1, v2, v3, rfl, _⟩ := h; exact fun z => nomatch z⟩
theorem rep_isN {S : Hp} {x : V} {o : Option α} (h : Enc.rep K S x o) (hn : NotN α) : decide (x = .non) = o.isNone := by
  cases o with
  | none => cases h; rfl
  | some a => exact decide_eq_false (NotN.ne (a := a) h)
theorem d_isN {o : Option α} (ha : DE K B ta ρ o) (hn : NotN α) : DE K B (tOp (fun x y H Q => y = .non ∧ Q (.bl (decide (x = .non))) H) ta (tC .non)) ρ o.isNone :=
  d_op ha d_unit fun x y S H hi r1 r2 Q q => ⟨r2, by rw [rep_isN r1 hn]; exact q _ S H (Ext.refl hi) rfl⟩
theorem d_notN {o : Option α} (ha : DE K B ta ρ o) (hn : NotN α) : DE K B (tOp (fun x y H Q => y = .non ∧ Q (.bl (!decide (x = .non))) H) ta (tC .non)) ρ (!o.isNone) :=
  d_op ha d_unit fun x y S H hi r1 r2 Q q => ⟨r2, by rw [rep_isN r1 hn]; exact q _ S H (Ext.refl hi) rfl⟩
/-! ### tests -/
theorem DT.is {b c : Bool} (h : DT K B t ρ b) (e : b = c) : DT K B t ρ c := e ▸ h
theorem dt_test {b : Bool} (h : DE K B te ρ b) : DT K B (tTest te) ρ b := fun S0 H0 S H σ E Q q => h S0 H0 S H σ E _ fun v S1 H1 e r => ⟨b, r, q S1 H1 e⟩
theorem dt_B {b : Bool} (h : DE K B te ρ b) : DT K B (tB te) ρ b := fun S0 H0 S H σ E Q q => h S0 H0 S H σ E _ fun v S1 H1 e r => ⟨b, r, q S1 H1 e⟩
theorem dt_not {b : Bool} (h : DT K B t ρ b) : DT K B (tNot t) ρ (!b) := fun S0 H0 S H σ E Q q => h S0 H0 S H σ E _ fun S1 H1 e => q S1 H1 e
theorem dt_yes : DT K B tYes ρ true := fun _ _ S H _ E Q q => q S H (Ext.refl E.i)
theorem dt_and {b c : Bool} (h1 : DT K B t ρ b) (h2 : b = true → DT K B u ρ c) : DT K B (tAnd t u) ρ (b && c) := fun S0 H0 S H σ E Q q => h1 S0 H0 S H σ E _ fun S1 H1 e => by
  cases b with
  | true => exact h2 rfl S0 H0 S1 H1 σ (E.go e) Q fun S2 H2 e2 => q S2 H2 (e.trans e2)
  | false => exact q S1 H1 e
theorem dt_or {b c : Bool} (h1 : DT K B t ρ b) (h2 : b = false → DT K B u ρ c) : DT K B (tOr t u) ρ (b || c) := fun S0 H0 S H σ E Q q => h1 S0 H0 S H σ E _ fun S1 H1 e => by
  cases b with
  | true => exact q S1 H1 e
  | false => exact h2 rfl S0 H0 S1 H1 σ (E.go e) Q fun S2 H2 e2 => q S2 H2 (e.trans e2)
theorem d_andV {b c : Bool} (h1 : DE K B ta ρ b) (h2 : b = true → DE K B tb ρ c) : DE K B (tAndV ta tb) ρ (b && c) := fun S0 H0 S H σ E Q q => h1 S0 H0 S H σ E _ fun v S1 H1 e r => ⟨b, r, by
  cases b with
  | true => exact h2 rfl S0 H0 S1 H1 σ (E.go e) Q fun v S2 H2 e2 r2 => q v S2 H2 (e.trans e2) r2
  | false => exact q _ S1 H1 e rfl⟩
theorem d_orV {b c : Bool} (h1 : DE K B ta ρ b) (h2 : b = false → DE K B tb ρ c) : DE K B (tOrV ta tb) ρ (b || c) := fun S0 H0 S H σ E Q q => h1 S0 H0 S H σ E _ fun v S1 H1 e r => ⟨b, r, by
  cases b with
  | true => exact q _ S1 H1 e rfl
  | false => exact h2 rfl S0 H0 S1 H1 σ (E.go e) Q fun v S2 H2 e2 r2 => q v S2 H2 (e.trans e2) r2⟩
theorem d_orT (h1 : DE K B ta ρ true) : DE K B (tOrV ta tb) ρ true := d_orV (c := false) h1 fun h => nomatch h
theorem d_andF (h1 : DE K B ta ρ false) : DE K B (tAndV ta tb) ρ false := d_andV (c := false) h1 fun h => nomatch h
theorem dt_orT (h1 : DT K B t ρ true) : DT K B (tOr t u) ρ true := dt_or (c := false) h1 fun h => nomatch h
theorem dt_andF (h1 : DT K B t ρ false) : DT K B (tAnd t u) ρ false := dt_and (c := false) h1 fun h => nomatch h
theorem d_notV {b : Bool} (h1 : DE K B ta ρ b) : DE K B (tNotV ta) ρ (!b) := fun S0 H0 S H σ E Q q => h1 S0 H0 S H σ E _ fun v S1 H1 e r => ⟨b, r, q _ S1 H1 e rfl⟩
theorem d_if {c : Bool} {a1 a2 : α} (h : DT K B t ρ c) (h1 : c = true → DE K B ta ρ a1) (h2 : c = false → DE K B tb ρ a2) : DE K B (tIf t ta tb) ρ (if c = true then a1 else a2) := fun S0 H0 S H σ E Q q => h S0 H0 S H σ E _ fun S1 H1 e => by
  cases c with
  | true => exact h1 rfl S0 H0 S1 H1 σ (E.go e) Q fun v S2 H2 e2 r2 => q v S2 H2 (e.trans e2) r2
  | false => exact h2 rfl S0 H0 S1 H1 σ (E.go e) Q fun v S2 H2 e2 r2 => q v S2 H2 (e.trans e2) r2
/-- x if t else y: both ways are a -/
theorem d_ifE {c : Bool} (h : DT K B t ρ c) (h1 : c = true → DE K B ta ρ a) (h2 : c = false → DE K B tb ρ a) : DE K B (tIf t ta tb) ρ a := fun S0 H0 S H σ E Q q => h S0 H0 S H σ E _ fun S1 H1 e => by
  cases c with
  | true => exact h1 rfl S0 H0 S1 H1 σ (E.go e) Q fun v S2 H2 e2 r2 => q v S2 H2 (e.trans e2) r2
  | false => exact h2 rfl S0 H0 S1 H1 σ (E.go e) Q fun v S2 H2 e2 r2 => q v S2 H2 (e.trans e2) r2
theorem d_chain {r r' : R2} {x : β} {y : γ} {k c : Bool} (ha : DE K B ta ρ a) (hb : DE K B tb ρ x) (hc : k = true → DE K B tc ρ y)
    (hr : ∀ v w S H, Same S H → Enc.rep K S v a → Enc.rep K S w x → ∀ Q : VK, Q (.bl k) H → r v w H Q) (hr' : ∀ v w S H, Same S H → Enc.rep K S v x → Enc.rep K S w y → ∀ Q : VK, Q (.bl c) H → r' v w H Q) : DE K B (tChain r r' ta tb tc) ρ (k && c) := fun S0 H0 S H σ E Q q =>
  ha S0 H0 S H σ E _ fun v S1 H1 e1 r1 => hb S0 H0 S1 H1 σ (E.go e1) _ fun w S2 H2 e2 r2 => hr v w S2 H2 e2.i (Enc.mono e2.s r1) r2 _ ⟨k, rfl, by
    cases k with
    | true => exact hc rfl S0 H0 S2 H2 σ (E.go (e1.trans e2)) _ fun z S3 H3 e3 r3 => hr' w z S3 H3 e3.i (Enc.mono e3.s r2) r3 Q (q _ S3 H3 ((e1.trans e2).trans e3) rfl)
    | false => exact q _ S2 H2 (e1.trans e2) rfl⟩
theorem r_lt {v w : V} {S H : Hp} (h1 : Enc.rep K S v i) (h2 : Enc.rep K S w j) (Q : VK) (q : Q (.bl (decide (i < j))) H) : (rI0 fun i j => .bl (decide (i < j))) v w H Q := ⟨i, j, h1, h2, q⟩
theorem r_le {v w : V} {S H : Hp} (h1 : Enc.rep K S v i) (h2 : Enc.rep K S w j) (Q : VK) (q : Q (.bl (decide (i ≤ j))) H) : (rI0 fun i j => .bl (decide (i ≤ j))) v w H Q := ⟨i, j, h1, h2, q⟩
theorem d_chLtLe {k : Int} (ha : DE K B ta ρ i) (hb : DE K B tb ρ j) (hc : DE K B tc ρ k) : DE K B (tChain (rI0 fun i j => .bl (decide (i < j))) (rI0 fun i j => .bl (decide (i ≤ j))) ta tb tc) ρ (decide (i < j) && decide (j ≤ k)) :=
  d_chain ha hb (fun _ => hc) (fun v w S H _ h1 h2 Q q => ⟨i, j, h1, h2, q⟩) fun v w S H _ h1 h2 Q q => ⟨j, k, h1, h2, q⟩
theorem d_chLtLt {k : Int} (ha : DE K B ta ρ i) (hb : DE K B tb ρ j) (hc : DE K B tc ρ k) : DE K B (tChain (rI0 fun i j => .bl (decide (i < j))) (rI0 fun i j => .bl (decide (i < j))) ta tb tc) ρ (decide (i < j) && decide (j < k)) :=
  d_chain ha hb (fun _ => hc) (fun v w S H _ h1 h2 Q q => ⟨i, j, h1, h2, q⟩) fun v w S H _ h1 h2 Q q => ⟨j, k, h1, h2, q⟩
theorem d_chLeLt {k : Int} (ha : DE K B ta ρ i) (hb : DE K B tb ρ j) (hc : DE K B tc ρ k) : DE K B (tChain (rI0 fun i j => .bl (decide (i ≤ j))) (rI0 fun i j => .bl (decide (i < j))) ta tb tc) ρ (decide (i ≤ j) && decide (j < k)) :=
  d_chain ha hb (fun _ => hc) (fun v w S H _ h1 h2 Q q => ⟨i, j, h1, h2, q⟩) fun v w S H _ h1 h2 Q q => ⟨j, k, h1, h2, q⟩
/-! ### arguments -/
theorem da_nil : DA K B tNil ρ [] := fun _ _ S H _ E Q q => q [] S H (Ext.refl E.i) .nil
theorem da_cons {tr : TA} {ss : List Slot} (h : DE K B te ρ a) (hr : DA K B tr ρ ss) : DA K B (tCons te tr) ρ (.val a :: ss) := fun S0 H0 S H σ E Q q =>
  h S0 H0 S H σ E _ fun v S1 H1 e1 r1 => hr S0 H0 S1 H1 σ (E.go e1) _ fun vs S2 H2 e2 r2 => q _ S2 H2 (e1.trans e2) (.cons (Enc.mono e2.s r1) rfl r2)
theorem da_box {n : Nat} {tr : TA} {ss : List Slot} (h : ρ[n]? = some .box) (hr : DA K B tr ρ ss) : DA K B (tCons (tVar n) tr) ρ (.box :: ss) := fun S0 H0 S H σ E Q q => by
  obtain ⟨p, h1, h2⟩ := E.box h
  exact ⟨_, h1, hr S0 H0 S H σ E _ fun vs S2 H2 e2 r2 => q _ S2 H2 e2 (.cons ⟨p, rfl, h2⟩ rfl r2)⟩
/-- all arguments of one type -/
def DL {α : Type} [Enc α] (K : PySem.W.Frag) (B : Addr → Prop) (ta : TA) (ρ : List Slot) (xs : List α) : Prop := ∀ S0 H0 S H σ, En K B S0 H0 S H σ ρ → ∀ Q : List V → Hp → Prop, (∀ vs S' H', Ext B S H S' H' → Paired (Enc.rep K S') vs xs → Q vs H') → ta σ H Q
theorem dl_nil : DL K B tNil ρ ([] : List α) := fun _ _ S H _ E Q q => q [] S H (Ext.refl E.i) .nil
theorem dl_cons {tr : TA} {xs : List α} (h : DE K B te ρ a) (hr : DL K B tr ρ xs) : DL K B (tCons te tr) ρ (a :: xs) := fun S0 H0 S H σ E Q q =>
  h S0 H0 S H σ E _ fun v S1 H1 e1 r1 => hr S0 H0 S1 H1 σ (E.go e1) _ fun vs S2 H2 e2 r2 => q _ S2 H2 (e1.trans e2) (.cons (Enc.mono e2.s r1) r2)
theorem dl_star {tr : TA} {xs ys : List α} (h : DE K B te ρ xs) (hr : DL K B tr ρ ys) : DL K B (StX.tStar K te tr) ρ (xs ++ ys) := fun S0 H0 S H σ E Q q =>
  h S0 H0 S H σ E _ fun v S1 H1 e1 r1 => by
    obtain ⟨hl, p, vs, rfl, hq, hp⟩ := r1
    exact ⟨p, vs, rfl, Or.symm (hq.ex e1.i), hr S0 H0 S1 H1 σ (E.go e1) _ fun ws S2 H2 e2 r2 => q _ S2 H2 (e1.trans e2) (Paired.app (Paired.mono (fun _ _ => Enc.mono e2.s) hp) r2)⟩
/-! ### displays -/
theorem d_pair (ha : DE K B ta ρ a) (hb : DE K B tb ρ b) : DE K B (tTup (tCons ta (tCons tb tNil))) ρ (a, b) := fun S0 H0 S H σ E Q q =>
  ha S0 H0 S H σ E _ fun x S1 H1 e1 r1 => hb S0 H0 S1 H1 σ (E.go e1) _ fun y S2 H2 e2 r2 => ⟨by show 2 ≤ sizeLine; decide, fun p hp => by
    have e3 : Ext B S2 H2 (upd S2 p (.tup [x, y])) (upd H2 p (.tup [x, y])) := Ext.new e2.i hp
    exact q _ _ _ ((e1.trans e2).trans e3) ⟨p, x, y, rfl, .inl (.inl upd_same), Enc.mono (e2.s.trans e3.s) r1, Enc.mono e3.s r2⟩⟩
theorem d_triple {c : γ} (ha : DE K B ta ρ a) (hb : DE K B tb ρ b) (hc : DE K B tc ρ c) : DE K B (tTup (tCons ta (tCons tb (tCons tc tNil)))) ρ (T3.mk a b c) := fun S0 H0 S H σ E Q q =>
  ha S0 H0 S H σ E _ fun x S1 H1 e1 r1 => hb S0 H0 S1 H1 σ (E.go e1) _ fun y S2 H2 e2 r2 => hc S0 H0 S2 H2 σ (E.go (e1.trans e2)) _ fun z S3 H3 e3 r3 => ⟨by show 3 ≤ sizeLine; decide, fun p hp => by
    have e4 : Ext B S3 H3 (upd S3 p (.tup [x, y, z])) (upd H3 p (.tup [x, y, z])) := Ext.new e3.i hp
    exact q _ _ _ (((e1.trans e2).trans e3).trans e4) ⟨p, x, y, z, rfl, .inl (.inl upd_same), Enc.mono ((e2.s.trans e3.s).trans e4.s) r1, Enc.mono (e3.s.trans e4.s) r2, Enc.mono e4.s r3⟩⟩
theorem d_tupU {tr : TA} {xs : List α} (h : DL K B tr ρ xs) (hl : xs.length ≤ BIG) : DE K B (tTup tr) ρ (α := U α) xs := fun S0 H0 S H σ E Q q =>
  h S0 H0 S H σ E _ fun vs S1 H1 e1 r1 => ⟨by rw [r1.length]; exact Nat.le_trans hl big_line, fun p hp => by
    have e2 : Ext B S1 H1 (upd S1 p (.tup vs)) (upd H1 p (.tup vs)) := Ext.new e1.i hp
    exact q _ _ _ (e1.trans e2) ⟨hl, p, vs, rfl, .inl (.inl upd_same), Paired.mono (fun _ _ => Enc.mono e2.s) r1⟩⟩
theorem do_lst {tr : TA} {xs : List α} (h : DL K B tr ρ xs) (hl : xs.length ≤ BIG) : DO K B (tLst tr) ρ xs := fun S0 H0 S H σ E Q q =>
  h S0 H0 S H σ E _ fun vs S1 H1 e1 r1 => ⟨by rw [r1.length]; exact Nat.le_trans hl big_line, fun p hp => q p vs S1 _ (e1.trans (Ext.priv e1.i hp)) (e1.free E.i hp) (e1.i.free hp) upd_same r1 hl⟩
/-- an own list as a value -/
theorem DO.l {xs : List α} (h : DO K B te ρ xs) : DE K B te ρ (α := L α) xs := fun S0 H0 S H σ E Q q =>
  h S0 H0 S H σ E _ fun p vs S1 H1 e1 hp hs hh r hl => q _ _ _ (e1.frz hp E.i hh hs) ⟨hl, p, vs, rfl, upd_same, Paired.mono (fun _ _ => Enc.mono (same_new hs)) r⟩
theorem d_Lq {xs : List α} (h : DE K B te ρ (α := L α) xs) : DE K B te ρ xs := fun S0 H0 S H σ E Q q =>
  h S0 H0 S H σ E _ fun v S1 H1 e1 ⟨hl, p, vs, e, hh, r⟩ => q v S1 H1 e1 ⟨hl, p, vs, e, .l hh, r⟩
theorem d_Uq {xs : List α} (h : DE K B te ρ (α := U α) xs) : DE K B te ρ xs := fun S0 H0 S H σ E Q q =>
  h S0 H0 S H σ E _ fun v S1 H1 e1 ⟨hl, p, vs, e, hh, r⟩ => q v S1 H1 e1 ⟨hl, p, vs, e, .inr hh, r⟩
theorem DO.q {xs : List α} (h : DO K B te ρ xs) : DE K B te ρ xs := d_Lq h.l
/-! ### sequences -/
theorem d_len {xs : List α} (h : DE K B te ρ xs) : DE K B (tCB (rLenQ K) (tCons te tNil)) ρ (xs.length : Int) := fun S0 H0 S H σ E Q q =>
  h S0 H0 S H σ E _ fun v S1 H1 e1 ⟨hl, p, vs, e, hh, r⟩ => by
    subst e
    refine ⟨p, vs, rfl, hh.ex e1.i, ?_⟩
    rw [r.length]
    exact q _ S1 H1 e1 rfl
/-- len of one's own list -/
theorem d_lenO {n : Nat} {xs : List α} (h : ρ[n]? = some (.own xs)) : DE K B (tCB (rLenQ K) (tCons (tVar n) tNil)) ρ (xs.length : Int) := fun S0 H0 S H σ E Q q => by
  obtain ⟨hl, p, vs, e1, h0, hs, hh, r⟩ := E.own h
  refine ⟨_, e1, p, vs, rfl, .l hh, ?_⟩
  rw [r.length]
  exact q _ S H (Ext.refl E.i) rfl
/-- the place that an index tells -/
def atZ {α : Type} [Inhabited α] (xs : List α) (i : Int) : α := (atI xs i).getD default
theorem paired_atI {S : Hp} : ∀ {vs : List V} {xs : List α} {i : Int} {x : α}, Paired (Enc.rep K S) vs xs → atI xs i = some x → ∃ v, atI vs i = some v ∧ Enc.rep K S v x := fun {vs xs i x} r h => by
  unfold atI at h ⊢
  rw [r.length]
  cases q : ixN xs.length i with
  | none => rw [q] at h; cases h
  | some j =>
    rw [q] at h
    exact Paired.at r h
theorem d_ix {xs : List α} {x : α} (h : DE K B ta ρ xs) (hi : DE K B tb ρ i) (hx : atI xs i = some x) : DE K B (tOp (rIxQ K) ta tb) ρ x :=
  d_op h hi fun v w S H sm ⟨hl, p, vs, e, hh, r⟩ r2 Q q => by
    obtain ⟨y, h1, h2⟩ := paired_atI r hx
    exact ⟨p, vs, i, y, e, r2, hh.ex sm, h1, q y S H (Ext.refl sm) h2⟩
theorem d_ixO {n : Nat} {xs : List α} {x : α} (h : ρ[n]? = some (.own xs)) (hi : DE K B tb ρ i) (hx : atI xs i = some x) : DE K B (tOp (rIxQ K) (tVar n) tb) ρ x := fun S0 H0 S H σ E Q q => by
  obtain ⟨hl, p, vs, e1, h0, hs, hh, r⟩ := E.own h
  refine ⟨_, e1, ?_⟩
  refine hi S0 H0 S H σ E _ fun w S1 H1 ex r1 => ?_
  obtain ⟨_, p', vs', e1', _, _, hh', r'⟩ := (E.go ex).own h
  rw [e1] at e1'
  cases e1'
  obtain ⟨y, h1, h2⟩ := paired_atI r' hx
  exact ⟨p, vs', i, y, rfl, r1, .l hh', h1, q y S1 H1 ex h2⟩
theorem d_fst {p : α × β} (h : DE K B ta ρ p) : DE K B (tOp (rIxQ K) ta (tC (.int 0))) ρ p.1 :=
  d_op h d_int fun v w S H sm ⟨a, v1, v2, e, hh, r1, r2⟩ rw Q q => ⟨a, [v1, v2], 0, v1, e, rw, .inr (Evl.ex_t sm hh), rfl, q v1 S H (Ext.refl sm) r1⟩
theorem d_snd {p : α × β} (h : DE K B ta ρ p) : DE K B (tOp (rIxQ K) ta (tC (.int 1))) ρ p.2 :=
  d_op h d_int fun v w S H sm ⟨a, v1, v2, e, hh, r1, r2⟩ rw Q q => ⟨a, [v1, v2], 1, v2, e, rw, .inr (Evl.ex_t sm hh), rfl, q v2 S H (Ext.refl sm) r2⟩
theorem d_t3a {p : T3 α β γ} (h : DE K B ta ρ p) : DE K B (tOp (rIxQ K) ta (tC (.int 0))) ρ p.a :=
  d_op h d_int fun v w S H sm ⟨a, v1, v2, v3, e, hh, r1, r2, r3⟩ rw Q q => ⟨a, [v1, v2, v3], 0, v1, e, rw, .inr (Evl.ex_t sm hh), rfl, q v1 S H (Ext.refl sm) r1⟩
theorem d_t3b {p : T3 α β γ} (h : DE K B ta ρ p) : DE K B (tOp (rIxQ K) ta (tC (.int 1))) ρ p.b :=
  d_op h d_int fun v w S H sm ⟨a, v1, v2, v3, e, hh, r1, r2, r3⟩ rw Q q => ⟨a, [v1, v2, v3], 1, v2, e, rw, .inr (Evl.ex_t sm hh), rfl, q v2 S H (Ext.refl sm) r2⟩
theorem d_t3c {p : T3 α β γ} (h : DE K B ta ρ p) : DE K B (tOp (rIxQ K) ta (tC (.int 2))) ρ p.c :=
  d_op h d_int fun v w S H sm ⟨a, v1, v2, v3, e, hh, r1, r2, r3⟩ rw Q q => ⟨a, [v1, v2, v3], 2, v3, e, rw, .inr (Evl.ex_t sm hh), rfl, q v3 S H (Ext.refl sm) r3⟩
/-- slices -/
def cutA {α : Type} (xs : List α) (lo hi : Option Int) : List α := (xs.drop (HT.sIx xs.length 0 lo)).take (HT.sIx xs.length xs.length hi - HT.sIx xs.length 0 lo)
theorem cutA_len {α : Type} (xs : List α) (lo hi : Option Int) : (cutA xs lo hi).length ≤ xs.length := by
  unfold cutA
  rw [List.length_take, List.length_drop]
  omega
theorem paired_cut {S : Hp} {vs : List V} {xs : List α} {lo hi : Option Int} (r : Paired (Enc.rep K S) vs xs) : Paired (Enc.rep K S) (cutV vs lo hi) (cutA xs lo hi) := by
  unfold cutV cutA
  rw [r.length]
  exact Paired.tk _ (Paired.dr _ r)
theorem dp_none : DP K B tNoPart ρ none := fun _ _ S H _ E Q q => q S H (Ext.refl E.i)
theorem dp_some (h : DE K B te ρ i) : DP K B (tPart te) ρ (some i) := fun S0 H0 S H σ E Q q => h S0 H0 S H σ E _ fun v S1 H1 e r => ⟨i, r, q S1 H1 e⟩
theorem d_slice {tl th : TO} {xs : List α} {lo hi : Option Int} (h : DE K B te ρ xs) (hl : DP K B tl ρ lo) (hh : DP K B th ρ hi) : DE K B (tSl (rSlQ K) te tl th) ρ (cutA xs lo hi) := fun S0 H0 S H σ E Q q =>
  h S0 H0 S H σ E _ fun v S1 H1 e1 r1 => hl S0 H0 S1 H1 σ (E.go e1) _ fun S2 H2 e2 => hh S0 H0 S2 H2 σ (E.go (e1.trans e2)) _ fun S3 H3 e3 => by
    have e13 := (e1.trans e2).trans e3
    obtain ⟨hl, p, vs, rfl, hq, r⟩ := Enc.mono (e2.s.trans e3.s) r1
    have lc : (cutA xs lo hi).length ≤ BIG := Nat.le_trans (cutA_len _ _ _) hl
    rcases hq with hq | hq
    · refine .inl ⟨p, vs, rfl, Evl.ex_l e3.i hq, fun w hw => ?_⟩
      have e4 : Ext B S3 H3 (upd S3 w (.lst (cutV vs lo hi))) (upd H3 w (.lst (cutV vs lo hi))) := Ext.new e3.i hw
      exact q _ _ _ (e13.trans e4) ⟨lc, w, _, rfl, .l upd_same, Paired.mono (fun _ _ => Enc.mono e4.s) (paired_cut r)⟩
    · by_cases hw : HT.sIx vs.length 0 lo = 0 ∧ HT.sIx vs.length vs.length hi = vs.length
      · refine .inr (.inr ⟨p, vs, rfl, Evl.ex_t e3.i hq, hw, q _ S3 H3 e13 ⟨lc, p, vs, rfl, .inr hq, ?_⟩⟩)
        have ev : cutV vs lo hi = vs := by
          unfold cutV
          rw [hw.1, hw.2]
          simp
        have r' := paired_cut (lo := lo) (hi := hi) r
        rw [ev] at r'
        exact r'
      · refine .inr (.inl ⟨p, vs, rfl, Evl.ex_t e3.i hq, hw, fun w hw => ?_⟩)
        have e4 : Ext B S3 H3 (upd S3 w (.tup (cutV vs lo hi))) (upd H3 w (.tup (cutV vs lo hi))) := Ext.new e3.i hw
        exact q _ _ _ (e13.trans e4) ⟨lc, w, _, rfl, .t upd_same, Paired.mono (fun _ _ => Enc.mono e4.s) (paired_cut r)⟩
/-- tuple(xs), list(xs) -/
theorem d_tuple {xs : List α} (h : DE K B te ρ xs) : DE K B (tCB (rTupQ K) (tCons te tNil)) ρ (α := U α) xs := fun S0 H0 S H σ E Q q =>
  h S0 H0 S H σ E _ fun v S1 H1 e1 ⟨hl, p, vs, e, hh, r⟩ => by
    subst e
    rcases hh with hh | hh
    · refine ⟨⟨p, vs, rfl, .inl ⟨Evl.ex_l e1.i hh, fun w hw => ?_⟩⟩⟩
      have e4 : Ext B S1 H1 (upd S1 w (.tup vs)) (upd H1 w (.tup vs)) := Ext.new e1.i hw
      exact q _ _ _ (e1.trans e4) ⟨hl, w, _, rfl, .inl (.inl upd_same), Paired.mono (fun _ _ => Enc.mono e4.s) r⟩
    · exact ⟨⟨p, vs, rfl, .inr ⟨Evl.ex_t e1.i hh, q _ S1 H1 e1 ⟨hl, p, vs, rfl, hh, r⟩⟩⟩⟩
theorem do_list {xs : List α} (h : DE K B te ρ xs) : DO K B (tCB (rListQ K) (tCons te tNil)) ρ xs := fun S0 H0 S H σ E Q q =>
  h S0 H0 S H σ E _ fun v S1 H1 e1 ⟨hl, p, vs, e, hh, r⟩ => by
    subst e
    exact ⟨p, vs, rfl, hh.ex e1.i, fun w hw => q w vs S1 _ (e1.trans (Ext.priv e1.i hw)) (e1.free E.i hw) (e1.i.free hw) upd_same r hl⟩
/-- lists of one's own, put together; so many times -/
theorem do_cat {xs ys : List α} (h1 : DE K B ta ρ (α := L α) xs) (h2 : DE K B tb ρ (α := L α) ys) (hl : xs.length + ys.length ≤ BIG) : DO K B (tOp rCat ta tb) ρ (xs ++ ys) := fun S0 H0 S H σ E Q q =>
  h1 S0 H0 S H σ E _ fun v S1 H1 e1 r1 => h2 S0 H0 S1 H1 σ (E.go e1) _ fun w S2 H2 e2 ⟨l2, p2, vs2, z2, hh2, r2⟩ => by
    obtain ⟨l1, p1, vs1, z1, hh1, r1'⟩ := Enc.mono e2.s r1
    subst z1
    subst z2
    have r := Paired.app r1' r2
    refine ⟨p1, p2, vs1, vs2, rfl, rfl, e2.i _ _ hh1, e2.i _ _ hh2, ?_, fun p hp => q p _ S2 _ ((e1.trans e2).trans (Ext.priv e2.i hp)) ((e1.trans e2).free E.i hp) (e2.i.free hp) upd_same r ?_⟩
    · rw [r1'.length, r2.length]
      exact Nat.le_trans hl big_line
    · rw [List.length_append]
      exact hl
theorem paired_flat {S : Hp} {vs : List V} {xs : List α} (r : Paired (Enc.rep K S) vs xs) : ∀ n : Nat, Paired (Enc.rep K S) (List.replicate n vs).flatten (List.replicate n xs).flatten
  | 0 => .nil
  | n + 1 => by
    rw [List.replicate_succ, List.replicate_succ, List.flatten_cons, List.flatten_cons]
    exact Paired.app r (paired_flat r n)
end
end WW

set_option Elab.async false
set_option linter.all false
set_option maxRecDepth 100000
set_option maxHeartbeats 4000000
namespace WW
open PySem PySem.Spec PyProof.Rows L2
def wipeS (ρ : List Slot) : List Nat → List Slot
  | [] => ρ
  | v :: vs => (wipeS ρ vs).set v .no
theorem wipe_off {σ : L2.St} {i : Nat} : ∀ {vs : List Nat}, i ∉ vs → (wipe σ vs)[i]? = σ[i]?
  | [], _ => rfl
  | v :: vs, h => by
    rw [List.mem_cons, not_or] at h
    show ((wipe σ vs).set v none)[i]? = σ[i]?
    rw [List.getElem?_set_ne (Ne.symm h.1)]
    exact wipe_off h.2
theorem wipe_on {σ : L2.St} {i : Nat} (hi : i < σ.length) : ∀ {vs : List Nat}, i ∈ vs → (wipe σ vs)[i]? = some none
  | v :: vs, h => by
    show ((wipe σ vs).set v none)[i]? = some none
    by_cases z : v = i
    · subst z
      rw [List.getElem?_set_self (by rw [wipe_length]; exact hi)]
    · rw [List.getElem?_set_ne z]
      exact wipe_on hi ((List.mem_cons.mp h).resolve_left (Ne.symm z))
theorem wipe_eq {σ σ' : L2.St} {vs : List Nat} (hl : σ'.length = σ.length) (h : ∀ i, i ∉ vs → σ'[i]? = σ[i]?) : wipe σ' vs = wipe σ vs := by
  refine List.ext_getElem? fun i => ?_
  by_cases hi : i < σ.length
  · by_cases hv : i ∈ vs
    · rw [wipe_on hi hv, wipe_on (by rw [hl]; exact hi) hv]
    · rw [wipe_off hv, wipe_off hv, h i hv]
  · rw [List.getElem?_eq_none (by rw [wipe_length, hl]; omega), List.getElem?_eq_none (by rw [wipe_length]; omega)]
theorem wipe_wipe {σ : L2.St} {vs : List Nat} : wipe (wipe σ vs) vs = wipe σ vs := wipe_eq (wipe_length σ vs) fun i hi => wipe_off hi
section
variable {K : PySem.W.Frag} {B : Addr → Prop} {ρ ρ' ρ1 : List Slot} {ta tb tc te : TE} {t u : TT} {α β γ : Type} {e_α : Enc α} {e_β : Enc β} {e_γ : Enc γ} {a : α} {b : β} {i j : Int}
theorem En.wp {S0 H0 S H : Hp} {σ : L2.St} (E : En K B S0 H0 S H σ ρ) : ∀ vs : List Nat, En K B S0 H0 S H (wipe σ vs) (wipeS ρ vs)
  | [] => E
  | v :: vs => (E.wp vs).set (i := v) (o := none) (s := .no) trivial rfl
theorem Ext.mut {S H S1 H1 : Hp} {D : Addr} {o : HO} (e : Ext B S H S1 H1) (h : H D = none) (h1 : S1 D = none) : Ext B S H S1 (upd H1 D o) := by
  refine ⟨e.s, fun a u q => ?_, fun a q1 q2 => ?_⟩
  · rw [upd_ne (fun z => by rw [z, h1] at q; cases q)]
    exact e.i _ _ q
  · rw [upd_ne (fun z => q2 (by rw [z]; exact h))]
    exact e.p a q1 q2
/-! ### what is walked -/
theorem di_seq {xs : List α} (h : DE K B te ρ xs) : DI K B (iSeq K te) ρ xs := fun S0 H0 S H σ E R q =>
  h S0 H0 S H σ E _ fun v S1 H1 e1 ⟨hl, p, vs, e, hh, r⟩ => by
    refine ⟨p, e, ?_⟩
    rcases hh with hh | hh
    · refine .inl ⟨⟨vs, Evl.ex_l e1.i hh⟩, q _ S1 H1 e1 fun S2 H2 s2 x2 => have i2 := x2.i; ⟨fun i x hx => ?_, vs, Evl.ex_l (s2.trans i2) hh, by rw [r.length]; exact Nat.le_refl _⟩⟩
      obtain ⟨w, h1, h2⟩ := Paired.at r hx
      refine ⟨⟨vs, w, Evl.ex_l (s2.trans i2) hh, h1⟩, fun v H3 hy => ⟨S2, ?_, ?_⟩⟩
      · rw [hy.1]
        exact Ext.refl i2
      · have z := hy.2 vs (Evl.ex_l (s2.trans i2) hh)
        rw [h1] at z
        cases z
        exact Enc.mono s2 h2
    · refine .inr ⟨⟨vs, Evl.ex_t e1.i hh⟩, q _ S1 H1 e1 fun S2 H2 s2 x2 => have i2 := x2.i; ⟨fun i x hx => ?_, vs, Evl.ex_t (s2.trans i2) hh, by rw [r.length]; exact Nat.le_refl _⟩⟩
      obtain ⟨w, h1, h2⟩ := Paired.at r hx
      refine ⟨⟨vs, w, Evl.ex_t (s2.trans i2) hh, h1⟩, fun v H3 hy => ⟨S2, ?_, ?_⟩⟩
      · rw [hy.1]
        exact Ext.refl i2
      · have z := hy.2 vs (Evl.ex_t (s2.trans i2) hh)
        rw [h1] at z
        cases z
        exact Enc.mono s2 h2
/-- lo, lo + 1, .. below hi -/
def rg (lo hi : Int) : List Int := (List.range (hi - lo).toNat).map fun i : Nat => lo + (i : Int)
theorem rg_len (lo hi : Int) : (rg lo hi).length = (hi - lo).toNat := by
  unfold rg
  rw [List.length_map, List.length_range]
theorem rg_at {lo hi : Int} {i : Nat} {x : Int} (h : (rg lo hi)[i]? = some x) : x = lo + i ∧ lo ≤ x ∧ x < hi := by
  unfold rg at h
  rw [List.getElem?_map] at h
  by_cases hi' : i < (hi - lo).toNat
  · rw [List.getElem?_range hi'] at h
    have h : some (lo + (i : Int)) = some x := h
    cases h
    omega
  · rw [List.getElem?_eq_none (by rw [List.length_range]; omega)] at h
    cases h
theorem rg_mem {lo hi x : Int} : x ∈ rg lo hi ↔ lo ≤ x ∧ x < hi := by
  unfold rg
  rw [List.mem_map]
  constructor
  · rintro ⟨i, h1, rfl⟩
    rw [List.mem_range] at h1
    omega
  · rintro ⟨h1, h2⟩
    exact ⟨(x - lo).toNat, List.mem_range.mpr (by omega), by omega⟩
theorem rg_get {lo hi : Int} {i : Nat} (h : (i : Int) < hi - lo) : (rg lo hi)[i]? = some (lo + i) := by
  unfold rg
  rw [List.getElem?_map, List.getElem?_range (by omega)]
  rfl
theorem yld_rg {lo hi : Int} {S S0 H0 : Hp} : Yld K B S0 H0 (Itr lo (hi - lo).toNat) S (rg lo hi) := fun S1 H1 _ x1 => by
  have i1 := x1.i
  refine ⟨fun i x hx => ?_, by show (hi - lo).toNat ≤ _; rw [rg_len]; exact Nat.le_refl _⟩
  have l := (List.getElem?_eq_some_iff.mp hx).1
  rw [rg_len] at l
  refine ⟨l, fun v H2 hy => ⟨S1, ?_, ?_⟩⟩
  · rw [hy.1]
    exact Ext.refl i1
  · show v = .int x
    rw [hy.2, (rg_at hx).1]
theorem di_rng1 (h : DE K B te ρ j) (h1 : -(2 ^ 62) ≤ j) (h2 : j < 2 ^ 62) : DI K B (iRng1 (tCons te tNil)) ρ (rg 0 j) := fun S0 H0 S H σ E R q =>
  h S0 H0 S H σ E _ fun v S1 H1 e1 r => ⟨j, by cases r; rfl, h1, h2, by
    have z := q (Itr 0 (j - 0).toNat) S1 H1 e1 yld_rg
    rw [Int.sub_zero] at z
    exact z⟩
theorem di_rng2 (h : DE K B ta ρ i) (h' : DE K B tb ρ j) (h1 : -(2 ^ 62) ≤ i ∧ i < 2 ^ 62 ∧ -(2 ^ 62) ≤ j ∧ j < 2 ^ 62) : DI K B (iRng2 (tCons ta (tCons tb tNil))) ρ (rg i j) := fun S0 H0 S H σ E R q =>
  h S0 H0 S H σ E _ fun v S1 H1 e1 r => h' S0 H0 S1 H1 σ (E.go e1) _ fun w S2 H2 e2 r2 => ⟨i, j, by cases r; cases r2; rfl, h1, q _ S2 H2 (e1.trans e2) yld_rg⟩
/-! ### targets -/
theorem dg_name {n : Nat} : DG K B (gName n) a ρ (ρ.set n (.val a)) [n] := fun S0 H0 S H σ v E r R q =>
  q _ (E.setV r) (List.length_set ..) fun i hi => by
    rw [List.mem_singleton] at hi
    rw [List.getElem?_set_ne (Ne.symm hi)]
theorem DG.pair {g g' : TG} {ρ2 : List Slot} {js js' : List Nat} (h1 : DG K B g a ρ ρ1 js) (h2 : DG K B g' b ρ1 ρ2 js') : DG K B (gTup K 2 (gCons g (gCons g' gNil))) (a, b) ρ ρ2 (js ++ js') := fun S0 H0 S H σ v E r R q => by
  obtain ⟨p, v1, v2, rfl, hq, r1, r2⟩ := r
  refine ⟨p, [v1, v2], rfl, Evl.ex_t E.i hq, rfl, v1, [v2], rfl, ?_⟩
  refine h1 S0 H0 S H σ v1 E r1 _ fun σ1 E1 l1 f1 => ⟨v2, [], rfl, ?_⟩
  refine h2 S0 H0 S H σ1 v2 E1 r2 _ fun σ2 E2 l2 f2 => ⟨rfl, q σ2 E2 (l2.trans l1) fun i hi => ?_⟩
  rw [List.mem_append, not_or] at hi
  rw [f2 i hi.2, f1 i hi.1]
theorem DG.trip {g g' g'' : TG} {c : γ} {ρ2 ρ3 : List Slot} {js js' js'' : List Nat} (h1 : DG K B g a ρ ρ1 js) (h2 : DG K B g' b ρ1 ρ2 js') (h3 : DG K B g'' c ρ2 ρ3 js'') : DG K B (gTup K 3 (gCons g (gCons g' (gCons g'' gNil)))) (T3.mk a b c) ρ ρ3 (js ++ (js' ++ js'')) := fun S0 H0 S H σ v E r R q => by
  obtain ⟨p, v1, v2, v3, rfl, hq, r1, r2, r3⟩ := r
  refine ⟨p, [v1, v2, v3], rfl, Evl.ex_t E.i hq, rfl, v1, [v2, v3], rfl, ?_⟩
  refine h1 S0 H0 S H σ v1 E r1 _ fun σ1 E1 l1 f1 => ⟨v2, [v3], rfl, ?_⟩
  refine h2 S0 H0 S H σ1 v2 E1 r2 _ fun σ2 E2 l2 f2 => ⟨v3, [], rfl, ?_⟩
  refine h3 S0 H0 S H σ2 v3 E2 r3 _ fun σ3 E3 l3 f3 => ⟨rfl, q σ3 E3 ((l3.trans l2).trans l1) fun i hi => ?_⟩
  rw [List.mem_append, not_or, List.mem_append, not_or] at hi
  rw [f3 i hi.2.2, f2 i hi.2.1, f1 i hi.1]
/-! ### comprehensions -/
theorem do_lc {wi : TI} {g : TG} {vs : List Nat} {xs : List α} (p : α → Bool) (f : α → β) (hi : DI K B wi ρ xs) (hl : xs.length ≤ BIG)
    (h : ∀ x ∈ xs, ∃ ρ' js, DG K B g x (wipeS ρ vs) ρ' js ∧ (∀ i ∈ js, i ∈ vs) ∧ DT K B t ρ' (p x) ∧ (p x = true → DE K B te ρ' (f x))) : DO K B (tLc wi g t te vs) ρ ((xs.filter p).map f) := by
  intro S0 H0 S H σ E Q q
  refine hi S0 H0 S H σ E _ fun J S1 H1 e1 y D hD => ?_
  have hD0 : H D = none := e1.free E.i hD
  have nB : ¬ B D := fun z => (E.bx D z).2.2 (E.ext.free E.i0 hD0)
  let Pv : Nat → Hp → Prop := fun i Hc => ∃ Sc ws, Ext B S1 H1 Sc Hc ∧ Sc D = none ∧ Hc D = some (.lst ws) ∧ Paired (Enc.rep K Sc) ws (((xs.take i).filter p).map f)
  refine ⟨fun i m Hc => m = xs.length - i ∧ i ≤ xs.length ∧ Pv i Hc, ⟨xs.length, by simp, Nat.zero_le _, S1, [], Ext.priv e1.i hD, e1.i.free hD, upd_same, .nil⟩, ?_⟩
  rintro i m Hc ⟨rfl, hle, Sc, ws, ex, hs, hh, r⟩
  have yy := y Sc Hc ex.s (E.ext.trans (e1.trans ex))
  by_cases hlt : i < xs.length
  · refine .inr ?_
    obtain ⟨x, hx⟩ : ∃ x, xs[i]? = some x := ⟨_, List.getElem?_eq_getElem hlt⟩
    obtain ⟨hgo, hy⟩ := yy.1 i x hx
    refine ⟨hgo, Pv (i + 1), fun H' hp => ⟨xs.length - (i + 1), by omega, rfl, hlt, hp⟩, fun v H' hyl => ?_⟩
    obtain ⟨S2, e2, r2⟩ := hy v H' hyl
    obtain ⟨ρ', js, hg, hjs, ht, he⟩ := h x (List.mem_of_getElem? hx)
    have lw : ws.length < sizeLine := by
      rw [r.length, List.length_map]
      have h1 := List.length_filter_le p (xs.take i)
      rw [List.length_take] at h1
      have := big_line
      omega
    refine hg S0 H0 S2 H' (wipe σ vs) v ((E.go ((e1.trans ex).trans e2)).wp vs) r2 _ fun σ2 E2 l2 f2 => ⟨?_, ?_⟩
    · have z := wipe_eq (vs := vs) l2 fun i hi => f2 i fun z => hi (hjs i z)
      rw [z, wipe_wipe]
    · refine ht S0 H0 S2 H' σ2 E2 _ fun S3 H3 e3 => ?_
      have e13 := (ex.trans e2).trans e3
      have st : ∀ S4 H4, Ext B Sc Hc S4 H4 → S4 D = none ∧ H4 D = some (.lst ws) := fun S4 H4 e => by
        obtain ⟨q1, q2⟩ := e.p D hs (by rw [hh]; exact fun z => nomatch z)
        refine ⟨q1, ?_⟩
        rcases q2 with q2 | ⟨q2, _⟩
        · rw [q2]
          exact hh
        · exact absurd q2 nB
      cases hp : p x with
      | false =>
        obtain ⟨a1, a2⟩ := st S3 H3 (e2.trans e3)
        refine ⟨S3, ws, e13, a1, a2, ?_⟩
        rw [List.take_add_one, hx, List.filter_append]
        have z : (Option.toList (some x)).filter p = [] := by
          show [x].filter p = []
          rw [List.filter_cons, if_neg (by rw [hp]; decide), List.filter_nil]
        rw [z, List.append_nil]
        exact Paired.mono (fun _ _ => Enc.mono (e2.s.trans e3.s)) r
      | true =>
        refine he hp S0 H0 S3 H3 σ2 (E2.go e3) _ fun w S4 H4 e4 r4 => ?_
        obtain ⟨a1, a2⟩ := st S4 H4 ((e2.trans e3).trans e4)
        refine ⟨ws, a2, lw, S4, ws ++ [w], (e13.trans e4).mut hD a1, a1, upd_same, ?_⟩
        rw [List.take_add_one, hx, List.filter_append]
        have z : (Option.toList (some x)).filter p = [x] := by
          show [x].filter p = [x]
          rw [List.filter_cons, if_pos hp, List.filter_nil]
        rw [z, List.map_append]
        exact Paired.app (Paired.mono (fun _ _ => Enc.mono ((e2.s.trans e3.s).trans e4.s)) r) (.cons r4 .nil)
  · refine .inl ⟨?_, ?_⟩
    · rw [show i = xs.length by omega]
      exact yy.2
    · rw [List.take_of_length_le (by omega)] at r
      refine q D ws Sc Hc (e1.trans ex) hD0 hs hh r ?_
      rw [List.length_map]
      exact Nat.le_trans (List.length_filter_le _ _) hl
theorem do_map {wi : TI} {g : TG} {vs : List Nat} {xs : List α} (f : α → β) (hi : DI K B wi ρ xs) (hl : xs.length ≤ BIG)
    (h : ∀ x ∈ xs, ∃ ρ' js, DG K B g x (wipeS ρ vs) ρ' js ∧ (∀ i ∈ js, i ∈ vs) ∧ DE K B te ρ' (f x)) : DO K B (tLc wi g tYes te vs) ρ (xs.map f) := by
  have z := do_lc (fun _ => true) f hi hl (t := tYes) (te := te) (g := g) (vs := vs) fun x hx => by
    obtain ⟨ρ', js, h1, h2, h3⟩ := h x hx
    exact ⟨ρ', js, h1, h2, dt_yes, fun _ => h3⟩
  rw [List.filter_eq_self.mpr (fun _ _ => rfl)] at z
  exact z
/-! ### calls -/
def spT (K : PySem.W.Frag) (dp : List Slot → (Slot → Prop) → Prop) : Sp := fun vs H Q _ => ∃ B S ss R, Same S H ∧ (∀ p, B p → S p = none ∧ IsBx (H p)) ∧ ArgsOk K B H S H vs ss ∧ dp ss R ∧ ∀ s v S' H', R s → Ext B S H S' H' → SlotOk K B H S' H' (some v) s → Q v H'
theorem SlotOk.base {H0 S H : Hp} {o : Option V} {s : Slot} (h : SlotOk K B H0 S H o s) (hs : s.isOwn = false) : SlotOk K B H S H o s := by
  cases s with
  | no => cases o <;> trivial
  | box =>
    cases o with
    | none => cases h
    | some v => exact h
  | val a =>
    cases o with
    | none => cases h
    | some v => exact h
  | obj P => cases hs
  | out P =>
    cases o with
    | none => cases h
    | some v =>
      obtain ⟨p, u, e, nb, _, hs, hh, r⟩ := h
      exact ⟨p, u, e, nb, (by rw [hh]; exact fun z => nomatch z), hs, hh, r⟩
theorem ArgsOk.base {H0 S H : Hp} : ∀ {vs : List V} {ss : List Slot}, ArgsOk K B H0 S H vs ss → ArgsOk K B H S H vs ss
  | _, _, .nil => .nil
  | _, _, .cons h1 h2 h3 => .cons (h1.base h2) h2 h3.base
theorem ArgsOk.length {H0 S H : Hp} : ∀ {vs : List V} {ss : List Slot}, ArgsOk K B H0 S H vs ss → vs.length = ss.length
  | _, _, .nil => rfl
  | _, _, .cons _ _ h3 => by rw [List.length_cons, List.length_cons, h3.length]
theorem ArgsOk.at' {H0 S H : Hp} : ∀ {vs : List V} {ss : List Slot}, ArgsOk K B H0 S H vs ss → ∀ (i : Nat) (s : Slot), ss[i]? = some s → ∃ v, vs[i]? = some v ∧ SlotOk K B H0 S H (some v) s ∧ s.isOwn = false
  | _, _, .nil, i, s, e => by simp at e
  | _, _, .cons h1 h2 _, 0, s, e => by
    simp at e
    subst e
    exact ⟨_, rfl, h1, h2⟩
  | _, _, .cons _ _ h3, i + 1, s, e => by
    obtain ⟨v, q1, q2⟩ := h3.at' i s (by simpa using e)
    exact ⟨v, by simpa using q1, q2⟩
/-- the promise used: one of some values -/
theorem dn_call {dp : List Slot → (Slot → Prop) → Prop} {tr : TA} {ss : List Slot} {P : α → Prop} (h : DA K B tr ρ ss) (hd : dp ss fun s => ∃ a : α, P a ∧ s = .val a) : DN K B (tCall (spT K dp) [] E0 tr) ρ P := fun S0 H0 S H σ E Q q =>
  h S0 H0 S H σ E _ fun vs S1 H1 e1 r1 => by
    show spT K dp (vs ++ []) H1 Q E0
    rw [List.append_nil]
    refine ⟨B, S1, ss, _, e1.i, fun p hp => ⟨((E.go e1).bx p hp).1, ((E.go e1).bx p hp).2.1⟩, r1.base, hd, fun s v S2 H2 hs e2 ok => ?_⟩
    obtain ⟨a, pa, rfl⟩ := hs
    exact q v a S2 H2 pa (e1.trans e2) ok
theorem DN.e (h : DN K B te ρ fun x => x = a) : DE K B te ρ a := fun S0 H0 S H σ E Q q => h S0 H0 S H σ E Q fun v x S1 H1 e ex r => q v S1 H1 ex (e ▸ r)
theorem DE.n (h : DE K B te ρ a) : DN K B te ρ fun x => x = a := fun S0 H0 S H σ E Q q => h S0 H0 S H σ E Q fun v S1 H1 ex r => q v a S1 H1 rfl ex r
theorem DN.imp {P P' : α → Prop} (h : DN K B te ρ P) (f : ∀ a, P a → P' a) : DN K B te ρ P' := fun S0 H0 S H σ E Q q => h S0 H0 S H σ E Q fun v x S1 H1 e ex r => q v x S1 H1 (f x e) ex r
theorem d_call {dp : List Slot → (Slot → Prop) → Prop} {tr : TA} {ss : List Slot} (h : DA K B tr ρ ss) (hd : dp ss fun s => s = .val a) : DE K B (tCall (spT K dp) [] E0 tr) ρ a := fun S0 H0 S H σ E Q q =>
  h S0 H0 S H σ E _ fun vs S1 H1 e1 r1 => by
    show spT K dp (vs ++ []) H1 Q E0
    rw [List.append_nil]
    refine ⟨B, S1, ss, _, e1.i, fun p hp => ⟨((E.go e1).bx p hp).1, ((E.go e1).bx p hp).2.1⟩, r1.base, hd, fun s v S2 H2 hs e2 ok => ?_⟩
    cases hs
    exact q v S2 H2 (e1.trans e2) ok
/-- what a class of objects is -/
class OfCls (α : Type) [Enc α] where
  cn : Str
  fl : List Str
  is : ∀ {K : PySem.W.Frag} {S : Hp} {v : V} {a : α}, Enc.rep K S v a → ∃ x dx fs, v = .ref x ∧ S x = some (.ins (He.ga K cn) dx fs) ∧ fs.map Prod.fst = fl
theorem look_none {fs : List (Str × V)} {m : Str} : ∀ (_ : m ∉ fs.map Prod.fst), fs.lookup m = none := by
  induction fs with
  | nil => intro _; rfl
  | cons p fs ih =>
    intro h
    rw [List.map_cons, List.mem_cons, not_or] at h
    obtain ⟨k, v⟩ := p
    have z : (m == k) = false := by
      rw [beq_eq_false_iff_ne]
      exact h.1
    rw [List.lookup_cons, z]
    exact ih h.2
instance [OfCls α] : NotN α := ⟨fun h => by obtain ⟨x, dx, fs, rfl, _⟩ := OfCls.is h; exact fun z => nomatch z⟩
theorem d_meth [o : OfCls α] {m : Str} {dp : List Slot → (Slot → Prop) → Prop} {tr : TA} {ss : List Slot} (ho : DE K B te ρ a) (h : DA K B tr ρ ss) (hd : dp (.val a :: ss) fun s => s = .val b) (hm : m ∉ o.fl) : DE K B (tMeth (He.ga K o.cn) m (spT K dp) [] E0 te tr) ρ b := fun S0 H0 S H σ E Q q =>
  ho S0 H0 S H σ E _ fun x S1 H1 e1 r1 => by
    obtain ⟨y, dx, fs, rfl, hy, hf⟩ := OfCls.is r1
    refine ⟨y, dx, fs, rfl, e1.i _ _ hy, look_none (by rw [hf]; exact hm), ?_⟩
    refine h S0 H0 S1 H1 σ (E.go e1) _ fun vs S2 H2 e2 r2 => ?_
    rw [List.append_nil]
    refine ⟨B, S2, .val a :: ss, _, e2.i, fun p hp => ⟨((E.go (e1.trans e2)).bx p hp).1, ((E.go (e1.trans e2)).bx p hp).2.1⟩, .cons (Enc.mono e2.s r1) rfl r2.base, hd, fun s v S3 H3 hs e3 ok => ?_⟩
    cases hs
    exact q v S3 H3 ((e1.trans e2).trans e3) ok
theorem d_prop [o : OfCls α] {dp : List Slot → (Slot → Prop) → Prop} (ho : DE K B te ρ a) (hd : dp [.val a] fun s => s = .val b) : DE K B (tProp (He.ga K o.cn) (spT K dp) [] E0 te) ρ b := fun S0 H0 S H σ E Q q =>
  ho S0 H0 S H σ E _ fun x S1 H1 e1 r1 => by
    obtain ⟨y, dx, fs, rfl, hy, hf⟩ := OfCls.is r1
    refine ⟨y, dx, fs, rfl, e1.i _ _ hy, ?_⟩
    refine ⟨B, S1, [.val a], _, e1.i, fun p hp => ⟨((E.go e1).bx p hp).1, ((E.go e1).bx p hp).2.1⟩, .cons r1 rfl .nil, hd, fun s v S3 H3 hs e3 ok => ?_⟩
    cases hs
    exact q v S3 H3 (e1.trans e3) ok
end
/-! ### promises of typed defs -/
def dp0 {γ : Type} [Enc γ] (c : γ) : List Slot → (Slot → Prop) → Prop := fun ss R => ss = [] ∧ R (.val c)
def dp1 {α γ : Type} [Enc α] [Enc γ] (pre : α → Prop) (f : α → γ) : List Slot → (Slot → Prop) → Prop := fun ss R => ∃ x : α, ss = [.val x] ∧ pre x ∧ R (.val (f x))
def dp2 {α β γ : Type} [Enc α] [Enc β] [Enc γ] (pre : α → β → Prop) (f : α → β → γ) : List Slot → (Slot → Prop) → Prop := fun ss R => ∃ (x : α) (y : β), ss = [.val x, .val y] ∧ pre x y ∧ R (.val (f x y))
def dp3 {α β δ γ : Type} [Enc α] [Enc β] [Enc δ] [Enc γ] (pre : α → β → δ → Prop) (f : α → β → δ → γ) : List Slot → (Slot → Prop) → Prop := fun ss R => ∃ (x : α) (y : β) (z : δ), ss = [.val x, .val y, .val z] ∧ pre x y z ∧ R (.val (f x y z))
def dp4 {α β δ ε γ : Type} [Enc α] [Enc β] [Enc δ] [Enc ε] [Enc γ] (pre : α → β → δ → ε → Prop) (f : α → β → δ → ε → γ) : List Slot → (Slot → Prop) → Prop := fun ss R => ∃ (x : α) (y : β) (z : δ) (w : ε), ss = [.val x, .val y, .val z, .val w] ∧ pre x y z w ∧ R (.val (f x y z w))
/-- box, then so many; one of some answers -/
def dpb0 {γ : Type} [Enc γ] (P : γ → Prop) : List Slot → (Slot → Prop) → Prop := fun ss R => ss = [.box] ∧ ∀ c : γ, P c → R (.val c)
def dpb1 {α γ : Type} [Enc α] [Enc γ] (pre : α → Prop) (P : α → γ → Prop) : List Slot → (Slot → Prop) → Prop := fun ss R => ∃ x : α, ss = [.box, .val x] ∧ pre x ∧ ∀ c : γ, P x c → R (.val c)
def dpb2 {α β γ : Type} [Enc α] [Enc β] [Enc γ] (pre : α → β → Prop) (P : α → β → γ → Prop) : List Slot → (Slot → Prop) → Prop := fun ss R => ∃ (x : α) (y : β), ss = [.box, .val x, .val y] ∧ pre x y ∧ ∀ c : γ, P x y c → R (.val c)
def dpb3 {α β δ γ : Type} [Enc α] [Enc β] [Enc δ] [Enc γ] (pre : α → β → δ → Prop) (P : α → β → δ → γ → Prop) : List Slot → (Slot → Prop) → Prop := fun ss R => ∃ (x : α) (y : β) (z : δ), ss = [.box, .val x, .val y, .val z] ∧ pre x y z ∧ ∀ c : γ, P x y z c → R (.val c)
section
variable {K : PySem.W.Frag} {B : Addr → Prop} {ρ : List Slot} {ta tb tc td te : TE} {α β γ δ ε : Type} {e_α : Enc α} {e_β : Enc β} {e_γ : Enc γ} {e_δ : Enc δ} {e_ε : Enc ε} {x : α} {y : β} {z : δ} {w : ε}
theorem d_call0 {c : γ} : DE K B (tCall (spT K (dp0 c)) [] E0 tNil) ρ c := d_call da_nil ⟨rfl, rfl⟩
theorem d_call1 {pre : α → Prop} {f : α → γ} (h1 : DE K B ta ρ x) (hp : pre x) : DE K B (tCall (spT K (dp1 pre f)) [] E0 (tCons ta tNil)) ρ (f x) := d_call (da_cons h1 da_nil) ⟨x, rfl, hp, rfl⟩
theorem d_call2 {pre : α → β → Prop} {f : α → β → γ} (h1 : DE K B ta ρ x) (h2 : DE K B tb ρ y) (hp : pre x y) : DE K B (tCall (spT K (dp2 pre f)) [] E0 (tCons ta (tCons tb tNil))) ρ (f x y) := d_call (da_cons h1 (da_cons h2 da_nil)) ⟨x, y, rfl, hp, rfl⟩
theorem d_call3 {pre : α → β → δ → Prop} {f : α → β → δ → γ} (h1 : DE K B ta ρ x) (h2 : DE K B tb ρ y) (h3 : DE K B tc ρ z) (hp : pre x y z) : DE K B (tCall (spT K (dp3 pre f)) [] E0 (tCons ta (tCons tb (tCons tc tNil)))) ρ (f x y z) := d_call (da_cons h1 (da_cons h2 (da_cons h3 da_nil))) ⟨x, y, z, rfl, hp, rfl⟩
theorem d_call4 {pre : α → β → δ → ε → Prop} {f : α → β → δ → ε → γ} (h1 : DE K B ta ρ x) (h2 : DE K B tb ρ y) (h3 : DE K B tc ρ z) (h4 : DE K B td ρ w) (hp : pre x y z w) : DE K B (tCall (spT K (dp4 pre f)) [] E0 (tCons ta (tCons tb (tCons tc (tCons td tNil))))) ρ (f x y z w) := d_call (da_cons h1 (da_cons h2 (da_cons h3 (da_cons h4 da_nil)))) ⟨x, y, z, w, rfl, hp, rfl⟩
theorem d_meth0 [o : OfCls α] {m : Str} {pre : α → Prop} {f : α → γ} (h1 : DE K B ta ρ x) (hp : pre x) (hm : m ∉ o.fl) : DE K B (tMeth (He.ga K o.cn) m (spT K (dp1 pre f)) [] E0 ta tNil) ρ (f x) := d_meth h1 da_nil ⟨x, rfl, hp, rfl⟩ hm
theorem d_meth1 [o : OfCls α] {m : Str} {pre : α → β → Prop} {f : α → β → γ} (h1 : DE K B ta ρ x) (h2 : DE K B tb ρ y) (hp : pre x y) (hm : m ∉ o.fl) : DE K B (tMeth (He.ga K o.cn) m (spT K (dp2 pre f)) [] E0 ta (tCons tb tNil)) ρ (f x y) := d_meth h1 (da_cons h2 da_nil) ⟨x, y, rfl, hp, rfl⟩ hm
theorem d_meth2 [o : OfCls α] {m : Str} {pre : α → β → δ → Prop} {f : α → β → δ → γ} (h1 : DE K B ta ρ x) (h2 : DE K B tb ρ y) (h3 : DE K B tc ρ z) (hp : pre x y z) (hm : m ∉ o.fl) : DE K B (tMeth (He.ga K o.cn) m (spT K (dp3 pre f)) [] E0 ta (tCons tb (tCons tc tNil))) ρ (f x y z) := d_meth h1 (da_cons h2 (da_cons h3 da_nil)) ⟨x, y, z, rfl, hp, rfl⟩ hm
theorem d_prop1 [o : OfCls α] {pre : α → Prop} {f : α → γ} (h1 : DE K B ta ρ x) (hp : pre x) : DE K B (tProp (He.ga K o.cn) (spT K (dp1 pre f)) [] E0 ta) ρ (f x) := d_prop h1 ⟨x, rfl, hp, rfl⟩
/-- draws -/
theorem dn_callb0 {n : Nat} {P : γ → Prop} (hb : ρ[n]? = some .box) : DN K B (tCall (spT K (dpb0 P)) [] E0 (tCons (tVar n) tNil)) ρ P := dn_call (da_box hb da_nil) ⟨rfl, fun c hc => ⟨c, hc, rfl⟩⟩
theorem dn_callb1 {n : Nat} {pre : α → Prop} {P : α → γ → Prop} (hb : ρ[n]? = some .box) (h1 : DE K B ta ρ x) (hp : pre x) : DN K B (tCall (spT K (dpb1 pre P)) [] E0 (tCons (tVar n) (tCons ta tNil))) ρ (P x) := dn_call (da_box hb (da_cons h1 da_nil)) ⟨x, rfl, hp, fun c hc => ⟨c, hc, rfl⟩⟩
theorem dn_callb2 {n : Nat} {pre : α → β → Prop} {P : α → β → γ → Prop} (hb : ρ[n]? = some .box) (h1 : DE K B ta ρ x) (h2 : DE K B tb ρ y) (hp : pre x y) : DN K B (tCall (spT K (dpb2 pre P)) [] E0 (tCons (tVar n) (tCons ta (tCons tb tNil)))) ρ (P x y) := dn_call (da_box hb (da_cons h1 (da_cons h2 da_nil))) ⟨x, y, rfl, hp, fun c hc => ⟨c, hc, rfl⟩⟩
theorem dn_callb3 {n : Nat} {pre : α → β → δ → Prop} {P : α → β → δ → γ → Prop} (hb : ρ[n]? = some .box) (h1 : DE K B ta ρ x) (h2 : DE K B tb ρ y) (h3 : DE K B tc ρ z) (hp : pre x y z) : DN K B (tCall (spT K (dpb3 pre P)) [] E0 (tCons (tVar n) (tCons ta (tCons tb (tCons tc tNil))))) ρ (P x y z) := dn_call (da_box hb (da_cons h1 (da_cons h2 (da_cons h3 da_nil)))) ⟨x, y, z, rfl, hp, fun c hc => ⟨c, hc, rfl⟩⟩
/-- two parts, each one of some values -/
theorem dn_op {r : R2} {P : α → Prop} {P' : β → Prop} {R : γ → Prop} (ha : DN K B ta ρ P) (hb : DN K B tb ρ P') (hr : ∀ a b, P a → P' b → ∀ x y S H, Same S H → Enc.rep K S x a → Enc.rep K S y b → ∀ Q : VK, (∀ v c S' H', R c → Ext B S H S' H' → Enc.rep K S' v c → Q v H') → r x y H Q) : DN K B (tOp r ta tb) ρ R := fun S0 H0 S H σ E Q q =>
  ha S0 H0 S H σ E _ fun x a S1 H1 pa e1 r1 => hb S0 H0 S1 H1 σ (E.go e1) _ fun y b S2 H2 pb e2 r2 => hr a b pa pb x y S2 H2 e2.i (Enc.mono e2.s r1) r2 Q fun v c S3 H3 hc e3 r3 => q v c S3 H3 hc ((e1.trans e2).trans e3) r3
theorem dn_add {P P' : Int → Prop} (ha : DN K B ta ρ P) (hb : DN K B tb ρ P') : DN K B (tOp (rI0 fun i j => .int (i + j)) ta tb) ρ fun c : Int => ∃ a b, P a ∧ P' b ∧ c = a + b :=
  dn_op ha hb fun a b pa pb x y S H hi r1 r2 Q q => ⟨a, b, r1, r2, q _ (a + b) S H ⟨a, b, pa, pb, rfl⟩ (Ext.refl hi) rfl⟩
theorem dn_sub {P P' : Int → Prop} (ha : DN K B ta ρ P) (hb : DN K B tb ρ P') : DN K B (tOp (rI0 fun i j => .int (i - j)) ta tb) ρ fun c : Int => ∃ a b, P a ∧ P' b ∧ c = a - b :=
  dn_op ha hb fun a b pa pb x y S H hi r1 r2 Q q => ⟨a, b, r1, r2, q _ (a - b) S H ⟨a, b, pa, pb, rfl⟩ (Ext.refl hi) rfl⟩
theorem dn_mul {P P' : Int → Prop} (ha : DN K B ta ρ P) (hb : DN K B tb ρ P') (hc : ∀ a b, P a → P' b → CMul a b) : DN K B (tOp (rI CMul fun i j => .int (i * j)) ta tb) ρ fun c : Int => ∃ a b, P a ∧ P' b ∧ c = a * b :=
  dn_op ha hb fun a b pa pb x y S H hi r1 r2 Q q => ⟨a, b, r1, r2, hc a b pa pb, q _ (a * b) S H ⟨a, b, pa, pb, rfl⟩ (Ext.refl hi) rfl⟩
end
end WW

set_option Elab.async false
set_option linter.all false
set_option maxRecDepth 100000
set_option maxHeartbeats 4000000
namespace WW
open PySem PySem.Spec PyProof.Rows L2
section
variable {K : PySem.W.Frag} {B : Addr → Prop} {ρ ρ' ρ1 : List Slot} {ta tb tc te : TE} {t u : TT} {ts tu tz : TS} {Φ : Post} {α β γ : Type} {e_α : Enc α} {e_β : Enc β} {e_γ : Enc γ} {a : α} {b : β} {i j : Int}
/-! ### statements -/
theorem DS.imp {Φ' : Post} (h : DS K B ts ρ Φ) (h1 : ∀ r, Φ.nx r → Φ'.nx r) (h2 : ∀ s, Φ.rt s → Φ'.rt s) (h3 : ∀ r, Φ.bk r → Φ'.bk r) (h4 : ∀ r, Φ.ct r → Φ'.ct r) (h5 : ∀ S0 H0, Φ'.px S0 H0 → Φ.px S0 H0) : DS K B ts ρ Φ' := fun S0 H0 S H σ D E px n r b c =>
  h S0 H0 S H σ D E (h5 _ _ px) (fun ρ' σ' S' H' q => n ρ' σ' S' H' (h1 _ q)) (fun s v S' H' q => r s v S' H' (h2 _ q)) (fun ρ' σ' S' H' q => b ρ' σ' S' H' (h3 _ q)) (fun ρ' σ' S' H' q => c ρ' σ' S' H' (h4 _ q))
theorem ds_seq (h : DS K B tu ρ { Φ with nx := fun ρ' => DS K B tz ρ' Φ }) : DS K B (tSeq tu tz) ρ Φ := fun S0 H0 S H σ D E px n r b c =>
  h S0 H0 S H σ { D with nx := tz D } E px (fun ρ' σ' S' H' q sm E' => q S0 H0 S' H' σ' D E' px (fun ρ2 σ2 S2 H2 q2 sm2 E2 => n ρ2 σ2 S2 H2 q2 (sm.trans sm2) E2) r (fun ρ2 σ2 S2 H2 q2 sm2 E2 => b ρ2 σ2 S2 H2 q2 (sm.trans sm2) E2) (fun ρ2 σ2 S2 H2 q2 sm2 E2 => c ρ2 σ2 S2 H2 q2 (sm.trans sm2) E2)) r b c
/-- with a word between: what follows is shown once -/
theorem ds_cut (M : List Slot → Prop) (h : DS K B tu ρ { Φ with nx := M }) (k : ∀ ρ', M ρ' → DS K B tz ρ' Φ) : DS K B (Evl.tCut tu tz) ρ Φ := fun S0 H0 S H σ D E px n r b c =>
  ⟨fun σ' H' => ∃ ρ' S', M ρ' ∧ Same S S' ∧ En K B S0 H0 S' H' σ' ρ', h S0 H0 S H σ _ E px (fun ρ' σ' S' H' q sm E' => ⟨ρ', S', q, sm, E'⟩) r b c,
    fun σ' H' ⟨ρ', S', q, sm, E'⟩ => k ρ' q S0 H0 S' H' σ' D E' px (fun ρ2 σ2 S2 H2 q2 sm2 E2 => n ρ2 σ2 S2 H2 q2 (sm.trans sm2) E2) r (fun ρ2 σ2 S2 H2 q2 sm2 E2 => b ρ2 σ2 S2 H2 q2 (sm.trans sm2) E2) (fun ρ2 σ2 S2 H2 q2 sm2 E2 => c ρ2 σ2 S2 H2 q2 (sm.trans sm2) E2)⟩
theorem ds_next (h : Φ.nx ρ) : DS K B tNext ρ Φ := fun S0 H0 S H σ D E px n r b c => n ρ σ S H h (Same.refl S) E
theorem ds_break (h : Φ.bk ρ) : DS K B tBreak ρ Φ := fun S0 H0 S H σ D E px n r b c => b ρ σ S H h (Same.refl S) E
theorem ds_cont (h : Φ.ct ρ) : DS K B tCont ρ Φ := fun S0 H0 S H σ D E px n r b c => c ρ σ S H h (Same.refl S) E
/-- any target -/
theorem ds_asgG {g : TG} {js : List Nat} (h : DE K B te ρ a) (hg : DG K B g a ρ ρ' js) (k : Φ.nx ρ') : DS K B (tAsg te g) ρ Φ := fun S0 H0 S H σ D E px n r b c =>
  h S0 H0 S H σ E _ fun v S1 H1 e1 r1 => hg S0 H0 S1 H1 σ v (E.go e1) r1 _ fun σ' E' _ _ => n ρ' σ' S1 H1 k e1.s E'
theorem ds_asgGN {g : TG} {P : α → Prop} (h : DN K B te ρ P) (hg : ∀ a, P a → ∃ ρ' js, DG K B g a ρ ρ' js ∧ Φ.nx ρ') : DS K B (tAsg te g) ρ Φ := fun S0 H0 S H σ D E px n r b c =>
  h S0 H0 S H σ E _ fun v a S1 H1 pa e1 r1 => by
    obtain ⟨ρ', js, h1, h2⟩ := hg a pa
    exact h1 S0 H0 S1 H1 σ v (E.go e1) r1 _ fun σ' E' _ _ => n ρ' σ' S1 H1 h2 e1.s E'
theorem ds_asg {n : Nat} (h : DE K B te ρ a) (k : Φ.nx (ρ.set n (.val a))) : DS K B (tAsg te (gName n)) ρ Φ := ds_asgG h dg_name k
theorem ds_asgN {n : Nat} {P : α → Prop} (h : DN K B te ρ P) (k : ∀ a, P a → Φ.nx (ρ.set n (.val a))) : DS K B (tAsg te (gName n)) ρ Φ := ds_asgGN h fun a pa => ⟨_, _, dg_name, k a pa⟩
/-- a new list of one's own -/
theorem ds_asgO {n : Nat} {xs : List α} (h : DO K B te ρ xs) (k : Φ.nx (ρ.set n (.own xs))) : DS K B (tAsg te (gName n)) ρ Φ := fun S0 H0 S H σ D E px n r b c =>
  h S0 H0 S H σ E _ fun p vs S1 H1 e1 hp hs hh rr hl => n _ _ S1 H1 k e1.s (E.setO e1 hp hs hh rr hl)
theorem ds_par {n m : Nat} (h1 : DE K B ta ρ a) (h2 : DE K B tb ρ b) (k : Φ.nx ((ρ.set n (.val a)).set m (.val b))) : DS K B (tPar n m (tCons ta (tCons tb tNil))) ρ Φ := fun S0 H0 S H σ D E px n r b c =>
  h1 S0 H0 S H σ E _ fun v S1 H1 e1 r1 => h2 S0 H0 S1 H1 σ (E.go e1) _ fun w S2 H2 e2 r2 => ⟨v, w, rfl, n _ _ S2 H2 k (e1.s.trans e2.s) ((((E.go e1).go e2).setV (Enc.mono e2.s r1)).setV r2)⟩
theorem ds_parN {n m : Nat} {P : α → Prop} {P' : β → Prop} (h1 : DN K B ta ρ P) (h2 : DN K B tb ρ P') (k : ∀ a b, P a → P' b → Φ.nx ((ρ.set n (.val a)).set m (.val b))) : DS K B (tPar n m (tCons ta (tCons tb tNil))) ρ Φ := fun S0 H0 S H σ D E px n r b c =>
  h1 S0 H0 S H σ E _ fun v x S1 H1 px e1 r1 => h2 S0 H0 S1 H1 σ (E.go e1) _ fun w y S2 H2 py e2 r2 => ⟨v, w, rfl, n _ _ S2 H2 (k x y px py) (e1.s.trans e2.s) ((((E.go e1).go e2).setV (Enc.mono e2.s r1)).setV r2)⟩
/-- the second one's own -/
theorem ds_parO {n m : Nat} {xs : List β} (h1 : DE K B ta ρ a) (h2 : DO K B tb ρ xs) (k : Φ.nx ((ρ.set n (.val a)).set m (.own xs))) : DS K B (tPar n m (tCons ta (tCons tb tNil))) ρ Φ := fun S0 H0 S H σ D E px n r b c =>
  h1 S0 H0 S H σ E _ fun v S1 H1 e1 r1 => h2 S0 H0 S1 H1 σ (E.go e1) _ fun p vs S2 H2 e2 hp hs hh rr hl => ⟨v, _, rfl, n _ _ S2 H2 k (e1.s.trans e2.s) (((E.go e1).setV r1).setO e2 hp hs hh rr hl)⟩
theorem ds_parON {n m : Nat} {P : β → Prop} {xs : List α} (h1 : DO K B ta ρ xs) (h2 : DN K B tb ρ P) (hm : n ≠ m) (k : ∀ b, P b → Φ.nx ((ρ.set n (.own xs)).set m (.val b))) : DS K B (tPar n m (tCons ta (tCons tb tNil))) ρ Φ := fun S0 H0 S H σ D E px n r b c => by
  refine h1 S0 H0 S H σ E _ fun p vs S1 H1 e1 hp hs hh rr hl => h2 S0 H0 S1 H1 σ (E.go e1) _ fun w y S2 H2 py e2 r2 => ⟨_, w, rfl, n _ _ S2 H2 (k y py) (e1.s.trans e2.s) (En.setV (En.setO E (e1.trans e2) hp ?_ ?_ (Paired.mono (fun _ _ => Enc.mono e2.s) rr) hl) r2)⟩
  · exact (e2.p p hs (by rw [hh]; exact fun z => nomatch z)).1
  · rcases (e2.p p hs (by rw [hh]; exact fun z => nomatch z)).2 with z | ⟨z, _⟩
    · rw [z]
      exact hh
    · exact absurd (E.ext.free E.i0 hp) (E.bx p z).2.2
theorem ds_par3 {n m l : Nat} {c : γ} (h1 : DE K B ta ρ a) (h2 : DE K B tb ρ b) (h3 : DE K B tc ρ c) (k : Φ.nx (((ρ.set n (.val a)).set m (.val b)).set l (.val c))) : DS K B (tPar3 n m l (tCons ta (tCons tb (tCons tc tNil)))) ρ Φ := fun S0 H0 S H σ D E px n r b c =>
  h1 S0 H0 S H σ E _ fun v S1 H1 e1 r1 => h2 S0 H0 S1 H1 σ (E.go e1) _ fun w S2 H2 e2 r2 => h3 S0 H0 S2 H2 σ (E.go (e1.trans e2)) _ fun z S3 H3 e3 r3 =>
    ⟨v, w, z, rfl, n _ _ S3 H3 k ((e1.s.trans e2.s).trans e3.s) (((((E.go (e1.trans e2)).go e3).setV (Enc.mono (e2.s.trans e3.s) r1)).setV (Enc.mono e3.s r2)).setV r3)⟩
theorem ds_aug {n : Nat} (hx : ρ[n]? = some (.val i)) (h : DE K B te ρ j) (k : Φ.nx (ρ.set n (.val (i + j)))) : DS K B (tAug n te (ipI fun i j => i + j)) ρ Φ := fun S0 H0 S H σ D E px nx r b c => by
  obtain ⟨v, h1, h2⟩ := E.val hx
  refine ⟨v, h1, h S0 H0 S H σ E _ fun w S1 H1 e1 r1 => ⟨i, j, h2, r1, nx _ _ S1 H1 k e1.s ((E.go e1).setV rfl)⟩⟩
theorem ds_if {c : Bool} (h : DT K B t ρ c) (h1 : c = true → DS K B tu ρ Φ) (h2 : c = false → DS K B tz ρ Φ) : DS K B (tIfS t tu tz) ρ Φ := fun S0 H0 S H σ D E px n r b ct => h S0 H0 S H σ E _ fun S1 H1 e => by
  have n' : ∀ ρ' σ' S' H', Φ.nx ρ' → Same S1 S' → En K B S0 H0 S' H' σ' ρ' → D.nx σ' H' := fun ρ' σ' S' H' q sm E' => n ρ' σ' S' H' q (e.s.trans sm) E'
  have b' : ∀ ρ' σ' S' H', Φ.bk ρ' → Same S1 S' → En K B S0 H0 S' H' σ' ρ' → D.bk σ' H' := fun ρ' σ' S' H' q sm E' => b ρ' σ' S' H' q (e.s.trans sm) E'
  have c' : ∀ ρ' σ' S' H', Φ.ct ρ' → Same S1 S' → En K B S0 H0 S' H' σ' ρ' → D.ct σ' H' := fun ρ' σ' S' H' q sm E' => ct ρ' σ' S' H' q (e.s.trans sm) E'
  cases c with
  | true => exact h1 rfl S0 H0 S1 H1 σ D (E.go e) px n' r b' c'
  | false => exact h2 rfl S0 H0 S1 H1 σ D (E.go e) px n' r b' c'
theorem ds_ret (h : DE K B te ρ a) (k : Φ.rt (.val a)) : DS K B (tRet te) ρ Φ := fun S0 H0 S H σ D E px n r b c =>
  h S0 H0 S H σ E _ fun v S1 H1 e1 r1 => r _ v S1 H1 k (E.ext.trans e1) r1
theorem ds_retE {a' : α} (k : Φ.rt (.val a')) (h : DE K B te ρ a) (e : a = a') : DS K B (tRet te) ρ Φ := ds_ret (h.is e) k
theorem ds_retN {P : α → Prop} (h : DN K B te ρ P) (k : ∀ a, P a → Φ.rt (.val a)) : DS K B (tRet te) ρ Φ := fun S0 H0 S H σ D E px n r b c =>
  h S0 H0 S H σ E _ fun v a S1 H1 pa e1 r1 => r _ v S1 H1 (k a pa) (E.ext.trans e1) r1
/-- an own list becomes a value -/
theorem ds_frz {n : Nat} {xs : List α} (hx : ρ[n]? = some (.own xs)) (h : DS K B ts (ρ.set n (.val (α := L α) xs)) Φ) : DS K B ts ρ Φ := fun S0 H0 S H σ D E px nx r b c => by
  obtain ⟨S1, _, sm, E1⟩ := E.frz hx
  exact h S0 H0 S1 H σ D E1 px (fun ρ' σ' S' H' q s E' => nx ρ' σ' S' H' q (sm.trans s) E') r (fun ρ' σ' S' H' q s E' => b ρ' σ' S' H' q (sm.trans s) E') (fun ρ' σ' S' H' q s E' => c ρ' σ' S' H' q (sm.trans s) E')
theorem ds_drop (h : DE K B te ρ a) (k : Φ.nx ρ) : DS K B (tDrop te) ρ Φ := fun S0 H0 S H σ D E px n r b c => h S0 H0 S H σ E _ fun v S1 H1 e1 r1 => n ρ σ S1 H1 k e1.s (E.go e1)
theorem ds_append {n : Nat} {xs : List α} (hx : ρ[n]? = some (.own xs)) (h : DE K B te ρ a) (hl : xs.length < BIG) (k : Φ.nx (ρ.set n (.own (xs ++ [a])))) : DS K B (tDrop (tBM K "list" rAppend (tVar n) (tCons te tNil))) ρ Φ := fun S0 H0 S H σ D E px nx r b c => by
  obtain ⟨_, p, vs, e1, h0, hs, hh, rr⟩ := E.own hx
  refine ⟨_, e1, .inl ⟨rfl, vs, SqL.of hh⟩, ?_⟩
  refine h S0 H0 S H σ E _ fun w S1 H1 ex r1 => ?_
  have E1 := E.go ex
  obtain ⟨_, p', vs', e1', h0', hs', hh', rr'⟩ := E1.own hx
  rw [e1] at e1'
  cases e1'
  refine ⟨p, vs', w, rfl, rfl, hh', ?_, nx _ σ S1 _ k ex.s (E1.chg hx e1 (Paired.app rr' (.cons r1 .nil)) ?_)⟩
  · rw [rr'.length]
    exact Nat.lt_of_lt_of_le hl big_line
  · rw [List.length_append]
    exact hl
theorem ds_appendN {n : Nat} {xs : List α} {P : α → Prop} (hx : ρ[n]? = some (.own xs)) (h : DN K B te ρ P) (hl : xs.length < BIG) (k : ∀ a, P a → Φ.nx (ρ.set n (.own (xs ++ [a])))) : DS K B (tDrop (tBM K "list" rAppend (tVar n) (tCons te tNil))) ρ Φ := fun S0 H0 S H σ D E px nx r b c => by
  obtain ⟨_, p, vs, e1, h0, hs, hh, rr⟩ := E.own hx
  refine ⟨_, e1, .inl ⟨rfl, vs, SqL.of hh⟩, ?_⟩
  refine h S0 H0 S H σ E _ fun w a S1 H1 pa ex r1 => ?_
  have E1 := E.go ex
  obtain ⟨_, p', vs', e1', h0', hs', hh', rr'⟩ := E1.own hx
  rw [e1] at e1'
  cases e1'
  refine ⟨p, vs', w, rfl, rfl, hh', ?_, nx _ σ S1 _ (k a pa) ex.s (E1.chg hx e1 (Paired.app rr' (.cons r1 .nil)) ?_)⟩
  · rw [rr'.length]
    exact Nat.lt_of_lt_of_le hl big_line
  · rw [List.length_append]
    exact hl
theorem ds_extend {n : Nat} {xs ys : List α} (hx : ρ[n]? = some (.own xs)) (h : DE K B te ρ (α := L α) ys) (hl : xs.length + ys.length ≤ BIG) (k : Φ.nx (ρ.set n (.own (xs ++ ys)))) : DS K B (tDrop (tBM K "list" rExtend (tVar n) (tCons te tNil))) ρ Φ := fun S0 H0 S H σ D E px nx r b c => by
  obtain ⟨_, p, vs, e1, h0, hs, hh, rr⟩ := E.own hx
  refine ⟨_, e1, .inl ⟨rfl, vs, SqL.of hh⟩, ?_⟩
  refine h S0 H0 S H σ E _ fun w S1 H1 ex r1 => ?_
  obtain ⟨l2, p2, vs2, z2, hh2, r2⟩ := r1
  subst z2
  have E1 := E.go ex
  obtain ⟨_, p', vs', e1', h0', hs', hh', rr'⟩ := E1.own hx
  rw [e1] at e1'
  cases e1'
  refine ⟨p, p2, vs', vs2, rfl, rfl, hh', ex.i _ _ hh2, ?_, nx _ σ S1 _ k ex.s (E1.chg hx e1 (Paired.app rr' r2) ?_)⟩
  · rw [rr'.length, r2.length]
    exact Nat.le_trans hl big_line
  · rw [List.length_append]
    exact hl
theorem ds_for {wi : TI} {g : TG} {xs : List α} (hi : DI K B wi ρ xs) (I : Nat → List Slot → Prop) (h0 : I 0 ρ)
    (hs : ∀ i x ρ1, xs[i]? = some x → I i ρ1 → ∃ ρ2 js, DG K B g x ρ1 ρ2 js ∧ DS K B ts ρ2 ⟨I (i + 1), Φ.rt, Φ.nx, I (i + 1), Φ.px⟩) (hd : ∀ ρ1, I xs.length ρ1 → Φ.nx ρ1) : DS K B (tFor wi g ts) ρ Φ := fun S0 H0 S H σ D E px n r b c => by
  refine hi S0 H0 S H σ E _ fun J S1 H1 e1 y => ?_
  refine ⟨fun i m σ' Hc => m = xs.length - i ∧ i ≤ xs.length ∧ ∃ ρ' Sc, I i ρ' ∧ Same S1 Sc ∧ En K B S0 H0 Sc Hc σ' ρ', ⟨xs.length, by simp, Nat.zero_le _, ρ, S1, h0, Same.refl _, E.go e1⟩, ?_⟩
  rintro i m σ' Hc ⟨rfl, hle, ρ', Sc, hI, sm, E'⟩
  have yy := y Sc Hc sm E'.ext
  by_cases hlt : i < xs.length
  · refine .inr ?_
    obtain ⟨x, hx⟩ : ∃ x, xs[i]? = some x := ⟨_, List.getElem?_eq_getElem hlt⟩
    obtain ⟨hgo, hy⟩ := yy.1 i x hx
    refine ⟨hgo, fun σ2 H2 => ∃ ρ2 S2, I (i + 1) ρ2 ∧ Same S1 S2 ∧ En K B S0 H0 S2 H2 σ2 ρ2, fun σ2 H2 hp => ⟨xs.length - (i + 1), by omega, rfl, hlt, hp⟩, fun v H' hyl => ?_⟩
    obtain ⟨S2, e2, r2⟩ := hy v H' hyl
    obtain ⟨ρ2, js, hg, hb⟩ := hs i x ρ' hx hI
    refine hg S0 H0 S2 H' σ' v (E'.go e2) r2 _ fun σ2 E2 _ _ => ?_
    refine hb S0 H0 S2 H' σ2 _ E2 px (fun ρ3 σ3 S3 H3 q s E3 => ⟨ρ3, S3, q, (sm.trans e2.s).trans s, E3⟩) r (fun ρ3 σ3 S3 H3 q s E3 => n ρ3 σ3 S3 H3 q (((e1.s.trans sm).trans e2.s).trans s) E3) (fun ρ3 σ3 S3 H3 q s E3 => ⟨ρ3, S3, q, (sm.trans e2.s).trans s, E3⟩)
  · refine .inl ⟨?_, ?_⟩
    · rw [show i = xs.length by omega]
      exact yy.2
    · rw [show i = xs.length by omega] at hI
      exact n ρ' σ' Sc Hc (hd ρ' hI) (e1.s.trans sm) E'
theorem ds_while (I : Nat → List Slot → Prop) (m0 : Nat) (h0 : I m0 ρ)
    (hs : ∀ m ρ1, I m ρ1 → ∃ c, DT K B t ρ1 c ∧ (c = true → DS K B ts ρ1 ⟨fun ρ2 => ∃ m', m' < m ∧ I m' ρ2, Φ.rt, Φ.nx, fun ρ2 => ∃ m', m' < m ∧ I m' ρ2, Φ.px⟩) ∧ (c = false → Φ.nx ρ1)) : DS K B (tWhile t ts) ρ Φ := fun S0 H0 S H σ D E px n r b c => by
  refine ⟨fun m σ' Hc => ∃ ρ' Sc, I m ρ' ∧ Same S Sc ∧ En K B S0 H0 Sc Hc σ' ρ', ⟨m0, ρ, S, h0, Same.refl _, E⟩, ?_⟩
  rintro m σ' Hc ⟨ρ', Sc, hI, sm, E'⟩
  obtain ⟨c, ht, h1, h2⟩ := hs m ρ' hI
  refine ht S0 H0 Sc Hc σ' E' _ fun S1 H1 e1 => ?_
  cases c with
  | true =>
    show ∃ N, _
    refine ⟨fun σ2 H2 => ∃ m', m' < m ∧ ∃ ρ2 S2, I m' ρ2 ∧ Same S S2 ∧ En K B S0 H0 S2 H2 σ2 ρ2, fun σ2 H2 h => h, ?_⟩
    refine h1 rfl S0 H0 S1 H1 σ' _ (E'.go e1) px (fun ρ3 σ3 S3 H3 ⟨m', hm, q⟩ s E3 => ⟨m', hm, ρ3, S3, q, (sm.trans e1.s).trans s, E3⟩) r (fun ρ3 σ3 S3 H3 q s E3 => n ρ3 σ3 S3 H3 q ((sm.trans e1.s).trans s) E3) (fun ρ3 σ3 S3 H3 ⟨m', hm, q⟩ s E3 => ⟨m', hm, ρ3, S3, q, (sm.trans e1.s).trans s, E3⟩)
  | false => exact n ρ' σ' S1 H1 (h2 rfl) (sm.trans e1.s) (E'.go e1)
/-! ### a statement and what follows it -/
theorem dq_asg {n : Nat} (h : DE K B te ρ a) (k : DS K B tz (ρ.set n (.val a)) Φ) : DS K B (tSeq (tAsg te (gName n)) tz) ρ Φ := ds_seq (ds_asg h k)
theorem dq_asgI {δ : Type} [Enc δ] {n : Nat} (a : δ) (h : DE K B te ρ a) (k : DS K B tz (ρ.set n (.val a)) Φ) : DS K B (tSeq (tAsg te (gName n)) tz) ρ Φ := ds_seq (ds_asg h k)
theorem dq_asgN {n : Nat} {P : α → Prop} (h : DN K B te ρ P) (k : ∀ a, P a → DS K B tz (ρ.set n (.val a)) Φ) : DS K B (tSeq (tAsg te (gName n)) tz) ρ Φ := ds_seq (ds_asgN h k)
theorem dq_asgO {n : Nat} {xs : List α} (h : DO K B te ρ xs) (k : DS K B tz (ρ.set n (.own xs)) Φ) : DS K B (tSeq (tAsg te (gName n)) tz) ρ Φ := ds_seq (ds_asgO h k)
theorem dq_asgG {g : TG} {js : List Nat} (h : DE K B te ρ a) (hg : DG K B g a ρ ρ' js) (k : DS K B tz ρ' Φ) : DS K B (tSeq (tAsg te g) tz) ρ Φ := ds_seq (ds_asgG h hg k)
theorem dq_par {n m : Nat} (h1 : DE K B ta ρ a) (h2 : DE K B tb ρ b) (k : DS K B tz ((ρ.set n (.val a)).set m (.val b)) Φ) : DS K B (tSeq (tPar n m (tCons ta (tCons tb tNil))) tz) ρ Φ := ds_seq (ds_par h1 h2 k)
theorem dq_par3 {n m l : Nat} {c : γ} (h1 : DE K B ta ρ a) (h2 : DE K B tb ρ b) (h3 : DE K B tc ρ c) (k : DS K B tz (((ρ.set n (.val a)).set m (.val b)).set l (.val c)) Φ) : DS K B (tSeq (tPar3 n m l (tCons ta (tCons tb (tCons tc tNil)))) tz) ρ Φ := ds_seq (ds_par3 h1 h2 h3 k)
theorem dq_aug {n : Nat} (hx : ρ[n]? = some (.val i)) (h : DE K B te ρ j) (k : DS K B tz (ρ.set n (.val (i + j))) Φ) : DS K B (tSeq (tAug n te (ipI fun i j => i + j)) tz) ρ Φ := ds_seq (ds_aug hx h k)
theorem dq_when {c : Bool} (h : DT K B t ρ c) (h1 : c = true → DS K B tu ρ { Φ with nx := fun ρ' => DS K B tz ρ' Φ }) (h2 : c = false → DS K B tz ρ Φ) : DS K B (tSeq (tIfS t tu tNext) tz) ρ Φ := ds_seq (ds_if h h1 fun z => ds_next (h2 z))
theorem dq_if {c : Bool} (h : DT K B t ρ c) (h1 : c = true → DS K B tu ρ { Φ with nx := fun ρ' => DS K B tz ρ' Φ }) (h2 : c = false → DS K B ts ρ { Φ with nx := fun ρ' => DS K B tz ρ' Φ }) : DS K B (tSeq (tIfS t tu ts) tz) ρ Φ := ds_seq (ds_if h h1 h2)
theorem dq_drop (h : DE K B te ρ a) (k : DS K B tz ρ Φ) : DS K B (tSeq (tDrop te) tz) ρ Φ := ds_seq (ds_drop h k)
theorem dq_append {n : Nat} {xs : List α} (hx : ρ[n]? = some (.own xs)) (h : DE K B te ρ a) (hl : xs.length < BIG) (k : DS K B tz (ρ.set n (.own (xs ++ [a]))) Φ) : DS K B (tSeq (tDrop (tBM K "list" rAppend (tVar n) (tCons te tNil))) tz) ρ Φ := ds_seq (ds_append hx h hl k)
theorem dq_for {wi : TI} {g : TG} {xs : List α} (hi : DI K B wi ρ xs) (I : Nat → List Slot → Prop) (h0 : I 0 ρ)
    (hs : ∀ i x ρ1, xs[i]? = some x → I i ρ1 → ∃ ρ2 js, DG K B g x ρ1 ρ2 js ∧ DS K B ts ρ2 ⟨I (i + 1), Φ.rt, fun ρ' => DS K B tz ρ' Φ, I (i + 1), Φ.px⟩) (hd : ∀ ρ1, I xs.length ρ1 → DS K B tz ρ1 Φ) : DS K B (tSeq (tFor wi g ts) tz) ρ Φ := ds_seq (ds_for hi I h0 hs hd)
theorem dq_while (I : Nat → List Slot → Prop) (m0 : Nat) (h0 : I m0 ρ)
    (hs : ∀ m ρ1, I m ρ1 → ∃ c, DT K B t ρ1 c ∧ (c = true → DS K B ts ρ1 ⟨fun ρ2 => ∃ m', m' < m ∧ I m' ρ2, Φ.rt, fun ρ' => DS K B tz ρ' Φ, fun ρ2 => ∃ m', m' < m ∧ I m' ρ2, Φ.px⟩) ∧ (c = false → DS K B tz ρ1 Φ)) : DS K B (tSeq (tWhile t ts) tz) ρ Φ := ds_seq (ds_while I m0 h0 hs)
/-! ### defs -/
def startS (N : List Str) (ss : List Slot) : List Slot := ss ++ List.replicate (N.length - ss.length) .no
theorem start_en {N : List Str} {S H : Hp} {vs : List V} {ss : List Slot} (hi : Same S H) (hb : ∀ p, B p → S p = none ∧ IsBx (H p)) (h : ArgsOk K B H S H vs ss) : En K B S H S H (start N vs) (startS N ss) := by
  have hl := h.length
  have noOwn : ∀ (i : Nat) (s : Slot), (startS N ss)[i]? = some s → s.isOwn = false := fun i s hs => by
    unfold startS at hs
    by_cases hlt : i < ss.length
    · rw [List.getElem?_append_left hlt] at hs
      obtain ⟨v, _, _, q⟩ := h.at' i s hs
      exact q
    · rw [List.getElem?_append_right (by omega), List.getElem?_replicate] at hs
      split at hs
      · cases hs
        rfl
      · cases hs
  refine ⟨hi, fun p hp => ⟨(hb p hp).1, (hb p hp).2, (hb p hp).2.ne⟩, Ext.refl hi, ?_, fun i s hs => ?_, fun i j s u _ h1 _ o1 _ => ?_⟩
  · unfold L2.start startS
    rw [List.length_append, List.length_append, List.length_map, List.length_replicate, List.length_replicate, hl]
  · unfold startS at hs
    unfold L2.start
    by_cases hlt : i < ss.length
    · rw [List.getElem?_append_left hlt] at hs
      obtain ⟨v, q1, q2, _⟩ := h.at' i s hs
      rw [List.getElem?_append_left (by rw [List.length_map, hl]; exact hlt), List.getElem?_map, q1]
      exact ⟨_, rfl, q2⟩
    · rw [List.getElem?_append_right (by omega), List.getElem?_replicate] at hs
      rw [List.getElem?_append_right (by rw [List.length_map]; omega), List.getElem?_replicate, List.length_map, hl]
      split at hs
      · cases hs
        rw [if_pos (by assumption)]
        exact ⟨_, rfl, trivial⟩
      · cases hs
  · rw [noOwn i s h1] at o1
    cases o1
end
theorem okT {P : Program} {w : World} {K : PySem.W.Frag} {mg : Str → Option Value} {base : Heap} {x qual : Str} {params : Arguments} {body : List Stmt} {scope : Scope} {dvs : List V} {kws : List (Str × V)} {f : Addr} {fd : FuncData} {N ps : List Str} {k : Nat} {dp : List Slot → (Slot → Prop) → Prop}
    (F : FunD K x qual params body scope dvs kws f fd) (S : FnScope N ps scope) (len : ∀ ss R, dp ss R → ss.length = ps.length)
    (hbody : ∀ (cdv : Value) (A : Around) (outer : List PySem.Env) (s : Shared) (H : Hp) (E : XK), Room k (A.deeper (envOfC qual scope s.heap.objs.size f cdv)) →
      ∃ t, PSs (cxOf CX0 P w K mg base N qual scope f cdv A outer s H E).nox body t ∧ ∀ (B : Addr → Prop) ss R, dp ss R → DS K B t (startS N ss) ⟨fun _ => R (.val ()), R, fun _ => False, fun _ => False, fun _ _ => True⟩) : FnOk P w K mg base CX0 (k + 1) f fd ps (spT K dp) := by
  refine F.ok S (fun vs H Q E h => ?_) (fun cdv A outer s H vs Q E hr h => ?_)
  · obtain ⟨B, S, ss, R, _, _, ha, hd, _⟩ := h
    rw [ha.length, len ss R hd]
  · obtain ⟨B, S, ss, R, hi, hb, ha, hd, q⟩ := h
    obtain ⟨t, h1, h2⟩ := hbody cdv A outer s H E hr
    refine ⟨t, PSs.nox h1, h2 B ss R hd S H S H _ _ (start_en hi hb ha) trivial (fun ρ' σ' S' H' r _ E' => q _ _ S' H' r E'.ext rfl) (fun s v S' H' r ex ok => q s v S' H' r ex ok) (fun _ _ _ _ h => h.elim) (fun _ _ _ _ h => h.elim)⟩
end WW

set_option Elab.async false
set_option linter.all false
set_option maxRecDepth 100000
set_option maxHeartbeats 4000000
namespace WW
open PySem PySem.Spec PyProof.Rows L2
/-! ### isinstance of typed values -/
class TyE (α : Type) [Enc α] where
  tn : α → String
  ty : ∀ {K : PySem.W.Frag} {S : Hp} {v : V} {a : α}, Enc.rep K S v a → TyX K S v (.type (tn a))
instance : TyE Int := ⟨fun _ => "int", fun {_ _ _ a} h => by cases h; exact .base (.int a)⟩
instance : TyE Bool := ⟨fun _ => "bool", fun {_ _ _ a} h => by cases h; exact .base (.bl a)⟩
instance : TyE Str := ⟨fun _ => "str", fun {_ _ _ a} h => by cases h; exact .base (.str a)⟩
instance : TyE Unit := ⟨fun _ => "NoneType", fun h => by cases h; exact .base .non⟩
instance {α : Type} [Enc α] [TyE α] : TyE (Option α) where
  tn o := match o with
    | none => "NoneType"
    | some a => TyE.tn a
  ty {K S v a} h := by
    cases a with
    | none => cases h; exact .base .non
    | some a => exact TyE.ty (α := α) h
theorem ty_t {K : PySem.W.Frag} {H : Hp} {a : Addr} {xs : List V} (h : SqT K H a xs) : TyX K H (.ref a) (.type "tuple") := by
  rcases h with (h | ⟨o, h⟩) | ⟨o, its, n, h1, h2, _⟩
  · exact .base (.tup h)
  · exact .fTuple h
  · exact .kTuple h1 h2
instance {α : Type} [Enc α] : TyE (L α) := ⟨fun _ => "list", fun h => by obtain ⟨_, p, vs, rfl, hh, _⟩ := h; exact .base (.lst hh)⟩
instance {α : Type} [Enc α] : TyE (U α) := ⟨fun _ => "tuple", fun h => by obtain ⟨_, p, vs, rfl, hh, _⟩ := h; exact ty_t hh⟩
instance {α β : Type} [Enc α] [Enc β] : TyE (α × β) := ⟨fun _ => "tuple", fun h => by obtain ⟨p, v1, v2, rfl, hh, _⟩ := h; exact ty_t hh⟩
instance {α β γ : Type} [Enc α] [Enc β] [Enc γ] : TyE (T3 α β γ) := ⟨fun _ => "tuple", fun h => by obtain ⟨p, v1, v2, v3, rfl, hh, _⟩ := h; exact ty_t hh⟩
section
variable {K : PySem.W.Frag} {B : Addr → Prop} {ρ ρ' ρ1 ρ2 : List Slot} {ta tb tc te : TE} {t u : TT} {ts tu tz : TS} {Φ : Post} {α β γ : Type} {e_α : Enc α} {e_β : Enc β} {e_γ : Enc γ} {a : α} {b : β} {i j : Int}
theorem d_isi {nm : String} {r : Bool} (h : DE K B te ρ a) (tt : TyE α) (hk : L2.kitB (tt.tn a) nm = some r) : DE K B (tCB (rIsi K) (tCons te (tCons (tC (.ty nm)) tNil))) ρ r := fun S0 H0 S H σ E Q q =>
  h S0 H0 S H σ E _ fun v S1 H1 e1 r1 => ⟨v, .ty nm, _, _, r, rfl, .ty nm, tyx_same e1.i (tt.ty r1), kit_ty hk, q _ S1 H1 e1 rfl⟩
/-- isinstance(x, (list, tuple)) -/
theorem d_isSq {xs : List α} (h : DE K B te ρ xs) : DE K B (tCB (rIsiT K) (tCons te (tCons (tTup (tCons (tC (.ty "list")) (tCons (tC (.ty "tuple")) tNil))) tNil))) ρ true := fun S0 H0 S H σ E Q q =>
  h S0 H0 S H σ E _ fun v S1 H1 e1 ⟨hl, p, vs, z, hh, r⟩ => ⟨by show 2 ≤ sizeLine; decide, fun w hw => by
    subst z
    obtain ⟨t, b1, b2, ty, k1, k2, z, k3⟩ := Sq.hasT hh
    exact ⟨_, w, _, t, _, true, rfl, upd_same, .cons (.ty "list") (.cons (.ty "tuple") .nil), tyx_same (e1.i.trans (same_new hw)) ty, k3, q _ S1 _ (e1.trans (Ext.grow e1.i (same_new hw))) rfl⟩⟩
/-! ### built-in calls -/
theorem vals_int {S : Hp} : ∀ {vs : List V} {xs : List Int}, Paired (Enc.rep K S) vs xs → vs = xs.map V.int
  | _, _, .nil => rfl
  | _, _, .cons h r => by cases h; rw [vals_int r]; rfl
theorem vals_bl {S : Hp} : ∀ {vs : List V} {xs : List Bool}, Paired (Enc.rep K S) vs xs → vs = xs.map V.bl
  | _, _, .nil => rfl
  | _, _, .cons h r => by cases h; rw [vals_bl r]; rfl
theorem d_any {bs : List Bool} (h : DE K B te ρ (α := L Bool) bs) : DE K B (tCB (rAny K) (tCons te tNil)) ρ (bs.any id) := fun S0 H0 S H σ E Q q =>
  h S0 H0 S H σ E _ fun v S1 H1 e1 ⟨hl, p, vs, z, hh, r⟩ => ⟨p, bs, by rw [z], .inl (.inl (by rw [← vals_bl r]; exact e1.i _ _ hh)), q _ S1 H1 e1 rfl⟩
theorem d_all {bs : List Bool} (h : DE K B te ρ (α := L Bool) bs) : DE K B (tCB (rAll K) (tCons te tNil)) ρ (bs.all id) := fun S0 H0 S H σ E Q q =>
  h S0 H0 S H σ E _ fun v S1 H1 e1 ⟨hl, p, vs, z, hh, r⟩ => ⟨p, bs, by rw [z], .inl (.inl (by rw [← vals_bl r]; exact e1.i _ _ hh)), q _ S1 H1 e1 rfl⟩
theorem d_sum {ns : List Int} (h : DE K B te ρ (α := L Int) ns) : DE K B (tCB (rSum K) (tCons te tNil)) ρ ns.sum := fun S0 H0 S H σ E Q q =>
  h S0 H0 S H σ E _ fun v S1 H1 e1 ⟨hl, p, vs, z, hh, r⟩ => ⟨p, ns, by rw [z], .inl (.inl (by rw [← vals_int r]; exact e1.i _ _ hh)), q _ S1 H1 e1 rfl⟩
theorem d_maxL {ns : List Int} (h : DE K B te ρ (α := L Int) ns) (hm : i ∈ ns) (hi : ∀ y ∈ ns, y ≤ i) : DE K B (tCB (rMax K) (tCons te tNil)) ρ i := fun S0 H0 S H σ E Q q =>
  h S0 H0 S H σ E _ fun v S1 H1 e1 ⟨hl, p, vs, z, hh, r⟩ => ⟨p, ns, by rw [z], .inl (.inl (by rw [← vals_int r]; exact e1.i _ _ hh)), List.length_pos_of_mem hm, fun m hm' hi' => by
    rw [show m = i from Int.le_antisymm (hi m hm') (hi' i hm)]
    exact q _ S1 H1 e1 rfl⟩
theorem d_minL {ns : List Int} (h : DE K B te ρ (α := L Int) ns) (hm : i ∈ ns) (hi : ∀ y ∈ ns, i ≤ y) : DE K B (tCB (rMin K) (tCons te tNil)) ρ i := fun S0 H0 S H σ E Q q =>
  h S0 H0 S H σ E _ fun v S1 H1 e1 ⟨hl, p, vs, z, hh, r⟩ => ⟨p, ns, by rw [z], .inl (.inl (by rw [← vals_int r]; exact e1.i _ _ hh)), List.length_pos_of_mem hm, fun m hm' hi' => by
    rw [show m = i from Int.le_antisymm (hi' i hm) (hi m hm')]
    exact q _ S1 H1 e1 rfl⟩
theorem paired_map {δ : Type} {S : Hp} {e : Enc δ} (g : δ → V) (hg : ∀ x, Enc.rep K S (g x) x) : ∀ xs : List δ, Paired (Enc.rep K S) (xs.map g) xs
  | [] => .nil
  | x :: r => .cons (hg x) (paired_map g hg r)
/-- sorted: some arrangement that rises -/
theorem d_sortI {ns ns' : List Int} (h : DE K B te ρ (α := L Int) ns) (hs : ∀ zs : List Int, zs.Perm ns → zs.Pairwise (· ≤ ·) → zs = ns') : DO K B (tCB (rSortedI K) (tCons te tNil)) ρ ns' := fun S0 H0 S H σ E Q q =>
  h S0 H0 S H σ E _ fun v S1 H1 e1 ⟨hl, p, vs, z, hh, r⟩ => ⟨p, ns, by rw [z], .inl (.inl (by rw [← vals_int r]; exact e1.i _ _ hh)), fun zs w hp hw hn => by
    have e := hs zs hp hw
    subst e
    exact q w _ S1 _ (e1.trans (Ext.priv e1.i hn)) (e1.free E.i hn) (e1.i.free hn) upd_same (paired_map V.int (fun _ => rfl) zs) (by rw [hp.length_eq]; exact hl)⟩
theorem d_abs (h : DE K B te ρ i) : DE K B (tCB (fun xs H Q => ∃ i, xs = [.int i] ∧ Q (.int (if i < 0 then -i else i)) H) (tCons te tNil)) ρ (if i < 0 then -i else i) := fun S0 H0 S H σ E Q q =>
  h S0 H0 S H σ E _ fun v S1 H1 e1 r => ⟨i, by cases r; rfl, q _ S1 H1 e1 rfl⟩
theorem d_intI (h : DE K B te ρ i) : DE K B (tCB (fun xs H Q => (∃ i, xs = [.int i] ∧ Q (.int i) H) ∨ ∃ k, xs = [.bl k] ∧ Q (.int (if k then 1 else 0)) H) (tCons te tNil)) ρ i := fun S0 H0 S H σ E Q q =>
  h S0 H0 S H σ E _ fun v S1 H1 e1 r => .inl ⟨i, by cases r; rfl, q _ S1 H1 e1 rfl⟩
theorem d_intB {k : Bool} (h : DE K B te ρ k) : DE K B (tCB (fun xs H Q => (∃ i, xs = [.int i] ∧ Q (.int i) H) ∨ ∃ k, xs = [.bl k] ∧ Q (.int (if k then 1 else 0)) H) (tCons te tNil)) ρ (if k then (1 : Int) else 0) := fun S0 H0 S H σ E Q q =>
  h S0 H0 S H σ E _ fun v S1 H1 e1 r => .inr ⟨k, by cases r; rfl, q _ S1 H1 e1 rfl⟩
theorem dn_intI {P : Int → Prop} (h : DN K B te ρ P) : DN K B (tCB (fun xs H Q => (∃ i, xs = [.int i] ∧ Q (.int i) H) ∨ ∃ k, xs = [.bl k] ∧ Q (.int (if k then 1 else 0)) H) (tCons te tNil)) ρ P := fun S0 H0 S H σ E Q q =>
  h S0 H0 S H σ E _ fun v i S1 H1 pi e1 r => .inl ⟨i, by cases r; rfl, q _ i S1 H1 pi e1 rfl⟩
theorem d_max2 (h : DE K B ta ρ i) (h' : DE K B tb ρ j) : DE K B (tCB (fun xs H Q => ∃ i j, xs = [.int i, .int j] ∧ Q (.int (if j > i then j else i)) H) (tCons ta (tCons tb tNil))) ρ (max i j) := fun S0 H0 S H σ E Q q =>
  h S0 H0 S H σ E _ fun v S1 H1 e1 r => h' S0 H0 S1 H1 σ (E.go e1) _ fun w S2 H2 e2 r2 => ⟨i, j, by cases r; cases r2; rfl, q _ S2 H2 (e1.trans e2) (by
    show V.int (if j > i then j else i) = V.int (max i j)
    congr 1
    split <;> omega)⟩
theorem d_min2 (h : DE K B ta ρ i) (h' : DE K B tb ρ j) : DE K B (tCB (fun xs H Q => ∃ i j, xs = [.int i, .int j] ∧ Q (.int (if j < i then j else i)) H) (tCons ta (tCons tb tNil))) ρ (min i j) := fun S0 H0 S H σ E Q q =>
  h S0 H0 S H σ E _ fun v S1 H1 e1 r => h' S0 H0 S1 H1 σ (E.go e1) _ fun w S2 H2 e2 r2 => ⟨i, j, by cases r; cases r2; rfl, q _ S2 H2 (e1.trans e2) (by
    show V.int (if j < i then j else i) = V.int (min i j)
    congr 1
    split <;> omega)⟩
/-- [x] * n -/
theorem do_rep (h : DE K B ta ρ (α := L α) [a]) (hi : DE K B tb ρ i) (h0 : 0 ≤ i) (hl : i ≤ BIG) : DO K B (tOp rRep ta tb) ρ (List.replicate i.toNat a) := fun S0 H0 S H σ E Q q =>
  h S0 H0 S H σ E _ fun v S1 H1 e1 r1 => hi S0 H0 S1 H1 σ (E.go e1) _ fun w S2 H2 e2 r2 => by
    obtain ⟨hl1, p, vs, z, hh, r⟩ := Enc.mono e2.s r1
    subst z
    cases r2
    cases r with
    | cons ra rn =>
      cases rn
      rename_i x
      have hb : i.toNat ≤ BIG := by omega
      have b62 : (BIG : Int) < 2 ^ 62 := by decide
      refine ⟨p, i, [x], rfl, rfl, e2.i _ _ hh, by omega, by omega, ?_, fun w hw => ?_⟩
      · rw [List.length_singleton, Nat.one_mul]
        exact Nat.le_trans hb big_line
      · have ef : (List.replicate i.toNat [x]).flatten = List.replicate i.toNat x := by
          generalize i.toNat = n
          induction n with
          | zero => rfl
          | succ n ih => rw [List.replicate_succ, List.flatten_cons, ih]; rfl
        rw [ef]
        refine q w _ S2 _ ((e1.trans e2).trans (Ext.priv e2.i hw)) ((e1.trans e2).free E.i hw) (e2.i.free hw) upd_same ?_ (by rw [List.length_replicate]; exact hb)
        generalize i.toNat = n
        induction n with
        | zero => exact .nil
        | succ n ih => rw [List.replicate_succ, List.replicate_succ]; exact .cons ra ih
/-! ### parts that change one's own lists -/
def DM {α : Type} [Enc α] (K : PySem.W.Frag) (B : Addr → Prop) (te : TE) (ρ ρ' : List Slot) (a : α) : Prop := ∀ S0 H0 S H σ, En K B S0 H0 S H σ ρ → ∀ Q : VK, (∀ v S' H', Same S S' → En K B S0 H0 S' H' σ ρ' → Enc.rep K S' v a → Q v H') → te σ H Q
def DML {α : Type} [Enc α] (K : PySem.W.Frag) (B : Addr → Prop) (ta : TA) (ρ ρ' : List Slot) (xs : List α) : Prop := ∀ S0 H0 S H σ, En K B S0 H0 S H σ ρ → ∀ Q : List V → Hp → Prop, (∀ vs S' H', Same S S' → En K B S0 H0 S' H' σ ρ' → Paired (Enc.rep K S') vs xs → Q vs H') → ta σ H Q
theorem DE.m (h : DE K B te ρ a) : DM K B te ρ ρ a := fun S0 H0 S H σ E Q q => h S0 H0 S H σ E _ fun v S1 H1 e1 r => q v S1 H1 e1.s (E.go e1) r
theorem DL.m {tr : TA} {xs : List α} (h : DL K B tr ρ xs) : DML K B tr ρ ρ xs := fun S0 H0 S H σ E Q q => h S0 H0 S H σ E _ fun v S1 H1 e1 r => q v S1 H1 e1.s (E.go e1) r
theorem dml_cons {tr : TA} {xs : List α} (h : DM K B te ρ ρ1 a) (h' : DML K B tr ρ1 ρ2 xs) : DML K B (tCons te tr) ρ ρ2 (a :: xs) := fun S0 H0 S H σ E Q q =>
  h S0 H0 S H σ E _ fun v S1 H1 s1 E1 r1 => h' S0 H0 S1 H1 σ E1 _ fun vs S2 H2 s2 E2 r2 => q _ S2 H2 (s1.trans s2) E2 (.cons (Enc.mono s2 r1) r2)
theorem dm_pop {n : Nat} {xs : List α} {x : α} (h : ρ[n]? = some (.own (xs ++ [x]))) : DM K B (tBM0 K "list" rPop (tVar n)) ρ (ρ.set n (.own xs)) x := fun S0 H0 S H σ E Q q => by
  obtain ⟨hl, p, vs, e1, h0, hs, hh, r⟩ := E.own h
  have hv : vs = vs.dropLast ++ vs.drop (vs.length - 1) := by rw [List.dropLast_eq_take, List.take_append_drop]
  have hlen := r.length
  rw [List.length_append, List.length_singleton] at hlen
  have ra : Paired (Enc.rep K S) vs.dropLast xs := by
    have z := Paired.tk xs.length r
    rw [List.take_left'  rfl] at z
    rw [List.dropLast_eq_take, hlen, Nat.add_sub_cancel]
    exact z
  obtain ⟨y, hy, ry⟩ := Paired.at (i := xs.length) (b := x) r (by rw [List.getElem?_append_right (Nat.le_refl _), Nat.sub_self]; rfl)
  refine ⟨_, e1, .inl ⟨rfl, vs, SqL.of hh⟩, p, vs, y, rfl, rfl, hh, by rw [hlen, Nat.add_sub_cancel]; exact hy, ?_⟩
  refine q y S _ (Same.refl S) (E.chg h e1 ra ?_) ry
  rw [List.length_append] at hl
  omega
theorem dm_popAt {n : Nat} {xs : List α} {x : α} {k : Nat} (h : ρ[n]? = some (.own xs)) (hi : DE K B te ρ (k : Int)) (hx : xs[k]? = some x) : DM K B (tBM K "list" rPopAt (tVar n) (tCons te tNil)) ρ (ρ.set n (.own (xs.eraseIdx k))) x := fun S0 H0 S H σ E Q q => by
  obtain ⟨hl, p, vs, e1, h0, hs, hh, r⟩ := E.own h
  refine ⟨_, e1, .inl ⟨rfl, vs, SqL.of hh⟩, ?_⟩
  refine hi S0 H0 S H σ E _ fun w S1 H1 ex r1 => ?_
  cases r1
  have E1 := E.go ex
  obtain ⟨_, p', vs', e1', h0', hs', hh', r'⟩ := E1.own h
  rw [e1] at e1'
  cases e1'
  obtain ⟨y, hy, ry⟩ := Paired.at r' hx
  have kl : k < xs.length := (List.getElem?_eq_some_iff.mp hx).1
  have er : ∀ {vs : List V} {xs : List α} (k : Nat), Paired (Enc.rep K S1) vs xs → Paired (Enc.rep K S1) (vs.eraseIdx k) (xs.eraseIdx k) := by
    intro vs xs k r
    induction r generalizing k with
    | nil => exact .nil
    | cons f t ih =>
      cases k with
      | zero => exact t
      | succ k => exact .cons f (ih k)
  have sq : seqIndex? (k : Int) vs'.length = some k := (L2.ixN_seq (show ixN vs'.length (k : Int) = some k by
    unfold ixN
    rw [if_pos (by omega), if_pos (by rw [r'.length]; omega)]
    simp)).1
  have b62 : (BIG : Int) < 2 ^ 62 := by decide
  refine ⟨p, vs', (k : Int), k, y, rfl, rfl, hh', by omega, by omega, sq, hy, q y S1 _ ex.s (E1.chg h e1 (er k r') ?_) ry⟩
  rw [List.length_eraseIdx]
  split <;> omega
theorem dml_lst {n : Nat} {tr : TA} {xs : List α} (h : DML K B tr ρ ρ1 xs) (hl : xs.length ≤ BIG) (k : Φ.nx (ρ1.set n (.own xs))) : DS K B (tAsg (tLst tr) (gName n)) ρ Φ := fun S0 H0 S H σ D E px nx r b c =>
  h S0 H0 S H σ E _ fun vs S1 H1 s1 E1 r1 => ⟨by rw [r1.length]; exact Nat.le_trans hl big_line, fun p hp => nx _ _ S1 _ k s1 (E1.setO (Ext.priv E1.i hp) hp (E1.i.free hp) upd_same r1 hl)⟩
theorem ds_asgM {n : Nat} (h : DM K B te ρ ρ1 a) (k : Φ.nx (ρ1.set n (.val a))) : DS K B (tAsg te (gName n)) ρ Φ := fun S0 H0 S H σ D E px nx r b c =>
  h S0 H0 S H σ E _ fun v S1 H1 s1 E1 r1 => nx _ _ S1 H1 k s1 (E1.setV r1)
/-! ### == of data -/
class DatE (α : Type) [Enc α] where
  d : α → PyData
  dp : ∀ {K : PySem.W.Frag} {S : Hp} {v : V} {a : α}, Enc.rep K S v a → Dp K S v (d a)
  can : ∀ a : α, PyData.canLay0 (d a) = true
  k : Nat
  dep : ∀ a : α, PyData.depth (d a) ≤ k
  inj : ∀ (a b : α), PyData.eqv (d a) (d b) = true ↔ a = b
theorem eqvAll_inj {δ : Type} {e : Enc δ} (dt : DatE δ) : ∀ (xs ys : List δ), PyData.eqvAll (xs.map dt.d) (ys.map dt.d) = true ↔ xs = ys
  | [], [] => by simp [PyData.eqvAll]
  | [], y :: q => by simp [PyData.eqvAll]
  | x :: r, [] => by simp [PyData.eqvAll]
  | x :: r, y :: q => by
    rw [List.map_cons, List.map_cons, PyData.eqvAll, Bool.and_eq_true, dt.inj, eqvAll_inj dt r q]
    simp
theorem canAll {δ : Type} {e : Enc δ} (dt : DatE δ) : ∀ xs : List δ, PyData.canLayAll0 (xs.map dt.d) = true
  | [] => by simp [PyData.canLayAll0]
  | x :: r => by rw [List.map_cons, PyData.canLayAll0, dt.can, canAll dt r]; rfl
theorem depAll {δ : Type} {e : Enc δ} (dt : DatE δ) : ∀ xs : List δ, PyData.depthAll (xs.map dt.d) ≤ dt.k
  | [] => by simp [PyData.depthAll]
  | x :: r => by rw [List.map_cons, PyData.depthAll]; exact Nat.max_le.mpr ⟨dt.dep x, depAll dt r⟩
theorem dpAll {δ : Type} {e : Enc δ} (dt : DatE δ) {S : Hp} : ∀ {vs : List V} {xs : List δ}, Paired (Enc.rep K S) vs xs → DpAll K S vs (xs.map dt.d)
  | _, _, .nil => .nil
  | _, _, .cons h r => .cons (dt.dp h) (dpAll dt r)
instance : DatE Int where
  d := .int
  dp h := by cases h; exact .int _
  can _ := by simp [PyData.canLay0]
  k := 0
  dep _ := by simp [PyData.depth]
  inj a b := by simp [PyData.eqv]
instance : DatE Bool where
  d := .bool
  dp h := by cases h; exact .bl _
  can _ := by simp [PyData.canLay0]
  k := 0
  dep _ := by simp [PyData.depth]
  inj a b := by simp [PyData.eqv]
instance : DatE (Option Int) where
  d o := match o with
    | none => .none
    | some i => .int i
  dp {K S v a} h := by
    cases a with
    | none => cases h; exact .non
    | some i => cases h; exact .int i
  can a := by cases a <;> simp [PyData.canLay0]
  k := 0
  dep a := by cases a <;> simp [PyData.depth]
  inj a b := by cases a <;> cases b <;> simp [PyData.eqv]
instance {δ : Type} [Enc δ] [dt : DatE δ] : DatE (U δ) where
  d xs := .tuple (List.map dt.d xs)
  dp h := by
    obtain ⟨_, p, vs, rfl, hh, r⟩ := h
    exact .tup hh (dpAll dt r)
  can xs := by rw [PyData.canLay0]; exact canAll dt xs
  k := dt.k + 1
  dep xs := by rw [PyData.depth]; exact Nat.succ_le_succ (depAll dt xs)
  inj a b := by rw [PyData.eqv]; exact eqvAll_inj dt a b
instance {δ : Type} [Enc δ] [dt : DatE δ] : DatE (L δ) where
  d xs := .list (List.map dt.d xs)
  dp h := by
    obtain ⟨_, p, vs, rfl, hh, r⟩ := h
    exact .lst (.inl (.inl hh)) (dpAll dt r)
  can xs := by rw [PyData.canLay0]; exact canAll dt xs
  k := dt.k + 1
  dep xs := by rw [PyData.depth]; exact Nat.succ_le_succ (depAll dt xs)
  inj a b := by rw [PyData.eqv]; exact eqvAll_inj dt a b
instance {δ ε : Type} [Enc δ] [Enc ε] [dt : DatE δ] [de : DatE ε] : DatE (δ × ε) where
  d p := .tuple [dt.d p.1, de.d p.2]
  dp h := by
    obtain ⟨p, v1, v2, rfl, hh, r1, r2⟩ := h
    exact .tup hh (.cons (dt.dp r1) (.cons (de.dp r2) .nil))
  can p := by simp [PyData.canLay0, PyData.canLayAll0, dt.can, de.can]
  k := max dt.k de.k + 1
  dep p := by
    simp only [PyData.depth, PyData.depthAll]
    have h1 := dt.dep p.1
    have h2 := de.dep p.2
    omega
  inj a b := by
    rw [PyData.eqv, PyData.eqvAll, PyData.eqvAll, PyData.eqvAll, Bool.and_eq_true, Bool.and_eq_true, dt.inj, de.inj]
    constructor
    · rintro ⟨h1, h2, _⟩
      exact Prod.ext h1 h2
    · rintro rfl
      exact ⟨rfl, rfl, rfl⟩
instance {δ ε ζ : Type} [Enc δ] [Enc ε] [Enc ζ] [dt : DatE δ] [de : DatE ε] [dz : DatE ζ] : DatE (T3 δ ε ζ) where
  d p := .tuple [dt.d p.a, de.d p.b, dz.d p.c]
  dp h := by
    obtain ⟨p, v1, v2, v3, rfl, hh, r1, r2, r3⟩ := h
    exact .tup hh (.cons (dt.dp r1) (.cons (de.dp r2) (.cons (dz.dp r3) .nil)))
  can p := by simp [PyData.canLay0, PyData.canLayAll0, dt.can, de.can, dz.can]
  k := max dt.k (max de.k dz.k) + 1
  dep p := by
    simp only [PyData.depth, PyData.depthAll]
    have h1 := dt.dep p.a
    have h2 := de.dep p.b
    have h3 := dz.dep p.c
    omega
  inj a b := by
    rw [PyData.eqv, PyData.eqvAll, PyData.eqvAll, PyData.eqvAll, PyData.eqvAll, Bool.and_eq_true, Bool.and_eq_true, Bool.and_eq_true, dt.inj, de.inj, dz.inj]
    obtain ⟨a1, a2, a3⟩ := a
    obtain ⟨b1, b2, b3⟩ := b
    constructor
    · rintro ⟨h1, h2, h3, _⟩
      cases h1
      cases h2
      cases h3
      rfl
    · rintro ⟨⟩
      exact ⟨rfl, rfl, rfl, rfl⟩
theorem eqv_dec {δ : Type} {e : Enc δ} (dt : DatE δ) (inst : DecidableEq δ) (x y : δ) : PyData.eqv (dt.d x) (dt.d y) = decide (x = y) := by
  rw [Bool.eq_iff_iff, dt.inj, decide_eq_true_iff]
theorem shaped_d {δ : Type} {e : Enc δ} (dt : DatE δ) (hk : dt.k ≤ 64) (x : δ) : SeqAt.shaped (dt.d x) = true := by
  unfold SeqAt.shaped
  rw [dt.can, Bool.true_and]
  exact decide_eq_true (Nat.le_trans (dt.dep x) hk)
theorem d_eqD {a b : α} (ha : DE K B ta ρ a) (hb : DE K B tb ρ b) (inst : DecidableEq α) (dt : DatE α) (hk : dt.k ≤ 64) : DE K B (tOp (rEqD K) ta tb) ρ (decide (a = b)) :=
  d_op ha hb fun x y S H hi r1 r2 Q q => ⟨_, _, dt.dp (Enc.mono hi r1), dt.dp (Enc.mono hi r2), shaped_d dt hk a, shaped_d dt hk b, by rw [eqv_dec dt inst]; exact q _ S H (Ext.refl hi) rfl⟩
theorem d_neD {a b : α} (ha : DE K B ta ρ a) (hb : DE K B tb ρ b) (inst : DecidableEq α) (dt : DatE α) (hk : dt.k ≤ 64) : DE K B (tOp (rNeD K) ta tb) ρ (!decide (a = b)) :=
  d_op ha hb fun x y S H hi r1 r2 Q q => ⟨_, _, dt.dp (Enc.mono hi r1), dt.dp (Enc.mono hi r2), shaped_d dt hk a, shaped_d dt hk b, by rw [eqv_dec dt inst]; exact q _ S H (Ext.refl hi) rfl⟩
end
end WW

set_option Elab.async false
set_option linter.all false
set_option maxRecDepth 100000
set_option maxHeartbeats 4000000
namespace WW
open PySem PySem.Spec PyProof.Rows L2 ClX
/-! ### list.count of plain things -/
def rCntF (K : PySem.W.Frag) : V → List V → Hp → VK → Prop := fun x xs H Q => ∃ (a : Addr) (ys : List V) (y : V), x = .ref a ∧ xs = [y] ∧ SqL K H a ys ∧ flatV y = true ∧ ys.all flatV = true ∧ Q (.int (ys.countP (fun z => eqV z y) : Nat)) H
theorem countU {y : V} : ∀ {ys : List V} {us : List Value}, Vals ys us → ys.all flatV = true → us.countP (eqU y) = ys.countP fun z => eqV z y
  | _, _, .nil, _ => rfl
  | _, _, .cons r t, h => by
    rw [List.all_cons, Bool.and_eq_true] at h
    rw [List.countP_cons, List.countP_cons, countU t h.2, eqU_of r h.1]
theorem mt_lcountF {X : Cx} (K : PySem.W.Frag) (hK : X.K = K := by rfl) : MtR X "list.count" (rCntF K) := by
  subst hK
  intro pins s σ H x xs v us Q I rx rxs h
  obtain ⟨a, ys, y, rfl, rfl, hs, fy, fys, q⟩ := h
  cases rx
  obtain ⟨uy, rfl, ry⟩ := rxs.one
  obtain ⟨its, rv, ⟨⟨cls, dd, data, sl⟩, n, ho, hc, hdn, hd⟩, hlen⟩ := I.list hs
  simp only at hc hd
  subst hc hd
  refine call_meets PySem.F.slot_list_count ⟨_, ho, rfl⟩ PySem.F.entry_list_count (PySem.F.args_list_count_2 _ _)
    (SeqAt.list_countAt a its.toArray n dd sl uy (eqU y)) ⟨ho, fun u' hu' => mem_eqAt ry fy rv fys u' (by simpa using hu'), ?_⟩
  have ec : its.toArray.toList.countP (eqU y) = ys.countP fun z => eqV z y := countU rv fys
  refine ⟨.int (ys.countP (fun z => eqV z y) : Nat), H, I.tok _, ⟨s.toks, ?_⟩, q⟩
  show Value.int ((its.toArray.toList.countP (eqU y) : Nat) : Int) s.toks = Value.int ((ys.countP (fun z => eqV z y) : Nat) : Int) s.toks
  rw [ec]
/-! ### a classmethod called where an error may be caught -/
structure CmAt (P : Program) (w : World) (K : PySem.W.Frag) (mg : Str → Option Value) (base : Heap) (CX : CXT) (k : Nat) (C : Addr) (m : Str) (sp : Sp) : Prop where
  ex : ∃ mc p g, CRead K C mc ∧ CMet K C mc m p g ∧ FnR P w K mg base CX k g sp
def tCMethS (C : Addr) (sp : Sp) (E : L2.St → XK) (ta : TE) (t : TA) : TE := fun σ H Q => ta σ H fun x H1 => x = .ref C ∧ t σ H1 fun vs H2 => sp (.ref C :: vs) H2 Q (E σ)
section
variable {X : Cx} {k j : Nat} {C : Addr} {sp : Sp} {o e : Expr} {es : List Expr} {m : Str} {pos apos : Pos} {ta : TE} {t : TA} {pl : Sem Bool} {W : WX}
theorem pe_cmX (K : PySem.W.Frag) (F : CmAt X.prog X.w K X.mg X.base (L2.CX X.prog X.w) k C m sp) (tk : Takes X W) (hr : Room j X.A) (he : PE X o ta) (ha : PA X (e :: es) t) (hk : k ≤ j := by decide) (hK : X.K = K := by rfl)
    (hst : starEach (e :: es) X.env = (false, eval e X.env) :: starEach es X.env := by rfl) (hpl : (backTo pos (starEach es X.env)).any (·.1) = false := by rfl)
    (ht : eval (.Call (.Attribute o m apos) (e :: es) [] pos) X.env = (do
      let ov ← eval o X.env
      standAt apos.atName
      let (f, first) ← holding [ov] (getMethod ov m pl)
      callWith pos f first (backTo pos (starEach (e :: es) X.env)) (backToKw pos (keywordEach [] X.env))) := by rfl) :
    PE X (.Call (.Attribute o m apos) (e :: es) [] pos) (tCMethS C sp (WE W) ta t) := by
  subst hK
  obtain ⟨mc, p, g, r, c, F1⟩ := F.ex
  refine ⟨fun pins s σ H Q I h => ?_⟩
  refine PySem.W.methodCall_KW (pl := pl) (thn (he.run pins s σ H _ I h) fun u s1 ⟨x, H1, I1, rx, ex, q⟩ => ?_) ht
  subst ex
  obtain rfl : u = Value.ref C := rx
  refine getmethcm_ok I1 r c fun s2 I2 => ?_
  refine callwith_cm I2 (base_none I1 (Nat.le_refl _)) c.fi (thn (ha.run pos _ s2 σ H1 _ I2 q) fun us s3 ⟨vs, H2, I3, rv, q2⟩ => ⟨⟨pin_at I3, I3.kIn⟩, ?_⟩) hst hpl
  have z : wpAny (model X.prog X.w) X.A (call (.ref s1.heap.objs.size) us) (EP X ((s1.heap.objs.size, PySem.W.methodObj (.ref g) (.ref C)) :: pins) σ Q) X.xe s3 := by
    refine wpAny_call (PySem.W.method_call (pin_at I3) (codeAny_mono (F1 X.A X.stack s3 H2 (.ref C :: us) (.ref C :: vs) Q (WE W σ) (hr.mono hk) I3.env0 (.cons rfl rv) q2) fun r s' hq => ?_))
    cases r with
    | error e => exact passAt tk σ _ _ _ e s' I3 hq
    | ok fl =>
      cases fl with
      | ret u => exact I3.after hq
      | next => exact False.elim hq
      | brk => exact False.elim hq
      | cont => exact False.elim hq
  exact thn z fun _ _ y => unpinE y
theorem pe_cm (K : PySem.W.Frag) (F : CmAt X.prog X.w K X.mg X.base CX0 k C m sp) (hr : Room j X.A) (he : PE X o ta) (ha : PA X (e :: es) t) (hk : k ≤ j := by decide) (hK : X.K = K := by rfl)
    (hst : starEach (e :: es) X.env = (false, eval e X.env) :: starEach es X.env := by rfl) (hpl : (backTo pos (starEach es X.env)).any (·.1) = false := by rfl)
    (ht : eval (.Call (.Attribute o m apos) (e :: es) [] pos) X.env = (do
      let ov ← eval o X.env
      standAt apos.atName
      let (f, first) ← holding [ov] (getMethod ov m pl)
      callWith pos f first (backTo pos (starEach (e :: es) X.env)) (backToKw pos (keywordEach [] X.env))) := by rfl) :
    PE X (.Call (.Attribute o m apos) (e :: es) [] pos) (tCMeth C sp E0 ta t) := by
  subst hK
  obtain ⟨mc, p, g, r, c, F1⟩ := F.ex
  exact pe_cmeth (pl := pl) he r c F1 (hr.mono hk) pass0 ha hst hpl ht
end
/-! ### cls(..), cls a local name that holds an own class -/
def tMakeLS (i : Nat) (C : Addr) (sp : Sp) (dvs : List V) (E : L2.St → XK) (t : TA) : TE := fun σ H Q => σ[i]? = some (some (.ref C)) ∧ t σ H fun vs H1 => ∀ x dx, H1 x = none → H1 dx = none → dx ≠ x → sp (.ref x :: (vs ++ dvs)) (upd (upd H1 dx (.own x)) x (.ins C dx [])) (fun v H2 => v = .non ∧ Q (.ref x) H2) (E σ)
section
variable {X : Cx} {k j i : Nat} {x y : Str} {ps : List Str} {sp : Sp} {e : Expr} {es : List Expr} {t : TA} {p pos : Pos} {dvs : List V} {W : WX}
theorem pe_mkLX (K : PySem.W.Frag) (F : MkAtX X.prog X.w K X.mg X.base k y ps sp dvs) (tk : Takes X W) (hr : Room j X.A) (hN : X.N[i]? = some x) (hv : Vis X.env.scope x) (ha : PA X (e :: es) t) (hk : k + 1 ≤ j := by decide) (hK : X.K = K := by rfl)
    (hdb : (x == ("__debug__" : Str)) = false := by decide) (hcd : (x == ("__classdict__" : Str)) = false := by decide) (he : starEach (e :: es) X.env = (false, eval e X.env) :: starEach es X.env := by rfl) (hpl : (backTo pos (starEach es X.env)).any (·.1) = false := by rfl) :
    PE X (.Call (.Name x p) (e :: es) [] pos) (tMakeLS i (He.ga K y) sp dvs (WE W) t) := by
  subst hK
  obtain ⟨f, fd, ds, M, F1, hd, hb⟩ := F.ex
  refine ⟨fun pins s0 σ H0 Q I0 h0 => ?_⟩
  obtain ⟨hs0, h0⟩ := h0
  refine wpAny_Call_Name_kw (thn ((pe_var (pos := p) hN hv hdb hcd).run pins s0 σ H0 (fun v H1 => v = .ref (He.ga X.K y) ∧ H1 = H0) I0 ⟨_, hs0, rfl, rfl⟩) fun u s1 ⟨v, H1, I1, r1, q1⟩ => ?_)
  obtain ⟨rfl, rfl⟩ := q1
  cases r1
  refine PySem.W.callWith_K (h₀ := X.base) I0.ok.mod.kin M.kp (thn (ha.run pos pins s1 σ _ _ I1 h0) fun us s ⟨vs, H, I, r, h⟩ => ⟨I.kIn, ?_⟩) he hpl
  have hq := h (s.heap.objs.size + 1) s.heap.objs.size (I.hok.fresh (Nat.le_succ _)) (I.hok.fresh (Nat.le_refl _)) (Nat.ne_of_lt (Nat.lt_succ_self _))
  have I2 := Inv.made (C := He.ga X.K y) I
  have r2 : Vals (V.ref (s.heap.objs.size + 1) :: (vs ++ dvs)) (Value.ref (s.heap.objs.size + 1) :: (us ++ ds)) := .cons rfl (r.append hd)
  have hl : (Value.ref (s.heap.objs.size + 1) :: us ++ ds).length = ps.length := by
    have e := r2.length
    rw [F1.len _ _ _ _ hq] at e
    exact e.symm
  show wpAny _ _ (call (.ref (He.ga X.K y)) us) _ _ _
  refine wpAny_call (make_map (f := f) I.kIn M.makes M.init (beq_iff_eq.mp M.fn) (codeAny_mono (F1.run _ X.stack _ _ ⟨Value.ref (s.heap.objs.size + 1) :: us, []⟩ (Value.ref (s.heap.objs.size + 1) :: (us ++ ds)) _ _ (WE W σ) ((hr.mono hk).make (He.ga X.K y) us [])
    (I2.env0.make (He.ga X.K y) us []) (hb _ (Value.ref (s.heap.objs.size + 1) :: us) I2.kIn hl) r2 hq) fun r s' hq' => ?_))
  cases r with
  | error e => exact passAt tk σ pins _ _ e s' I2 hq'
  | ok fl =>
    cases fl with
    | ret u =>
      obtain ⟨v, H', I3, rv, ev, q3⟩ := I2.after hq'
      subst ev
      exact ⟨rv, ⟨V.ref (s.heap.objs.size + 1), H', I3, rfl, q3⟩⟩
    | next => exact False.elim hq'
    | brk => exact False.elim hq'
    | cont => exact False.elim hq'
end
end WW

set_option Elab.async false
set_option linter.all false
set_option maxRecDepth 100000
set_option maxHeartbeats 4000000
namespace WW
open PySem PySem.Spec PyProof.Rows L2
/-! ### the head's facts of own exceptions -/
def oexB (K : PySem.W.Frag) (C : Addr) : Bool :=
  (match K.lookup C with
    | some ⟨.type "type", _, .cls cd, sl⟩ => (match cd.mro, sl.toList with
      | .ref C' :: bm, [_, _, _, _, some (.builtin n), _] => C' == C && n == "ValueError.__new__" && !cd.hasDel && cd.hasDict && PySem.HandSPX.refsVE bm
      | _, _ => false)
    | _ => false) && (He.eqO (PySem.W.findIn K (.ref C) "__setattr__") (some (some (.builtin "object.__setattr__"))) && (decide (PySem.W.subIn K (.ref C) (.type "BaseException") = some true) && (decide (PySem.W.typeIn K (.ref C) = some (.type "type")) && PySem.W.keepIn K (.ref C))))
theorem oexB_ok {K : PySem.W.Frag} {C : Addr} (h : oexB K C = true) : OexC K C := by
  obtain ⟨h0, h⟩ := He.ba h
  obtain ⟨h1, h⟩ := He.ba h
  obtain ⟨h2, h⟩ := He.ba h
  obtain ⟨h3, h4⟩ := He.ba h
  refine ⟨?_, He.eqO_ok h1, of_decide_eq_true h2, of_decide_eq_true h3, h4⟩
  split at h0
  · rename_i dd cd sl ho
    split at h0
    · rename_i C' bm k0 k1 k2 k3 n k5 hm hs
      simp only [Bool.and_eq_true, beq_iff_eq, Bool.not_eq_true'] at h0
      obtain ⟨⟨⟨⟨rfl, rfl⟩, hdel⟩, hdct⟩, ht⟩ := h0
      obtain ⟨nm, bs, mro, ns, qn, hd, sn, sub, ab, col, del⟩ := cd
      dsimp only at hm hdel hdct
      subst hm hdel hdct
      have hsl : sl = #[k0, k1, k2, k3, some (.builtin "ValueError.__new__"), k5] := by
        obtain ⟨l⟩ := sl
        simp only at hs
        rw [hs]
      subst hsl
      exact ⟨nm, qn, ns, bs, bm, sn, sub, ab, col, dd, k0, k1, k2, k3, k5, ho, ht⟩
    · cases h0
  · cases h0
/-- the __init__ of a class, as it stands -/
abbrev SupV : Type := Option (Str × Arguments × FuncBody × Scope × Addr × Addr)
def supO (K : PySem.W.Frag) (C : Addr) : SupV := match K.lookup (He.ma K C "__init__") with
  | some ⟨_, _, .func fd, _⟩ => some (fd.qualname, fd.params, fd.body, fd.scope, fd.globals, fd.builtins)
  | _ => none
def supB (K : PySem.W.Frag) (file : Str) (C : Addr) : Bool :=
  (match K.lookup (He.ma K C "__init__") with
    | some ⟨_, _, .func fd, _⟩ => (match fd.closure, fd.code with
      | [(n, cc)], .ref cda => ((n == ("__class__" : Str)) && (fd.defaults == Value.none)) && (PySem.W.codeIn K (.ref cda) fd.qualname && ((match K.lookup cc with
          | some ⟨_, _, .cell (some (.ref D)), _⟩ => D == C
          | _ => false) && (match K.lookup cda with
          | some ⟨_, _, .fields vs, _⟩ => (match (vs : Array Value)[2]? with
            | some (Value.str fl _) => file == fl
            | _ => false)
          | _ => false)))
      | _, _ => false)
    | _ => false) && (oexB K C && (He.eqO (PySem.W.findIn K (.ref C) "__init__") (some (some (.ref (He.ma K C "__init__")))) && (decide (PySem.W.typeIn K (.ref (He.ma K C "__init__")) = some (.type "function")) && (He.eqO (PySem.W.ks_superIn K C C "__init__") (some (some (.builtin "ValueError.__init__"))) &&
      (decide (PySem.W.mroIn K C (.ref C) = some true) && (decide (PySem.W.subIn K (.ref C) (.type "ValueError") = some true) && He.eqO (PySem.W.nsIn K cStatics "thirdparty.any") (some none)))))))
theorem supB_ok {P : Program} {K : PySem.W.Frag} {C : Addr} {qual : Str} {params : Arguments} {body : List Stmt} {scope : Scope} (h : supB K P.main.file C = true) (e : supO K C = some (qual, params, .stmts body, scope, mainGlobals, builtinsNs)) (top : (P.main.scope.names.lookup ("super" : Str)).isSome = false) : SupC P K C (He.ma K C "__init__") qual params body scope := by
  obtain ⟨h0, h⟩ := He.ba h
  obtain ⟨h1, h⟩ := He.ba h
  obtain ⟨h2, h⟩ := He.ba h
  obtain ⟨h3, h⟩ := He.ba h
  obtain ⟨h4, h⟩ := He.ba h
  obtain ⟨h5, h⟩ := He.ba h
  obtain ⟨h6, h7⟩ := He.ba h
  refine ⟨oexB_ok h1, He.eqO_ok h2, of_decide_eq_true h3, ?_, He.eqO_ok h4, of_decide_eq_true h5, of_decide_eq_true h6, He.eqO_ok h7, top⟩
  unfold supO at e
  split at h0
  · rename_i oc od fd osl ho
    rw [ho] at e
    obtain ⟨n1, n2, n3, n4, n5, n6, n7, n8, n9, n10, n11, n12, n13, n14, n15⟩ := fd
    have e2 : (some (n2, n3, n4, n5, n6, n15) : SupV) = some (qual, params, .stmts body, scope, mainGlobals, builtinsNs) := e
    simp only [Option.some.injEq, Prod.mk.injEq] at e2
    obtain ⟨q1, q2, q3, q4, q5, q6⟩ := e2
    subst q1 q2 q3 q4 q5 q6
    split at h0
    · rename_i n cc cda hcl hcd
      dsimp only at hcl hcd
      subst hcl hcd
      obtain ⟨g1, h0⟩ := He.ba h0
      obtain ⟨g2, h0⟩ := He.ba h0
      obtain ⟨g3, g4⟩ := He.ba h0
      obtain ⟨g1, g0⟩ := He.ba g1
      rw [beq_iff_eq] at g1 g0
      subst g1 g0
      split at g3
      · rename_i cl cld D csl hcc
        rw [beq_iff_eq] at g3
        subst g3
        split at g4
        · rename_i ccl cdd vs ccs hcode
          split at g4
          · rename_i fl tf hvs
            exact ⟨n1, oc, od, n9, n10, n11, n12, cda, cc, n14, osl, ccl, cdd, vs, ccs, fl, tf, cl, cld, csl, ho, g2, hcode, hvs, g4, hcc⟩
          · cases g4
        · cases g4
      · cases g3
    · cases h0
  · cases h0
/-- what must be said of a class so that its caught instances are asked rightly -/
def excCB (K : PySem.W.Frag) (C : Addr) : Bool :=
  He.eqO (PySem.W.findIn K (.ref C) "__getattribute__") (some (some (.builtin "BaseException.__getattribute__"))) && (He.eqO (PySem.W.findIn K (.ref C) "__getattr__") (some none) && (decide (PySem.W.subIn K (.ref C) (.type "BaseException") = some true) && (PySem.W.hasDictIn K C && (He.eqO (PySem.W.findIn K (.ref C) "__class__") (some (some (.builtin "object.__class__"))) &&
    (He.eqO (PySem.W.specialIn K (.builtin "object.__class__") "__get__") (some (some (.builtin "getset_descriptor.__get__"))) && (decide (PySem.W.takesIn K (.builtin "object.__class__") = some true) && decide (PySem.W.mroIn K C (.type "object") = some true)))))))
theorem excCB_ok {K : PySem.W.Frag} {C : Addr} (h : excCB K C = true) : ExcC K C ∧ XfC K C := by
  obtain ⟨h1, h⟩ := He.ba h
  obtain ⟨h2, h⟩ := He.ba h
  obtain ⟨h3, h⟩ := He.ba h
  obtain ⟨h4, h⟩ := He.ba h
  obtain ⟨h5, h⟩ := He.ba h
  obtain ⟨h6, h⟩ := He.ba h
  obtain ⟨h7, h8⟩ := He.ba h
  exact ⟨⟨He.eqO_ok h1, He.eqO_ok h2, of_decide_eq_true h3, h4, He.eqO_ok h5, He.eqO_ok h6, of_decide_eq_true h7, of_decide_eq_true h8⟩, ⟨He.eqO_ok h1, He.eqO_ok h2, of_decide_eq_true h3, h4⟩⟩
/-! ### the hook with the __init__s of exception classes -/
section
variable (n : Nat) (fa : List He.Fa) (fn : List He5.DefA) (ex : PySem.W.Frag → Bool) (cs : List Str) (vs : List SupV)
def obsS (g : Addr → Option PySem.Obj) : (He.AlD × Bool) × List SupV := ((He5.obsA fa fn (He.frG g (He5.asA g n)), ex (He.frG g (He5.asA g n))), cs.map fun x => supO (He.frG g (He5.asA g n)) (He.ga (He.frG g (He5.asA g n)) x))
def SaysS (K : PySem.W.Frag) : Prop := SaysW fa fn ex K ∧ (cs.map fun x => supO K (He.ga K x)) = vs
def hookS : PySem.W.Hook where
  α := (He.AlD × Bool) × List SupV
  obs := fun s => obsS n fa fn ex cs s.heap.get?
  val := fun _ => ((He5.valA fn, true), vs)
  says := fun _ h => ∃ K : PySem.W.Frag, K.In h ∧ SaysS fa fn ex cs vs K
  of := fun _ s e => ⟨He.frG s.heap.get? (He5.asA s.heap.get? n), He.frG_in, ⟨congrArg (fun z : (He.AlD × Bool) × List SupV => z.1.1) e, congrArg (fun z : (He.AlD × Bool) × List SupV => z.1.2) e⟩, congrArg (fun z : (He.AlD × Bool) × List SupV => z.2) e⟩
  keeps := fun _ _ _ ⟨K, hK, c⟩ k => ⟨K, PySem.W.Frag.In.keeps hK k, c⟩
end
theorem obsS_eq {n : Nat} {fa : List He.Fa} {fn : List He5.DefA} {ex : PySem.W.Frag → Bool} {cs : List Str} {vs : List SupV} {g : Addr → Option PySem.Obj} {s : Shared} (h : ∀ a, g a = s.heap.get? a) : obsS n fa fn ex cs g = (hookS n fa fn ex cs vs).obs s := by
  rw [show g = s.heap.get? from funext h]
  rfl
end WW

set_option Elab.async false
set_option linter.all false
set_option maxRecDepth 100000
set_option maxHeartbeats 4000000
namespace WW
open PySem PySem.Spec PyProof.Rows L2
/-- attributes of a class with a plain table are read plainly -/
theorem cread_ok {K : PySem.W.Frag} {C : Addr} (h0 : PySem.W.readsIn K C (.type "type") = true) : ClX.CRead K C (.type "type") := by
  refine ⟨h0, ?_⟩
  have h := h0
  unfold PySem.W.readsIn at h
  obtain ⟨h, _⟩ := He.ba h
  obtain ⟨h, _⟩ := He.ba h
  obtain ⟨h, h3⟩ := He.ba h
  obtain ⟨_, h2⟩ := He.ba h
  unfold PySem.W.specialIn
  rw [beq_iff_eq.mp h2, Option.bind_some]
  exact beq_iff_eq.mp h3
end WW

set_option Elab.async false
set_option linter.all false
set_option maxRecDepth 100000
set_option maxHeartbeats 4000000
namespace WW
open PySem PySem.Spec PyProof.Rows L2
section
variable {K : PySem.W.Frag} {B : Addr → Prop} {ρ ρ' ρ1 ρ2 : List Slot} {ta tb tc te : TE} {t u : TT} {ts tu tz : TS} {Φ : Post} {α β γ : Type} {e_α : Enc α} {e_β : Enc β} {e_γ : Enc γ} {a : α} {b : β} {i j : Int} {z y : Str}
theorem vals_str {S : Hp} : ∀ {vs : List V} {xs : List Str}, Paired (Enc.rep K S) vs xs → vs = xs.map V.str
  | _, _, .nil => rfl
  | _, _, .cons h r => by cases h; rw [vals_str r]; rfl
theorem do_split (h1 : DE K B ta ρ z) (h2 : DE K B tb ρ y) (hy : (y.length == 0) = false) (hz : z.length + 2 ≤ BIG) (hl : (Txt.split z y).length ≤ BIG) :
    DO K B (tM1 (fun x xs H Q => ∃ a b, x = .str a ∧ xs = [.str b] ∧ (b.length == 0) = false ∧ a.length + 2 ≤ sizeLine ∧ rNewStrs (Txt.split a b) H Q) ta tb) ρ (Txt.split z y) := fun S0 H0 S H σ E Q q =>
  h1 S0 H0 S H σ E _ fun v S1 H1 e1 r1 => ⟨⟨z, r1⟩, h2 S0 H0 S1 H1 σ (E.go e1) _ fun w S2 H2 e2 r2 => ⟨z, y, r1, by cases r2; rfl, hy, Nat.le_trans hz big_line, fun p hp =>
    q p _ S2 _ ((e1.trans e2).trans (Ext.priv e2.i hp)) ((e1.trans e2).free E.i hp) (e2.i.free hp) upd_same (paired_map V.str (fun _ => rfl) _) hl⟩⟩
theorem d_join {ws : List Str} (h1 : DE K B ta ρ z) (h2 : DE K B tb ρ ws) (hs : (ws.map (·.length)).sum + ws.length * z.length ≤ 16777216) : DE K B (tM1 (rJoin K) ta tb) ρ (Txt.join z ws) := fun S0 H0 S H σ E Q q =>
  h1 S0 H0 S H σ E _ fun v S1 H1 e1 r1 => ⟨⟨z, r1⟩, h2 S0 H0 S1 H1 σ (E.go e1) _ fun w S2 H2 e2 ⟨hl, p, vs, e, hh, r⟩ => by
    subst e
    have hv := vals_str r
    subst hv
    exact ⟨z, p, ws, r1, rfl, hh.ex e2.i, hs, q _ S2 H2 (e1.trans e2) rfl⟩⟩
theorem d_strI (h : DE K B te ρ i) (hz : i.natAbs.log2 < 1920) : DE K B (tCB (fun xs H Q => ∃ i, xs = [.int i] ∧ i.natAbs.log2 < 1920 ∧ Q (.str (toString i)) H) (tCons te tNil)) ρ (Str.ofString (toString i)) := fun S0 H0 S H σ E Q q =>
  h S0 H0 S H σ E _ fun v S1 H1 e1 r => ⟨i, by cases r; rfl, hz, q _ S1 H1 e1 rfl⟩
theorem d_lenS (h : DE K B te ρ z) (hz : z.length ≤ BIG) : DE K B (tCB (fun xs H Q => ∃ z, xs = [.str z] ∧ z.length ≤ sizeLine ∧ Q (.int z.length) H) (tCons te tNil)) ρ (z.length : Int) := fun S0 H0 S H σ E Q q =>
  h S0 H0 S H σ E _ fun v S1 H1 e1 r => ⟨z, by cases r; rfl, Nat.le_trans hz big_line, q _ S1 H1 e1 rfl⟩
theorem d_ixS {c : Nat} (h : DE K B ta ρ z) (hi : DE K B tb ρ i) (hz : z.length ≤ BIG) (hc : atI z.cps.toList i = some c) : DE K B (tOp rIxS ta tb) ρ (⟨#[c]⟩ : Str) :=
  d_op h hi fun v w S H sm r1 r2 Q q => ⟨z, i, c, r1, r2, Nat.le_trans hz big_line, hc, q _ S H (Ext.refl sm) rfl⟩
theorem d_slS {tl th : TO} {lo hi : Option Int} (h : DE K B te ρ z) (hl : DP K B tl ρ lo) (hh : DP K B th ρ hi) (hz : z.length ≤ BIG) : DE K B (tSl rSlS te tl th) ρ (cutS z lo hi) := fun S0 H0 S H σ E Q q =>
  h S0 H0 S H σ E _ fun v S1 H1 e1 r1 => hl S0 H0 S1 H1 σ (E.go e1) _ fun S2 H2 e2 => hh S0 H0 S2 H2 σ (E.go (e1.trans e2)) _ fun S3 H3 e3 => ⟨z, r1, Nat.le_trans hz big_line, q _ S3 H3 ((e1.trans e2).trans e3) rfl⟩
theorem d_inSign {c : Nat} (h1 : DE K B ta ρ (⟨#[c]⟩ : Str)) (h2 : DE K B tb ρ z) : DE K B (tOp (fun x y H Q => ∃ (c : Nat) (z : Str), x = .str ⟨#[c]⟩ ∧ y = .str z ∧ Q (.bl (decide (c ∈ z.cps.toList))) H) ta tb) ρ (decide (c ∈ z.cps.toList)) :=
  d_op h1 h2 fun v w S H sm r1 r2 Q q => ⟨c, z, r1, r2, q _ S H (Ext.refl sm) rfl⟩
theorem d_notInSign {c : Nat} (h1 : DE K B ta ρ (⟨#[c]⟩ : Str)) (h2 : DE K B tb ρ z) : DE K B (tOp (fun x y H Q => ∃ (c : Nat) (z : Str), x = .str ⟨#[c]⟩ ∧ y = .str z ∧ Q (.bl (!decide (c ∈ z.cps.toList))) H) ta tb) ρ (!decide (c ∈ z.cps.toList)) :=
  d_op h1 h2 fun v w S H sm r1 r2 Q q => ⟨c, z, r1, r2, q _ S H (Ext.refl sm) rfl⟩
theorem d_intS {n : Int} (h : DE K B te ρ z) (hn : PySem.intText? z = some n) (hz : z.length ≤ 640) : DE K B (tCB (fun xs H Q => ∃ a n, xs = [.str a] ∧ PySem.intText? a = some n ∧ a.length ≤ 640 ∧ Q (.int n) H) (tCons te tNil)) ρ n := fun S0 H0 S H σ E Q q =>
  h S0 H0 S H σ E _ fun v S1 H1 e1 r => ⟨z, n, by cases r; rfl, hn, hz, q _ S1 H1 e1 rfl⟩
/-- the signs of a text -/
def signs (z : Str) : List Str := z.cps.toList.map fun c => ⟨#[c]⟩
theorem signs_len (z : Str) : (signs z).length = z.length := by
  unfold signs
  rw [List.length_map, Array.length_toList]
  rfl
theorem di_str (h : DE K B te ρ z) : DI K B (iStr te) ρ (signs z) := fun S0 H0 S H σ E R q =>
  h S0 H0 S H σ E _ fun v S1 H1 e1 r => ⟨z, r, q _ S1 H1 e1 fun S2 H2 s2 x2 => by
    have i2 := x2.i
    refine ⟨fun n x hx => ?_, by show z.cps.size ≤ _; rw [signs_len]; exact Nat.le_refl _⟩
    unfold signs at hx
    rw [List.getElem?_map] at hx
    have lt : n < z.cps.size := by
      cases hc : z.cps.toList[n]? with
      | none => rw [hc] at hx; cases hx
      | some c => simpa using (List.getElem?_eq_some_iff.mp hc).1
    refine ⟨lt, fun v' H3 hy => ⟨S2, ?_, ?_⟩⟩
    · rw [hy.1]
      exact Ext.refl i2
    · obtain ⟨_, c, h1, h2⟩ := hy
      rw [Array.getElem?_toList, h1] at hx
      cases hx
      exact h2⟩
/-- words.count(w), words.index(w), words of one's own or not -/
theorem d_countS {ws : List Str} (h1 : DE K B ta ρ (α := L Str) ws) (h2 : DE K B tb ρ z) : DE K B (tBM K "list" (rCntF K) ta (tCons tb tNil)) ρ (ws.count z : Int) := fun S0 H0 S H σ E Q q =>
  h1 S0 H0 S H σ E _ fun v S1 H1 e1 ⟨hl, p, vs, e, hh, r⟩ => by
    subst e
    have hv := vals_str r
    subst hv
    refine ⟨.inl ⟨rfl, _, .inl (.inl (e1.i _ _ hh))⟩, h2 S0 H0 S1 H1 σ (E.go e1) _ fun w S2 H2 e2 r2 => ?_⟩
    cases r2
    refine ⟨p, _, _, rfl, rfl, .inl (.inl (e2.i _ _ (e2.s _ _ hh))), rfl, by rw [List.all_map]; simp [flatV], ?_⟩
    have ec : (ws.map V.str).countP (fun x => eqV x (V.str z)) = ws.count z := by
      rw [List.countP_map]
      unfold List.count
      congr 1
    rw [ec]
    exact q _ S2 H2 (e1.trans e2) rfl
theorem d_indexS {ws : List Str} {n : Nat} (h1 : DE K B ta ρ (α := L Str) ws) (h2 : DE K B tb ρ z) (hn : ws[n]? = some z) (hf : ∀ m, m < n → ws[m]? ≠ some z) : DE K B (tBM K "list" (rIndex K) ta (tCons tb tNil)) ρ (n : Int) := fun S0 H0 S H σ E Q q =>
  h1 S0 H0 S H σ E _ fun v S1 H1 e1 ⟨hl, p, vs, e, hh, r⟩ => by
    subst e
    have hv := vals_str r
    subst hv
    refine ⟨.inl ⟨rfl, _, .inl (.inl (e1.i _ _ hh))⟩, h2 S0 H0 S1 H1 σ (E.go e1) _ fun w S2 H2 e2 r2 => ?_⟩
    cases r2
    refine ⟨p, _, _, n, .str z, rfl, rfl, .inl (.inl (e2.i _ _ (e2.s _ _ hh))), rfl, by rw [List.all_map]; simp [flatV], by rw [List.getElem?_map, hn]; rfl, ?_, fun m z' hm hz' => ?_, q _ S2 H2 (e1.trans e2) rfl⟩
    · simp [eqV]
    · rw [List.getElem?_map] at hz'
      cases hx : ws[m]? with
      | none => rw [hx] at hz'; cases hz'
      | some x =>
        rw [hx] at hz'
        cases hz'
        simp only [eqV]
        have : x ≠ z := fun e => hf m hm (by rw [hx, e])
        simpa using this
end
theorem do_nil {K : PySem.W.Frag} {B : Addr → Prop} {ρ : List Slot} (α : Type) [Enc α] : DO K B (tLst tNil) ρ ([] : List α) := do_lst dl_nil (Nat.zero_le _)
theorem mt_indexK {X : Cx} (K : PySem.W.Frag) (hK : X.K = K := by rfl) : MtR X "list.index" (rIndex K) := by
  subst hK
  exact mt_index
theorem pe_gv {X : Cx} {x : Str} {v : V} {p : Pos} (hg : Gl X x) (h : ∃ u, X.mg x = some u ∧ RelV v u) (hdb : (x == ("__debug__" : Str)) = false := by decide) : PE X (.Name x p) (tC v) := by
  obtain ⟨u, h1, h2⟩ := h
  exact pe_glob hg h1 h2 hdb
end WW

set_option Elab.async false
set_option linter.all false
set_option maxRecDepth 100000
set_option maxHeartbeats 4000000
namespace WW
open PySem PySem.Spec PyProof.Rows L2
/-! ### typed defs that may raise: X tells the error's class and its fields -/
abbrev XP := Addr → List (Str × V) → Prop
/-- what is raised where X allows it -/
def PX (B : Addr → Prop) (X : XP) (E : XK) (S0 H0 : Hp) : Prop := ∀ C fs d S' H', X C fs → Ext B S0 H0 S' H' → H0 d = none → H' d = some (.xd fs) → E (.ref C) (some d) H'
def spTX (K : PySem.W.Frag) (dp : List Slot → (Slot → Prop) → XP → Prop) : Sp := fun vs H Q E => ∃ B S ss R X, Same S H ∧ (∀ p, B p → S p = none ∧ IsBx (H p)) ∧ ArgsOk K B H S H vs ss ∧ dp ss R X ∧ (∀ s v S' H', R s → Ext B S H S' H' → SlotOk K B H S' H' (some v) s → Q v H') ∧ PX B X E S H
section
variable {K : PySem.W.Frag} {B : Addr → Prop} {ρ : List Slot} {ta tb tc te : TE} {Φ : Post}
theorem ds_raise {C : Addr} {fld : Str} {v : V} {E : XK} {X : XP} (h : ∀ S0 H0 S H σ, En K B S0 H0 S H σ ρ → ∀ Q : VK, (∀ S' H', Ext B S H S' H' → Q v H') → te σ H Q) (hx : X C [(fld, v)]) (hp : ∀ S0 H0, Φ.px S0 H0 → PX B X E S0 H0) :
    DS K B (fun _ σ H => tMkS C fld te σ H fun cls d H' => E cls d H') ρ Φ := fun S0 H0 S H σ D En px n r b c =>
  h S0 H0 S H σ En _ fun S1 H1 e1 d hd => hp S0 H0 px C _ d S1 _ hx ((En.ext.trans e1).trans (Ext.priv e1.i hd)) ((En.ext.trans e1).free En.i0 hd) upd_same
theorem dr_int {i : Int} (h : DE K B te ρ i) : ∀ S0 H0 S H σ, En K B S0 H0 S H σ ρ → ∀ Q : VK, (∀ S' H', Ext B S H S' H' → Q (.int i) H') → te σ H Q := fun S0 H0 S H σ E Q q => h S0 H0 S H σ E Q fun v S1 H1 e1 r => by cases r; exact q S1 H1 e1
theorem dr_str {z : Str} (h : DE K B te ρ z) : ∀ S0 H0 S H σ, En K B S0 H0 S H σ ρ → ∀ Q : VK, (∀ S' H', Ext B S H S' H' → Q (.str z) H') → te σ H Q := fun S0 H0 S H σ E Q q => h S0 H0 S H σ E Q fun v S1 H1 e1 r => by cases r; exact q S1 H1 e1
end
theorem okTX {P : Program} {w : World} {K : PySem.W.Frag} {mg : Str → Option Value} {base : Heap} {x qual : Str} {params : Arguments} {body : List Stmt} {scope : Scope} {dvs : List V} {kws : List (Str × V)} {f : Addr} {fd : FuncData} {N ps : List Str} {k : Nat} {dp : List Slot → (Slot → Prop) → XP → Prop}
    (F : FunD K x qual params body scope dvs kws f fd) (S : FnScope N ps scope) (len : ∀ ss R X, dp ss R X → ss.length = ps.length)
    (hbody : ∀ (cdv : Value) (A : Around) (outer : List PySem.Env) (s : Shared) (H : Hp) (E : XK), Room k (A.deeper (envOfC qual scope s.heap.objs.size f cdv)) →
      ∃ t, PSs (cxOf (L2.CX P w) P w K mg base N qual scope f cdv A outer s H E) body t ∧ ∀ (B : Addr → Prop) ss R X, dp ss R X → DS K B t (startS N ss) ⟨fun _ => R (.val ()), R, fun _ => False, fun _ => False, fun S0 H0 => PX B X E S0 H0⟩) : FnOk P w K mg base (L2.CX P w) (k + 1) f fd ps (spTX K dp) := by
  refine F.ok S (fun vs H Q E h => ?_) (fun cdv A outer s H vs Q E hr h => ?_)
  · obtain ⟨B, S, ss, R, X, _, _, ha, hd, _⟩ := h
    rw [ha.length, len ss R X hd]
  · obtain ⟨B, S, ss, R, X, hi, hb, ha, hd, q, qx⟩ := h
    obtain ⟨t, h1, h2⟩ := hbody cdv A outer s H E hr
    exact ⟨t, h1, h2 B ss R X hd S H S H _ _ (start_en hi hb ha) qx (fun ρ' σ' S' H' r _ E' => q _ _ S' H' r E'.ext rfl) (fun s v S' H' r ex ok => q s v S' H' r ex ok) (fun _ _ _ _ h => h.elim) (fun _ _ _ _ h => h.elim)⟩
end WW

set_option Elab.async false
set_option linter.all false
set_option maxRecDepth 100000
set_option maxHeartbeats 4000000
namespace WW
open PySem PySem.Spec PyProof.Rows L2
/-! ### slots forgotten -/
inductive Wk : List Slot → List Slot → Prop
  | nil : Wk [] []
  | keep {s : Slot} {r r' : List Slot} : Wk r r' → Wk (s :: r) (s :: r')
  | drop {s : Slot} {r r' : List Slot} : Wk r r' → Wk (s :: r) (.no :: r')
def Slot.plain : Slot → Bool
  | .no => true
  | @Slot.val _ _ _ => true
  | _ => false
def Slot.unbox : Slot → Slot
  | .box => .no
  | .out _ => .no
  | s => s
theorem Wk.refl : ∀ r : List Slot, Wk r r
  | [] => .nil
  | _ :: r => .keep (Wk.refl r)
theorem Wk.trans : ∀ {a b c : List Slot}, Wk a b → Wk b c → Wk a c
  | _, _, _, .nil, .nil => .nil
  | _, _, _, .keep h, .keep k => .keep (h.trans k)
  | _, _, _, .keep h, .drop k => .drop (h.trans k)
  | _, _, _, .drop h, .keep k => .drop (h.trans k)
  | _, _, _, .drop h, .drop k => .drop (h.trans k)
theorem Wk.unbox : ∀ {a b : List Slot}, Wk a b → Wk (a.map Slot.unbox) (b.map Slot.unbox)
  | _, _, .nil => .nil
  | _, _, .keep h => .keep h.unbox
  | _, _, .drop h => .drop h.unbox
theorem Wk.length : ∀ {a b : List Slot}, Wk a b → a.length = b.length
  | _, _, .nil => rfl
  | _, _, .keep h => by rw [List.length_cons, List.length_cons, h.length]
  | _, _, .drop h => by rw [List.length_cons, List.length_cons, h.length]
theorem Wk.at' : ∀ {a b : List Slot}, Wk a b → ∀ (i : Nat) (s : Slot), b[i]? = some s → a[i]? = some s ∨ (s = .no ∧ ∃ u, a[i]? = some u)
  | _, _, .nil, i, s, e => by simp at e
  | _, _, .keep h, 0, s, e => .inl e
  | _, _, .drop h, 0, s, e => .inr ⟨by simp at e; exact e.symm, _, rfl⟩
  | _, _, .keep h, i + 1, s, e => by
    simp only [List.getElem?_cons_succ] at e ⊢
    exact h.at' i s e
  | _, _, .drop h, i + 1, s, e => by
    simp only [List.getElem?_cons_succ] at e ⊢
    exact h.at' i s e
section
variable {K : PySem.W.Frag} {B : Addr → Prop} {ρ ρ' ρ1 ρ2 : List Slot} {ta tb tc te : TE} {t u : TT} {ts tu tz : TS} {Φ : Post} {α β γ : Type} {e_α : Enc α} {e_β : Enc β} {e_γ : Enc γ} {a : α} {b : β} {i j : Int}
theorem En.weak {S0 H0 S H : Hp} {σ : L2.St} (E : En K B S0 H0 S H σ ρ) (h : Wk ρ ρ') : En K B S0 H0 S H σ ρ' := by
  refine ⟨E.i0, E.bx, E.ext, E.len.trans h.length, fun i s hs => ?_, fun i j s u n h1 h2 o1 o2 => ?_⟩
  · rcases h.at' i s hs with q | ⟨rfl, u, q⟩
    · exact E.at' i s q
    · obtain ⟨o, e, _⟩ := E.at' i u q
      exact ⟨o, e, by cases o <;> trivial⟩
  · rcases h.at' i s h1 with q | ⟨rfl, _⟩
    · rcases h.at' j u h2 with q2 | ⟨rfl, _⟩
      · exact E.ne i j s u n q q2 o1 o2
      · cases o2
    · cases o1
theorem DS.weak (h : DS K B ts ρ' Φ) (w : Wk ρ ρ') : DS K B ts ρ Φ := fun S0 H0 S H σ D E => h S0 H0 S H σ D (E.weak w)
theorem DG.weak {g : TG} {js : List Nat} (h : DG K B g a ρ' ρ2 js) (w : Wk ρ ρ') : DG K B g a ρ ρ2 js := fun S0 H0 S H σ v E => h S0 H0 S H σ v (E.weak w)
/-- a loop whose turns keep some slots and forget the others -/
theorem dq_forW {wi : TI} {g : TG} {xs : List α} (ρf : List Slot) (hi : DI K B wi ρ xs) (h0 : Wk ρ ρf)
    (hs : ∀ x ∈ xs, ∃ ρ2 js, DG K B g x ρf ρ2 js ∧ DS K B ts ρ2 ⟨fun r => Wk r ρf, Φ.rt, fun ρ' => DS K B tz ρ' Φ, fun r => Wk r ρf, Φ.px⟩) (hd : DS K B tz ρf Φ) : DS K B (tSeq (tFor wi g ts) tz) ρ Φ :=
  dq_for hi (fun _ r => Wk r ρf) h0 (fun i x ρ1 hx hw => by
    obtain ⟨ρ2, js, h1, h2⟩ := hs x (List.mem_of_getElem? hx)
    exact ⟨ρ2, js, h1.weak hw, h2⟩) fun ρ1 hw => hd.weak hw
theorem ds_forW {wi : TI} {g : TG} {xs : List α} (ρf : List Slot) (hi : DI K B wi ρ xs) (h0 : Wk ρ ρf)
    (hs : ∀ x ∈ xs, ∃ ρ2 js, DG K B g x ρf ρ2 js ∧ DS K B ts ρ2 ⟨fun r => Wk r ρf, Φ.rt, Φ.nx, fun r => Wk r ρf, Φ.px⟩) (hd : ∀ r, Wk r ρf → Φ.nx r) : DS K B (tFor wi g ts) ρ Φ :=
  ds_for hi (fun _ r => Wk r ρf) h0 (fun i x ρ1 hx hw => by
    obtain ⟨ρ2, js, h1, h2⟩ := hs x (List.mem_of_getElem? hx)
    exact ⟨ρ2, js, h1.weak hw, h2⟩) fun ρ1 hw => hd ρ1 hw
/-! ### lists, each one of some -/
theorem rep_len {S : Hp} {v : V} {xs : List α} (h : Enc.rep K S v (α := L α) xs) : xs.length ≤ BIG := h.1
theorem r_cat {S H : Hp} {x y : V} {xs ys : List α} (i : Same S H) (h1 : Enc.rep K S x (α := L α) xs) (h2 : Enc.rep K S y (α := L α) ys) (hl : xs.length + ys.length ≤ BIG) (Q : VK)
    (q : ∀ v S' H', Ext B S H S' H' → Enc.rep K S' v (α := L α) (xs ++ ys) → Q v H') : rCat x y H Q := by
  obtain ⟨l1, p1, vs1, rfl, hh1, r1⟩ := h1
  obtain ⟨l2, p2, vs2, rfl, hh2, r2⟩ := h2
  refine ⟨p1, p2, vs1, vs2, rfl, rfl, i _ _ hh1, i _ _ hh2, ?_, fun p hp => ?_⟩
  · rw [r1.length, r2.length]
    exact Nat.le_trans hl big_line
  · have e : Ext B S H (upd S p (.lst (vs1 ++ vs2))) (upd H p (.lst (vs1 ++ vs2))) := Ext.new i hp
    exact q _ _ _ e ⟨by rw [List.length_append]; exact hl, p, _, rfl, upd_same, Paired.mono (fun _ _ => Enc.mono e.s) (Paired.app r1 r2)⟩
theorem dn_cat {P1 P2 : List α → Prop} (h1 : DN K B ta ρ (α := L α) P1) (h2 : DN K B tb ρ (α := L α) P2) (hl : ∀ xs ys, P1 xs → P2 ys → xs.length + ys.length ≤ BIG) : DN K B (tOp rCat ta tb) ρ (α := L α) (fun zs => ∃ xs ys, P1 xs ∧ P2 ys ∧ zs = xs ++ ys) :=
  dn_op h1 h2 fun xs ys p1 p2 x y S H i r1 r2 Q q => r_cat i r1 r2 (hl xs ys p1 p2) Q fun v S' H' e r => q v _ S' H' ⟨xs, ys, p1, p2, rfl⟩ e r
theorem dn_lst1 {P : α → Prop} (h : DN K B te ρ P) : DN K B (tLst (tCons te tNil)) ρ (α := L α) (fun xs => ∃ a, P a ∧ xs = [a]) := fun S0 H0 S H σ E Q q =>
  h S0 H0 S H σ E _ fun v a S1 H1 pa e1 r1 => ⟨by show 1 ≤ sizeLine; decide, fun p hp => by
    have e2 : Ext B S1 H1 (upd S1 p (.lst [v])) (upd H1 p (.lst [v])) := Ext.new e1.i hp
    exact q _ [a] _ _ ⟨a, pa, rfl⟩ (e1.trans e2) ⟨by show 1 ≤ BIG; decide, p, _, rfl, upd_same, .cons (Enc.mono e2.s r1) .nil⟩⟩
theorem dn_rep {P : α → Prop} {P' : Int → Prop} (h : DN K B ta ρ (α := L α) (fun xs => ∃ a, P a ∧ xs = [a])) (hi : DN K B tb ρ P') (h0 : ∀ i, P' i → 0 ≤ i ∧ i ≤ BIG) : DN K B (tOp rRep ta tb) ρ (α := L α) (fun zs => ∃ a i, P a ∧ P' i ∧ zs = List.replicate i.toNat a) :=
  dn_op h hi fun xs i p1 p2 x y S H im r1 r2 Q q => by
    obtain ⟨a, pa, rfl⟩ := p1
    obtain ⟨i0, hl⟩ := h0 i p2
    obtain ⟨hl1, p, vs, rfl, hh, r⟩ := r1
    cases r2
    cases r with
    | cons ra rn =>
      cases rn
      rename_i x
      have hb : i.toNat ≤ BIG := by omega
      have b62 : (BIG : Int) < 2 ^ 62 := by decide
      refine ⟨p, i, [x], rfl, rfl, im _ _ hh, by omega, by omega, ?_, fun w hw => ?_⟩
      · rw [List.length_singleton, Nat.one_mul]
        exact Nat.le_trans hb big_line
      · have ef : (List.replicate i.toNat [x]).flatten = List.replicate i.toNat x := by
          generalize i.toNat = n
          induction n with
          | zero => rfl
          | succ n ih => rw [List.replicate_succ, List.flatten_cons, ih]; rfl
        rw [ef]
        have e : Ext B S H (upd S w (.lst (List.replicate i.toNat x))) (upd H w (.lst (List.replicate i.toNat x))) := Ext.new im hw
        have pr : ∀ (S' : Hp) (n : Nat), Enc.rep K S' x a → Paired (Enc.rep K S') (List.replicate n x) (List.replicate n a) := fun S' n h => by
          induction n with
          | zero => exact .nil
          | succ n ih => rw [List.replicate_succ, List.replicate_succ]; exact .cons h ih
        exact q _ _ _ _ ⟨a, i, pa, p2, rfl⟩ e ⟨by rw [List.length_replicate]; exact hb, w, _, rfl, upd_same, pr _ _ (Enc.mono e.s ra)⟩
theorem dn_sl {P : Int → Prop} {xs : List α} (h : DE K B te ρ (α := L α) xs) (hl : DN K B tb ρ P) : DN K B (tSl (rSlQ K) te (tPart tb) tNoPart) ρ (α := L α) (fun zs => ∃ i, P i ∧ zs = cutA xs (some i) none) := fun S0 H0 S H σ E Q q =>
  h S0 H0 S H σ E _ fun v S1 H1 e1 r1 => hl S0 H0 S1 H1 σ (E.go e1) _ fun w i S3 H3 pi e3 r3 => by
    cases r3
    have e13 := e1.trans e3
    obtain ⟨hl, p, vs, rfl, hq, r⟩ := Enc.mono e3.s r1
    have lc : (cutA xs (some i) none).length ≤ BIG := Nat.le_trans (cutA_len _ _ _) hl
    refine ⟨i, rfl, .inl ⟨p, vs, rfl, Evl.ex_l e3.i (.inl (.inl hq)), fun w hw => ?_⟩⟩
    have e4 : Ext B S3 H3 (upd S3 w (.lst (cutV vs (some i) none))) (upd H3 w (.lst (cutV vs (some i) none))) := Ext.new e3.i hw
    exact q _ _ _ _ ⟨i, pi, rfl⟩ (e13.trans e4) ⟨lc, w, _, rfl, upd_same, Paired.mono (fun _ _ => Enc.mono e4.s) (paired_cut r)⟩
/-- a statement that only goes on, and what follows it, for one way out -/
theorem DS.runB {nx : List Slot → Prop} (h : DS K B ts ρ ⟨nx, fun _ => False, fun _ => False, fun _ => False, fun _ _ => True⟩) {S0 H0 S H : Hp} {σ : L2.St} {D : Ends} (E : En K B S0 H0 S H σ ρ) (n : ∀ ρ' σ' S' H', nx ρ' → Same S S' → En K B S0 H0 S' H' σ' ρ' → tz D σ' H') : tSeq ts tz D σ H :=
  h S0 H0 S H σ { D with nx := tz D } E trivial n (fun _ _ _ _ h => h.elim) (fun _ _ _ _ h => h.elim) (fun _ _ _ _ h => h.elim)
theorem cutA_take {δ : Type} {xs : List δ} {t : Nat} : cutA xs none (some (t : Int)) = xs.take t := by
  unfold cutA
  rw [HT.sIx_none, HT.sIx_nat, List.drop_zero, Nat.sub_zero]
  by_cases h : t ≤ xs.length
  · rw [Nat.min_eq_left h]
  · rw [Nat.min_eq_right (by omega), List.take_length, List.take_of_length_le (by omega)]
theorem dn_slTo {P : List α → Prop} (h : DN K B te ρ (α := L α) P) (hl : DE K B tb ρ i) : DN K B (tSl (rSlQ K) te tNoPart (tPart tb)) ρ (α := L α) (fun zs => ∃ xs, P xs ∧ zs = cutA xs none (some i)) := fun S0 H0 S H σ E Q q =>
  h S0 H0 S H σ E _ fun v xs S1 H1 px e1 r1 => hl S0 H0 S1 H1 σ (E.go e1) _ fun w S3 H3 e3 r3 => by
    cases r3
    have e13 := e1.trans e3
    obtain ⟨hl, p, vs, rfl, hq, r⟩ := Enc.mono e3.s r1
    have lc : (cutA xs none (some i)).length ≤ BIG := Nat.le_trans (cutA_len _ _ _) hl
    refine ⟨i, rfl, .inl ⟨p, vs, rfl, Evl.ex_l e3.i (.inl (.inl hq)), fun w hw => ?_⟩⟩
    have e4 : Ext B S3 H3 (upd S3 w (.lst (cutV vs none (some i)))) (upd H3 w (.lst (cutV vs none (some i)))) := Ext.new e3.i hw
    exact q _ _ _ _ ⟨xs, px, rfl⟩ (e13.trans e4) ⟨lc, w, _, rfl, upd_same, Paired.mono (fun _ _ => Enc.mono e4.s) (paired_cut r)⟩
/-- two new lists -/
theorem ds_parOO {n m : Nat} {xs : List α} {ys : List β} (h1 : DO K B ta ρ xs) (h2 : DO K B tb ρ ys) (hm : n ≠ m) (k : Φ.nx ((ρ.set n (.own xs)).set m (.own ys))) : DS K B (tPar n m (tCons ta (tCons tb tNil))) ρ Φ := fun S0 H0 S H σ D E px nx r b c => by
  refine h1 S0 H0 S H σ E _ fun p vs S1 H1 e1 hp hs hh rr hl => h2 S0 H0 S1 H1 σ (E.go e1) _ fun p2 vs2 S2 H2 e2 hp2 hs2 hh2 rr2 hl2 => ⟨_, _, rfl, ?_⟩
  have E1 := E.setO (i := n) e1 hp hs hh rr hl
  have E2 := E1.setO (i := m) e2 hp2 hs2 hh2 rr2 hl2
  exact nx _ _ S2 H2 k (e1.s.trans e2.s) E2
theorem paired_erase {S : Hp} : ∀ {vs : List V} {xs : List α} (k : Nat), Paired (Enc.rep K S) vs xs → Paired (Enc.rep K S) (vs.eraseIdx k) (xs.eraseIdx k)
  | _, _, _, .nil => .nil
  | _, _, 0, .cons _ t => t
  | _, _, k + 1, .cons f t => .cons f (paired_erase k t)
/-- xs.append(ys.pop(i)) -/
theorem ds_popApp {n m : Nat} {xs ys : List α} {P : Int → Prop} (hn : ρ[n]? = some (.own xs)) (hm : ρ[m]? = some (.own ys)) (hne : n ≠ m) (hi : DN K B te ρ P) (hP : ∀ i, P i → 0 ≤ i ∧ i < (ys.length : Int)) (hl : xs.length < BIG)
    (k : ∀ (i : Int) (j : Nat) (y : α), P i → i = j → ys[j]? = some y → Φ.nx ((ρ.set m (.own (ys.eraseIdx j))).set n (.own (xs ++ [y])))) : DS K B (tDrop (tBM K "list" rAppend (tVar n) (tCons (tBM K "list" rPopAt (tVar m) (tCons te tNil)) tNil))) ρ Φ := fun S0 H0 S H σ D E px nx r b c => by
  obtain ⟨_, p, vs, e1, h0, hs, hh, rr⟩ := E.own hn
  obtain ⟨yl, p2, vs2, f1, g0, gs, gh, gr⟩ := E.own hm
  refine ⟨_, e1, .inl ⟨rfl, vs, SqL.of hh⟩, _, f1, .inl ⟨rfl, vs2, SqL.of gh⟩, ?_⟩
  refine hi S0 H0 S H σ E _ fun w i S1 H1 pi ex r1 => ?_
  cases r1
  have E1 := E.go ex
  obtain ⟨_, p', vs', f1', _, _, gh', gr'⟩ := E1.own hm
  rw [f1] at f1'
  cases f1'
  obtain ⟨i0, i1⟩ := hP i pi
  obtain ⟨j, rfl⟩ : ∃ j : Nat, i = j := ⟨i.toNat, by omega⟩
  have jl : j < ys.length := by omega
  obtain ⟨x, hx⟩ : ∃ x, ys[j]? = some x := ⟨_, List.getElem?_eq_getElem jl⟩
  obtain ⟨y, hy, ry⟩ := Paired.at gr' hx
  have sq : seqIndex? (j : Int) vs'.length = some j := (L2.ixN_seq (show ixN vs'.length (j : Int) = some j by
    unfold ixN
    rw [if_pos (by omega), if_pos (by rw [gr'.length]; omega)]
    simp)).1
  have b62 : (BIG : Int) < 2 ^ 62 := by decide
  have E2 := E1.chg hm f1 (paired_erase j gr') (by rw [List.length_eraseIdx]; split <;> omega)
  have hn2 : (ρ.set m (.own (ys.eraseIdx j)))[n]? = some (.own xs) := by rw [List.getElem?_set_ne (Ne.symm hne)]; exact hn
  obtain ⟨_, p'', vs'', e1'', _, _, hh'', rr''⟩ := E2.own hn2
  rw [e1] at e1''
  cases e1''
  refine ⟨p2, vs', (j : Int), j, y, rfl, rfl, gh', by omega, by omega, sq, hy, p, vs'', y, rfl, rfl, hh'', ?_, nx _ σ S1 _ (k j j x pi rfl hx) ex.s (E2.chg hn2 e1 (Paired.app rr'' (.cons ry .nil)) ?_)⟩
  · rw [rr''.length]
    exact Nat.lt_of_lt_of_le hl big_line
  · rw [List.length_append]
    exact hl
theorem do_slice {tl th : TO} {xs : List α} {lo hi : Option Int} (h : DE K B te ρ (α := L α) xs) (hl : DP K B tl ρ lo) (hh : DP K B th ρ hi) : DO K B (tSl (rSlQ K) te tl th) ρ (cutA xs lo hi) := fun S0 H0 S H σ E Q q =>
  h S0 H0 S H σ E _ fun v S1 H1 e1 r1 => hl S0 H0 S1 H1 σ (E.go e1) _ fun S2 H2 e2 => hh S0 H0 S2 H2 σ (E.go (e1.trans e2)) _ fun S3 H3 e3 => by
    have e13 := (e1.trans e2).trans e3
    obtain ⟨hl, p, vs, rfl, hq, r⟩ := Enc.mono (e2.s.trans e3.s) r1
    exact .inl ⟨p, vs, rfl, .inl (.inl (e3.i _ _ hq)), fun w hw => q w _ S3 _ (e13.trans (Ext.priv e3.i hw)) (e13.free E.i hw) (e3.i.free hw) upd_same (paired_cut r) (Nat.le_trans (cutA_len _ _ _) hl)⟩
end
end WW

set_option Elab.async false
set_option linter.all false
set_option maxRecDepth 100000
set_option maxHeartbeats 4000000
namespace WW
open PySem PySem.Spec PyProof.Rows L2
/-! ### how many unlike texts a list or tuple has: len(set(xs)) -/
/-- unlike ones among the first i -/
def unl (xs : List Str) : Nat → Nat
  | 0 => 0
  | i + 1 => if (xs.take i).any (· == xs.getD i Str.empty) = true then unl xs i else unl xs i + 1
theorem unl_succ (xs : List Str) (i : Nat) : unl xs (i + 1) = if (xs.take i).any (· == xs.getD i Str.empty) = true then unl xs i else unl xs i + 1 := rfl
theorem unl_le (xs : List Str) : ∀ i, unl xs i ≤ i
  | 0 => Nat.le_refl 0
  | i + 1 => by
    have h := unl_le xs i
    rw [unl_succ]
    split <;> omega
theorem any_in {xs : List Str} {z : Str} : xs.any (· == z) = true ↔ z ∈ xs := by
  rw [List.any_eq_true]
  constructor
  · rintro ⟨y, hy, e⟩
    rwa [← beq_iff_eq.mp e]
  · exact fun h => ⟨z, h, beq_self_eq_true z⟩
theorem take_one {xs : List Str} {i : Nat} (h : i < xs.length) : xs.take (i + 1) = xs.take i ++ [xs.getD i Str.empty] := by
  rw [List.take_add_one, List.getD_eq_getElem?_getD, List.getElem?_eq_getElem h]
  rfl
theorem unl_nodup {xs : List Str} : ∀ {i : Nat}, i ≤ xs.length → (unl xs i = i ↔ (xs.take i).Nodup)
  | 0, _ => by simp [unl]
  | i + 1, h => by
    have ih := unl_nodup (xs := xs) (i := i) (by omega)
    have le := unl_le xs i
    rw [take_one (by omega), List.nodup_append, ← ih, unl_succ]
    by_cases c : (xs.take i).any (· == xs.getD i Str.empty) = true
    · rw [if_pos c]
      constructor
      · intro e; omega
      · rintro ⟨_, _, h3⟩
        exact absurd rfl (h3 _ (any_in.mp c) _ (List.mem_singleton.mpr rfl))
    · rw [if_neg c]
      constructor
      · intro e
        refine ⟨by omega, by simp, fun a ha b hb z => ?_⟩
        rw [List.mem_singleton.mp hb] at z
        subst z
        exact c (any_in.mpr ha)
      · rintro ⟨e, _⟩
        omega
theorem unl_all {xs : List Str} : unl xs xs.length = xs.length ↔ xs.Nodup := by
  have h := unl_nodup (xs := xs) (i := xs.length) (Nat.le_refl _)
  rwa [List.take_length] at h
abbrev setNew (led : Bool) : PySem.Obj := { cls := .type "set", dict := none, data := .set #[] 0 (.fresh 0 0 led) }
/-- a set of the first i of xs -/
abbrev SetFst (P : Program) (w : World) (h : Heap) (S : Addr) (xs : List Str) (i : Nat) : Prop := h.SetOf (PySem.strKind P w) S (fun z => (xs.take i).any (· == z)) (unl xs i)
section
variable {P : Program} {w : World} {A : Around} {R : Result → Shared → Prop} {I S : Addr} {fp wr : List Addr} {G : Array GenState → Array GenState → Prop} {Pv : Nat → Value → Prop} {St : Nat → Shared → Prop} {xs : List Str}
theorem fill_texts (W : WalksS P w A.in1 I fp wr G xs.length Pv St) (nS : S ∉ fp) (few : xs.length + 1 < scanBound) (got : ∀ i v, Pv i v → ∃ t, v = .str (xs.getD i Str.empty) t)
    (fin : ∀ s', Moved (S :: wr) G s s' → SetFst P w s'.heap S xs xs.length → R (.ok (.ret .none)) s') :
    ∀ (m i : Nat) (s₁ : Shared), xs.length = i + m → Moved (S :: wr) G s s₁ → St i s₁ → SetFst P w s₁.heap S xs i → codeAny (model P w) A (.builtin "set.update.loop" ⟨[.ref S, .ref I], []⟩) R s₁ := by
  have nW : S ∉ wr := fun z => nS (W.sub _ z)
  have sub : ∀ b ∈ wr, b ∈ S :: wr := fun b z => List.mem_cons_of_mem _ z
  intro m
  induction m with
  | zero =>
    intro i s₁ e mv st so
    obtain rfl : i = xs.length := by omega
    refine codeAny_builtin F.entry_set_update_loop ?_
    rw [Around.under_plainId F.plain_set_update_loop _]
    show wpAny _ A.in1 (pyNext (.ref I) >>= _) _ _ s₁
    refine wpAny_bind (W.done s₁ _ _ st fun s₂ m2 => ?_)
    show wpAny _ A.in1 (ret Value.none) _ _ s₂
    refine wpAny_pure (fin s₂ (Moved.trans W.gtrans mv (m2.mono sub)) ?_)
    obtain ⟨o, es, ep, t, ho, r⟩ := so
    exact ⟨o, es, ep, t, m2.heap S _ nW ho, r⟩
  | succ m ih =>
    intro i s₁ e mv st so
    have lt : i < xs.length := by omega
    refine codeAny_builtin F.entry_set_update_loop ?_
    rw [Around.under_plainId F.plain_set_update_loop _]
    show wpAny _ A.in1 (pyNext (.ref I) >>= _) _ _ s₁
    refine wpAny_bind (W.item i s₁ _ _ lt st fun v s₂ pv st2 m2 => ?_)
    obtain ⟨t, rfl⟩ := got i v pv
    have so2 : SetFst P w s₂.heap S xs i := by
      obtain ⟨o, es, ep, tb, ho, r⟩ := so
      exact ⟨o, es, ep, tb, m2.heap S _ nW ho, r⟩
    generalize hz : xs.getD i Str.empty = z
    show wpAny _ A.in1 (holding [Value.str z t] (setAdd S (.str z t)) >>= _) _ _ s₂
    refine wpAny_bind (wpAny_holding ?_)
    unfold setAdd
    refine wpAny_holding (wpAny_bind ((PySem.strKind P w).pyHash (k := z) (strKind_is _ _ _ _) ?_))
    refine wpAny_setAddHashed_of (knd := PySem.strKind P w) (s := { s₂ with toks := s₂.toks + 1 }) (strKind_is _ _ _ _) rfl so2 (by have := unl_le xs i; omega) fun h' sb so3 => ?_
    have so4 : SetFst P w h' S xs (i + 1) := by
      refine SetOf_congr so3 (fun k => ?_) ?_
      · rw [take_one lt, List.any_append, hz]
        by_cases c : k = z
        · subst c; simp
        · have c' : (z == k) = false := beq_eq_false_iff_ne.mpr (Ne.symm c)
          simp [c, c']
      · rw [unl_succ, hz]
    have mv3 : Moved (S :: wr) G s { s₂ with heap := h', toks := s₂.toks + 1 } := Moved.trans W.gtrans mv ((m2.mono sub).then_heap (Nat.le_succ _) fun b o hb eo => by
      rw [sb.2 b (fun z => hb (by rw [z]; exact List.mem_cons_self))]
      exact eo)
    refine wpAny_pure ⟨plainId_quiet F.plain_set_update_loop _, ih (i + 1) _ (by omega) mv3 (W.frame _ s₂ _ _ st2 (Nat.le_succ _) fun b hb o eo => ?_) so4⟩
    rw [sb.2 b (fun z : b = S => nS (by rw [← z]; exact hb))]
    exact eo
end
section
variable {P : Program} {w : World} {A : Around} {E : Value → Shared → Prop} {s : Shared} {l : Addr} {items : Array Value} {xs : List Str} {Q : Value → Shared → Prop}
/-- set(xs), xs a list or a tuple of texts -/
theorem set_texts (calm : A.handled = none) (at_ : s.heap.IsList l items ∨ s.heap.IsTuple l items) (are : StrsAre items.toList xs) (few : xs.length + 1 < scanBound)
    (q : ∀ (h' : Heap) (tk : Nat), SetFst P w h' s.heap.objs.size xs xs.length → (∀ b o, b < s.heap.objs.size → s.heap.get? b = some o → h'.get? b = some o) → Q (.ref s.heap.objs.size) { s with heap := h', toks := tk }) :
    wpAny (model P w) A (call (.type "set") [.ref l]) Q E s := by
  obtain ⟨c, tl, hmro⟩ := PySem.F.called_set.mro
  have hmade := PySem.F.called_set.made
  have hsub := PySem.F.called_set.sub
  refine wpAny_call (codeAny_of_tree (show wpAny _ _ (callAny (.type "set") _) _ _ _ from ?_))
  refine wpAny_pure ⟨Code.quiet_builtin _ (by decide +kernel), codeAny_builtin PySem.F.entry_type_call ?_⟩
  rw [Around.under_plain (weight_type_call_type "set" [.ref l] []) rfl]
  have n1 := PySem.F.called_set.notType
  have n2 := PySem.F.called_set.canCreate
  have n3 := PySem.F.typeCall_set_1 (.ref l)
  repeat (any_goals (first | assumption | wp_step))
  refine codeAny_mono (code_set_new_1 (.ref l) (E := E) (Q₁ := fun ob s₁ => ∃ led : Bool, ob = .ref s.heap.objs.size ∧ s₁ = { s with heap := s.heap.push (setNew led) }) fun led => ⟨led, rfl, rfl⟩) fun r s₁ hr => ?_
  match r, hr with
  | .error e, hr => exact hr
  | .ok .next, hr => exact hr.elim
  | .ok .brk, hr => exact hr.elim
  | .ok .cont, hr => exact hr.elim
  | .ok (.ret ob), hr =>
    obtain ⟨led, rfl, rfl⟩ := hr
    have gS : (s.heap.push (setNew led)).get? s.heap.objs.size = some (setNew led) := Heap.get?_push_size _ rfl
    have tS : Shared.TypeIs { s with heap := s.heap.push (setNew led) } (.ref s.heap.objs.size) "set" := ⟨_, gS, rfl⟩
    have i1 := PySem.F.called_set.init.lookup
    have i2 := PySem.F.called_set.init.bind (.ref s.heap.objs.size)
    repeat (any_goals (first | assumption | wp_step))
    refine codeAny_mono (codeAny_call_builtin (R := wants (fun r s₂ => r = .none ∧ ∃ h' tk, s₂ = { s with heap := h', toks := tk } ∧ SetFst P w h' s.heap.objs.size xs xs.length ∧ ∀ b o, b < s.heap.objs.size → s.heap.get? b = some o → h'.get? b = some o) E)
      PySem.F.called_set.init.plain PySem.F.entry_set_init (check_set_init_1 tS ?_)) fun r₂ s₂ hr₂ => ?_
    · have len : xs.length = items.size := by rw [← StrsAre.len_eq are, Array.length_toList]
      have got : ∀ (i : Nat) (v : Value), items[i]? = some v → ∃ t, v = .str (xs.getD i Str.empty) t := fun i v hv => SS.strs_at are i v (by rw [Array.getElem?_toList]; exact hv)
      have calm3 : A.in1.in1.in1.handled = none := by simp [calm]
      have sz : (s.heap.push (setNew led)).objs.size = s.heap.objs.size + 1 := by rw [Heap.size_push]
      rcases at_ with at_ | at_
      · obtain ⟨⟨oc, od, odt, osl⟩, ho, hc, nl, hd⟩ := at_
        simp only at hc hd
        subst hc hd
        have ll : l < s.heap.objs.size := Heap.lt_size ho
        have ho2 := Heap.get?_push_of_some (setNew led) ho
        have u1 := PySem.F.sub_list_set
        have u2 := PySem.F.sub_list_frozenset
        have u3 : (Value.type "list" == Value.type "dict") = false := by decide
        have isl : (s.heap.push (setNew led)).IsList l items := ⟨_, ho2, rfl, nl, rfl⟩
        unfold Builtin.«set.__init__» noKeywords Builtin.Frozenset.updateFrom
        generalize hPI : pyIter = PI
        wp_walk
        subst hPI
        refine wpAny_pyIter_list isl (wpAny_bind (wpAny_runValue ?_))
        have W := (Walks.list (prog := P) (w := w) (A := A.in1.in1.in1) calm3 ((s.heap.push (setNew led)).objs.size) l (Nat.ne_of_lt (by rw [sz]; exact Nat.lt_succ_of_lt ll)) items).toS
        rw [← len] at W
        have few2 : 0 < scanBound := by unfold scanBound; omega
        refine fill_texts W (S := s.heap.objs.size) (fun z => by
          rcases List.mem_cons.mp z with z | z
          · exact absurd z (Nat.ne_of_lt (by rw [sz]; exact Nat.lt_succ_self _))
          · exact absurd (List.mem_singleton.mp z) (Nat.ne_of_gt ll)) few got (fun s' mv so => ?_) xs.length 0 _ (by omega) ⟨fun _ _ _ e => e, rfl, rfl, rfl, Nat.le_refl _⟩ ⟨⟨_, Heap.get?_push_size _ rfl, rfl, rfl⟩, isl.push _⟩ ?_
        · obtain ⟨h', g', d', tk', os'⟩ := s'
          obtain rfl : g' = s.gens := mv.gens
          obtain rfl : d' = s.drawn := mv.drawn
          obtain rfl : os' = s.os := mv.os
          refine wpAny_pure (show wpAny _ _ (ret Value.none) _ _ _ from wpAny_pure ⟨rfl, h', tk', rfl, so, fun b o hb e => mv.heap b o ?_ (Heap.get?_push_of_some _ (Heap.get?_push_of_some _ e))⟩)
          intro z
          rcases List.mem_cons.mp z with z | z
          · exact absurd z (Nat.ne_of_lt hb)
          · exact absurd (List.mem_singleton.mp z) (Nat.ne_of_lt (by rw [sz]; exact Nat.lt_succ_of_lt hb))
        · exact SetOf_congr ((setObjOf_fresh (knd := PySem.strKind P w) led).setOf (Heap.get?_push_of_some _ gS) few2) (fun _ => rfl) rfl
      · obtain ⟨⟨oc, od, odt, osl⟩, ho, hc, nl, hd⟩ := at_
        simp only at hc hd
        subst hc hd
        have ll : l < s.heap.objs.size := Heap.lt_size ho
        have ho2 := Heap.get?_push_of_some (setNew led) ho
        have u1 := PySem.F.sub_tuple_set
        have u2 := PySem.F.sub_tuple_frozenset
        have u3 : (Value.type "tuple" == Value.type "dict") = false := by decide
        have isl : (s.heap.push (setNew led)).IsTuple l items := ⟨_, ho2, rfl, nl, rfl⟩
        unfold Builtin.«set.__init__» noKeywords Builtin.Frozenset.updateFrom
        generalize hPI : pyIter = PI
        wp_walk
        subst hPI
        refine wpAny_pyIter_tuple isl (wpAny_bind (wpAny_runValue ?_))
        have W := (Walks.tuple (prog := P) (w := w) (A := A.in1.in1.in1) calm3 ((s.heap.push (setNew led)).objs.size) l (Nat.ne_of_lt (by rw [sz]; exact Nat.lt_succ_of_lt ll)) items).toS
        rw [← len] at W
        have few2 : 0 < scanBound := by unfold scanBound; omega
        refine fill_texts W (S := s.heap.objs.size) (fun z => by
          rcases List.mem_cons.mp z with z | z
          · exact absurd z (Nat.ne_of_lt (by rw [sz]; exact Nat.lt_succ_self _))
          · exact absurd (List.mem_singleton.mp z) (Nat.ne_of_gt ll)) few got (fun s' mv so => ?_) xs.length 0 _ (by omega) ⟨fun _ _ _ e => e, rfl, rfl, rfl, Nat.le_refl _⟩ ⟨⟨_, Heap.get?_push_size _ rfl, rfl, rfl⟩, isl.push _⟩ ?_
        · obtain ⟨h', g', d', tk', os'⟩ := s'
          obtain rfl : g' = s.gens := mv.gens
          obtain rfl : d' = s.drawn := mv.drawn
          obtain rfl : os' = s.os := mv.os
          refine wpAny_pure (show wpAny _ _ (ret Value.none) _ _ _ from wpAny_pure ⟨rfl, h', tk', rfl, so, fun b o hb e => mv.heap b o ?_ (Heap.get?_push_of_some _ (Heap.get?_push_of_some _ e))⟩)
          intro z
          rcases List.mem_cons.mp z with z | z
          · exact absurd z (Nat.ne_of_lt hb)
          · exact absurd (List.mem_singleton.mp z) (Nat.ne_of_lt (by rw [sz]; exact Nat.lt_succ_of_lt hb))
        · exact SetOf_congr ((setObjOf_fresh (knd := PySem.strKind P w) led).setOf (Heap.get?_push_of_some _ gS) few2) (fun _ => rfl) rfl
    · match r₂, hr₂ with
      | .error e, hr₂ => exact hr₂
      | .ok .next, hr₂ => exact hr₂.elim
      | .ok .brk, hr₂ => exact hr₂.elim
      | .ok .cont, hr₂ => exact hr₂.elim
      | .ok (.ret r), hr₂ =>
        obtain ⟨rfl, h', tk, rfl, so, k⟩ := hr₂
        repeat (any_goals (first | assumption | wp_step))
        exact q _ _ so k
end
end WW

set_option Elab.async false
set_option linter.all false
set_option maxRecDepth 100000
set_option maxHeartbeats 4000000
namespace WW
open PySem PySem.Spec PyProof.Rows L2
/-! ### len(set(e)) -/
def tLenSetT (K : PySem.W.Frag) (ta : TE) : TE := fun σ H Q => ta σ H fun x H1 => ∃ (l : Addr) (xs : List Str), x = .ref l ∧ (SqL K H1 l (xs.map V.str) ∨ SqT K H1 l (xs.map V.str)) ∧ xs.length ≤ 2000 ∧ Q (.int (unl xs xs.length)) H1
theorem pe_lenSetT {X : Cx} (K : PySem.W.Frag) {a : Expr} {ta : TE} {p p2 q pos : Pos} (calm : X.calm = true) (g1 : Gl X "len") (m1 : X.mg "len" = none) (g2 : Gl X "set") (m2 : X.mg "set" = none) (ha : PE X a ta) (hK : X.K = K := by rfl)
    (na : starEach [a] X.env = (false, eval a X.env) :: starEach [] X.env := by rfl) : PE X (.Call (.Name "len" p) [.Call (.Name "set" p2) [a] [] q] [] pos) (tLenSetT K ta) := by
  subst hK
  refine ⟨fun pins s σ H Q I h => Call_ (ld_blt I g1 m1 boot_len (PyProof.Rows.callWith_builtin1 (PyProof.Rows.args_cons (Call_ (ld_blt I g2 m2 boot_set (PyProof.Rows.callWith_type1 (PyProof.Rows.args_cons (thn (ha.run pins s σ H _ I h) fun v s1 ⟨x, H1, I1, r1, q1⟩ => PyProof.Rows.args_nil ?_) na) na rfl))) rfl) rfl rfl))⟩
  obtain ⟨l, xs, rfl, at_, le, q1⟩ := q1
  cases r1
  have few : xs.length + 1 < scanBound := by
    have : (2001 : Nat) < scanBound := by decide
    omega
  have go : ∀ (its : List Value), (s1.heap.IsList l its.toArray ∨ s1.heap.IsTuple l its.toArray) → StrsAre its xs → wpAny (model X.prog X.w) X.A (call (.type "set") [.ref l]) (fun u s2 => wpAny (model X.prog X.w) X.A (spliced (backTo pos (starEach [] X.env))) (fun vs s3 => wpAny (model X.prog X.w) X.A (call (.builtin "len") (u :: vs)) (EP X pins σ Q) X.xe s3) X.xe s2) X.xe s1 := fun its h1 h2 => by
    refine set_texts (I1.ok.hd calm) h1 (by simpa using h2) few fun h' tk so k => PyProof.Rows.args_nil ?_
    obtain ⟨o, es, ep, t, ho, hex, hd, _, _, _, hf, hn⟩ := so
    have I2 : Inv X pins σ H1 { s1 with heap := h', toks := tk } := I1.kept fun b u e => k b u (Heap.lt_size e) e
    have le2 := unl_le xs xs.length
    exact call_len_set ho hex hd hf (by rw [hn]; omega) ⟨.int (unl xs xs.length), H1, I2.tok _, ⟨_, by rw [hn]⟩, q1⟩
  rcases at_ with at_ | at_
  · obtain ⟨its, r, pl, hz⟩ := I1.list at_
    exact go its (.inl pl.isList) (strsAre_of r)
  · obtain ⟨its, r, pl, hz⟩ := I1.tuple at_
    exact go its (.inr pl) (strsAre_of r)
end WW

set_option Elab.async false
set_option linter.all false
set_option maxRecDepth 100000
set_option maxHeartbeats 4000000
namespace WW
open PySem PySem.Spec PyProof.Rows L2
/-! ### plain values as typed ones -/
instance : Enc V := ⟨fun _ _ v a => v = a, fun _ h => h⟩
theorem pair_V {K : PySem.W.Frag} {S : Hp} : ∀ xs : List V, Paired (Enc.rep K S) xs xs
  | [] => .nil
  | x :: r => .cons rfl (pair_V r)
theorem vals_V {K : PySem.W.Frag} {S : Hp} : ∀ {vs xs : List V}, Paired (Enc.rep K S) vs xs → vs = xs
  | _, _, .nil => rfl
  | _, _, .cons h r => by cases h; rw [vals_V r]
section
variable {K : PySem.W.Frag} {B : Addr → Prop} {ρ ρ' ρ1 ρ2 : List Slot} {ta tb tc te : TE} {t u : TT} {ts tu tz : TS} {Φ : Post} {i j : Int}
theorem d_vi (h : DE K B te ρ (V.int i)) : DE K B te ρ i := h
theorem d_iv (h : DE K B te ρ i) : DE K B te ρ (V.int i) := h
theorem d_nv : DE K B (tC .non) ρ V.non := fun _ _ S H _ E Q q => q _ S H (Ext.refl E.i) rfl
theorem d_bv {b : Bool} (h : DE K B te ρ b) : DE K B te ρ (V.bl b) := h
theorem d_isNV {x : V} (ha : DE K B ta ρ x) : DE K B (tOp (fun x y H Q => y = .non ∧ Q (.bl (decide (x = .non))) H) ta (tC .non)) ρ (decide (x = .non)) :=
  d_op ha d_unit fun v w S H hi r1 r2 Q q => ⟨r2, by cases r1; exact q _ S H (Ext.refl hi) rfl⟩
theorem d_notNV {x : V} (ha : DE K B ta ρ x) : DE K B (tOp (fun x y H Q => y = .non ∧ Q (.bl (!decide (x = .non))) H) ta (tC .non)) ρ (!decide (x = .non)) :=
  d_op ha d_unit fun v w S H hi r1 r2 Q q => ⟨r2, by cases r1; exact q _ S H (Ext.refl hi) rfl⟩
/-- a list of ints as one of values -/
theorem d_ivs {xs : List Int} (h : DE K B te ρ xs) : DE K B te ρ (xs.map V.int) := fun S0 H0 S H σ E Q q => h S0 H0 S H σ E _ fun v S1 H1 e1 ⟨hl, p, vs, e, hh, r⟩ => q v S1 H1 e1 ⟨by rw [List.length_map]; exact hl, p, vs, e, hh, by rw [vals_int r]; exact pair_V _⟩
end
end WW

set_option Elab.async false
set_option linter.all false
set_option maxRecDepth 100000
set_option maxHeartbeats 4000000
namespace WW
open PySem PySem.Spec PyProof.Rows L2
/-! ### any plain values, nested -/
inductive AV where
  | non
  | bl (b : Bool)
  | int (i : Int)
  | str (z : Str)
  | lst (xs : List AV)
  | tup (xs : List AV)
mutual
def AV.rep (K : PySem.W.Frag) (S : Hp) (v : V) : AV → Prop
  | .non => v = .non
  | .bl b => v = .bl b
  | .int i => v = .int i
  | .str z => v = .str z
  | .lst xs => xs.length ≤ BIG ∧ ∃ p vs, v = .ref p ∧ S p = some (.lst vs) ∧ AV.reps K S vs xs
  | .tup xs => xs.length ≤ BIG ∧ ∃ p vs, v = .ref p ∧ SqT K S p vs ∧ AV.reps K S vs xs
def AV.reps (K : PySem.W.Frag) (S : Hp) (vs : List V) : List AV → Prop
  | [] => vs = []
  | x :: r => ∃ v us, vs = v :: us ∧ AV.rep K S v x ∧ AV.reps K S us r
end
theorem AV.pr {K : PySem.W.Frag} {S : Hp} : ∀ {xs : List AV} {vs : List V}, AV.reps K S vs xs ↔ Paired (AV.rep K S) vs xs
  | [], vs => by
    rw [AV.reps]
    exact ⟨fun h => by subst h; exact .nil, fun h => by cases h; rfl⟩
  | x :: r, vs => by
    rw [AV.reps]
    constructor
    · rintro ⟨v, us, rfl, h1, h2⟩
      exact .cons h1 (AV.pr.mp h2)
    · intro h
      cases h with
      | cons h1 h2 => exact ⟨_, _, rfl, h1, AV.pr.mpr h2⟩
mutual
theorem AV.mono {K : PySem.W.Frag} {S S' : Hp} (e : Same S S') : ∀ {v : V} (a : AV), AV.rep K S v a → AV.rep K S' v a
  | v, .non, h => by rw [AV.rep] at h ⊢; exact h
  | v, .bl b, h => by rw [AV.rep] at h ⊢; exact h
  | v, .int b, h => by rw [AV.rep] at h ⊢; exact h
  | v, .str b, h => by rw [AV.rep] at h ⊢; exact h
  | v, .lst xs, h => by
    rw [AV.rep] at h ⊢
    obtain ⟨hl, p, vs, r, hq, hp⟩ := h
    exact ⟨hl, p, vs, r, e _ _ hq, AV.monos e xs hp⟩
  | v, .tup xs, h => by
    rw [AV.rep] at h ⊢
    obtain ⟨hl, p, vs, r, hq, hp⟩ := h
    exact ⟨hl, p, vs, r, Evl.ex_t e hq, AV.monos e xs hp⟩
theorem AV.monos {K : PySem.W.Frag} {S S' : Hp} (e : Same S S') : ∀ {vs : List V} (xs : List AV), AV.reps K S vs xs → AV.reps K S' vs xs
  | vs, [], h => by rw [AV.reps] at h ⊢; exact h
  | vs, x :: r, h => by
    rw [AV.reps] at h ⊢
    obtain ⟨v, us, e1, h1, h2⟩ := h
    exact ⟨v, us, e1, AV.mono e x h1, AV.monos e r h2⟩
end
instance : Enc AV := ⟨AV.rep, fun e h => AV.mono e _ h⟩
/-- what is not at p stays so when p, a dict, is changed -/
theorem sqT_upd {K : PySem.W.Frag} {S : Hp} {p q : Addr} {o : HO} {kvs : List (Key × V)} {vs : List V} (hp : S p = some (.dK kvs)) (h : SqT K S q vs) : SqT K (upd S p o) q vs := by
  have ne : ∀ {u}, S q = some u → (∀ l, u ≠ .dK l) → q ≠ p := fun {u} h1 h2 e => by
    rw [e, hp] at h1
    cases h1
    exact h2 _ rfl
  rcases h with (h | ⟨u, h⟩) | h
  · exact .inl (.inl (by rw [upd_ne (ne h fun _ z => nomatch z)]; exact h))
  · exact .inl (.inr ⟨u, by rw [upd_ne (ne h fun _ z => nomatch z)]; exact h⟩)
  · exact .inr h
mutual
theorem AV.updD {K : PySem.W.Frag} {S : Hp} {p : Addr} {o : HO} {kvs : List (Key × V)} (hp : S p = some (.dK kvs)) : ∀ {v : V} (a : AV), AV.rep K S v a → AV.rep K (upd S p o) v a
  | v, .non, h => by rw [AV.rep] at h ⊢; exact h
  | v, .bl b, h => by rw [AV.rep] at h ⊢; exact h
  | v, .int b, h => by rw [AV.rep] at h ⊢; exact h
  | v, .str b, h => by rw [AV.rep] at h ⊢; exact h
  | v, .lst xs, h => by
    rw [AV.rep] at h ⊢
    obtain ⟨hl, q, vs, r, hq, hr⟩ := h
    exact ⟨hl, q, vs, r, by rw [upd_ne (fun e => by rw [e, hp] at hq; cases hq)]; exact hq, AV.updDs hp xs hr⟩
  | v, .tup xs, h => by
    rw [AV.rep] at h ⊢
    obtain ⟨hl, q, vs, r, hq, hr⟩ := h
    exact ⟨hl, q, vs, r, sqT_upd hp hq, AV.updDs hp xs hr⟩
theorem AV.updDs {K : PySem.W.Frag} {S : Hp} {p : Addr} {o : HO} {kvs : List (Key × V)} (hp : S p = some (.dK kvs)) : ∀ {vs : List V} (xs : List AV), AV.reps K S vs xs → AV.reps K (upd S p o) vs xs
  | vs, [], h => by rw [AV.reps] at h ⊢; exact h
  | vs, x :: r, h => by
    rw [AV.reps] at h ⊢
    obtain ⟨v, us, e1, h1, h2⟩ := h
    exact ⟨v, us, e1, AV.updD hp x h1, AV.updDs hp r h2⟩
end
/-! ### four things -/
structure T4 (α β γ δ : Type) where
  a : α
  b : β
  c : γ
  d : δ
instance {α β γ δ : Type} [Enc α] [Enc β] [Enc γ] [Enc δ] : Enc (T4 α β γ δ) where
  rep K S v t := ∃ p v1 v2 v3 v4, v = .ref p ∧ SqT K S p [v1, v2, v3, v4] ∧ Enc.rep K S v1 t.a ∧ Enc.rep K S v2 t.b ∧ Enc.rep K S v3 t.c ∧ Enc.rep K S v4 t.d
  mono e h := by
    obtain ⟨p, v1, v2, v3, v4, r, hq, h1, h2, h3, h4⟩ := h
    exact ⟨p, v1, v2, v3, v4, r, Evl.ex_t e hq, Enc.mono e h1, Enc.mono e h2, Enc.mono e h3, Enc.mono e h4⟩
/-! ### typed values as plain ones -/
class IsAV (α : Type) [Enc α] where
  av : α → AV
  iff : ∀ {K : PySem.W.Frag} {S : Hp} {v : V} {a : α}, AV.rep K S v (av a) ↔ Enc.rep K S v a
instance : IsAV AV := ⟨id, Iff.rfl⟩
instance : IsAV Int := ⟨.int, by intro K S v a; show AV.rep K S v (.int a) ↔ v = .int a; rw [AV.rep]⟩
instance : IsAV Bool := ⟨.bl, by intro K S v a; show AV.rep K S v (.bl a) ↔ v = .bl a; rw [AV.rep]⟩
instance : IsAV Str := ⟨.str, by intro K S v a; show AV.rep K S v (.str a) ↔ v = .str a; rw [AV.rep]⟩
theorem av_pair {α : Type} [Enc α] [i : IsAV α] {K : PySem.W.Frag} {S : Hp} : ∀ {xs : List α} {vs : List V}, Paired (AV.rep K S) vs (xs.map i.av) ↔ Paired (Enc.rep K S) vs xs
  | [], vs => by
    rw [List.map_nil]
    exact ⟨fun h => by cases h; exact .nil, fun h => by cases h; exact .nil⟩
  | x :: r, vs => by
    rw [List.map_cons]
    constructor
    · intro h
      cases h with
      | cons h1 h2 => exact .cons (i.iff.mp h1) (av_pair.mp h2)
    · intro h
      cases h with
      | cons h1 h2 => exact .cons (i.iff.mpr h1) (av_pair.mpr h2)
instance {α : Type} [Enc α] [i : IsAV α] : IsAV (L α) where
  av xs := .lst (List.map i.av xs)
  iff {K S v a} := by
    rw [AV.rep]
    have ll : (List.map i.av a).length = List.length a := List.length_map ..
    constructor
    · rintro ⟨hl, p, vs, e, hq, r⟩
      exact ⟨Nat.le_trans (Nat.le_of_eq ll.symm) hl, p, vs, e, hq, av_pair.mp (AV.pr.mp r)⟩
    · rintro ⟨hl, p, vs, e, hq, r⟩
      exact ⟨Nat.le_trans (Nat.le_of_eq ll) hl, p, vs, e, hq, AV.pr.mpr (av_pair.mpr r)⟩
instance {α : Type} [Enc α] [i : IsAV α] : IsAV (U α) where
  av xs := .tup (List.map i.av xs)
  iff {K S v a} := by
    rw [AV.rep]
    have ll : (List.map i.av a).length = List.length a := List.length_map ..
    constructor
    · rintro ⟨hl, p, vs, e, hq, r⟩
      exact ⟨Nat.le_trans (Nat.le_of_eq ll.symm) hl, p, vs, e, hq, av_pair.mp (AV.pr.mp r)⟩
    · rintro ⟨hl, p, vs, e, hq, r⟩
      exact ⟨Nat.le_trans (Nat.le_of_eq ll) hl, p, vs, e, hq, AV.pr.mpr (av_pair.mpr r)⟩
instance {α β : Type} [Enc α] [Enc β] [i : IsAV α] [j : IsAV β] : IsAV (α × β) where
  av t := .tup [i.av t.1, j.av t.2]
  iff {K S v a} := by
    rw [AV.rep]
    simp only [AV.reps, i.iff, j.iff]
    constructor
    · rintro ⟨_, p, vs, rfl, hq, v1, u1, rfl, h1, v2, u2, rfl, h2, rfl⟩
      exact ⟨p, v1, v2, rfl, hq, h1, h2⟩
    · rintro ⟨p, v1, v2, rfl, hq, h1, h2⟩
      exact ⟨by show 2 ≤ BIG; decide, p, _, rfl, hq, v1, _, rfl, h1, v2, _, rfl, h2, rfl⟩
instance {α β γ : Type} [Enc α] [Enc β] [Enc γ] [i : IsAV α] [j : IsAV β] [k : IsAV γ] : IsAV (T3 α β γ) where
  av t := .tup [i.av t.a, j.av t.b, k.av t.c]
  iff {K S v a} := by
    rw [AV.rep]
    simp only [AV.reps, i.iff, j.iff, k.iff]
    constructor
    · rintro ⟨_, p, vs, rfl, hq, v1, u1, rfl, h1, v2, u2, rfl, h2, v3, u3, rfl, h3, rfl⟩
      exact ⟨p, v1, v2, v3, rfl, hq, h1, h2, h3⟩
    · rintro ⟨p, v1, v2, v3, rfl, hq, h1, h2, h3⟩
      exact ⟨by show 3 ≤ BIG; decide, p, _, rfl, hq, v1, _, rfl, h1, v2, _, rfl, h2, v3, _, rfl, h3, rfl⟩
instance {α β γ δ : Type} [Enc α] [Enc β] [Enc γ] [Enc δ] [i : IsAV α] [j : IsAV β] [k : IsAV γ] [l : IsAV δ] : IsAV (T4 α β γ δ) where
  av t := .tup [i.av t.a, j.av t.b, k.av t.c, l.av t.d]
  iff {K S v a} := by
    rw [AV.rep]
    simp only [AV.reps, i.iff, j.iff, k.iff, l.iff]
    constructor
    · rintro ⟨_, p, vs, rfl, hq, v1, u1, rfl, h1, v2, u2, rfl, h2, v3, u3, rfl, h3, v4, u4, rfl, h4, rfl⟩
      exact ⟨p, v1, v2, v3, v4, rfl, hq, h1, h2, h3, h4⟩
    · rintro ⟨p, v1, v2, v3, v4, rfl, hq, h1, h2, h3, h4⟩
      exact ⟨by show 4 ≤ BIG; decide, p, _, rfl, hq, v1, _, rfl, h1, v2, _, rfl, h2, v3, _, rfl, h3, v4, _, rfl, h4, rfl⟩
theorem inV_str (z : Str) : ∀ ws : List Str, inV (.str z) (ws.map V.str) = decide (z ∈ ws) := fun ws => by
  unfold inV
  rw [List.any_map, Bool.eq_iff_iff, List.any_eq_true, decide_eq_true_iff]
  constructor
  · rintro ⟨y, hy, e⟩
    have e : (y == z) = true := e
    rwa [← beq_iff_eq.mp e]
  · exact fun h => ⟨z, h, (beq_self_eq_true z : (z == z) = true)⟩
/-! ### what they are -/
def AV.tn : AV → String
  | .non => "NoneType"
  | .bl _ => "bool"
  | .int _ => "int"
  | .str _ => "str"
  | .lst _ => "list"
  | .tup _ => "tuple"
def AV.isStr : AV → Bool
  | .str _ => true
  | _ => false
def AV.isTup : AV → Bool
  | .tup _ => true
  | _ => false
def AV.isInt : AV → Bool
  | .int _ => true
  | _ => false
def AV.isNum : AV → Bool
  | .int i => decide (0 ≤ i)
  | _ => false
def AV.isSeq : AV → Bool
  | .lst _ => true
  | .tup _ => true
  | _ => false
def AV.items : AV → List AV
  | .lst xs => xs
  | .tup xs => xs
  | _ => []
def AV.txt : AV → Str
  | .str z => z
  | _ => Str.empty
def AV.num : AV → Int
  | .int i => i
  | _ => 0
mutual
def AV.sm : AV → Bool
  | .str z => decide (z.length ≤ 1000)
  | .lst xs => decide (xs.length ≤ 1000) && AV.sms xs
  | .tup xs => decide (xs.length ≤ 1000) && AV.sms xs
  | _ => true
def AV.sms : List AV → Bool
  | [] => true
  | x :: r => AV.sm x && AV.sms r
end
theorem AV.sms_iff : ∀ {xs : List AV}, AV.sms xs = true ↔ ∀ x ∈ xs, x.sm = true
  | [] => by simp [AV.sms]
  | x :: r => by rw [AV.sms, Bool.and_eq_true, AV.sms_iff]; simp
theorem AV.sm_items {a : AV} (h : a.sm = true) : a.items.length ≤ 1000 ∧ ∀ x ∈ a.items, x.sm = true := by
  cases a with
  | lst xs =>
    rw [AV.sm, Bool.and_eq_true, AV.sms_iff] at h
    exact ⟨of_decide_eq_true h.1, h.2⟩
  | tup xs =>
    rw [AV.sm, Bool.and_eq_true, AV.sms_iff] at h
    exact ⟨of_decide_eq_true h.1, h.2⟩
  | _ => exact ⟨by show 0 ≤ 1000; decide, fun x hx => nomatch hx⟩
theorem AV.sm_txt {a : AV} (h : a.sm = true) : a.txt.length ≤ 1000 := by
  cases a with
  | str z =>
    rw [AV.sm] at h
    exact of_decide_eq_true h
  | _ => show 0 ≤ 1000; decide
theorem AV.ty {K : PySem.W.Frag} {S : Hp} {v : V} : ∀ {a : AV}, AV.rep K S v a → TyX K S v (.type a.tn)
  | .non, h => by rw [AV.rep] at h; subst h; exact .base .non
  | .bl b, h => by rw [AV.rep] at h; subst h; exact .base (.bl b)
  | .int b, h => by rw [AV.rep] at h; subst h; exact .base (.int b)
  | .str b, h => by rw [AV.rep] at h; subst h; exact .base (.str b)
  | .lst xs, h => by rw [AV.rep] at h; obtain ⟨_, p, vs, rfl, hh, _⟩ := h; exact .base (.lst hh)
  | .tup xs, h => by rw [AV.rep] at h; obtain ⟨_, p, vs, rfl, hh, _⟩ := h; exact ty_t hh
instance : TyE AV := ⟨AV.tn, fun h => AV.ty h⟩
theorem AV.hasT {K : PySem.W.Frag} {S : Hp} {v : V} : ∀ {a : AV}, AV.rep K S v a → HasT K S v a.isSeq
  | .non, h => by rw [AV.rep] at h; subst h; exact hasT_non
  | .bl b, h => by rw [AV.rep] at h; subst h; exact hasT_bl b
  | .int b, h => by rw [AV.rep] at h; subst h; exact hasT_int b
  | .str b, h => by rw [AV.rep] at h; subst h; exact hasT_str b
  | .lst xs, h => by rw [AV.rep] at h; obtain ⟨_, p, vs, rfl, hh, _⟩ := h; exact Sq.hasT (.l hh)
  | .tup xs, h => by rw [AV.rep] at h; obtain ⟨_, p, vs, rfl, hh, _⟩ := h; exact Sq.hasT (.inr hh)
section
variable {K : PySem.W.Frag} {B : Addr → Prop} {ρ ρ' ρ1 ρ2 : List Slot} {ta tb tc td te : TE} {t u : TT} {ts tu tz : TS} {Φ : Post} {α β γ δ : Type} {e_α : Enc α} {e_β : Enc β} {e_γ : Enc γ} {e_δ : Enc δ} {a : α} {b : β} {i j : Int} {x : AV}
theorem DE.conv {a : α} {b : β} (h : DE K B te ρ a) (f : ∀ S v, Enc.rep K S v a → Enc.rep K S v b) : DE K B te ρ b := fun S0 H0 S H σ E Q q => h S0 H0 S H σ E Q fun v S1 H1 e r => q v S1 H1 e (f _ _ r)
theorem DN.conv {P : α → Prop} {P' : β → Prop} (h : DN K B te ρ P) (f : ∀ a, P a → ∃ b, P' b ∧ ∀ S v, Enc.rep K S v a → Enc.rep K S v b) : DN K B te ρ P' := fun S0 H0 S H σ E Q q => h S0 H0 S H σ E Q fun v a S1 H1 pa e r => by
  obtain ⟨b, pb, g⟩ := f a pa
  exact q v b S1 H1 pb e (g _ _ r)
theorem d_av [s : IsAV α] (h : DE K B te ρ a) : DE K B te ρ (s.av a) := h.conv fun _ _ r => s.iff.mpr r
theorem d_va [s : IsAV α] (h : DE K B te ρ (s.av a)) : DE K B te ρ a := h.conv fun _ _ r => s.iff.mp r
theorem dn_av [s : IsAV α] {P : α → Prop} (h : DN K B te ρ P) : DN K B te ρ (fun b : AV => ∃ a, P a ∧ b = s.av a) := h.conv fun a pa => ⟨s.av a, ⟨a, pa, rfl⟩, fun _ _ r => s.iff.mpr r⟩
theorem d_avS {z : Str} (h : DE K B te ρ z) : DE K B te ρ (AV.str z) := d_av h
theorem d_avI (h : DE K B te ρ i) : DE K B te ρ (AV.int i) := d_av h
theorem d_avB {b : Bool} (h : DE K B te ρ b) : DE K B te ρ (AV.bl b) := d_av h
theorem d_chLeLe {k : Int} (ha : DE K B ta ρ i) (hb : DE K B tb ρ j) (hc : DE K B tc ρ k) : DE K B (tChain (rI0 fun i j => .bl (decide (i ≤ j))) (rI0 fun i j => .bl (decide (i ≤ j))) ta tb tc) ρ (decide (i ≤ j) && decide (j ≤ k)) :=
  d_chain ha hb (fun _ => hc) (fun v w S H _ h1 h2 Q q => ⟨i, j, h1, h2, q⟩) fun v w S H _ h1 h2 Q q => ⟨j, k, h1, h2, q⟩
theorem d_avN : DE K B (tC .non) ρ AV.non := fun _ _ S H _ E Q q => q _ S H (Ext.refl E.i) (by show AV.rep K S _ .non; rw [AV.rep])
theorem d_asStrA (h : DE K B te ρ x) (hs : x.isStr = true) : DE K B te ρ x.txt := h.conv fun S v r => by
  cases x with
  | str z => exact IsAV.iff.mp r
  | _ => cases hs
theorem d_asInt (h : DE K B te ρ x) (hs : x.isInt = true) : DE K B te ρ x.num := h.conv fun S v r => by
  cases x with
  | int z => exact IsAV.iff.mp r
  | _ => cases hs
theorem d_asSeq (h : DE K B te ρ x) (hs : x.isSeq = true) : DE K B te ρ x.items := h.conv fun S v r => by
  have r : AV.rep K S v x := r
  cases x with
  | lst xs =>
    rw [AV.rep] at r
    obtain ⟨hl, p, vs, e, hq, r⟩ := r
    exact ⟨hl, p, vs, e, .l hq, AV.pr.mp r⟩
  | tup xs =>
    rw [AV.rep] at r
    obtain ⟨hl, p, vs, e, hq, r⟩ := r
    exact ⟨hl, p, vs, e, .inr hq, AV.pr.mp r⟩
  | _ => cases hs
theorem d_isA {nm : String} {r : AV → Bool} (h : DE K B te ρ x) (hk : ∀ y : AV, L2.kitB y.tn nm = some (r y)) : DE K B (tCB (rIsi K) (tCons te (tCons (tC (.ty nm)) tNil))) ρ (r x) := d_isi h inferInstance (hk x)
def AV.isBl : AV → Bool
  | .bl _ => true
  | _ => false
theorem kit_str : ∀ y : AV, L2.kitB y.tn "str" = some y.isStr
  | .non => (by decide +kernel : L2.kitB "NoneType" "str" = some false)
  | .bl _ => (by decide +kernel : L2.kitB "bool" "str" = some false)
  | .int _ => (by decide +kernel : L2.kitB "int" "str" = some false)
  | .str _ => (by decide +kernel : L2.kitB "str" "str" = some true)
  | .lst _ => (by decide +kernel : L2.kitB "list" "str" = some false)
  | .tup _ => (by decide +kernel : L2.kitB "tuple" "str" = some false)
theorem kit_tup : ∀ y : AV, L2.kitB y.tn "tuple" = some y.isTup
  | .non => (by decide +kernel : L2.kitB "NoneType" "tuple" = some false)
  | .bl _ => (by decide +kernel : L2.kitB "bool" "tuple" = some false)
  | .int _ => (by decide +kernel : L2.kitB "int" "tuple" = some false)
  | .str _ => (by decide +kernel : L2.kitB "str" "tuple" = some false)
  | .lst _ => (by decide +kernel : L2.kitB "list" "tuple" = some false)
  | .tup _ => (by decide +kernel : L2.kitB "tuple" "tuple" = some true)
theorem kit_int : ∀ y : AV, L2.kitB y.tn "int" = some (y.isInt || y.isBl)
  | .non => (by decide +kernel : L2.kitB "NoneType" "int" = some false)
  | .bl _ => (by decide +kernel : L2.kitB "bool" "int" = some true)
  | .int _ => (by decide +kernel : L2.kitB "int" "int" = some true)
  | .str _ => (by decide +kernel : L2.kitB "str" "int" = some false)
  | .lst _ => (by decide +kernel : L2.kitB "list" "int" = some false)
  | .tup _ => (by decide +kernel : L2.kitB "tuple" "int" = some false)
theorem kit_bool : ∀ y : AV, L2.kitB y.tn "bool" = some y.isBl
  | .non => (by decide +kernel : L2.kitB "NoneType" "bool" = some false)
  | .bl _ => (by decide +kernel : L2.kitB "bool" "bool" = some true)
  | .int _ => (by decide +kernel : L2.kitB "int" "bool" = some false)
  | .str _ => (by decide +kernel : L2.kitB "str" "bool" = some false)
  | .lst _ => (by decide +kernel : L2.kitB "list" "bool" = some false)
  | .tup _ => (by decide +kernel : L2.kitB "tuple" "bool" = some false)
/-- isinstance(x, (list, tuple)) -/
theorem d_isSeqA (h : DE K B te ρ x) : DE K B (tCB (rIsiT K) (tCons te (tCons (tTup (tCons (tC (.ty "list")) (tCons (tC (.ty "tuple")) tNil))) tNil))) ρ x.isSeq := fun S0 H0 S H σ E Q q =>
  h S0 H0 S H σ E _ fun v S1 H1 e1 r => ⟨by show 2 ≤ sizeLine; decide, fun w hw => by
    obtain ⟨t, b1, b2, ty, k1, k2, z, k3⟩ := AV.hasT r
    exact ⟨_, w, _, t, _, _, rfl, upd_same, .cons (.ty "list") (.cons (.ty "tuple") .nil), tyx_same (e1.i.trans (same_new hw)) ty, k3, q _ S1 _ (e1.trans (Ext.grow e1.i (same_new hw))) rfl⟩⟩
/-- isinstance(x, int) and not isinstance(x, bool) -/
theorem d_isIntA (h : DE K B te ρ x) : DE K B (tAndV (tCB (rIsi K) (tCons te (tCons (tC (.ty "int")) tNil))) (tNotV (tCB (rIsi K) (tCons te (tCons (tC (.ty "bool")) tNil))))) ρ x.isInt := by
  refine DE.is (d_andV (d_isA h kit_int) fun _ => d_notV (d_isA h kit_bool)) ?_
  cases x <;> rfl
/-! ### texts in lists -/
theorem d_inS {z : Str} {ws : List Str} (h1 : DE K B ta ρ z) (h2 : DE K B tb ρ ws) : DE K B (tOp (rIn K false) ta tb) ρ (decide (z ∈ ws)) :=
  d_op h1 h2 fun x y S H i r1 ⟨hl, p, vs, e, hq, r⟩ Q q => by
    cases r1
    cases vals_str r
    refine ⟨p, _, e, hq.ex i, rfl, ?_, ?_⟩
    · rw [List.all_map]
      exact List.all_eq_true.mpr fun _ _ => rfl
    · have e : inV (.str z) (ws.map V.str) = decide (z ∈ ws) := inV_str z ws
      rw [e]
      exact q _ S H (Ext.refl i) rfl
theorem d_notInS {z : Str} {ws : List Str} (h1 : DE K B ta ρ z) (h2 : DE K B tb ρ ws) : DE K B (tOp (rIn K true) ta tb) ρ (!decide (z ∈ ws)) :=
  d_op h1 h2 fun x y S H i r1 ⟨hl, p, vs, e, hq, r⟩ Q q => by
    cases r1
    cases vals_str r
    refine ⟨p, _, e, hq.ex i, rfl, ?_, ?_⟩
    · rw [List.all_map]
      exact List.all_eq_true.mpr fun _ _ => rfl
    · have e : inV (.str z) (ws.map V.str) = decide (z ∈ ws) := inV_str z ws
      rw [e]
      exact q _ S H (Ext.refl i) rfl
/-- len(set(xs)) -/
theorem d_lenSet {ws : List Str} (h : DE K B te ρ ws) (hl : ws.length ≤ 2000) : DE K B (tLenSetT K te) ρ (unl ws ws.length : Int) := fun S0 H0 S H σ E Q q =>
  h S0 H0 S H σ E _ fun v S1 H1 e1 ⟨_, p, vs, e, hq, r⟩ => by
    cases vals_str r
    exact ⟨p, ws, e, hq.ex e1.i, hl, q _ S1 H1 e1 rfl⟩
/-- s.partition(t) -/
theorem d_partition {y z : Str} (h1 : DE K B ta ρ y) (h2 : DE K B tb ρ z) (hz : (z.length == 0) = false) (hy : y.length ≤ BIG) : DE K B (tM1 (fun x xs H Q => ∃ a b, x = .str a ∧ xs = [.str b] ∧ (b.length == 0) = false ∧ a.length ≤ sizeLine ∧ ∀ p, H p = none → Q (.ref p) (upd H p (.tup [.str (Txt.partition a b).1, .str (Txt.partition a b).2.1, .str (Txt.partition a b).2.2]))) ta tb) ρ (T3.mk (Txt.partition y z).1 (Txt.partition y z).2.1 (Txt.partition y z).2.2) := fun S0 H0 S H σ E Q q =>
  h1 S0 H0 S H σ E _ fun v S1 H1 e1 r1 => by
    cases r1
    refine ⟨⟨y, rfl⟩, h2 S0 H0 S1 H1 σ (E.go e1) _ fun w S2 H2 e2 r2 => ?_⟩
    cases r2
    refine ⟨y, z, rfl, rfl, hz, Nat.le_trans hy big_line, fun p hp => ?_⟩
    have e3 : Ext B S2 H2 (upd S2 p (.tup [.str (Txt.partition y z).1, .str (Txt.partition y z).2.1, .str (Txt.partition y z).2.2])) (upd H2 p (.tup [.str (Txt.partition y z).1, .str (Txt.partition y z).2.1, .str (Txt.partition y z).2.2])) := Ext.new e2.i hp
    exact q _ _ _ ((e1.trans e2).trans e3) ⟨p, _, _, _, rfl, .inl (.inl upd_same), rfl, rfl, rfl⟩
/-! ### four things -/
theorem d_quad {a : α} {b : β} {c : γ} {d : δ} (ha : DE K B ta ρ a) (hb : DE K B tb ρ b) (hc : DE K B tc ρ c) (hd : DE K B td ρ d) : DE K B (tTup (tCons ta (tCons tb (tCons tc (tCons td tNil))))) ρ (T4.mk a b c d) := fun S0 H0 S H σ E Q q =>
  ha S0 H0 S H σ E _ fun x S1 H1 e1 r1 => hb S0 H0 S1 H1 σ (E.go e1) _ fun y S2 H2 e2 r2 => hc S0 H0 S2 H2 σ (E.go (e1.trans e2)) _ fun z S3 H3 e3 r3 => hd S0 H0 S3 H3 σ (E.go ((e1.trans e2).trans e3)) _ fun w S4 H4 e4 r4 => ⟨by show 4 ≤ sizeLine; decide, fun p hp => by
    have e5 : Ext B S4 H4 (upd S4 p (.tup [x, y, z, w])) (upd H4 p (.tup [x, y, z, w])) := Ext.new e4.i hp
    exact q _ _ _ ((((e1.trans e2).trans e3).trans e4).trans e5) ⟨p, x, y, z, w, rfl, .inl (.inl upd_same), Enc.mono (((e2.s.trans e3.s).trans e4.s).trans e5.s) r1, Enc.mono ((e3.s.trans e4.s).trans e5.s) r2, Enc.mono (e4.s.trans e5.s) r3, Enc.mono e5.s r4⟩⟩
end
end WW

set_option Elab.async false
set_option linter.all false
set_option maxRecDepth 100000
set_option maxHeartbeats 4000000
namespace WW
open PySem PySem.Spec PyProof.Rows L2
/-! ### the older promises, typed -/
theorem FnAt.imp {P : Program} {w : World} {K : PySem.W.Frag} {mg : Str → Option Value} {base : Heap} {CX : CXT} {k : Nat} {x : Str} {ps : List Str} {sp sp' : Sp} (F : FnAt P w K mg base CX k x ps sp) (h : ∀ vs H Q E, sp' vs H Q E → sp vs H Q E) : FnAt P w K mg base CX k x ps sp' := by
  obtain ⟨⟨fd, F1, b⟩, kp, g⟩ := F
  exact ⟨⟨fd, F1.imp h, b⟩, kp, g⟩
section
variable {B : Addr → Prop} {S H : Hp} {b : Addr}
theorem Ext.box {x y z : Int} (i : Same S H) (hb : B b) (s : S b = none) : Ext B S H S (upd H b (bx x y z)) := by
  refine ⟨Same.refl S, fun a o ha => ?_, fun a h1 h2 => ⟨h1, ?_⟩⟩
  · have n : a ≠ b := fun e => by rw [e, s] at ha; cases ha
    rw [upd_ne n]
    exact i _ _ ha
  · by_cases e : a = b
    · subst e
      exact .inr ⟨hb, x, y, z, upd_same⟩
    · exact .inl (upd_ne e)
end
section
variable {K : PySem.W.Frag}
abbrev dpTake : List Slot → (Slot → Prop) → Prop := dpb1 (fun m : Int => 0 < m ∧ m < 1073741824) (fun m (c : Int) => 0 ≤ c ∧ c < m)
theorem imp_take (vs : List V) (H : Hp) (Q : VK) (E : XK) (h : spT K dpTake vs H Q E) : spTake vs H Q E := by
  obtain ⟨B, S, ss, R, i, hb, ar, ⟨m, rfl, ⟨m0, m1⟩, r⟩, q⟩ := h
  cases ar with
  | cons h1 h2 h3 =>
    cases h3 with
    | cons k1 k2 k3 =>
      cases k3
      obtain ⟨p, rfl, bp⟩ := h1
      cases k1
      obtain ⟨sn, bx⟩ := hb p bp
      exact ⟨p, m, rfl, bx, m0, m1, fun x y z d d0 d1 => q (.val d) _ S _ (r d ⟨d0, d1⟩) (Ext.box i bp sn) rfl⟩
abbrev dpPick (α : Type) [Enc α] : List Slot → (Slot → Prop) → Prop := dpb1 (fun xs : L α => 0 < List.length xs ∧ List.length xs < 1000) (fun (xs : L α) (c : α) => List.Mem c xs)
theorem paired_mem {α : Type} {r : V → α → Prop} : ∀ {vs : List V} {xs : List α}, Paired r vs xs → ∀ v ∈ vs, ∃ x, x ∈ xs ∧ r v x
  | _, _, .nil, v, h => nomatch h
  | _, _, .cons h t, v, hm => by
    rcases List.mem_cons.mp hm with rfl | hm
    · exact ⟨_, List.mem_cons_self, h⟩
    · obtain ⟨x, h1, h2⟩ := paired_mem t v hm
      exact ⟨x, List.mem_cons_of_mem _ h1, h2⟩
theorem imp_pick {α : Type} [Enc α] (vs : List V) (H : Hp) (Q : VK) (E : XK) (h : spT K (dpPick α) vs H Q E) : spPick K vs H Q E := by
  obtain ⟨B, S, ss, R, i, hb, ar, ⟨xs, rfl, ⟨m0, m1⟩, r⟩, q⟩ := h
  cases ar with
  | cons h1 h2 h3 =>
    cases h3 with
    | cons k1 k2 k3 =>
      cases k3
      obtain ⟨p, rfl, bp⟩ := h1
      obtain ⟨_, l, ws, rfl, hh, pr⟩ := k1
      obtain ⟨sn, bx⟩ := hb p bp
      have hl := pr.length
      refine ⟨p, l, ws, rfl, bx, Sq.l (i _ _ hh), ?_, by omega, by omega, fun x y z v hv => ?_⟩
      · intro e
        subst e
        rw [sn] at hh
        cases hh
      · obtain ⟨c, c1, c2⟩ := paired_mem pr v hv
        exact q (.val c) v S _ (r c c1) (Ext.box i bp sn) c2
end
/-! ### the law's script, and a box made by the def itself -/
structure Scr where
  ns : List Int
instance : Enc Scr where
  rep K S v x := ∃ a, v = .ref a ∧ SqL K S a (x.ns.map V.int)
  mono e h := by
    obtain ⟨a, z, h⟩ := h
    exact ⟨a, z, Evl.ex_l e h⟩
section
variable {K : PySem.W.Frag} {B : Addr → Prop} {ρ : List Slot} {ta tb te : TE} {tz : TS} {Φ : Post} {S0 H0 S H S1 H1 : Hp} {σ : L2.St}
theorem pair_int {S : Hp} : ∀ ns : List Int, Paired (Enc.rep K S) (ns.map V.int) ns
  | [] => .nil
  | _ :: r => .cons rfl (pair_int r)
theorem d_scr {x : Scr} (h : DE K B te ρ x) (hl : x.ns.length ≤ BIG) : DE K B te ρ x.ns := fun S0 H0 S H σ E Q q =>
  h S0 H0 S H σ E Q fun v S1 H1 e ⟨a, z, r⟩ => q v S1 H1 e ⟨hl, a, _, z, .inl r, pair_int _⟩
theorem SlotOk.unbox {p : Addr} {o : Option V} {s : Slot} (h : SlotOk K (fun q => q = p ∨ B q) H1 S H o s) (fr : ∀ a, H1 a = none → H0 a = none) : SlotOk K B H0 S H o s.unbox := by
  cases s with
  | no => cases o <;> trivial
  | box => cases o <;> trivial
  | val a =>
    cases o with
    | none => exact h
    | some v => exact h
  | obj P =>
    cases o with
    | none => exact h
    | some v =>
      obtain ⟨q, vs, e, f, r⟩ := h
      exact ⟨q, vs, e, fr q f, r⟩
  | out P => cases o <;> trivial
theorem Ext.unbox {p : Addr} (i0 : Same S0 H0) (e1 : Ext B S0 H0 S H) (hp : H0 p = none) (e2 : Ext (fun q => q = p ∨ B q) S H S1 H1) : Ext B S0 H0 S1 H1 := by
  refine ⟨e1.s.trans e2.s, e2.i, fun a h1 h2 => ?_⟩
  obtain ⟨q1, q2⟩ := e1.p a h1 h2
  have ha : H a ≠ none := by
    rcases q2 with q2 | ⟨_, x, y, z, q2⟩
    · rw [q2]; exact h2
    · rw [q2]; exact fun z => nomatch z
  obtain ⟨r1, r2⟩ := e2.p a q1 ha
  refine ⟨r1, ?_⟩
  rcases r2 with r2 | ⟨rb | rb, r3⟩
  · rcases q2 with q2 | ⟨qb, q2⟩
    · exact .inl (r2.trans q2)
    · exact .inr ⟨qb, by rw [r2]; exact q2⟩
  · rw [rb] at h2
    exact absurd hp h2
  · exact .inr ⟨rb, r3⟩
theorem En.unbox {p : Addr} {ρ' : List Slot} {σ' : L2.St} (i0 : Same S0 H0) (e1 : Ext B S0 H0 S H) (hb : ∀ q, B q → H0 q ≠ none) (hp : H0 p = none) (E : En K (fun q => q = p ∨ B q) S H S1 H1 σ' ρ') : En K B S0 H0 S1 H1 σ' (ρ'.map Slot.unbox) := by
  refine ⟨i0, fun q hq => ⟨(E.bx q (.inr hq)).1, (E.bx q (.inr hq)).2.1, hb q hq⟩, e1.unbox i0 hp E.ext, by rw [List.length_map]; exact E.len, fun i s h => ?_, fun i j s u n h1 h2 o1 o2 => ?_⟩
  · rw [List.getElem?_map] at h
    cases hs : ρ'[i]? with
    | none => rw [hs] at h; cases h
    | some s' =>
      rw [hs] at h
      cases h
      obtain ⟨o, e, ok⟩ := E.at' i s' hs
      exact ⟨o, e, ok.unbox fun a ha => e1.free i0 ha⟩
  · rw [List.getElem?_map] at h1 h2
    cases hs : ρ'[i]? with
    | none => rw [hs] at h1; cases h1
    | some s' =>
      cases hu : ρ'[j]? with
      | none => rw [hu] at h2; cases h2
      | some u' =>
        rw [hs] at h1
        rw [hu] at h2
        cases h1
        cases h2
        refine E.ne i j s' u' n hs hu ?_ ?_
        · cases s' <;> first | exact o1 | cases o1
        · cases u' <;> first | exact o2 | cases o2
/-- a new box -/
def DBox (K : PySem.W.Frag) (B : Addr → Prop) (te : TE) (ρ : List Slot) : Prop := ∀ S0 H0 S H σ, En K B S0 H0 S H σ ρ → ∀ Q : VK, (∀ p S2 H2 H', Ext B S H S2 H2 → Same H2 H' → H2 p = none → IsBx (H' p) → Q (.ref p) H') → te σ H Q
/-- box = ..: from here on the box may change -/
theorem dq_boxG {n : Nat} (hb : DBox K B te ρ) (ho : ∀ s ∈ ρ, s.isOwn = false) (px : Φ.px = fun _ _ => True)
    (h : ∀ p, DS K (fun q => q = p ∨ B q) tz (ρ.set n .box) ⟨fun ρ' => Φ.nx (ρ'.map Slot.unbox), fun s => s.unbox = s ∧ Φ.rt s, fun ρ' => Φ.bk (ρ'.map Slot.unbox), fun ρ' => Φ.ct (ρ'.map Slot.unbox), fun _ _ => True⟩) :
    DS K B (tSeq (tAsg te (gName n)) tz) ρ Φ := fun S0 H0 S H σ D E _ nx rt bk ct =>
  hb S0 H0 S H σ E _ fun p S2 H2 H' e12 sm np bx' => by
    have E2 := E.go e12
    have e3 : Ext B S2 H2 S2 H' := Ext.grow e12.i sm
    have E3 := E2.go e3
    have hp0 : H0 p = none := E2.ext.free E2.i0 np
    have sp : S2 p = none := e12.i.free np
    have E4 : En K (fun q => q = p ∨ B q) S2 H' S2 H' σ ρ := by
      refine ⟨e3.i, fun q hq => ?_, Ext.refl e3.i, E3.len, fun i s hs => ?_, fun i j s u nn hs hu o1 o2 => ?_⟩
      · rcases hq with rfl | hq
        · exact ⟨sp, bx', bx'.choose_spec.choose_spec.choose_spec ▸ fun z => nomatch z⟩
        · obtain ⟨q1, q2, _⟩ := E3.bx q hq
          exact ⟨q1, q2, q2.ne⟩
      · obtain ⟨o, e, ok⟩ := E3.at' i s hs
        refine ⟨o, e, ?_⟩
        have hs := ho s (List.mem_of_getElem? hs)
        cases s with
        | no => cases o <;> trivial
        | box =>
          cases o with
          | none => exact ok
          | some v =>
            obtain ⟨q, e, hq⟩ := ok
            exact ⟨q, e, .inr hq⟩
        | val _ =>
          cases o with
          | none => exact ok
          | some v => exact ok
        | obj _ => cases hs
        | out P =>
          cases o with
          | none => exact ok
          | some v =>
            obtain ⟨q, u, e, nb, h0, hs, hh, r⟩ := ok
            refine ⟨q, u, e, fun z => ?_, (by rw [hh]; exact fun z => nomatch z), hs, hh, r⟩
            rcases z with z | z
            · exact h0 (by rw [z]; exact hp0)
            · exact nb z
      · rw [ho s (List.mem_of_getElem? hs)] at o1
        cases o1
    have E5 : En K (fun q => q = p ∨ B q) S2 H' S2 H' (σ.set n (some (.ref p))) (ρ.set n .box) := E4.set (o := some (.ref p)) (s := .box) ⟨p, rfl, .inl rfl⟩ rfl
    have hbn : ∀ q, B q → H0 q ≠ none := fun q hq => (E.bx q hq).2.2
    have sm2 : Same S S2 := e12.s
    refine h p S2 H' S2 H' _ D E5 trivial (fun ρ' σ' S' H'' hn sm' E' => nx _ σ' S' H'' hn (sm2.trans sm') (E'.unbox E.i0 E3.ext hbn hp0)) (fun s v S' H'' hs ex ok => ?_) (fun ρ' σ' S' H'' hn sm' E' => bk _ σ' S' H'' hn (sm2.trans sm') (E'.unbox E.i0 E3.ext hbn hp0)) (fun ρ' σ' S' H'' hn sm' E' => ct _ σ' S' H'' hn (sm2.trans sm') (E'.unbox E.i0 E3.ext hbn hp0))
    refine rt s v S' H'' hs.2 (E3.ext.unbox E.i0 hp0 ex) ?_
    have := ok.unbox (H0 := H0) (B := B) (fun a ha => E3.ext.free E.i0 ha)
    rw [hs.1] at this
    exact this
end
end WW

set_option Elab.async false
set_option linter.all false
set_option maxRecDepth 100000
namespace WW
open PySem PySem.Spec PyProof.Rows L2
def top (i : Nat) : Stmt := PySem.Challenge.pw_waitworks_k14_rings_that_never_go.main.body.getD i (.Pass ⟨0, 0, 0, 0⟩)
abbrev FnP (K : PySem.W.Frag) (x : Str) (st : Stmt) (f : Addr) (fd : FuncData) : Prop := FunD K x x (defArgs st) (defBody st) (defScope st) [] [] f fd
end WW

set_option Elab.async false
set_option linter.all false
set_option maxRecDepth 100000
set_option maxHeartbeats 4000000
namespace WW
open PySem PySem.Spec PyProof.Rows L2
/-! ### draws of the module laws -/
section
variable {K : PySem.W.Frag} {B : Addr → Prop} {ρ : List Slot} {ta tb te : TE} {i j : Int}
theorem d_pow (ha : DE K B ta ρ i) (hb : DE K B tb ρ j) (hc : CPow i j) : DE K B (tOp (rI CPow fun i j => .int (i ^ j.toNat)) ta tb) ρ (i ^ j.toNat) :=
  d_op ha hb fun x y S H hi r1 r2 Q q => ⟨i, j, r1, r2, hc, q _ S H (Ext.refl hi) rfl⟩
end
section
variable {P : Program} {w : World} {K : PySem.W.Frag} {mg : Str → Option Value} {base : Heap} {f : Addr} {fd : FuncData}
abbrev s_l_take : Stmt := top 47
abbrev N_l_take : List Str := ["_law_box_here", "_law_many", "_law_raw", "_law_wide", "_law_digit"]
theorem sc_l_take : FnScope N_l_take ["_law_box_here", "_law_many"] (defScope s_l_take) := ⟨rfl, rfl, rfl, by decide +kernel, rfl, by decide +kernel, by decide +kernel⟩

theorem ok_take (F : FnP K "_law_take" s_l_take f fd) (m_int : mg "int" = none) : FnOk P w K mg base CX0 1 f fd ["_law_box_here", "_law_many"] spTake := by
  refine F.ok sc_l_take (fun vs H Q E h => ?_) (fun cdv A outer s H vs Q E hr h => ?_)
  · obtain ⟨b, m, rfl, _⟩ := h
    rfl
  · obtain ⟨b, m, rfl, ⟨x, y, z, hb⟩, h0, h1, q⟩ := h
    refine ⟨_, PSs.nox (pss_cons (ps_if (pt_cmpR op_gt (pe_ix (ix_sqK K) (pv 0) (pe_int) (fun _ _ => rfl)) (pe_int) (nomark _)) (pss_cons (ps_set (i := 4) sc_l_take.nd rfl (.inl rfl) (pe_op op_mod (pe_callTy call_int1 rfl m_int (by decide +kernel) (pa_cons (pe_ix (ix_sqK K) (pv 0) (pe_int) (fun _ _ => rfl)) (pa_nil))) (pv 1)))
 (pss_cons (ps_asg (pe_op op_fdiv (pe_ix (ix_sqK K) (pv 0) (pe_int) (fun _ _ => rfl)) (pv 1)) (pg_sub (pv 0) (pe_int) set_list))
 (pss_one (ps_ret (pv 4))))) (pss_nil))
 (pss_cons (ps_asg (pe_op op_add (pe_ix (ix_sqK K) (pv 0) (pe_int) (fun _ _ => rfl)) (pe_int)) (pg_sub (pv 0) (pe_int) set_list))
 (pss_cons (ps_set (i := 2) sc_l_take.nd rfl (.inl rfl) (pe_op op_mod (pe_callTy call_int1 rfl m_int (by decide +kernel) (pa_cons (pe_op op_mul (pe_op op_add (pe_ix (ix_sqK K) (pv 0) (pe_int) (fun _ _ => rfl)) (pe_op op_mul (pe_int) (pe_ix (ix_sqK K) (pv 0) (pe_int) (fun _ _ => rfl)))) (pe_int)) (pa_nil))) (pe_int)))
 (pss_cons (ps_asg (pe_op op_add (pe_op op_mod (pe_callTy call_int1 rfl m_int (by decide +kernel) (pa_cons (pe_op op_add (pe_op op_mul (pv 2) (pe_int)) (pe_int)) (pa_nil))) (pe_int)) (pe_int)) (pg_sub (pv 0) (pe_int) set_list))
 (pss_cons (ps_if (pt_cmpR op_lt (pv 1) (pe_op op_pow (pe_int) (pe_int)) (nomark _)) (pss_one (ps_ret (pe_op op_mod (pe_callTy call_int1 rfl m_int (by decide +kernel) (pa_cons (pe_op op_fdiv (pe_op op_add (pe_op op_mul (pv 2) (pe_int)) (pe_ix (ix_sqK K) (pv 0) (pe_int) (fun _ _ => rfl))) (pe_int)) (pa_nil))) (pv 1)))) (pss_nil))
 (pss_cons (ps_set (i := 3) sc_l_take.nd rfl (.inl rfl) (pe_op op_mul (pe_op op_add (pe_op op_mul (pv 2) (pe_int)) (pe_ix (ix_sqK K) (pv 0) (pe_int) (fun _ _ => rfl))) (pe_op op_pow (pe_int) (pe_int))))
 (pss_one (ps_ret (pe_op op_mod (pe_callTy call_int1 rfl m_int (by decide +kernel) (pa_cons (pe_op op_add (pe_op op_add (pv 3) (pe_op op_mul (pe_op op_pow (pe_ix (ix_sqK K) (pv 0) (pe_int) (fun _ _ => rfl)) (pe_int)) (pe_int))) (pv 2)) (pa_nil))) (pv 1)))))))))), ?_⟩
    have a0 : ∀ {x y z : Int}, atI [V.int x, V.int y, V.int z] 0 = some (.int x) := rfl
    refine ⟨_, rfl, _, _, _, _, rfl, rfl, .l hb, a0, _, _, rfl, rfl, _, rfl, ite2 (fun c => ?_) (fun c => ?_)⟩
    · refine ⟨_, rfl, _, _, _, _, rfl, rfl, .l hb, a0, .inl ⟨_, rfl, _, rfl, _, _, rfl, rfl, h0, ?_⟩⟩
      refine ⟨_, rfl, _, _, _, _, rfl, rfl, .l hb, a0, _, rfl, _, _, rfl, rfl, ⟨h0, h1⟩, _, rfl, _, _, _, _, rfl, rfl, hb, rfl, ?_⟩
      exact ⟨_, rfl, q _ _ _ _ (Int.emod_nonneg _ (by omega)) (Int.emod_lt_of_pos _ h0)⟩
    · have a1 : ∀ {x y z : Int}, atI [V.int x, V.int y, V.int z] 1 = some (.int y) := rfl
      have a2 : ∀ {x y z : Int}, atI [V.int x, V.int y, V.int z] 2 = some (.int z) := rfl
      refine ⟨_, rfl, _, _, _, _, rfl, rfl, .l hb, a2, _, _, rfl, rfl, _, rfl, _, _, _, _, rfl, rfl, hb, rfl, ?_⟩
      refine ⟨_, rfl, _, _, _, _, rfl, rfl, .l upd_same, a1, _, rfl, _, _, _, _, rfl, rfl, .l upd_same, a2, _, _, rfl, rfl, .inl ⟨by decide, by decide⟩, _, _, rfl, rfl, _, _, rfl, rfl, .inr ⟨by decide, by decide⟩,
        .inl ⟨_, rfl, _, _, rfl, rfl, (by show (0 : Int) < _; decide), ?_⟩⟩
      refine ⟨_, rfl, _, _, rfl, rfl, .inr ⟨by decide, by decide⟩, _, _, rfl, rfl, .inl ⟨_, rfl, _, _, rfl, rfl, (by show (0 : Int) < _; decide), _, _, rfl, rfl, _, rfl, _, _, _, _, rfl, rfl, upd_same, rfl, ?_⟩⟩
      refine ⟨_, rfl, _, _, rfl, rfl, ⟨by decide, by decide, by decide⟩, _, _, rfl, rfl, _, rfl, ?_⟩
      rw [decide_eq_true (show m < (2 : Int) ^ (40 : Int).toNat from Int.lt_trans h1 (by decide))]
      refine ⟨_, rfl, _, _, rfl, rfl, .inr ⟨by decide, by decide⟩, _, rfl, _, _, _, _, rfl, rfl, .l upd_same, a1, _, _, rfl, rfl, _, _, rfl, rfl, ⟨by decide, by decide⟩, .inl ⟨_, rfl, _, rfl, _, _, rfl, rfl, h0, ?_⟩⟩
      rw [upd_upd]
      exact q _ _ _ _ (Int.emod_nonneg _ (by omega)) (Int.emod_lt_of_pos _ h0)
abbrev s_l_pick : Stmt := top 48
abbrev N_l_pick : List Str := ["_law_box_here", "_law_items"]
theorem sc_l_pick : FnScope N_l_pick ["_law_box_here", "_law_items"] (defScope s_l_pick) := ⟨rfl, rfl, rfl, by decide +kernel, rfl, by decide +kernel, by decide +kernel⟩

theorem ok_pick (F : FnP K "_law_pick" s_l_pick f fd) (m_len : mg "len" = none) (g_l_take : FnAt P w K mg base CX0 1 "_law_take" ["_law_box_here", "_law_many"] spTake) : FnOk P w K mg base CX0 2 f fd ["_law_box_here", "_law_items"] (spPick K) := by
  refine F.ok sc_l_pick (fun vs H Q E h => ?_) (fun cdv A outer s H vs Q E hr h => ?_)
  · obtain ⟨b, l, xs, rfl, _⟩ := h
    rfl
  · obtain ⟨b, l, xs, rfl, hb, hl, hn, h0, h1, q⟩ := h
    refine ⟨_, PSs.nox (pss_one (ps_ret (pe_ix (ix_sqK K) (pv 1) (pe_fn g_l_take hr rfl (pa_cons (pv 0) (pa_cons (pe_callB (call_lenK K) rfl m_len (by decide +kernel) (pa_cons (pv 1) (pa_nil))) (pa_nil)))) (fun _ _ => rfl)))), ?_⟩
    refine ⟨_, rfl, _, rfl, _, rfl, _, _, rfl, hl, b, _, rfl, hb, by omega, by omega, fun x y z d d0 d1 => ?_⟩
    have hd : d.toNat < xs.length := by omega
    exact ⟨l, xs, _, xs[d.toNat], rfl, rfl, hl.upd hn, at_toNat d0 hd, q x y z _ (List.getElem_mem hd)⟩
/-- box = _law_box(script, k, own) -/
def spBox3 (K : PySem.W.Frag) : Sp := fun vs H Q _ => ∃ (S : Hp) (x : Scr) (k o : Int), Same S H ∧ ArgsOk K (fun _ => False) H S H vs [.val x, .val k, .val o] ∧ 0 ≤ k ∧ x.ns.length ≤ 1000 ∧ o.natAbs ≤ 1000 ∧ ∀ p H', Same H H' → H p = none → IsBx (H' p) → Q (.ref p) H'
abbrev s_l_box : Stmt := top 46
abbrev N_l_box : List Str := ["_law_script", "_law_k", "_law_own", "_law_cell", "_law_seed"]
theorem sc_l_box : FnScope N_l_box ["_law_script", "_law_k", "_law_own"] (defScope s_l_box) := ⟨rfl, rfl, rfl, by decide +kernel, rfl, by decide +kernel, by decide +kernel⟩

theorem ok_box3 (F : FnP K "_law_box" s_l_box f fd) (m_int : mg "int" = none) (m_len : mg "len" = none) (m_abs : mg "abs" = none) : FnOk P w K mg base CX0 1 f fd ["_law_script", "_law_k", "_law_own"] (spBox3 K) := by
  refine F.ok sc_l_box (fun vs H Q E h => ?_) (fun cdv A outer s H vs Q E hr h => ?_)
  · obtain ⟨S, x, k, o, _, ha, _⟩ := h
    rw [ha.length]
    rfl
  · obtain ⟨S, x, k, o, si, ha, k0, hl, ho, q⟩ := h
    refine ⟨_, PSs.nox (pss_cons (ps_set (i := 3) sc_l_box.nd rfl (.inl rfl) (pe_op op_add (pe_op op_add (pe_op op_mul (pe_int) (pv 1)) (pe_op op_mul (pe_int) (pv 2))) (pe_int)))
 (pss_cons (ps_if (pt_cmpR op_lt (pv 1) (pe_callB (call_lenK K) rfl m_len (by decide +kernel) (pa_cons (pv 0) (pa_nil))) (nomark _)) (pss_one (ps_set (i := 3) sc_l_box.nd rfl (.inl rfl) (pe_callB call_abs rfl m_abs (by decide +kernel) (pa_cons (pe_ix (ix_sqK K) (pv 0) (pv 1) (fun _ _ => rfl)) (pa_nil))))) (pss_one (ps_if (pt_cmpR op_gt (pe_callB (call_lenK K) rfl m_len (by decide +kernel) (pa_cons (pv 0) (pa_nil))) (pe_int) (nomark _)) (pss_one (ps_set (i := 3) sc_l_box.nd rfl (.inl rfl) (pe_op op_add (pv 3) (pe_op op_mul (pe_op op_mod (pe_callTy call_int1 rfl m_int (by decide +kernel) (pa_cons (pe_callB call_abs rfl m_abs (by decide +kernel) (pa_cons (pe_ix (ix_sqK K) (pv 0) (pe_op op_mod (pe_callTy call_int1 rfl m_int (by decide +kernel) (pa_cons (pv 1) (pa_nil))) (pe_callB (call_lenK K) rfl m_len (by decide +kernel) (pa_cons (pv 0) (pa_nil)))) (fun _ _ => rfl)) (pa_nil))) (pa_nil))) (pe_int)) (pe_int))))) (pss_nil))))
 (pss_cons (ps_set (i := 4) sc_l_box.nd rfl (.inl rfl) (pe_op op_add (pe_op op_mod (pe_callTy call_int1 rfl m_int (by decide +kernel) (pa_cons (pe_op op_add (pe_op op_mul (pe_op op_mod (pe_callTy call_int1 rfl m_int (by decide +kernel) (pa_cons (pv 3) (pa_nil))) (pe_int)) (pe_int)) (pe_op op_mul (pe_int) (pe_op op_add (pv 1) (pe_op op_mul (pe_int) (pv 2))))) (pa_nil))) (pe_int)) (pe_int)))
 (pss_one (ps_ret (pe_lst (pa_cons (pe_ix (ix_sqK K) (pe_lst (pa_cons (pe_int) (pa_cons (pv 3) (pa_nil)))) (pe_callTy call_int1 rfl m_int (by decide +kernel) (pa_cons (pe_cmpR op_ge (pv 3) (pe_op op_pow (pe_int) (pe_int)) (nomark _)) (pa_nil))) (fun _ _ => rfl)) (pa_cons (pv 4) (pa_cons (pe_int) (pa_nil)))))))))), ?_⟩
    have E0 := start_en (N := N_l_box) si (fun p hp => hp.elim) ha
    have E0 : En K (fun _ => False) S H S H _ [.val x, .val k, .val o, .no, .no] := E0
    generalize L2.start _ vs = σ0 at E0 ⊢
    have px : (fun (S0 H0 : Hp) => True) S H := trivial
    have lb : x.ns.length ≤ BIG := Nat.le_trans hl (by decide)
    let Φ : (List Slot → Prop) → Post := fun nx => ⟨nx, fun _ => False, fun _ => False, fun _ => False, fun _ _ => True⟩
    refine (ds_asg (Φ := Φ fun r => ∃ c : Int, r = [.val x, .val k, .val o, .val c, .no]) (d_add (d_add (d_mul d_int (d_var rfl) (.inl ⟨by decide, by decide⟩)) (d_mul d_int (d_var rfl) (.inl ⟨by decide, by decide⟩))) d_int) ⟨_, rfl⟩).runB E0 fun r1 σ1 S1 H1 ⟨c0, hq⟩ s1 E1 => ?_
    subst hq
    refine (ds_if (Φ := Φ fun r => ∃ c : Int, r = [.val x, .val k, .val o, .val c, .no]) (dt_test (d_lt (d_var rfl) (d_len (d_scr (d_var rfl) lb)))) (fun h => ?_) (fun _ => ds_if (dt_test (d_gt (d_len (d_scr (d_var rfl) lb)) d_int)) (fun h => ?_) fun _ => ds_next ⟨_, rfl⟩)).runB E1 fun r2 σ2 S2 H2 ⟨c2, hq⟩ s2 E2 => ?_
    · have h := of_decide_eq_true h
      have hk : k.toNat < x.ns.length := by omega
      exact ds_asg (d_abs (d_ix (d_scr (d_var rfl) lb) (d_var rfl) (at_toNat k0 hk))) ⟨_, rfl⟩
    · have h := of_decide_eq_true h
      have h1 := Int.emod_nonneg k (b := (x.ns.length : Int)) (by omega)
      have h2 := Int.emod_lt_of_pos k h
      exact ds_asg (d_add (d_var rfl) (d_mul (d_mod (d_intI (d_abs (d_ix (d_scr (d_var rfl) lb) (d_mod (d_intI (d_var rfl)) (d_len (d_scr (d_var rfl) lb)) h) (at_toNat h1 (by omega))))) d_int (by decide)) d_int (.inr ⟨by decide, by decide⟩))) ⟨_, rfl⟩
    subst hq
    refine (ds_asg (Φ := Φ fun r => ∃ c : Int, r = [.val x, .val k, .val o, .val c2, .val c]) (d_add (d_mod (d_intI (d_add (d_mul (d_mod (d_intI (d_var rfl)) d_int (by decide)) d_int (.inr ⟨by decide, by decide⟩)) (d_mul d_int (d_add (d_var rfl) (d_mul d_int (d_var rfl) (.inl ⟨by decide, by decide⟩))) (.inl ⟨by decide, by decide⟩)))) d_int (by decide)) d_int) ⟨_, rfl⟩).runB E2 fun r3 σ3 S3 H3 ⟨c3, hq⟩ s3 E3 => ?_
    subst hq
    have ec := E3.ext
    refine (d_ix (xs := [0, c2]) (x := if (10 : Int) ^ (18 : Int).toNat ≤ c2 then c2 else 0) (DO.q (do_lst (dl_cons d_int (dl_cons (d_var rfl) dl_nil)) (by show 2 ≤ BIG; decide))) (d_intB (d_ge (d_var rfl) (d_pow d_int d_int ⟨by decide, by decide, by decide⟩))) ?_ : DE K (fun _ => False) _ [.val x, .val k, .val o, .val c2, .val c3] _) S H S3 H3 σ3 E3 _ fun v1 S4 H4 e4 w1 => ?_
    · by_cases hc : (10 : Int) ^ (18 : Int).toNat ≤ c2
      · rw [decide_eq_true hc, if_pos hc]
        rfl
      · rw [decide_eq_false hc, if_neg hc]
        rfl
    cases w1
    obtain ⟨v2, g2, w2⟩ := (E3.go e4).val (i := 4) (a := c3) rfl
    cases w2
    refine ⟨_, g2, by show 3 ≤ sizeLine; decide, fun p hp => ?_⟩
    have ee := ec.trans e4
    refine q p _ (fun a u ha => ?_) (ee.free si hp) ⟨_, _, _, upd_same⟩
    have na : a ≠ p := fun z => by
      rw [z] at ha
      rw [ee.free si hp] at ha
      cases ha
    rw [upd_ne na]
    cases hs : S a with
    | some u' =>
      have := ee.i _ _ (ee.s _ _ hs)
      rw [si _ _ hs] at ha
      cases ha
      exact this
    | none =>
      rcases (ee.p a hs (by rw [ha]; exact fun z => nomatch z)).2 with z | ⟨z, _⟩
      · rw [z, ha]
      · exact z.elim
theorem d_box3 {B : Addr → Prop} {ρ : List Slot} {ta tb tc : TE} {x : Scr} {k o : Int} (h1 : DE K B ta ρ x) (h2 : DE K B tb ρ k) (h3 : DE K B tc ρ o) (k0 : 0 ≤ k) (hl : x.ns.length ≤ 1000) (ho : o.natAbs ≤ 1000) : DBox K B (tCall (spBox3 K) [] E0 (tCons ta (tCons tb (tCons tc tNil)))) ρ := fun S0 H0 S H σ E Q q =>
  h1 S0 H0 S H σ E _ fun v S1 H1 e1 r1 => h2 S0 H0 S1 H1 σ (E.go e1) _ fun w S2 H2 e2 r2 => h3 S0 H0 S2 H2 σ (E.go (e1.trans e2)) _ fun u S3 H3 e3 r3 =>
    ⟨S3, x, k, o, e3.i, .cons (Enc.mono (e2.s.trans e3.s) r1) rfl (.cons (Enc.mono e3.s r2) rfl (.cons r3 rfl .nil)), k0, hl, ho, fun p H' sm hp bx => q p S3 H3 H' ((e1.trans e2).trans e3) sm hp bx⟩
theorem erase_perm {α : Type} : ∀ {ys : List α} {j : Nat} {y : α}, ys[j]? = some y → (y :: ys.eraseIdx j).Perm ys
  | [], j, y, h => by simp at h
  | x :: r, 0, y, h => by
    simp at h
    subst h
    exact .refl _
  | x :: r, j + 1, y, h => by
    rw [List.eraseIdx_cons_succ]
    exact (List.Perm.swap x y _).trans (.cons x (erase_perm (by simpa using h)))
abbrev s_l_mixed : Stmt := top 49
abbrev N_l_mixed : List Str := ["_law_box_here", "_law_items", "_law_left", "_law_found", "_law_turn"]
theorem sc_l_mixed : FnScope N_l_mixed ["_law_box_here", "_law_items"] (defScope s_l_mixed) := ⟨rfl, rfl, rfl, by decide +kernel, rfl, by decide +kernel, by decide +kernel⟩

theorem ok_mixed (F : FnP K "_law_mixed" s_l_mixed f fd) (m_list : mg "list" = none) (m_len : mg "len" = none) (m_range : mg "range" = none) (g_l_take : FnAt P w K mg base CX0 1 "_law_take" ["_law_box_here", "_law_many"] (spT K dpTake)) : FnOk P w K mg base CX0 2 f fd ["_law_box_here", "_law_items"] (spT K (dpb1 (fun xs : L Str => List.length xs ≤ 1000) (fun (xs zs : L Str) => List.Perm zs xs))) := by
  refine okT F sc_l_mixed (fun ss R h => ?_) (fun cdv A outer s H E hr => ⟨_, (pss_cons (ps_par (i := 2) (j := 3) rfl sc_l_mixed.nd rfl rfl (by decide) rfl rfl (pa_cons (pe_callTy (call_listK K) rfl m_list (by decide +kernel) (pa_cons (pv 1) (pa_nil))) (pa_cons (pe_lst (pa_nil)) (pa_nil))) rfl)
 (pss_cons (ps_for PassesOwn.never rfl (pi_range1 rfl m_range (pa_cons (pe_callB (call_lenK K) rfl m_len (by decide +kernel) (pa_cons (pv 2) (pa_nil))) (pa_nil))) (pg_name (i := 4) sc_l_mixed.nd rfl (.inl rfl)) (pss_one (ps_expr (pe_bmK K PySem.F.plainAttrs_list PySem.F.slot_list_append PySem.F.type_list_append mt_append (pv 3) (pa_cons (pe_bmK K PySem.F.plainAttrs_list PySem.F.slot_list_pop PySem.F.type_list_pop mt_popAt (pv 2) (pa_cons (pe_fn g_l_take hr rfl (pa_cons (pv 0) (pa_cons (pe_callB (call_lenK K) rfl m_len (by decide +kernel) (pa_cons (pv 2) (pa_nil))) (pa_nil)))) (pa_nil))) (pa_nil))))))
 (pss_one (ps_ret (pv 3))))), fun B ss R h => ?_⟩)
  · obtain ⟨x, rfl, _⟩ := h
    rfl
  · obtain ⟨xs, rfl, hl, q⟩ := h
    have lb : List.length xs ≤ BIG := Nat.le_trans hl (by decide)
    show DS K B _ [.box, .val xs, .no, .no, .no] _
    refine ds_seq (ds_parOO (do_list (d_Lq (d_var rfl))) (do_nil Str) (by decide) ?_)
    show DS K B _ [.box, .val xs, .own (α := Str) xs, .own (α := Str) [], .no] _
    refine dq_for (di_rng1 (d_lenO (xs := xs) rfl) (Int.le_trans (by decide) (Int.natCast_nonneg _)) (by show ((List.length xs : Nat) : Int) < 2 ^ 62; omega)) (fun i r => ∃ (ys zs : List Str) (s4 : Slot), r = [.box, .val xs, .own ys, .own zs, s4] ∧ List.Perm (zs ++ ys) xs ∧ zs.length = i) ⟨xs, [], .no, rfl, .refl _, rfl⟩ (fun i x r hx hI => ?_) fun r hI => ?_
    · obtain ⟨ys, zs, s4, rfl, pm, zl⟩ := hI
      have hi := (List.getElem?_eq_some_iff.mp hx).1
      rw [rg_len, Int.sub_zero, Int.toNat_natCast] at hi
      have pl := pm.length_eq
      rw [List.length_append] at pl
      have hi : i < List.length xs := hi
      refine ⟨_, _, dg_name, ?_⟩
      show DS K B _ [.box, .val xs, .own ys, .own zs, .val x] _
      refine ds_popApp (n := 3) (m := 2) rfl rfl (by decide) (dn_callb1 rfl (d_lenO (xs := ys) rfl) ⟨by omega, by omega⟩) (fun i h => h) (by show zs.length < BIG; exact Nat.lt_of_le_of_lt (show zs.length ≤ 1000 by omega) (by decide)) fun i j y hi ej hy => ⟨ys.eraseIdx j, zs ++ [y], .val x, rfl, ?_, by rw [List.length_append, zl]; rfl⟩
      refine List.Perm.trans ?_ pm
      rw [List.append_assoc]
      exact List.Perm.append_left _ (erase_perm hy)
    · obtain ⟨ys, zs, s4, rfl, pm, zl⟩ := hI
      rw [rg_len, Int.sub_zero, Int.toNat_natCast] at zl
      have zl : zs.length = List.length xs := zl
      have pl := pm.length_eq
      rw [List.length_append] at pl
      have y0 : ys = [] := List.eq_nil_of_length_eq_zero (by have : List.length xs = zs.length + ys.length := pl.symm; omega)
      subst y0
      rw [List.append_nil] at pm
      exact ds_frz (n := 3) rfl (ds_ret (d_var rfl) (q zs pm))
def A14 : List Str := ["a", "b", "in", "out", "at", "cut", "fold", "oven", "press", "done", "link", "use", "zzzzz", "order"]
def ALLN : List Str := ["a", "b", "in", "out", "at", "cut", "fold", "oven", "press", "done", "link", "use", "zzzzz", "order", "c", "d", "e", "g"]
structure Drn (n : Int) (zs : List Str) : Prop where
  len : (zs.length : Int) = n
  nd : zs.Nodup
  all : ∀ z ∈ zs, z ∈ ALLN
abbrev s_l_names : Stmt := top 50
abbrev N_l_names : List Str := ["_law_box_here", "_law_many", "_law_some"]
theorem sc_l_names : FnScope N_l_names ["_law_box_here", "_law_many"] (defScope s_l_names) := ⟨rfl, rfl, rfl, by decide +kernel, rfl, by decide +kernel, by decide +kernel⟩

theorem ok_names (F : FnP K "_law_names" s_l_names f fd) (g_l_mixed : FnAt P w K mg base CX0 2 "_law_mixed" ["_law_box_here", "_law_items"] (spT K (dpb1 (fun xs : L Str => List.length xs ≤ 1000) (fun (xs zs : L Str) => List.Perm zs xs)))) : FnOk P w K mg base CX0 3 f fd ["_law_box_here", "_law_many"] (spT K (dpb1 (fun n : Int => 0 ≤ n ∧ n ≤ 18) (fun n (zs : L Str) => Drn n zs))) := by
  refine okT F sc_l_names (fun ss R h => ?_) (fun cdv A outer s H E hr => ⟨_, (pss_cons (ps_set (i := 2) sc_l_names.nd rfl (.inl rfl) (pe_lst (pa_cons (pe_str) (pa_cons (pe_str) (pa_cons (pe_str) (pa_cons (pe_str) (pa_cons (pe_str) (pa_cons (pe_str) (pa_cons (pe_str) (pa_cons (pe_str) (pa_cons (pe_str) (pa_cons (pe_str) (pa_cons (pe_str) (pa_cons (pe_str) (pa_cons (pe_str) (pa_cons (pe_str) (pa_nil)))))))))))))))))
 (pss_one (ps_ret (pe_slice (sl_sqK K) (pe_fn g_l_mixed hr rfl (pa_cons (pv 0) (pa_cons (pe_op op_cat (pv 2) (pe_lst (pa_cons (pe_str) (pa_cons (pe_str) (pa_cons (pe_str) (pa_cons (pe_str) (pa_nil))))))) (pa_nil)))) (po_none) (po_some (pv 1)))))), fun B ss R h => ?_⟩)
  · obtain ⟨x, rfl, _⟩ := h
    rfl
  · obtain ⟨n, rfl, ⟨n0, n1⟩, q⟩ := h
    show DS K B _ [.box, .val n, .no] _
    refine dq_asgI (δ := L Str) A14 (DO.l (do_lst (by repeat' first | exact dl_nil | refine dl_cons d_str ?_) (by decide))) ?_
    refine ds_retN (dn_slTo (dn_callb1 (pre := fun xs : L Str => List.length xs ≤ 1000) (P := fun (xs zs : L Str) => List.Perm zs xs) (x := ALLN) rfl (DO.l (do_cat (xs := A14) (ys := ["c", "d", "e", "g"]) (d_var rfl) (DO.l (do_lst (dl_cons d_str (dl_cons d_str (dl_cons d_str (dl_cons d_str dl_nil)))) (by decide))) (by decide))) (by decide)) (d_var rfl)) fun zs hz => q zs ?_
    obtain ⟨xs, pm, rfl⟩ := hz
    obtain ⟨k, rfl⟩ : ∃ k : Nat, n = k := ⟨n.toNat, by omega⟩
    have pl : xs.length = 18 := pm.length_eq
    have e : cutA xs none (some (k : Int)) = xs.take k := cutA_take
    rw [e]
    refine ⟨?_, List.Pairwise.sublist (List.take_sublist k xs) (pm.nodup_iff.mpr (by decide +kernel)), fun z hz => pm.subset (List.mem_of_mem_take hz)⟩
    rw [List.length_take]
    omega
end
end WW

set_option Elab.async false
set_option linter.all false
set_option maxRecDepth 100000
set_option maxHeartbeats 4000000
namespace WW
open PySem PySem.Spec PyProof.Rows L2
/-! ### names, ends, links: what the program asks of any value -/
abbrev SMALLS : Str := "abcdefghijklmnopqrstuvwxyz"
def nameB (z : Str) : Bool := (decide (0 < (z.length : Int)) && decide ((z.length : Int) < 6)) && z.cps.toList.all fun c => decide (c ∈ SMALLS.cps.toList)
def isName : AV → Bool
  | .str z => nameB z
  | _ => false
def freshB (v : AV) (tk : List Str) : Bool := v.isSeq && (v.items.all (fun x => isName x && !decide (x.txt ∈ tk)) && decide (v.items.map AV.txt).Nodup)
def pairB (v : AV) : Bool := v.isTup && (decide (v.items.length = 2) && v.items.all isName)
def labelsOf (v : AV) : List Str := if v.isSeq = true then (v.items.filter pairB).map (fun p => (p.items.getD 0 .non).txt) else []
def dot : Str := "."
def endB (z : Str) : Bool := (decide (1 ≤ (Txt.split z ".").length) && decide ((Txt.split z ".").length ≤ 2)) && (Txt.split z ".").all nameB
def thereB (e : AV) (ns ls : List Str) : Bool := (e.isStr && endB e.txt) && (if decide ((Txt.partition e.txt ".").2.1 = dot) = true then decide ((Txt.partition e.txt ".").1 ∈ ls) else decide (e.txt ∈ ns))
def linkB (v : AV) (bs gs ls : List Str) : Bool := (v.isTup && decide (v.items.length = 4)) && ((thereB (v.items.getD 0 .non) bs ls && thereB (v.items.getD 1 .non) gs ls) && ((v.items.getD 2 .non).isNum && (v.items.getD 3 .non).isNum))
theorem name_str {x : AV} (h : isName x = true) : x.isStr = true ∧ x = .str x.txt ∧ nameB x.txt = true := by
  cases x <;> first | exact ⟨rfl, rfl, h⟩ | cases h
section
variable {K : PySem.W.Frag} {B : Addr → Prop} {ρ ρ' ρ1 ρ2 : List Slot} {ta tb tc td te : TE} {x : AV}
theorem pair_txt {S : Hp} : ∀ {vs : List V} {xs : List AV}, Paired (AV.rep K S) vs xs → (∀ y ∈ xs, y.isStr = true) → Paired (Enc.rep K S) vs (xs.map AV.txt)
  | _, _, .nil, _ => .nil
  | _, y :: r, .cons h t, g => .cons (by
      have := g y List.mem_cons_self
      cases y with
      | str z => rw [AV.rep] at h; exact h
      | _ => cases this) (pair_txt t fun z hz => g z (List.mem_cons_of_mem _ hz))
theorem d_asStrs (h : DE K B te ρ x) (hs : x.isSeq = true) (ha : ∀ y ∈ x.items, y.isStr = true) : DE K B te ρ (x.items.map AV.txt) := (d_asSeq h hs).conv fun S v ⟨hl, p, vs, e, hq, r⟩ => ⟨by rw [List.length_map]; exact hl, p, vs, e, hq, pair_txt r ha⟩
/-- any item of a tuple -/
theorem d_ixA {i : Int} {y : AV} (h : DE K B ta ρ x) (hs : x.isSeq = true) (hi : DE K B tb ρ i) (hy : atI x.items i = some y) : DE K B (tOp (rIxQ K) ta tb) ρ y := d_ix (d_asSeq h hs) hi hy
end
theorem op_inK {X : Cx} (K : PySem.W.Frag) (h : X.K = K := by rfl) : OpR X (compareOp .In) (rIn K false) := by
  subst h
  exact op_in_seq
theorem op_notInK {X : Cx} (K : PySem.W.Frag) (h : X.K = K := by rfl) : OpR X (compareOp .NotIn) (rIn K true) := by
  subst h
  exact op_notIn_seq
theorem all_get {α : Type} {p : α → Bool} {l : List α} (h : l.all p = true) {x : α} (hx : x ∈ l) : p x = true := List.all_eq_true.mp h x hx
section
variable {P : Program} {w : World} {K : PySem.W.Frag} {mg : Str → Option Value} {base : Heap} {f : Addr} {fd : FuncData}
abbrev Sm1 : AV → Prop := fun v => v.sm = true
abbrev dpInt := dp1 (fun _ : AV => True) AV.isInt
abbrev dpNum := dp1 (fun _ : AV => True) AV.isNum
abbrev dpSeq := dp1 (fun _ : AV => True) AV.isSeq
abbrev dpName := dp1 Sm1 isName
abbrev s_is_integer : Stmt := top 16
abbrev N_is_integer : List Str := ["value"]
theorem sc_is_integer : FnScope N_is_integer ["value"] (defScope s_is_integer) := ⟨rfl, rfl, rfl, by decide +kernel, rfl, by decide +kernel, by decide +kernel⟩

theorem ok_is_integer (F : FnP K "is_integer" s_is_integer f fd) (m_isinstance : mg "isinstance" = none) (m_int : mg "int" = none) (m_bool : mg "bool" = none) : FnOk P w K mg base CX0 1 f fd ["value"] (spT K dpInt) := by
  refine okT F sc_is_integer (fun ss R h => ?_) (fun cdv A outer s H E hr => ⟨_, (pss_one (ps_ret (pe_and (pe_callB (call_isiK1 K) rfl m_isinstance (by decide +kernel) (pa_cons (pv 0) (pa_cons (pe_bltn (v := .ty "int") (u := .type "int") rfl m_int (by decide +kernel) rfl) (pa_nil)))) (pe_one (pe_not (pe_callB (call_isiK1 K) rfl m_isinstance (by decide +kernel) (pa_cons (pv 0) (pa_cons (pe_bltn (v := .ty "bool") (u := .type "bool") rfl m_bool (by decide +kernel) rfl) (pa_nil))))))))), fun B ss R h => ?_⟩)
  · obtain ⟨x, rfl, _⟩ := h
    rfl
  · obtain ⟨v, rfl, _, q⟩ := h
    exact ds_ret (d_isIntA (d_var rfl)) q
abbrev s_is_number : Stmt := top 17
abbrev N_is_number : List Str := ["value"]
theorem sc_is_number : FnScope N_is_number ["value"] (defScope s_is_number) := ⟨rfl, rfl, rfl, by decide +kernel, rfl, by decide +kernel, by decide +kernel⟩

theorem ok_is_number (F : FnP K "is_number" s_is_number f fd) (g_is_integer : FnAt P w K mg base CX0 1 "is_integer" ["value"] (spT K dpInt)) : FnOk P w K mg base CX0 2 f fd ["value"] (spT K dpNum) := by
  refine okT F sc_is_number (fun ss R h => ?_) (fun cdv A outer s H E hr => ⟨_, (pss_one (ps_ret (pe_and (pe_fn g_is_integer hr rfl (pa_cons (pv 0) (pa_nil))) (pe_one (pe_cmpR op_ge (pv 0) (pe_int) (nomark _)))))), fun B ss R h => ?_⟩)
  · obtain ⟨x, rfl, _⟩ := h
    rfl
  · obtain ⟨v, rfl, _, q⟩ := h
    refine ds_retE q (d_andV (d_call1 (d_var rfl) trivial) fun h => d_ge (d_asInt (d_var rfl) h) d_int) ?_
    cases v <;> rfl
abbrev s_is_sequence : Stmt := top 18
abbrev N_is_sequence : List Str := ["value"]
theorem sc_is_sequence : FnScope N_is_sequence ["value"] (defScope s_is_sequence) := ⟨rfl, rfl, rfl, by decide +kernel, rfl, by decide +kernel, by decide +kernel⟩

theorem ok_is_sequence (F : FnP K "is_sequence" s_is_sequence f fd) (m_isinstance : mg "isinstance" = none) (m_list : mg "list" = none) (m_tuple : mg "tuple" = none) : FnOk P w K mg base CX0 1 f fd ["value"] (spT K dpSeq) := by
  refine okT F sc_is_sequence (fun ss R h => ?_) (fun cdv A outer s H E hr => ⟨_, (pss_one (ps_ret (pe_callB (call_isiTK K) rfl m_isinstance (by decide +kernel) (pa_cons (pv 0) (pa_cons (pe_tup (pa_cons (pe_bltn (v := .ty "list") (u := .type "list") rfl m_list (by decide +kernel) rfl) (pa_cons (pe_bltn (v := .ty "tuple") (u := .type "tuple") rfl m_tuple (by decide +kernel) rfl) (pa_nil)))) (pa_nil)))))), fun B ss R h => ?_⟩)
  · obtain ⟨x, rfl, _⟩ := h
    rfl
  · obtain ⟨v, rfl, _, q⟩ := h
    exact ds_ret (d_isSeqA (d_var rfl)) q
abbrev s_is_name : Stmt := top 19
abbrev N_is_name : List Str := ["value", "sign"]
theorem sc_is_name : FnScope N_is_name ["value"] (defScope s_is_name) := ⟨rfl, rfl, rfl, by decide +kernel, rfl, by decide +kernel, by decide +kernel⟩

theorem ok_is_name (F : FnP K "is_name" s_is_name f fd) (m_isinstance : mg "isinstance" = none) (m_str : mg "str" = none) (m_len : mg "len" = none) (m_all : mg "all" = none) (v_SMALL : ∃ u, mg "SMALL" = some u ∧ RelV (.str SMALLS) u) : FnOk P w K mg base CX0 1 f fd ["value"] (spT K dpName) := by
  refine okT F sc_is_name (fun ss R h => ?_) (fun cdv A outer s H E hr => ⟨_, (pss_one (ps_ret (pe_and (pe_callB (call_isiK1 K) rfl m_isinstance (by decide +kernel) (pa_cons (pv 0) (pa_cons (pe_bltn (v := .ty "str") (u := .type "str") rfl m_str (by decide +kernel) rfl) (pa_nil)))) (pe_and (pe_chain op_lt op_lt (pe_int) (pe_callB call_len_str rfl m_len (by decide +kernel) (pa_cons (pv 0) (pa_nil))) (pe_int)) (pe_one (pe_callB (cr_allK K) rfl m_all (by decide +kernel) (pa_cons (pe_lc (own := [("sign", 1)]) rfl sc_is_name.nd (pi_str (pv 0)) (blkOk_by (N := N_is_name) (sc := defScope s_is_name) (by decide +kernel)) (fun _ _ _ _ _ => pg_name (i := 1) sc_is_name.nd rfl (.inl rfl)) (fun _ _ _ _ _ => pts_nil) (fun _ _ _ _ _ => pe_cmpR op_in_sign (pv 1) (pe_gv rfl v_SMALL) rfl)) (pa_nil)))))))), fun B ss R h => ?_⟩)
  · obtain ⟨x, rfl, _⟩ := h
    rfl
  · obtain ⟨v, rfl, hv, q⟩ := h
    have hb : v.txt.length ≤ BIG := Nat.le_trans (AV.sm_txt hv) (by decide)
    refine ds_retE q (d_andV (d_isA (d_var rfl) kit_str) fun h => d_andV (d_chLtLt d_int (d_lenS (d_asStrA (d_var rfl) h) hb) d_int) fun _ => d_all (DO.l (do_map (fun z : Str => decide ((z.cps.toList.getD 0 0) ∈ SMALLS.cps.toList)) (di_str (d_asStrA (d_var rfl) h)) (by rw [signs_len]; exact hb) fun x hx => ?_))) ?_
    · obtain ⟨c, _, rfl⟩ := List.mem_map.mp hx
      exact ⟨_, _, dg_name, by simp, d_inSign (d_var rfl) d_str⟩
    · cases v with
      | str z =>
        show (true && ((decide _ && decide _) && ((signs z).map _).all id)) = nameB z
        unfold nameB signs
        rw [List.all_map, List.all_map]
        rfl
      | _ => rfl
abbrev s_is_end : Stmt := top 24
abbrev N_is_end : List Str := ["word", "names", "name"]
theorem sc_is_end : FnScope N_is_end ["word"] (defScope s_is_end) := ⟨rfl, rfl, rfl, by decide +kernel, rfl, by decide +kernel, by decide +kernel⟩

theorem ok_is_end (F : FnP K "is_end" s_is_end f fd) (m_len : mg "len" = none) (m_all : mg "all" = none) (g_is_name : FnAt P w K mg base CX0 1 "is_name" ["value"] (spT K dpName)) : FnOk P w K mg base CX0 2 f fd ["word"] (spT K (dp1 (fun z : Str => z.length ≤ 1000) endB)) := by
  refine okT F sc_is_end (fun ss R h => ?_) (fun cdv A outer s H E hr => ⟨_, (pss_cons (ps_set (i := 1) sc_is_end.nd rfl (.inl rfl) (pe_split (pv 0) pe_str))
 (pss_one (ps_ret (pe_and (pe_chain op_le op_le (pe_int) (pe_callB (call_lenK K) rfl m_len (by decide +kernel) (pa_cons (pv 1) (pa_nil))) (pe_int)) (pe_one (pe_callB (cr_allK K) rfl m_all (by decide +kernel) (pa_cons (pe_lc (own := [("name", 2)]) rfl sc_is_end.nd (pi_seqK K (pv 1)) (blkOk_by (N := N_is_end) (sc := defScope s_is_end) (by decide +kernel)) (fun _ _ _ _ _ => pg_name (i := 2) sc_is_end.nd rfl (.inl rfl)) (fun _ _ _ _ _ => pts_nil) (fun _ _ _ _ _ => pe_fn g_is_name hr rfl (pa_cons (pv 2) (pa_nil)))) (pa_nil)))))))), fun B ss R h => ?_⟩)
  · obtain ⟨x, rfl, _⟩ := h
    rfl
  · obtain ⟨z, rfl, hz, q⟩ := h
    show DS K B _ [.val z, .no, .no] _
    have sw := PyProof.Rows.split_weight z "." (by decide)
    have wl : (Txt.split z ".").length ≤ 1001 := by omega
    have wp : ∀ w ∈ Txt.split z ".", w.length ≤ 1000 := fun w hw => by
      have : w.length ≤ ((Txt.split z ".").map (·.length)).sum := by
        clear sw wl
        generalize Txt.split z "." = l at hw
        induction l with
        | nil => cases hw
        | cons a r ih =>
          rw [List.map_cons, List.sum_cons]
          rcases List.mem_cons.mp hw with e | e
          · rw [e]; omega
          · have := ih e; omega
      have l1 : 0 < (Txt.split z ".").length := List.length_pos_of_mem hw
      omega
    refine dq_asgI (δ := L Str) (Txt.split z ".") (DO.l (do_split (d_var rfl) d_str (by decide) (Nat.le_trans (Nat.add_le_add_right hz 2) (by decide)) (Nat.le_trans wl (by decide)))) ?_
    show DS K B _ [.val z, .val (α := L Str) (Txt.split z "."), .no] _
    refine ds_retE q (d_andV (d_chLeLe d_int (d_len (d_Lq (d_var rfl))) d_int) fun _ => d_all (DO.l (do_map nameB (di_seq (d_Lq (d_var rfl))) (Nat.le_trans wl (by decide)) fun x hx => ⟨_, _, dg_name, by simp, (d_call1 (x := AV.str x) (f := isName) (d_avS (d_var rfl)) ?_)⟩))) ?_
    · show AV.sm (.str x) = true
      rw [AV.sm]
      exact decide_eq_true (wp x hx)
    · unfold endB
      rw [List.all_map]
      have e1 : decide ((1 : Int) ≤ ((Txt.split z ".").length : Int)) = decide (1 ≤ (Txt.split z ".").length) := by congr 1; exact propext ⟨fun h => by omega, fun h => by omega⟩
      have e2 : decide (((Txt.split z ".").length : Int) ≤ 2) = decide ((Txt.split z ".").length ≤ 2) := by congr 1; exact propext ⟨fun h => by omega, fun h => by omega⟩
      show (decide ((1 : Int) ≤ ((Txt.split z ".").length : Int)) && decide (((Txt.split z ".").length : Int) ≤ 2) && _) = _
      rw [e1, e2]
      rfl
abbrev s_are_fresh : Stmt := top 35
abbrev N_are_fresh : List Str := ["value", "taken", "name"]
theorem sc_are_fresh : FnScope N_are_fresh ["value", "taken"] (defScope s_are_fresh) := ⟨rfl, rfl, rfl, by decide +kernel, rfl, by decide +kernel, by decide +kernel⟩

theorem ok_are_fresh (F : FnP K "are_fresh" s_are_fresh f fd) (m_len : mg "len" = none) (m_all : mg "all" = none) (m_set : mg "set" = none) (g_is_sequence : FnAt P w K mg base CX0 1 "is_sequence" ["value"] (spT K dpSeq)) (g_is_name : FnAt P w K mg base CX0 1 "is_name" ["value"] (spT K dpName)) : FnOk P w K mg base CX0 2 f fd ["value", "taken"] (spT K (dp2 (fun v (_ : List Str) => Sm1 v) freshB)) := by
  refine okT F sc_are_fresh (fun ss R h => ?_) (fun cdv A outer s H E hr => ⟨_, (pss_cons (ps_if (PW.pt (pw_or (pt_not (pt_val (pe_fn g_is_sequence hr rfl (pa_cons (pv 0) (pa_nil))))) (pw_or1 (pt_not (pt_val (pe_callB (cr_allK K) rfl m_all (by decide +kernel) (pa_cons (pe_lc (own := [("name", 2)]) rfl sc_are_fresh.nd (pi_seqK K (pv 0)) (blkOk_by (N := N_are_fresh) (sc := defScope s_are_fresh) (by decide +kernel)) (fun _ _ _ _ _ => pg_name (i := 2) sc_are_fresh.nd rfl (.inl rfl)) (fun _ _ _ _ _ => pts_nil) (fun _ _ _ _ _ => pe_and (pe_fn g_is_name hr rfl (pa_cons (pv 2) (pa_nil))) (pe_one (pe_cmpR (op_notInK K) (pv 2) (pv 1) rfl)))) (pa_nil)))))))) (pss_one (ps_ret (pe_bl))) (pss_nil))
 (pss_one (ps_ret (pe_cmpR op_eq (pe_lenSetT K rfl rfl m_len rfl m_set (pv 0)) (pe_callB (call_lenK K) rfl m_len (by decide +kernel) (pa_cons (pv 0) (pa_nil))) (nomark _))))), fun B ss R h => ?_⟩)
  · obtain ⟨x, y, rfl, _⟩ := h
    rfl
  · obtain ⟨v, tk, rfl, hv, q⟩ := h
    obtain ⟨il, ism⟩ := AV.sm_items hv
    refine dq_when (c := !v.isSeq || !(v.items.all fun x => isName x && !decide (x.txt ∈ tk))) (dt_or (dt_not (dt_B (d_call1 (d_var rfl) trivial))) fun h => dt_not (dt_B ?_)) (fun h => ?_) (fun h => ?_)
    · have hs : v.isSeq = true := by cases hh : v.isSeq <;> simp [hh] at h ⊢
      refine DE.is (d_all (DO.l (do_map (fun x : AV => isName x && !decide (x.txt ∈ tk)) (di_seq (d_asSeq (d_var rfl) hs)) (Nat.le_trans il (by decide)) fun x hx => ⟨_, _, dg_name, by simp, d_andV (d_call1 (d_var rfl) (ism x hx)) fun hn => d_notInS (d_asStrA (d_var rfl) (name_str hn).1) (d_var rfl)⟩))) ?_
      rw [List.all_map]
      rfl
    · refine ds_retE q d_bl ?_
      show false = freshB v tk
      unfold freshB
      cases h1 : v.isSeq
      · rfl
      · rw [h1] at h
        cases h2 : (v.items.all fun x => isName x && !decide (x.txt ∈ tk))
        · rfl
        · rw [h2] at h; cases h
    · have hh : v.isSeq = true ∧ (v.items.all fun x => isName x && !decide (x.txt ∈ tk)) = true := by
        revert h
        cases v.isSeq <;> cases (v.items.all fun x => isName x && !decide (x.txt ∈ tk)) <;> simp
      have hn : ∀ y ∈ v.items, y.isStr = true := fun y hy => by
        have := all_get hh.2 hy
        rw [Bool.and_eq_true] at this
        exact (name_str this.1).1
      refine ds_retE q (d_eq (d_lenSet (d_asStrs (d_var rfl) hh.1 hn) (by rw [List.length_map]; omega)) (d_len (d_asSeq (d_var rfl) hh.1)) inferInstance inferInstance) ?_
      unfold freshB
      rw [hh.1, hh.2, Bool.true_and, Bool.true_and]
      congr 1
      rw [List.length_map]
      have e := unl_all (xs := v.items.map AV.txt)
      rw [List.length_map] at e
      exact propext ⟨fun z => e.mp (by omega), fun z => by have := e.mpr z; omega⟩
abbrev s_is_pair : Stmt := top 36
abbrev N_is_pair : List Str := ["value", "word"]
theorem sc_is_pair : FnScope N_is_pair ["value"] (defScope s_is_pair) := ⟨rfl, rfl, rfl, by decide +kernel, rfl, by decide +kernel, by decide +kernel⟩

theorem ok_is_pair (F : FnP K "is_pair" s_is_pair f fd) (m_isinstance : mg "isinstance" = none) (m_tuple : mg "tuple" = none) (m_len : mg "len" = none) (m_all : mg "all" = none) (g_is_name : FnAt P w K mg base CX0 1 "is_name" ["value"] (spT K dpName)) : FnOk P w K mg base CX0 2 f fd ["value"] (spT K (dp1 Sm1 pairB)) := by
  refine okT F sc_is_pair (fun ss R h => ?_) (fun cdv A outer s H E hr => ⟨_, (pss_one (ps_ret (pe_and (pe_callB (call_isiK1 K) rfl m_isinstance (by decide +kernel) (pa_cons (pv 0) (pa_cons (pe_bltn (v := .ty "tuple") (u := .type "tuple") rfl m_tuple (by decide +kernel) rfl) (pa_nil)))) (pe_and (pe_cmpR op_eq (pe_callB (call_lenK K) rfl m_len (by decide +kernel) (pa_cons (pv 0) (pa_nil))) (pe_int) (nomark _)) (pe_one (pe_callB (cr_allK K) rfl m_all (by decide +kernel) (pa_cons (pe_lc (own := [("word", 1)]) rfl sc_is_pair.nd (pi_seqK K (pv 0)) (blkOk_by (N := N_is_pair) (sc := defScope s_is_pair) (by decide +kernel)) (fun _ _ _ _ _ => pg_name (i := 1) sc_is_pair.nd rfl (.inl rfl)) (fun _ _ _ _ _ => pts_nil) (fun _ _ _ _ _ => pe_fn g_is_name hr rfl (pa_cons (pv 1) (pa_nil)))) (pa_nil)))))))), fun B ss R h => ?_⟩)
  · obtain ⟨x, rfl, _⟩ := h
    rfl
  · obtain ⟨v, rfl, hv, q⟩ := h
    obtain ⟨il, ism⟩ := AV.sm_items hv
    have ts : v.isTup = true → v.isSeq = true := fun h => by cases v <;> first | rfl | cases h
    refine ds_retE q (d_andV (d_isA (d_var rfl) kit_tup) fun h => d_andV (d_eq (d_len (d_asSeq (d_var rfl) (ts h))) d_int inferInstance inferInstance) fun _ => d_all (DO.l (do_map isName (di_seq (d_asSeq (d_var rfl) (ts h))) (Nat.le_trans il (by decide)) fun x hx => ⟨_, _, dg_name, by simp, d_call1 (d_var rfl) (ism x hx)⟩))) ?_
    unfold pairB
    rw [List.all_map]
    have e : decide ((v.items.length : Int) = 2) = decide (v.items.length = 2) := by congr 1; exact propext ⟨fun h => by omega, fun h => by omega⟩
    rw [e]
    rfl
abbrev s_labels_in : Stmt := top 37
abbrev N_labels_in : List Str := ["calls", "pair"]
theorem sc_labels_in : FnScope N_labels_in ["calls"] (defScope s_labels_in) := ⟨rfl, rfl, rfl, by decide +kernel, rfl, by decide +kernel, by decide +kernel⟩

theorem ok_labels_in (F : FnP K "labels_in" s_labels_in f fd) (g_is_sequence : FnAt P w K mg base CX0 1 "is_sequence" ["value"] (spT K dpSeq)) (g_is_pair : FnAt P w K mg base CX0 2 "is_pair" ["value"] (spT K (dp1 Sm1 pairB))) : FnOk P w K mg base CX0 3 f fd ["calls"] (spT K (dp1 (γ := L Str) Sm1 labelsOf)) := by
  refine okT F sc_labels_in (fun ss R h => ?_) (fun cdv A outer s H E hr => ⟨_, (pss_one (ps_ret (pe_ifExp (pt_val (pe_fn g_is_sequence hr rfl (pa_cons (pv 0) (pa_nil)))) (pe_lc (own := [("pair", 1)]) rfl sc_labels_in.nd (pi_seqK K (pv 0)) (blkOk_by (N := N_labels_in) (sc := defScope s_labels_in) (by decide +kernel)) (fun _ _ _ _ _ => pg_name (i := 1) sc_labels_in.nd rfl (.inl rfl)) (fun _ _ _ _ _ => pts_one (pt_val (pe_fn g_is_pair hr rfl (pa_cons (pv 1) (pa_nil))))) (fun _ _ _ _ _ => pe_ix (ix_sqK K) (pv 1) (pe_int) (fun _ _ => rfl))) (pe_lst (pa_nil))))), fun B ss R h => ?_⟩)
  · obtain ⟨x, rfl, _⟩ := h
    rfl
  · obtain ⟨v, rfl, hv, q⟩ := h
    obtain ⟨il, ism⟩ := AV.sm_items hv
    refine ds_ret (α := L Str) (a := labelsOf v) ((d_if (a1 := (v.items.filter pairB).map (fun p => (p.items.getD 0 .non).txt)) (a2 := ([] : List Str)) (α := L Str) (dt_B (d_call1 (d_var rfl) trivial)) (fun h => DO.l (do_lc pairB (fun p => (p.items.getD 0 .non).txt) (di_seq (d_asSeq (d_var rfl) h)) (Nat.le_trans il (by decide)) fun x hx => ⟨_, _, dg_name, by simp, dt_B (d_call1 (d_var rfl) (ism x hx)), fun hp => ?_⟩)) (fun _ => DO.l (do_lst dl_nil (by decide)))).is rfl) q
    unfold pairB at hp
    simp only [Bool.and_eq_true, decide_eq_true_eq] at hp
    have hs : x.isSeq = true := by cases x <;> first | rfl | cases hp.1
    have h0 : 0 < x.items.length := by omega
    have e : x.items[0]? = some (x.items.getD 0 .non) := by rw [List.getD_eq_getElem?_getD, List.getElem?_eq_getElem h0]; rfl
    exact d_asStrA (d_ixA (d_var rfl) hs d_int (atI_nat (j := 0) e)) (name_str (all_get hp.2.2 (List.mem_of_getElem? e))).1
abbrev s_is_there : Stmt := top 38
abbrev N_is_there : List Str := ["end", "names", "labels", "label", "point", "name"]
theorem sc_is_there : FnScope N_is_there ["end", "names", "labels"] (defScope s_is_there) := ⟨rfl, rfl, rfl, by decide +kernel, rfl, by decide +kernel, by decide +kernel⟩

theorem ok_is_there (F : FnP K "is_there" s_is_there f fd) (m_isinstance : mg "isinstance" = none) (m_str : mg "str" = none) (g_is_end : FnAt P w K mg base CX0 2 "is_end" ["word"] (spT K (dp1 (fun z : Str => z.length ≤ 1000) endB))) : FnOk P w K mg base CX0 3 f fd ["end", "names", "labels"] (spT K (dp3 (fun v (_ _ : List Str) => Sm1 v) thereB)) := by
  refine okT F sc_is_there (fun ss R h => ?_) (fun cdv A outer s H E hr => ⟨_, (pss_cons (ps_if (PW.pt (pw_or (pt_not (pt_val (pe_callB (call_isiK1 K) rfl m_isinstance (by decide +kernel) (pa_cons (pv 0) (pa_cons (pe_bltn (v := .ty "str") (u := .type "str") rfl m_str (by decide +kernel) rfl) (pa_nil)))))) (pw_or1 (pt_not (pt_val (pe_fn g_is_end hr rfl (pa_cons (pv 0) (pa_nil)))))))) (pss_one (ps_ret (pe_bl))) (pss_nil))
 (pss_cons (ps_asg (pe_partition (pv 0) pe_str) (pg_tupK (n := 3) K rfl (pgs_cons (pg_name (i := 3) sc_is_there.nd rfl (.inl rfl)) (pgs_cons (pg_name (i := 4) sc_is_there.nd rfl (.inl rfl)) (pgs_cons (pg_name (i := 5) sc_is_there.nd rfl (.inl rfl)) (pgs_nil))))))
 (pss_one (ps_ret (pe_ifExp (pt_cmpR op_eq (pv 4) (pe_str) (nomark _)) (pe_cmpR (op_inK K) (pv 3) (pv 2) rfl) (pe_cmpR (op_inK K) (pv 0) (pv 1) rfl)))))), fun B ss R h => ?_⟩)
  · obtain ⟨x, y, z, rfl, _⟩ := h
    rfl
  · obtain ⟨v, ns, ls, rfl, hv, q⟩ := h
    have zl := AV.sm_txt hv
    refine dq_when (c := !v.isStr || !endB v.txt) (dt_or (dt_not (dt_B (d_isA (d_var rfl) kit_str))) fun h => dt_not (dt_B (d_call1 (d_asStrA (d_var rfl) (by cases hh : v.isStr <;> simp [hh] at h ⊢)) zl))) (fun h => ?_) (fun h => ?_)
    · refine ds_retE q d_bl ?_
      unfold thereB
      cases h1 : v.isStr
      · rfl
      · rw [h1] at h
        cases h2 : endB v.txt
        · rfl
        · rw [h2] at h; cases h
    · have hh : v.isStr = true ∧ endB v.txt = true := by
        revert h
        cases v.isStr <;> cases endB v.txt <;> simp
      refine dq_asgG (d_partition (d_asStrA (d_var rfl) hh.1) d_str (by decide) (Nat.le_trans zl (by decide))) (DG.trip dg_name dg_name dg_name) ?_
      refine ds_retE q (d_if (dt_test (d_eq (d_var rfl) d_str inferInstance inferInstance)) (fun _ => d_inS (d_var rfl) (d_var rfl)) (fun _ => d_inS (d_asStrA (d_var rfl) hh.1) (d_var rfl))) ?_
      unfold thereB
      rw [hh.1, hh.2]
      rfl
abbrev s_is_link : Stmt := top 39
abbrev N_is_link : List Str := ["value", "begins", "goes", "labels"]
theorem sc_is_link : FnScope N_is_link ["value", "begins", "goes", "labels"] (defScope s_is_link) := ⟨rfl, rfl, rfl, by decide +kernel, rfl, by decide +kernel, by decide +kernel⟩

theorem ok_is_link (F : FnP K "is_link" s_is_link f fd) (m_isinstance : mg "isinstance" = none) (m_tuple : mg "tuple" = none) (m_len : mg "len" = none) (g_is_there : FnAt P w K mg base CX0 3 "is_there" ["end", "names", "labels"] (spT K (dp3 (fun v (_ _ : List Str) => Sm1 v) thereB))) (g_is_number : FnAt P w K mg base CX0 2 "is_number" ["value"] (spT K dpNum)) : FnOk P w K mg base CX0 4 f fd ["value", "begins", "goes", "labels"] (spT K (dp4 (fun v (_ _ _ : List Str) => Sm1 v) linkB)) := by
  refine okT F sc_is_link (fun ss R h => ?_) (fun cdv A outer s H E hr => ⟨_, (pss_cons (ps_if (PW.pt (pw_or (pt_not (pt_val (pe_callB (call_isiK1 K) rfl m_isinstance (by decide +kernel) (pa_cons (pv 0) (pa_cons (pe_bltn (v := .ty "tuple") (u := .type "tuple") rfl m_tuple (by decide +kernel) rfl) (pa_nil)))))) (pw_or1 (pt_cmpR op_ne (pe_callB (call_lenK K) rfl m_len (by decide +kernel) (pa_cons (pv 0) (pa_nil))) (pe_int) (nomark _))))) (pss_one (ps_ret (pe_bl))) (pss_nil))
 (pss_cons (ps_if (PW.pt (pw_or (pt_not (pt_val (pe_fn g_is_there hr rfl (pa_cons (pe_ix (ix_sqK K) (pv 0) (pe_int) (fun _ _ => rfl)) (pa_cons (pv 1) (pa_cons (pv 3) (pa_nil))))))) (pw_or1 (pt_not (pt_val (pe_fn g_is_there hr rfl (pa_cons (pe_ix (ix_sqK K) (pv 0) (pe_int) (fun _ _ => rfl)) (pa_cons (pv 2) (pa_cons (pv 3) (pa_nil)))))))))) (pss_one (ps_ret (pe_bl))) (pss_nil))
 (pss_one (ps_ret (pe_and (pe_fn g_is_number hr rfl (pa_cons (pe_ix (ix_sqK K) (pv 0) (pe_int) (fun _ _ => rfl)) (pa_nil))) (pe_one (pe_fn g_is_number hr rfl (pa_cons (pe_ix (ix_sqK K) (pv 0) (pe_int) (fun _ _ => rfl)) (pa_nil))))))))), fun B ss R h => ?_⟩)
  · obtain ⟨x, y, z, u, rfl, _⟩ := h
    rfl
  · obtain ⟨v, bs, gs, ls, rfl, hv, q⟩ := h
    obtain ⟨il, ism⟩ := AV.sm_items hv
    have ts : v.isTup = true → v.isSeq = true := fun h => by cases v <;> first | rfl | cases h
    have e4 : decide ((v.items.length : Int) = 4) = decide (v.items.length = 4) := by congr 1; exact propext ⟨fun h => by omega, fun h => by omega⟩
    refine dq_when (c := !v.isTup || !decide (v.items.length = 4)) (dt_or (dt_not (dt_B (d_isA (d_var rfl) kit_tup))) fun h => DT.is (dt_test (d_ne (d_len (d_asSeq (d_var rfl) (ts (by cases hh : v.isTup <;> simp [hh] at h ⊢)))) d_int inferInstance inferInstance)) (by rw [e4])) (fun h => ?_) (fun h => ?_)
    · refine ds_retE q d_bl ?_
      unfold linkB
      cases h1 : v.isTup
      · rfl
      · rw [h1] at h
        cases h2 : decide (v.items.length = 4)
        · rfl
        · rw [h2] at h; cases h
    · have hh : v.isTup = true ∧ decide (v.items.length = 4) = true := by
        revert h
        cases v.isTup <;> cases decide (v.items.length = 4) <;> simp
      have l4 := of_decide_eq_true hh.2
      have gt : ∀ k : Nat, k < 4 → v.items[k]? = some (v.items.getD k .non) := fun k hk => by rw [List.getD_eq_getElem?_getD, List.getElem?_eq_getElem (by omega)]; rfl
      have sm : ∀ k : Nat, k < 4 → Sm1 (v.items.getD k .non) := fun k hk => ism _ (List.mem_of_getElem? (gt k hk))
      refine dq_when (c := !thereB (v.items.getD 0 .non) bs ls || !thereB (v.items.getD 1 .non) gs ls) (dt_or (dt_not (dt_B (d_call3 (d_ixA (d_var rfl) (ts hh.1) d_int (atI_nat (j := 0) (gt 0 (by decide)))) (d_var rfl) (d_var rfl) (sm 0 (by decide))))) fun _ => dt_not (dt_B (d_call3 (d_ixA (d_var rfl) (ts hh.1) d_int (atI_nat (j := 1) (gt 1 (by decide)))) (d_var rfl) (d_var rfl) (sm 1 (by decide))))) (fun h => ?_) (fun h => ?_)
      · refine ds_retE q d_bl ?_
        unfold linkB
        rw [hh.1, hh.2]
        revert h
        cases thereB (v.items.getD 0 .non) bs ls <;> cases thereB (v.items.getD 1 .non) gs ls <;> simp
      · refine ds_retE q (d_andV (d_call1 (d_ixA (d_var rfl) (ts hh.1) d_int (atI_nat (j := 2) (gt 2 (by decide)))) trivial) fun _ => d_call1 (d_ixA (d_var rfl) (ts hh.1) d_int (atI_nat (j := 3) (gt 3 (by decide)))) trivial) ?_
        unfold linkB
        rw [hh.1, hh.2]
        revert h
        cases thereB (v.items.getD 0 .non) bs ls <;> cases thereB (v.items.getD 1 .non) gs ls <;> simp
end
end WW

set_option Elab.async false
set_option linter.all false
set_option maxRecDepth 100000
set_option maxHeartbeats 4000000
namespace WW
open PySem PySem.Spec PyProof.Rows L2
/-! ### Module(..) -/
structure M6 where
  n : AV
  i : AV
  o : AV
  s : AV
  l : AV
  c : AV
def AV.names (v : AV) : List Str := v.items.map AV.txt
def M6.begins (m : M6) : List Str := m.i.names ++ m.s.names
def M6.goes (m : M6) : List Str := m.s.names ++ m.o.names
def M6.linksB (m : M6) : Bool := m.l.isSeq && m.l.items.all fun k => linkB k m.begins m.goes (labelsOf m.c)
def strsA (zs : List Str) : AV := .lst (zs.map .str)
def M6.callsB (m : M6) : Bool := m.c.isSeq && !decide ((labelsOf m.c).length < m.c.items.length)
def wrongMod (m : M6) : Option Str :=
  if isName m.n = false then some "name"
  else if freshB m.i [] = false then some "inlets"
  else if freshB m.o m.i.names = false then some "outlets"
  else if freshB m.s (m.i.names ++ m.o.names) = false then some "stations"
  else if m.linksB = false then some "links"
  else if m.callsB = false then some "calls"
  else if freshB (strsA (labelsOf m.c)) (m.i.names ++ m.o.names ++ m.s.names) = false then some "calls"
  else none
structure M6.Sm (m : M6) : Prop where
  n : m.n.sm = true
  i : m.i.sm = true
  o : m.o.sm = true
  s : m.s.sm = true
  l : m.l.sm = true
  c : m.c.sm = true
/-- the attributes of a module -/
def ModF (K : PySem.W.Frag) (S : Hp) (fs : List (Str × V)) (m : M6) : Prop := ∃ v0 v1 v2 v3 v4 v5, fs = ([("name", v0), ("inlets", v1), ("outlets", v2), ("stations", v3), ("links", v4), ("calls", v5)] : List (Str × V)) ∧ AV.rep K S v0 m.n ∧
  Enc.rep K S v1 (show U AV from m.i.items) ∧ Enc.rep K S v2 (show U AV from m.o.items) ∧ Enc.rep K S v3 (show U AV from m.s.items) ∧ Enc.rep K S v4 (show U AV from m.l.items) ∧ Enc.rep K S v5 (show U AV from m.c.items)
def noB : Addr → Prop := fun _ => False
/-- only x was changed -/
structure Off (x : Addr) (S H S' H' : Hp) : Prop where
  s : Same S S'
  i : Same S' H'
  x0 : S' x = none
  p : ∀ a, S a = none → H a ≠ none → a ≠ x → S' a = none ∧ H' a = H a
section
variable {x : Addr} {S H S1 H1 S2 H2 : Hp}
theorem Off.refl (i : Same S H) (sx : S x = none) : Off x S H S H := ⟨Same.refl S, i, sx, fun a h _ _ => ⟨h, rfl⟩⟩
theorem Off.ext (o : Off x S H S1 H1) (e : Ext noB S1 H1 S2 H2) (hx : H1 x ≠ none) : Off x S H S2 H2 := by
  refine ⟨o.s.trans e.s, e.i, (e.p x o.x0 hx).1, fun a h1 h2 h3 => ?_⟩
  obtain ⟨q1, q2⟩ := o.p a h1 h2 h3
  obtain ⟨r1, r2⟩ := e.p a q1 (by rw [q2]; exact h2)
  refine ⟨r1, ?_⟩
  rcases r2 with r2 | ⟨z, _⟩
  · rw [r2, q2]
  · exact z.elim
theorem Off.put {u : HO} (o : Off x S H S1 H1) : Off x S H S1 (upd H1 x u) := by
  refine ⟨o.s, fun a v h => ?_, o.x0, fun a h1 h2 h3 => ?_⟩
  · rw [upd_ne (fun z => by rw [z, o.x0] at h; cases h)]
    exact o.i _ _ h
  · rw [upd_ne h3]
    exact o.p a h1 h2 h3
end
def modX (CI : Addr) (m : M6) : XP := fun C fs => C = CI ∧ ∃ w, wrongMod m = some w ∧ fs = ([("word", .str w)] : List (Str × V))
def spInitMod (K : PySem.W.Frag) (C CI : Addr) : Sp := fun vs H Q E => ∃ (S : Hp) (x dx : Addr) (m : M6), Same S H ∧ S x = none ∧ H x = some (.ins C dx []) ∧
  ArgsOk K noB H S H vs [.val (V.ref x), .val m.n, .val m.i, .val m.o, .val m.s, .val m.l, .val m.c] ∧ m.Sm ∧ PX noB (modX CI m) E S H ∧
  (wrongMod m = none → ∀ S' H' fs, Off x S H S' H' → H' x = some (.ins C dx fs) → ModF K S' fs m → Q .non H')
theorem fresh_ok {v : AV} {tk : List Str} (h : freshB v tk = true) : v.isSeq = true ∧ (∀ y ∈ v.items, y.isStr = true) ∧ v.names.Nodup ∧ (∀ z ∈ v.names, z ∉ tk ∧ nameB z = true) := by
  unfold freshB at h
  simp only [Bool.and_eq_true, List.all_eq_true, decide_eq_true_eq, Bool.not_eq_true', decide_eq_false_iff_not] at h
  obtain ⟨h1, h2, h3⟩ := h
  refine ⟨h1, fun y hy => (name_str (h2 y hy).1).1, h3, fun z hz => ?_⟩
  obtain ⟨y, hy, rfl⟩ := List.mem_map.mp hz
  exact ⟨(h2 y hy).2, (name_str (h2 y hy).1).2.2⟩
section
variable {K : PySem.W.Frag} {B : Addr → Prop} {ρ ρ' ρ1 ρ2 : List Slot} {ta tb tc td te : TE} {ts tz : TS} {Φ : Post} {x : AV}
theorem DS.run (h : DS K B ts ρ Φ) {S0 H0 S H : Hp} {σ : L2.St} {D : Ends} (E : En K B S0 H0 S H σ ρ) (px : Φ.px S0 H0) (n : ∀ ρ' σ' S' H', Φ.nx ρ' → Same S S' → En K B S0 H0 S' H' σ' ρ' → tz D σ' H') (r : ∀ s, Φ.rt s → False) (b : ∀ s, Φ.bk s → False) (c : ∀ s, Φ.ct s → False) : tSeq ts tz D σ H :=
  h S0 H0 S H σ { D with nx := tz D } E px n (fun s _ _ _ h => (r s h).elim) (fun s _ _ _ h => (b s h).elim) (fun s _ _ _ h => (c s h).elim)
/-- from here on as if begun here: nothing is owned, no box -/
theorem En.anew {S0 H0 S H H' : Hp} {σ : L2.St} (E : En K B S0 H0 S H σ ρ) (i : Same S H') (hv : ∀ s ∈ ρ, s.plain = true) : En K noB S H' S H' σ ρ := by
  refine ⟨i, fun _ h => h.elim, Ext.refl i, E.len, fun k s hs => ?_, fun k j s u n h1 h2 o1 o2 => ?_⟩
  · obtain ⟨o, e, ok⟩ := E.at' k s hs
    refine ⟨o, e, ?_⟩
    have q1 := hv s (List.mem_of_getElem? hs)
    cases s with
    | no => cases o <;> trivial
    | val a =>
      cases o with
      | none => exact ok
      | some v => exact ok
    | _ => cases q1
  · have q1 := hv s (List.mem_of_getElem? h1)
    cases s with
    | obj P => cases q1
    | _ => cases o1
theorem DL.is {α : Type} {e : Enc α} {ta : TA} {xs ys : List α} (h : DL K B ta ρ xs) (e : xs = ys) : DL K B ta ρ ys := e ▸ h
theorem d_names (h : DE K B te ρ x) (hs : x.isSeq = true) (ha : ∀ y ∈ x.items, y.isStr = true) : DE K B te ρ x.names := d_asStrs h hs ha
theorem names_len {v : AV} (h : v.sm = true) : v.names.length ≤ 1000 := by
  unfold AV.names
  rw [List.length_map]
  exact (AV.sm_items h).1
/-- self.f = tuple(a), self at x -/
theorem fld_step {S0 H0 S H : Hp} {σ : L2.St} {x C dx : Addr} {fs : List (Str × V)} {a : AV} {f : Str} {k : Nat} {D : Ends} (CC : Cls K C) (NA : NoAttr K C f) (E : En K B S0 H0 S H σ ρ) (hv : ∀ s ∈ ρ, s.plain = true) (h0 : ρ[0]? = some (.val (V.ref x))) (hk : ρ[k]? = some (.val a)) (sq : a.isSeq = true) (sx : S x = none) (hx : H x = some (.ins C dx fs)) (few : fs.length < 1000)
    (next : ∀ v S' H', Ext noB S H S' H' → En K noB S H S' H' σ ρ → Enc.rep K S' v (show U AV from a.items) → H' x = some (.ins C dx fs) → D.nx σ (upd H' x (.ins C dx (putF f v fs)))) : sFld K (tVar 0) (tCB (rTupQ K) (tCons (tVar k) tNil)) f D σ H := by
  have E1 := E.anew E.i hv
  refine (d_tuple (d_asSeq (x := a) (d_var hk) sq) : DE K noB _ ρ (α := U AV) a.items) S H S H σ E1 _ fun v S1 H1 e1 r1 => ?_
  obtain ⟨p1, p2⟩ := e1.p x sx (by rw [hx]; exact fun z => nomatch z)
  have hx1 : H1 x = some (.ins C dx fs) := by
    rcases p2 with z | ⟨z, _⟩
    · rw [z, hx]
    · exact z.elim
  obtain ⟨vx, gx, wx⟩ := E1.val h0
  cases wx
  exact ⟨_, gx, x, C, dx, fs, rfl, hx1, CC, NA, few, next v S1 H1 e1 (E1.go e1) r1 hx1⟩
theorem nameB_len {z : Str} (h : nameB z = true) : z.length ≤ 5 := by
  unfold nameB at h
  simp only [Bool.and_eq_true, decide_eq_true_eq] at h
  omega
theorem strsA_sm {zs : List Str} (h : zs.length ≤ 1000) (hz : ∀ z ∈ zs, z.length ≤ 1000) : (strsA zs).sm = true := by
  unfold strsA
  rw [AV.sm, Bool.and_eq_true, List.length_map, AV.sms_iff]
  refine ⟨decide_eq_true h, fun y hy => ?_⟩
  obtain ⟨z, hm, rfl⟩ := List.mem_map.mp hy
  rw [AV.sm]
  exact decide_eq_true (hz z hm)
theorem labels_name {v : AV} : ∀ z ∈ labelsOf v, nameB z = true := fun z hz => by
  unfold labelsOf at hz
  split at hz
  · obtain ⟨p, hp, rfl⟩ := List.mem_map.mp hz
    obtain ⟨_, hp⟩ := List.mem_filter.mp hp
    unfold pairB at hp
    simp only [Bool.and_eq_true, decide_eq_true_eq] at hp
    have e : p.items[0]? = some (p.items.getD 0 .non) := by rw [List.getD_eq_getElem?_getD, List.getElem?_eq_getElem (by omega)]; rfl
    exact (name_str (all_get hp.2.2 (List.mem_of_getElem? e))).2.2
  · cases hz
theorem labels_len {v : AV} (h : v.sm = true) : (labelsOf v).length ≤ 1000 := by
  unfold labelsOf
  split
  · rw [List.length_map]
    exact Nat.le_trans (List.length_filter_le _ _) (AV.sm_items h).1
  · exact Nat.zero_le _
end
section
variable {P : Program} {w : World} {K : PySem.W.Frag} {mg : Str → Option Value} {base : Heap} {f : Addr} {fd : FuncData}
/-- what of the text the class must have -/
structure ModC (K : PySem.W.Frag) (C : Addr) : Prop where
  cls : Cls K C
  n : PySem.W.findIn K (.ref C) "name" = some none
  i : PySem.W.findIn K (.ref C) "inlets" = some none
  o : PySem.W.findIn K (.ref C) "outlets" = some none
  s : PySem.W.findIn K (.ref C) "stations" = some none
  l : PySem.W.findIn K (.ref C) "links" = some none
  c : PySem.W.findIn K (.ref C) "calls" = some none
abbrev s_Module___init__ : Stmt := inClass (top 40) 0
abbrev N_Module___init__ : List Str := ["self", "name", "inlets", "outlets", "stations", "links", "calls", "begins", "goes", "labels", "link"]
theorem sc_Module___init__ : FnScope N_Module___init__ ["self", "name", "inlets", "outlets", "stations", "links", "calls"] (defScope s_Module___init__) := ⟨rfl, rfl, rfl, by decide +kernel, rfl, by decide +kernel, by decide +kernel⟩

theorem ok_Mod_init {C CI : Addr} {dvs : List V} (F : FunD K "__init__" "Module.__init__" (defArgs s_Module___init__) (defBody s_Module___init__) (defScope s_Module___init__) dvs [] f fd) (MC : ModC K C) (hCI : CI = He.ga K "InvalidModule") (m_tuple : mg "tuple" = none) (m_all : mg "all" = none) (m_len : mg "len" = none)
    (g_is_name : FnAt P w K mg base CX0 1 "is_name" ["value"] (spT K dpName)) (g_are_fresh : FnAt P w K mg base CX0 2 "are_fresh" ["value", "taken"] (spT K (dp2 (fun v (_ : List Str) => Sm1 v) freshB))) (g_is_sequence : FnAt P w K mg base CX0 1 "is_sequence" ["value"] (spT K dpSeq))
    (g_labels_in : FnAt P w K mg base CX0 3 "labels_in" ["calls"] (spT K (dp1 (γ := L Str) Sm1 labelsOf))) (g_is_link : FnAt P w K mg base CX0 4 "is_link" ["value", "begins", "goes", "labels"] (spT K (dp4 (fun v (_ _ _ : List Str) => Sm1 v) linkB)))
    (S_InvalidModule : SupAt P K mg "InvalidModule" "word") : FnOk P w K mg base (L2.CX P w) 5 f fd ["self", "name", "inlets", "outlets", "stations", "links", "calls"] (spInitMod K C CI) := by
  refine F.ok sc_Module___init__ (fun vs H Q E h => ?_) (fun cdv A outer s H vs Q E hr h => ?_)
  · obtain ⟨S, x, dx, m, _, _, _, ha, _⟩ := h
    rw [ha.length]
    rfl
  · obtain ⟨S, x, dx, m, si, sx, hx, ha, hm, qx, q⟩ := h
    refine ⟨_, (pss_cons (ps_if (pt_not (pt_val (pe_fn g_is_name hr rfl (pa_cons (pv 1) (pa_nil))))) (pss_one (ps_raise rfl (takes_of rfl rfl rfl rfl) (pmk_sup S_InvalidModule hr rfl pe_str))) (pss_nil))
 (pss_cons (ps_if (pt_not (pt_val (pe_fn g_are_fresh hr rfl (pa_cons (pv 2) (pa_cons (pe_tup (pa_nil)) (pa_nil)))))) (pss_one (ps_raise rfl (takes_of rfl rfl rfl rfl) (pmk_sup S_InvalidModule hr rfl pe_str))) (pss_nil))
 (pss_cons (ps_if (pt_not (pt_val (pe_fn g_are_fresh hr rfl (pa_cons (pv 3) (pa_cons (pv 2) (pa_nil)))))) (pss_one (ps_raise rfl (takes_of rfl rfl rfl rfl) (pmk_sup S_InvalidModule hr rfl pe_str))) (pss_nil))
 (pss_cons (ps_if (pt_not (pt_val (pe_fn g_are_fresh hr rfl (pa_cons (pv 4) (pa_cons (pe_lst (pa_starK K (pv 2) (pa_starK K (pv 3) (pa_nil)))) (pa_nil)))))) (pss_one (ps_raise rfl (takes_of rfl rfl rfl rfl) (pmk_sup S_InvalidModule hr rfl pe_str))) (pss_nil))
 (pss_cons (ps_asg (pe_tup (pa_cons (pe_lst (pa_starK K (pv 2) (pa_starK K (pv 4) (pa_nil)))) (pa_cons (pe_lst (pa_starK K (pv 4) (pa_starK K (pv 3) (pa_nil)))) (pa_cons (pe_fn g_labels_in hr rfl (pa_cons (pv 6) (pa_nil))) (pa_nil))))) (pg_tupK (n := 3) K rfl (pgs_cons (pg_name (i := 7) sc_Module___init__.nd rfl (.inr rfl)) (pgs_cons (pg_name (i := 8) sc_Module___init__.nd rfl (.inr rfl)) (pgs_cons (pg_name (i := 9) sc_Module___init__.nd rfl (.inr rfl)) (pgs_nil))))))
 (pss_cons (ps_if (PW.pt (pw_or (pt_not (pt_val (pe_fn g_is_sequence hr rfl (pa_cons (pv 5) (pa_nil))))) (pw_or1 (pt_not (pt_val (pe_callB (cr_allK K) rfl m_all (by decide +kernel) (pa_cons (pe_lc (own := [("link", 10)]) rfl sc_Module___init__.nd (pi_seqK K (pv 5)) (blkOk_by (N := N_Module___init__) (sc := defScope s_Module___init__) (by decide +kernel)) (fun _ _ _ _ _ => pg_name (i := 10) sc_Module___init__.nd rfl (.inl rfl)) (fun _ _ _ _ _ => pts_nil) (fun _ _ _ _ _ => pe_fn g_is_link hr rfl (pa_cons (pv 10) (pa_cons (pv 7) (pa_cons (pv 8) (pa_cons (pv 9) (pa_nil))))))) (pa_nil)))))))) (pss_one (ps_raise rfl (takes_of rfl rfl rfl rfl) (pmk_sup S_InvalidModule hr rfl pe_str))) (pss_nil))
 (pss_cons (ps_if (PW.pt (pw_or (pt_not (pt_val (pe_fn g_is_sequence hr rfl (pa_cons (pv 6) (pa_nil))))) (pw_or1 (pt_cmpR op_lt (pe_callB (call_lenK K) rfl m_len (by decide +kernel) (pa_cons (pv 9) (pa_nil))) (pe_callB (call_lenK K) rfl m_len (by decide +kernel) (pa_cons (pv 6) (pa_nil))) (nomark _))))) (pss_one (ps_raise rfl (takes_of rfl rfl rfl rfl) (pmk_sup S_InvalidModule hr rfl pe_str))) (pss_nil))
 (pss_cons (ps_if (pt_not (pt_val (pe_fn g_are_fresh hr rfl (pa_cons (pv 9) (pa_cons (pe_lst (pa_starK K (pv 2) (pa_starK K (pv 3) (pa_starK K (pv 4) (pa_nil))))) (pa_nil)))))) (pss_one (ps_raise rfl (takes_of rfl rfl rfl rfl) (pmk_sup S_InvalidModule hr rfl pe_str))) (pss_nil))
 (pss_cons (ps_fld (pv 0) (pv 1) rfl)
 (pss_cons (ps_fld (pv 0) (pe_callTy (call_tupleK K) rfl m_tuple (by decide +kernel) (pa_cons (pv 2) (pa_nil))) rfl)
 (pss_cons (ps_fld (pv 0) (pe_callTy (call_tupleK K) rfl m_tuple (by decide +kernel) (pa_cons (pv 3) (pa_nil))) rfl)
 (pss_cons (ps_fld (pv 0) (pe_callTy (call_tupleK K) rfl m_tuple (by decide +kernel) (pa_cons (pv 4) (pa_nil))) rfl)
 (pss_cons (ps_fld (pv 0) (pe_callTy (call_tupleK K) rfl m_tuple (by decide +kernel) (pa_cons (pv 5) (pa_nil))) rfl)
 (pss_one (ps_fld (pv 0) (pe_callTy (call_tupleK K) rfl m_tuple (by decide +kernel) (pa_cons (pv 6) (pa_nil))) rfl))))))))))))))), ?_⟩
    have E0 := start_en (N := N_Module___init__) si (fun p hp => hp.elim) ha
    have E0 : En K noB S H S H _ [.val (V.ref x), .val m.n, .val m.i, .val m.o, .val m.s, .val m.l, .val m.c, .no, .no, .no, .no] := E0
    generalize L2.start _ vs = σ0 at E0 ⊢
    have rz : ∀ (z : Str) (ρ : List Slot) (nx : List Slot → Prop), wrongMod m = some z → DS K noB (fun _ σ H => tMkS (He.ga K "InvalidModule") "word" (tC (.str z)) σ H fun cls d H' => E cls d H') ρ ⟨nx, fun _ => False, fun _ => False, fun _ => False, fun S0 H0 => S0 = S ∧ H0 = H⟩ := fun z ρ nx hz =>
      ds_raise (X := modX CI m) (dr_str d_str) ⟨hCI.symm, z, hz, rfl⟩ fun S0 H0 e => by obtain ⟨rfl, rfl⟩ := e; exact qx
    have px : (fun S0 H0 => S0 = S ∧ H0 = H) S H := ⟨rfl, rfl⟩
    have smi := fun y hy => (AV.sm_items hm.i).2 y hy
    have li := names_len hm.i
    have lo := names_len hm.o
    have ls := names_len hm.s
    have big : ∀ {n : Nat}, n ≤ 3000 → n ≤ BIG := fun h => Nat.le_trans h (by decide)
    -- name
    refine DS.run (Φ := ⟨fun r => r = [.val (V.ref x), .val m.n, .val m.i, .val m.o, .val m.s, .val m.l, .val m.c, .no, .no, .no, .no] ∧ isName m.n = true, fun _ => False, fun _ => False, fun _ => False, fun S0 H0 => S0 = S ∧ H0 = H⟩) (ds_if (c := !isName m.n) (dt_not (dt_B (d_call1 (d_var rfl) hm.n))) (fun c => rz _ _ _ ?_) (fun c => ds_next ⟨rfl, by simpa using c⟩)) E0 px (fun r1 σ1 S1 H1 hq s1 E1 => ?_) (fun _ h => h) (fun _ h => h) (fun _ h => h)
    · unfold wrongMod
      rw [if_pos (by simpa using c)]
    obtain ⟨rfl, c1⟩ := hq
    -- inlets
    refine DS.run (Φ := ⟨fun r => r = [.val (V.ref x), .val m.n, .val m.i, .val m.o, .val m.s, .val m.l, .val m.c, .no, .no, .no, .no] ∧ freshB m.i [] = true, fun _ => False, fun _ => False, fun _ => False, fun S0 H0 => S0 = S ∧ H0 = H⟩) (ds_if (c := !freshB m.i []) (dt_not (dt_B (d_call2 (y := ([] : List Str)) (d_var rfl) (d_Uq (d_tupU dl_nil (by decide))) hm.i))) (fun c => rz _ _ _ ?_) (fun c => ds_next ⟨rfl, by simpa using c⟩)) E1 px (fun r2 σ2 S2 H2 hq s2 E2 => ?_) (fun _ h => h) (fun _ h => h) (fun _ h => h)
    · unfold wrongMod
      rw [if_neg (by rw [c1]; decide), if_pos (by simpa using c)]
    obtain ⟨rfl, c2⟩ := hq
    obtain ⟨qi1, qi2, qi3, qi4⟩ := fresh_ok c2
    -- outlets
    refine DS.run (Φ := ⟨fun r => r = [.val (V.ref x), .val m.n, .val m.i, .val m.o, .val m.s, .val m.l, .val m.c, .no, .no, .no, .no] ∧ freshB m.o m.i.names = true, fun _ => False, fun _ => False, fun _ => False, fun S0 H0 => S0 = S ∧ H0 = H⟩) (ds_if (c := !freshB m.o m.i.names) (dt_not (dt_B (d_call2 (d_var rfl) (d_names (d_var rfl) qi1 qi2) hm.o))) (fun c => rz _ _ _ ?_) (fun c => ds_next ⟨rfl, by simpa using c⟩)) E2 px (fun r3 σ3 S3 H3 hq s3 E3 => ?_) (fun _ h => h) (fun _ h => h) (fun _ h => h)
    · unfold wrongMod
      rw [if_neg (by rw [c1]; decide), if_neg (by rw [c2]; decide), if_pos (by simpa using c)]
    obtain ⟨rfl, c3⟩ := hq
    obtain ⟨qo1, qo2, qo3, qo4⟩ := fresh_ok c3
    -- stations
    refine DS.run (Φ := ⟨fun r => r = [.val (V.ref x), .val m.n, .val m.i, .val m.o, .val m.s, .val m.l, .val m.c, .no, .no, .no, .no] ∧ freshB m.s (m.i.names ++ m.o.names) = true, fun _ => False, fun _ => False, fun _ => False, fun S0 H0 => S0 = S ∧ H0 = H⟩) (ds_if (c := !freshB m.s (m.i.names ++ m.o.names)) (dt_not (dt_B (d_call2 (y := m.i.names ++ m.o.names) (d_var rfl) (DO.q (do_lst ((dl_star (d_names (d_var rfl) qi1 qi2) (dl_star (ys := []) (d_names (d_var rfl) qo1 qo2) dl_nil)).is (by rw [List.append_nil])) (big (by rw [List.length_append]; omega)))) hm.s))) (fun c => rz _ _ _ ?_) (fun c => ds_next ⟨rfl, by simpa using c⟩)) E3 px (fun r4 σ4 S4 H4 hq s4 E4 => ?_) (fun _ h => h) (fun _ h => h) (fun _ h => h)
    · unfold wrongMod
      rw [if_neg (by rw [c1]; decide), if_neg (by rw [c2]; decide), if_neg (by rw [c3]; decide), if_pos (by simpa using c)]
    obtain ⟨rfl, c4⟩ := hq
    obtain ⟨qs1, qs2, qs3, qs4⟩ := fresh_ok c4
    -- begins, goes, labels
    refine DS.run (Φ := ⟨fun r => r = [.val (V.ref x), .val m.n, .val m.i, .val m.o, .val m.s, .val m.l, .val m.c, .val (α := L Str) m.begins, .val (α := L Str) m.goes, .val (α := L Str) (labelsOf m.c), .no], fun _ => False, fun _ => False, fun _ => False, fun S0 H0 => S0 = S ∧ H0 = H⟩) (ds_asgG (d_triple (α := L Str) (β := L Str) (γ := L Str) (a := m.begins) (b := m.goes) (c := labelsOf m.c) (DO.l (do_lst ((dl_star (d_names (d_var rfl) qi1 qi2) (dl_star (ys := []) (d_names (d_var rfl) qs1 qs2) dl_nil)).is (by rw [List.append_nil]; rfl)) (big (by show (m.i.names ++ m.s.names).length ≤ 3000; rw [List.length_append]; omega)))) (DO.l (do_lst ((dl_star (d_names (d_var rfl) qs1 qs2) (dl_star (ys := []) (d_names (d_var rfl) qo1 qo2) dl_nil)).is (by rw [List.append_nil]; rfl)) (big (by show (m.s.names ++ m.o.names).length ≤ 3000; rw [List.length_append]; omega)))) (d_call1 (d_var rfl) hm.c)) (DG.trip dg_name dg_name dg_name) rfl) E4 px (fun r5 σ5 S5 H5 hq s5 E5 => ?_) (fun _ h => h) (fun _ h => h) (fun _ h => h)
    subst hq
    -- links
    obtain ⟨ll, lsm⟩ := AV.sm_items hm.l
    refine DS.run (Φ := ⟨fun r => r = [.val (V.ref x), .val m.n, .val m.i, .val m.o, .val m.s, .val m.l, .val m.c, .val (α := L Str) m.begins, .val (α := L Str) m.goes, .val (α := L Str) (labelsOf m.c), .no] ∧ m.linksB = true, fun _ => False, fun _ => False, fun _ => False, fun S0 H0 => S0 = S ∧ H0 = H⟩) (ds_if (c := !m.linksB) (DT.is (dt_or (dt_not (dt_B (d_call1 (d_var rfl) trivial))) (fun h => dt_not (dt_B (d_all (DO.l (do_map (fun k => linkB k m.begins m.goes (labelsOf m.c)) (di_seq (d_asSeq (x := m.l) (d_var rfl) (by simpa using h))) (big (by omega)) fun y hy => ⟨_, _, dg_name, by simp, d_call4 (d_var rfl) (d_Lq (d_var rfl)) (d_Lq (d_var rfl)) (d_Lq (d_var rfl)) (lsm y hy)⟩)))))) ?_) (fun c => rz _ _ _ ?_) (fun c => ds_next ⟨rfl, by simpa using c⟩)) E5 px (fun r6 σ6 S6 H6 hq s6 E6 => ?_) (fun _ h => h) (fun _ h => h) (fun _ h => h)
    · unfold M6.linksB
      rw [List.all_map]
      cases m.l.isSeq <;> rfl
    · unfold wrongMod
      rw [if_neg (by rw [c1]; decide), if_neg (by rw [c2]; decide), if_neg (by rw [c3]; decide), if_neg (by rw [c4]; decide), if_pos (by simpa using c)]
    obtain ⟨rfl, c5⟩ := hq
    -- calls
    refine DS.run (Φ := ⟨fun r => r = [.val (V.ref x), .val m.n, .val m.i, .val m.o, .val m.s, .val m.l, .val m.c, .val (α := L Str) m.begins, .val (α := L Str) m.goes, .val (α := L Str) (labelsOf m.c), .no] ∧ m.callsB = true, fun _ => False, fun _ => False, fun _ => False, fun S0 H0 => S0 = S ∧ H0 = H⟩) (ds_if (c := !m.callsB) (DT.is (dt_or (dt_not (dt_B (d_call1 (d_var rfl) trivial))) (fun h => dt_test (d_lt (d_len (d_Lq (d_var rfl))) (d_len (d_asSeq (x := m.c) (d_var rfl) (by simpa using h)))))) ?_) (fun c => rz _ _ _ ?_) (fun c => ds_next ⟨rfl, by simpa using c⟩)) E6 px (fun r7 σ7 S7 H7 hq s7 E7 => ?_) (fun _ h => h) (fun _ h => h) (fun _ h => h)
    · unfold M6.callsB
      have e : decide (((labelsOf m.c).length : Int) < (m.c.items.length : Int)) = decide ((labelsOf m.c).length < m.c.items.length) := by congr 1; exact propext ⟨fun h => by omega, fun h => by omega⟩
      rw [e]
      cases m.c.isSeq <;> simp
    · unfold wrongMod
      rw [if_neg (by rw [c1]; decide), if_neg (by rw [c2]; decide), if_neg (by rw [c3]; decide), if_neg (by rw [c4]; decide), if_neg (by rw [c5]; decide), if_pos (by simpa using c)]
    obtain ⟨rfl, c6⟩ := hq
    -- labels
    have lll := labels_len hm.c
    refine DS.run (Φ := ⟨fun r => r = [.val (V.ref x), .val m.n, .val m.i, .val m.o, .val m.s, .val m.l, .val m.c, .val (α := L Str) m.begins, .val (α := L Str) m.goes, .val (α := L Str) (labelsOf m.c), .no] ∧ freshB (strsA (labelsOf m.c)) (m.i.names ++ m.o.names ++ m.s.names) = true, fun _ => False, fun _ => False, fun _ => False, fun S0 H0 => S0 = S ∧ H0 = H⟩) (ds_if (c := !freshB (strsA (labelsOf m.c)) (m.i.names ++ m.o.names ++ m.s.names)) (dt_not (dt_B (d_call2 (x := strsA (labelsOf m.c)) (y := m.i.names ++ m.o.names ++ m.s.names) (d_av (α := L Str) (d_var rfl)) (DO.q (do_lst ((dl_star (d_names (d_var rfl) qi1 qi2) (dl_star (d_names (d_var rfl) qo1 qo2) (dl_star (ys := []) (d_names (d_var rfl) qs1 qs2) dl_nil))).is (by rw [List.append_nil, List.append_assoc])) (big (by rw [List.length_append, List.length_append]; omega)))) (strsA_sm lll fun z hz => Nat.le_trans (nameB_len (labels_name z hz)) (by decide))))) (fun c => rz _ _ _ ?_) (fun c => ds_next ⟨rfl, by simpa using c⟩)) E7 px (fun r8 σ8 S8 H8 hq s8 E8 => ?_) (fun _ h => h) (fun _ h => h) (fun _ h => h)
    · unfold wrongMod
      rw [if_neg (by rw [c1]; decide), if_neg (by rw [c2]; decide), if_neg (by rw [c3]; decide), if_neg (by rw [c4]; decide), if_neg (by rw [c5]; decide), if_neg (by rw [c6]; decide), if_pos (by simpa using c)]
    obtain ⟨rfl, c7⟩ := hq
    have ok : wrongMod m = none := by
      unfold wrongMod
      rw [if_neg (by rw [c1]; decide), if_neg (by rw [c2]; decide), if_neg (by rw [c3]; decide), if_neg (by rw [c4]; decide), if_neg (by rw [c5]; decide), if_neg (by rw [c6]; decide), if_neg (by rw [c7]; decide)]
    have hxs := E8.ext.p x sx (by rw [hx]; exact fun z => nomatch z)
    have hx8 : H8 x = some (.ins C dx []) := by
      rcases hxs.2 with z | ⟨z, _⟩
      · rw [z, hx]
      · exact z.elim
    have O8 : Off x S H S8 H8 := (Off.refl si sx).ext E8.ext (by rw [hx]; exact fun z => nomatch z)
    obtain ⟨v0, g0, w0⟩ := E8.val (i := 1) (a := m.n) rfl
    obtain ⟨vx, gx, wx⟩ := E8.val (i := 0) (a := V.ref x) rfl
    cases wx
    refine ⟨v0, g0, _, gx, x, C, dx, [], rfl, hx8, MC.cls, MC.n, by decide, ?_⟩
    have hv : ∀ s ∈ ([.val (V.ref x), .val m.n, .val m.i, .val m.o, .val m.s, .val m.l, .val m.c, .val (α := L Str) m.begins, .val (α := L Str) m.goes, .val (α := L Str) (labelsOf m.c), .no] : List Slot), s.plain = true := by simp [Slot.plain]
    have O9 : Off x S H S8 (upd H8 x (.ins C dx (putF "name" v0 []))) := O8.put
    have E9 := E8.anew O9.i hv
    refine fld_step MC.cls MC.i E9 hv rfl (k := 2) (a := m.i) rfl qi1 O9.x0 upd_same (by show 1 < 1000; decide) fun v1 Sa Ha ea Ea ra hxa => ?_
    have Oa := (O9.ext ea (by rw [upd_same]; exact fun z => nomatch z)).put (u := .ins C dx (putF "inlets" v1 (putF "name" v0 [])))
    refine fld_step MC.cls MC.o (Ea.anew Oa.i hv) hv rfl (k := 3) (a := m.o) rfl qo1 Oa.x0 upd_same (by show 2 < 1000; decide) fun v2 Sb Hb eb Eb rb hxb => ?_
    have Ob := (Oa.ext eb (by rw [upd_same]; exact fun z => nomatch z)).put (u := .ins C dx (putF "outlets" v2 (putF "inlets" v1 (putF "name" v0 []))))
    refine fld_step MC.cls MC.s (Eb.anew Ob.i hv) hv rfl (k := 4) (a := m.s) rfl qs1 Ob.x0 upd_same (by show 3 < 1000; decide) fun v3 Sc Hc ec Ec rc hxc => ?_
    have Oc := (Ob.ext ec (by rw [upd_same]; exact fun z => nomatch z)).put (u := .ins C dx (putF "stations" v3 (putF "outlets" v2 (putF "inlets" v1 (putF "name" v0 [])))))
    have ql : m.l.isSeq = true := by
      unfold M6.linksB at c5
      rw [Bool.and_eq_true] at c5
      exact c5.1
    have qc : m.c.isSeq = true := by
      unfold M6.callsB at c6
      rw [Bool.and_eq_true] at c6
      exact c6.1
    refine fld_step MC.cls MC.l (Ec.anew Oc.i hv) hv rfl (k := 5) (a := m.l) rfl ql Oc.x0 upd_same (by show 4 < 1000; decide) fun v4 Sd Hd ed Ed rd hxd => ?_
    have Od := (Oc.ext ed (by rw [upd_same]; exact fun z => nomatch z)).put (u := .ins C dx (putF "links" v4 (putF "stations" v3 (putF "outlets" v2 (putF "inlets" v1 (putF "name" v0 []))))))
    refine fld_step MC.cls MC.c (Ed.anew Od.i hv) hv rfl (k := 6) (a := m.c) rfl qc Od.x0 upd_same (by show 5 < 1000; decide) fun v5 Se He ee Ee re hxe => ?_
    have Oe := (Od.ext ee (by rw [upd_same]; exact fun z => nomatch z)).put (u := .ins C dx (putF "calls" v5 (putF "links" v4 (putF "stations" v3 (putF "outlets" v2 (putF "inlets" v1 (putF "name" v0 [])))))))
    refine q ok Se _ _ Oe upd_same ⟨v0, v1, v2, v3, v4, v5, rfl, ?_, ?_, ?_, ?_, ?_, re⟩
    · exact AV.mono ((((ea.s.trans eb.s).trans ec.s).trans ed.s).trans ee.s) _ w0
    · exact Enc.mono (((eb.s.trans ec.s).trans ed.s).trans ee.s) ra
    · exact Enc.mono ((ec.s.trans ed.s).trans ee.s) rb
    · exact Enc.mono (ed.s.trans ee.s) rc
    · exact Enc.mono ee.s rd
end
end WW

set_option Elab.async false
set_option linter.all false
set_option maxRecDepth 100000
set_option maxHeartbeats 4000000
namespace WW
open PySem PySem.Spec PyProof.Rows L2
/-! ### xs == [], xs != [] of any list -/
def rEmp (K : PySem.W.Frag) (neg : Bool) : R2 := fun x y H Q => ∃ (a b : Addr) (xs : List V), x = .ref a ∧ y = .ref b ∧ SqL K H a xs ∧ SqL K H b [] ∧ Q (.bl (if neg then !xs.isEmpty else xs.isEmpty)) H
theorem op_eqE {X : Cx} {j : Nat} (K : PySem.W.Frag) (hr : Room j X.A) (h : X.K = K := by rfl) : OpR X (compareOp .Eq) (rEmp K false) := by
  subst h
  intro pins s σ H x y u v Q I rx ry h
  obtain ⟨a, b, xs, rfl, rfl, ha, hb, q⟩ := h
  cases rx
  cases ry
  obtain ⟨its, rv, pl, hz⟩ := I.list ha
  obtain ⟨its2, rv2, pl2, hz2⟩ := I.list hb
  have hu : X.A.units < cLine := by have := hr.un; omega
  cases rv2
  cases rv with
  | nil => exact SeqAt.RcAt.lists (e := fun _ => true) pl.isList pl2.isList rfl hu (fun j h1 h2 => absurd h1 (by simp)) _ _ _ _ ⟨.bl true, H, I, rfl, q⟩
  | cons r t => exact SeqAt.RcAt.lists_lengths pl.isList pl2.isList (by simp) hu _ _ _ _ ⟨.bl false, H, I, rfl, q⟩
theorem op_neE {X : Cx} {j : Nat} (K : PySem.W.Frag) (hr : Room j X.A) (h : X.K = K := by rfl) : OpR X (compareOp .NotEq) (rEmp K true) := by
  subst h
  intro pins s σ H x y u v Q I rx ry h
  obtain ⟨a, b, xs, rfl, rfl, ha, hb, q⟩ := h
  cases rx
  cases ry
  obtain ⟨its, rv, pl, hz⟩ := I.list ha
  obtain ⟨its2, rv2, pl2, hz2⟩ := I.list hb
  have hu : X.A.units < cLine := by have := hr.un; omega
  cases rv2
  cases rv with
  | nil => exact SeqAt.RcNeAt.lists (e := fun _ => true) pl.isList pl2.isList rfl hu (fun j h1 h2 => absurd h1 (by simp)) _ _ _ _ ⟨.bl false, H, I, rfl, q⟩
  | cons r t => exact SeqAt.RcNeAt.lists_lengths pl.isList pl2.isList (by simp) hu _ _ _ _ ⟨.bl true, H, I, rfl, q⟩
/-! ### dicts by texts -/
structure Dct (α : Type) where
  kv : List (Str × α)
def KvR {α : Type} [Enc α] (K : PySem.W.Frag) (S : Hp) (p : Key × V) (x : Str × α) : Prop := p.1 = Sum.inr x.1 ∧ Enc.rep K S p.2 x.2
theorem KvR.mono {α : Type} [Enc α] {K : PySem.W.Frag} {S S' : Hp} {p : Key × V} {x : Str × α} (e : Same S S') (h : KvR K S p x) : KvR K S' p x := ⟨h.1, Enc.mono e h.2⟩
instance {α : Type} [Enc α] : Enc (Dct α) where
  rep K S v d := d.kv.length ≤ 1000 ∧ ∃ p kvs, v = .ref p ∧ S p = some (.dK kvs) ∧ Paired (KvR K S) kvs d.kv
  mono e h := by
    obtain ⟨hl, p, kvs, r, hq, hp⟩ := h
    exact ⟨hl, p, kvs, r, e _ _ hq, Paired.mono (fun _ _ => KvR.mono e) hp⟩
def Dct.get {α : Type} (d : Dct α) (z : Str) : Option α := (d.kv.find? fun x => decide (x.1 = z)).map (·.2)
def ownD {α : Type} [Enc α] (xs : List (Str × α)) : OwnP := ⟨fun K S o => xs.length ≤ 1000 ∧ ∃ kvs, o = .dK kvs ∧ Paired (KvR K S) kvs xs, fun e ⟨l, kvs, r, h⟩ => ⟨l, kvs, r, Paired.mono (fun _ _ => KvR.mono e) h⟩⟩
theorem valV_kv {α : Type} [Enc α] {K : PySem.W.Frag} {S : Hp} {z : Str} {a : α} : ∀ {kvs : List (Key × V)} {xs : List (Str × α)}, Paired (KvR K S) kvs xs → (Dct.mk xs).get z = some a → ∃ v, valV kvs (Sum.inr z) = some v ∧ Enc.rep K S v a
  | _, _, .nil, h => by cases h
  | p :: r, x :: t, .cons h1 h2, h => by
    unfold Dct.get at h
    rw [List.find?_cons] at h
    by_cases c : x.1 = z
    · rw [decide_eq_true c] at h
      cases h
      refine ⟨p.2, valV_pos ?_, h1.2⟩
      rw [h1.1, c]
    · rw [decide_eq_false c] at h
      obtain ⟨v, q1, q2⟩ := valV_kv h2 h
      refine ⟨v, ?_, q2⟩
      rw [valV_neg (by rw [h1.1]; exact fun e => c (by injection e))]
      exact q1
theorem valV_none {α : Type} [Enc α] {K : PySem.W.Frag} {S : Hp} {z : Str} : ∀ {kvs : List (Key × V)} {xs : List (Str × α)}, Paired (KvR K S) kvs xs → z ∉ xs.map (·.1) → valV kvs (Sum.inr z) = none
  | _, _, .nil, h => valV_nil
  | p :: r, x :: t, .cons h1 h2, h => by
    rw [List.map_cons, List.mem_cons, not_or] at h
    rw [valV_neg (by rw [h1.1]; exact fun e => h.1 (by injection e with e; exact e.symm))]
    exact valV_none h2 h.2
section
variable {K : PySem.W.Frag} {B : Addr → Prop} {ρ ρ' ρ1 ρ2 : List Slot} {ta tb tc td te tk tv : TE} {t u : TT} {ts tu tz : TS} {Φ : Post} {α β γ δ : Type} {e_α : Enc α} {e_β : Enc β} {e_γ : Enc γ} {e_δ : Enc δ} {a : α} {b : β} {i j : Int} {z : Str}
theorem d_eqE {xs : List α} (h : DE K B te ρ (α := L α) xs) : DE K B (tOp (rEmp K false) te (tLst tNil)) ρ xs.isEmpty := fun S0 H0 S H σ E Q q =>
  h S0 H0 S H σ E _ fun v S1 H1 e1 ⟨hl, p, vs, e, hq, r⟩ => ⟨Nat.zero_le _, fun w hw => by
    have n : Same H1 (upd H1 w (.lst [])) := same_new hw
    refine ⟨p, w, vs, e, rfl, .inl (.inl (n _ _ (e1.i _ _ hq))), .inl (.inl upd_same), ?_⟩
    have ee : vs.isEmpty = xs.isEmpty := by cases r <;> rfl
    show Q (.bl vs.isEmpty) _
    rw [ee]
    exact q _ S1 _ (e1.trans (Ext.grow e1.i n)) rfl⟩
theorem d_neE {xs : List α} (h : DE K B te ρ (α := L α) xs) : DE K B (tOp (rEmp K true) te (tLst tNil)) ρ (!xs.isEmpty) := fun S0 H0 S H σ E Q q =>
  h S0 H0 S H σ E _ fun v S1 H1 e1 ⟨hl, p, vs, e, hq, r⟩ => ⟨Nat.zero_le _, fun w hw => by
    have n : Same H1 (upd H1 w (.lst [])) := same_new hw
    refine ⟨p, w, vs, e, rfl, .inl (.inl (n _ _ (e1.i _ _ hq))), .inl (.inl upd_same), ?_⟩
    have ee : vs.isEmpty = xs.isEmpty := by cases r <;> rfl
    show Q (.bl (!vs.isEmpty)) _
    rw [ee]
    exact q _ S1 _ (e1.trans (Ext.grow e1.i n)) rfl⟩
/-- d[z] -/
theorem d_getD {d : Dct α} (h : DE K B td ρ d) (hk : DE K B tk ρ z) (hx : d.get z = some a) : DE K B (tDGet td tk) ρ a := fun S0 H0 S H σ E Q q =>
  h S0 H0 S H σ E _ fun v S1 H1 e1 r1 => hk S0 H0 S1 H1 σ (E.go e1) _ fun w S2 H2 e2 r2 => by
    cases r2
    obtain ⟨hl, p, kvs, e, hq, r⟩ := Enc.mono e2.s r1
    obtain ⟨y, q1, q2⟩ := valV_kv r hx
    refine ⟨p, y, e, ?_, q y S2 H2 (e1.trans e2) q2⟩
    rw [← q1]
    exact DGet.k (k := Sum.inr z) (e2.i _ _ hq)
theorem dn_getD {P : Dct α → Prop} {P' : α → Prop} (h : DN K B td ρ P) (hk : DE K B tk ρ z) (hx : ∀ d, P d → ∃ a, d.get z = some a ∧ P' a) : DN K B (tDGet td tk) ρ P' := fun S0 H0 S H σ E Q q =>
  h S0 H0 S H σ E _ fun v d S1 H1 pd e1 r1 => hk S0 H0 S1 H1 σ (E.go e1) _ fun w S2 H2 e2 r2 => by
    cases r2
    obtain ⟨a, hx, pa⟩ := hx d pd
    obtain ⟨hl, p, kvs, e, hq, r⟩ := Enc.mono e2.s r1
    obtain ⟨y, q1, q2⟩ := valV_kv r hx
    refine ⟨p, y, e, ?_, q y a S2 H2 pa (e1.trans e2) q2⟩
    rw [← q1]
    exact DGet.k (k := Sum.inr z) (e2.i _ _ hq)
/-- a new object of one's own -/
def DOb (K : PySem.W.Frag) (B : Addr → Prop) (te : TE) (ρ : List Slot) (P : OwnP) : Prop := ∀ S0 H0 S H σ, En K B S0 H0 S H σ ρ → ∀ Q : VK, (∀ p o S' H', Ext B S H S' H' → H p = none → S' p = none → H' p = some o → P.rep K S' o → Q (.ref p) H') → te σ H Q
theorem ds_asgOb {n : Nat} {P : OwnP} (h : DOb K B te ρ P) (k : Φ.nx (ρ.set n (.obj P))) : DS K B (tAsg te (gName n)) ρ Φ := fun S0 H0 S H σ D E px nx r b c =>
  h S0 H0 S H σ E _ fun p o S1 H1 e1 hp hs hh rr => nx _ _ S1 H1 k e1.s (E.setOb e1 hp hs hh rr)
/-- the pairs of a display -/
def DPs {α : Type} [Enc α] (K : PySem.W.Frag) (B : Addr → Prop) (trs : List (TE × TE)) (ρ : List Slot) (xs : List (Str × α)) : Prop := ∀ S0 H0 S H σ, En K B S0 H0 S H σ ρ → ∀ Q : List (V × V) → Hp → Prop, (∀ (kvs : List (Key × V)) S' H', Ext B S H S' H' → Paired (KvR K S') kvs xs → Q (kvs.map fun kv => (kV kv.1, kv.2)) H') → tPairs trs σ H Q
theorem dps_nil : DPs K B [] ρ ([] : List (Str × α)) := fun S0 H0 S H σ E Q q => q [] S H (Ext.refl E.i) .nil
theorem dps_cons {trs : List (TE × TE)} {xs : List (Str × α)} (hk : DE K B tk ρ z) (hv : DE K B tv ρ a) (hr : DPs K B trs ρ xs) : DPs K B ((tk, tv) :: trs) ρ ((z, a) :: xs) := fun S0 H0 S H σ E Q q =>
  hk S0 H0 S H σ E _ fun v S1 H1 e1 r1 => hv S0 H0 S1 H1 σ (E.go e1) _ fun w S2 H2 e2 r2 => hr S0 H0 S2 H2 σ (E.go (e1.trans e2)) _ fun kvs S3 H3 e3 r3 => by
    cases r1
    exact q ((Sum.inr z, w) :: kvs) S3 H3 ((e1.trans e2).trans e3) (.cons ⟨rfl, Enc.mono e3.s r2⟩ r3)
theorem merge_nd : ∀ {kvs acc : List (Key × V)}, ((acc ++ kvs).map (·.1)).Nodup → mergeK acc kvs = acc ++ kvs
  | [], acc, _ => by rw [List.append_nil]; rfl
  | p :: r, acc, h => by
    have hn : valV acc p.1 = none := by
      have h2 : p.1 ∉ acc.map (·.1) := fun hm => by
        rw [List.map_append, List.nodup_append] at h
        exact h.2.2 _ hm _ (List.mem_map.mpr ⟨p, List.mem_cons_self, rfl⟩) rfl
      clear h
      induction acc with
      | nil => exact valV_nil
      | cons x t ih =>
        rw [List.map_cons, List.mem_cons, not_or] at h2
        rw [valV_neg (fun e => h2.1 e.symm)]
        exact ih h2.2
    have e : mergeK acc (p :: r) = mergeK (acc ++ [p]) r := by
      show mergeK (putK acc p.1 p.2) r = _
      rw [putK_new p.2 hn]
    rw [e, merge_nd (by rw [List.append_assoc]; exact h), List.append_assoc]
    rfl
theorem kv_keys {S : Hp} : ∀ {kvs : List (Key × V)} {xs : List (Str × α)}, Paired (KvR K S) kvs xs → kvs.map (·.1) = xs.map fun x => (Sum.inr x.1 : Key)
  | _, _, .nil => rfl
  | _, _, .cons h t => by rw [List.map_cons, List.map_cons, kv_keys t, h.1]
theorem keys_nd {xs : List (Str × α)} (h : (xs.map (·.1)).Nodup) : (xs.map fun x => (Sum.inr x.1 : Key)).Nodup := by
  have e : (xs.map fun x => (Sum.inr x.1 : Key)) = (xs.map (·.1)).map Sum.inr := by rw [List.map_map]; rfl
  rw [e]
  exact h.map _ fun a b hne e => hne (by injection e)
/-- {k: v, ..} -/
theorem do_disp {trs : List (TE × TE)} {xs : List (Str × α)} (h : DPs K B trs ρ xs) (nd : (xs.map (·.1)).Nodup) (hl : xs.length ≤ 15) : DOb K B (tDisp trs) ρ (ownD xs) := fun S0 H0 S H σ E Q q p hp => by
  have e1 : Ext B S H S (upd H p (.dK [])) := Ext.priv E.i hp
  have sp : S p = none := E.i.free hp
  have nB : ¬ B p := fun z => (E.bx p z).2.2 (E.ext.free E.i0 hp)
  refine h S0 H0 S _ σ (E.go e1) _ fun kvs S2 H2 e2 r2 => ?_
  obtain ⟨s2, h2⟩ := e2.p p sp (by rw [upd_same]; exact fun z => nomatch z)
  have hp2 : H2 p = some (.dK []) := by
    rcases h2 with z | ⟨z, _⟩
    · rw [z, upd_same]
    · exact absurd z nB
  have kl : kvs.length ≤ 15 := by rw [r2.length]; exact hl
  refine ⟨hp2, kvs, rfl, kl, ?_⟩
  have em : mergeK [] kvs = kvs := by
    rw [merge_nd (by rw [List.nil_append, kv_keys r2]; exact keys_nd nd), List.nil_append]
  rw [em]
  exact q p _ S2 _ ((e1.trans e2).mut hp s2) hp s2 upd_same ⟨by omega, kvs, rfl, r2⟩
/-- d[z] = v, z new, d one's own -/
theorem ds_dput {n : Nat} {xs : List (Str × α)} (hn : ρ[n]? = some (.obj (ownD xs))) (hv : DE K B tv ρ a) (hk : DE K B tk ρ z) (nz : z ∉ xs.map (·.1)) (hl : xs.length < 1000) (k : Φ.nx (ρ.set n (.obj (ownD (xs ++ [(z, a)]))))) : DS K B (sDPut (tVar n) tk tv) ρ Φ := fun S0 H0 S H σ D E px nx r b c => by
  refine hv S0 H0 S H σ E _ fun v S1 H1 e1 r1 => ?_
  obtain ⟨p, o, g1, h0, hs, hh, pr⟩ := (E.go e1).obj hn
  refine ⟨_, g1, ?_⟩
  refine hk S0 H0 S1 H1 σ (E.go e1) _ fun w S2 H2 e2 r2 => ?_
  cases r2
  have E2 := (E.go e1).go e2
  obtain ⟨p', o', g1', h0', hs', hh', hl', kvs, rfl, rr⟩ := E2.obj hn
  rw [g1] at g1'
  cases g1'
  refine ⟨p, _, rfl, DPut.k (k := Sum.inr z) hh' (by rw [rr.length]; exact Nat.lt_trans hl (by decide)), ?_⟩
  rw [putK_new _ (valV_none rr nz)]
  refine nx _ σ S2 _ k (e1.s.trans e2.s) (E2.chgOb hn g1 ⟨by rw [List.length_append]; exact hl, _, rfl, Paired.app rr (.cons ⟨rfl, Enc.mono e2.s r1⟩ .nil)⟩)
/-- one's own dict becomes a value -/
theorem ds_frzD {n : Nat} {xs : List (Str × α)} (hx : ρ[n]? = some (.obj (ownD xs))) (h : DS K B ts (ρ.set n (.val (Dct.mk xs))) Φ) : DS K B ts ρ Φ := fun S0 H0 S H σ D E px nx r b c => by
  have cv : ∀ (S1 : Hp) (p : Addr) (u : HO), S1 p = some u → (ownD xs).rep K S1 u → Enc.rep K S1 (.ref p) (Dct.mk xs) := fun S1 p u hp ⟨hl, kvs, e, r⟩ => ⟨hl, p, kvs, rfl, by rw [hp, e], r⟩
  obtain ⟨S1, ex, sm, E1⟩ := E.frzOb hx cv
  exact h S0 H0 S1 H σ D E1 px (fun ρ' σ' S' H' q s E' => nx ρ' σ' S' H' q (sm.trans s) E') r (fun ρ' σ' S' H' q s E' => b ρ' σ' S' H' q (sm.trans s) E') (fun ρ' σ' S' H' q s E' => c ρ' σ' S' H' q (sm.trans s) E')
/-- dict(ps) -/
theorem d_dict {xs : List (Str × α)} (h : DE K B te ρ (α := L (Str × α)) xs) (nd : (xs.map (·.1)).Nodup) (hl : xs.length ≤ 1000) : DE K B (tCB (fun vs H Q => ∃ (a : Addr) (ps : List Addr) (kvs : List (Key × V)), vs = [.ref a] ∧ SqL K H a (ps.map V.ref) ∧ Paired (fun p kv => SqT K H p [kV kv.1, kv.2]) ps kvs ∧ ∀ p, H p = none → Q (.ref p) (upd H p (.dK (mergeK [] kvs)))) (tCons te tNil)) ρ (Dct.mk xs) := fun S0 H0 S H σ E Q q =>
  h S0 H0 S H σ E _ fun v S1 H1 e1 ⟨_, p, vs, e, hq, r⟩ => by
    have core : ∀ {vs : List V} {xs : List (Str × α)}, Paired (Enc.rep K S1) vs xs → ∃ (ps : List Addr) (kvs : List (Key × V)), vs = ps.map V.ref ∧ Paired (fun p kv => SqT K H1 p [kV kv.1, kv.2]) ps kvs ∧ Paired (KvR K S1) kvs xs := by
      intro vs xs r
      induction r with
      | nil => exact ⟨[], [], rfl, .nil, .nil⟩
      | cons h1 t ih =>
        rename_i v x vs xs
        obtain ⟨ps, kvs, e1', r1, r2⟩ := ih
        obtain ⟨p, v1, v2, rfl, hq, q1, q2⟩ := h1
        cases q1
        exact ⟨p :: ps, (Sum.inr x.1, v2) :: kvs, by rw [e1']; rfl, .cons (Evl.ex_t e1.i hq) r1, .cons ⟨rfl, q2⟩ r2⟩
    obtain ⟨ps, kvs, rfl, r1, r2⟩ := core r
    refine ⟨p, ps, kvs, by rw [e], .inl (.inl (e1.i _ _ hq)), r1, fun w hw => ?_⟩
    rw [merge_nd (by rw [List.nil_append, kv_keys r2]; exact keys_nd nd), List.nil_append]
    have e2 : Ext B S1 H1 (upd S1 w (.dK kvs)) (upd H1 w (.dK kvs)) := Ext.new e1.i hw
    exact q _ _ _ (e1.trans e2) ⟨hl, w, kvs, rfl, upd_same, Paired.mono (fun _ _ => KvR.mono e2.s) r2⟩
/-! ### texts put together -/
theorem d_addS {y : Str} (h1 : DE K B ta ρ z) (h2 : DE K B tb ρ y) (hl : z.length + y.length ≤ BIG) : DE K B (tOp (fun x y H Q => ∃ i j, x = .str i ∧ y = .str j ∧ i.length + j.length ≤ sizeLine ∧ Q (.str (i ++ j)) H) ta tb) ρ (z ++ y) :=
  d_op h1 h2 fun v w S H hi r1 r2 Q q => by
    cases r1
    cases r2
    exact ⟨z, y, rfl, rfl, Nat.le_trans hl big_line, q _ S H (Ext.refl hi) rfl⟩
/-! ### more of what is drawn -/
theorem dn_if {P : α → Prop} {c : Bool} (h : DT K B t ρ c) (h1 : c = true → DN K B ta ρ P) (h2 : c = false → DN K B tb ρ P) : DN K B (tIf t ta tb) ρ P := fun S0 H0 S H σ E Q q => h S0 H0 S H σ E _ fun S1 H1 e => by
  cases c with
  | true => exact h1 rfl S0 H0 S1 H1 σ (E.go e) Q fun v a S2 H2 pa e2 r2 => q v a S2 H2 pa (e.trans e2) r2
  | false => exact h2 rfl S0 H0 S1 H1 σ (E.go e) Q fun v a S2 H2 pa e2 r2 => q v a S2 H2 pa (e.trans e2) r2
/-- a test that may come out either way -/
def DTN (K : PySem.W.Frag) (B : Addr → Prop) (tt : TT) (ρ : List Slot) (P : Bool → Prop) : Prop := ∀ S0 H0 S H σ, En K B S0 H0 S H σ ρ → ∀ Q : Bool → Hp → Prop, (∀ b S' H', P b → Ext B S H S' H' → Q b H') → tt σ H Q
theorem DT.n {c : Bool} (h : DT K B t ρ c) : DTN K B t ρ fun b => b = c := fun S0 H0 S H σ E Q q => h S0 H0 S H σ E _ fun S1 H1 e => q c S1 H1 rfl e
theorem dtn_test {P : Bool → Prop} (h : DN K B te ρ P) : DTN K B (tTest te) ρ P := fun S0 H0 S H σ E Q q => h S0 H0 S H σ E _ fun v b S1 H1 pb e r => ⟨b, r, q b S1 H1 pb e⟩
theorem dtn_B {P : Bool → Prop} (h : DN K B te ρ P) : DTN K B (tB te) ρ P := fun S0 H0 S H σ E Q q => h S0 H0 S H σ E _ fun v b S1 H1 pb e r => ⟨b, r, q b S1 H1 pb e⟩
theorem dtn_and {b : Bool} {P : Bool → Prop} (h1 : DT K B t ρ b) (h2 : b = true → DTN K B u ρ P) : DTN K B (tAnd t u) ρ (fun c => if b = true then P c else c = false) := fun S0 H0 S H σ E Q q => h1 S0 H0 S H σ E _ fun S1 H1 e => by
  cases b with
  | true => exact h2 rfl S0 H0 S1 H1 σ (E.go e) Q fun c S2 H2 pc e2 => q c S2 H2 pc (e.trans e2)
  | false => exact q false S1 H1 rfl e
theorem dn_ifN {P : α → Prop} {PT : Bool → Prop} (h : DTN K B t ρ PT) (h1 : PT true → DN K B ta ρ P) (h2 : PT false → DN K B tb ρ P) : DN K B (tIf t ta tb) ρ P := fun S0 H0 S H σ E Q q => h S0 H0 S H σ E _ fun c S1 H1 pc e => by
  cases c with
  | true => exact h1 pc S0 H0 S1 H1 σ (E.go e) Q fun v a S2 H2 pa e2 r2 => q v a S2 H2 pa (e.trans e2) r2
  | false => exact h2 pc S0 H0 S1 H1 σ (E.go e) Q fun v a S2 H2 pa e2 r2 => q v a S2 H2 pa (e.trans e2) r2
theorem dn_eqI {P P' : Int → Prop} (ha : DN K B ta ρ P) (hb : DN K B tb ρ P') : DN K B (tOp rEq ta tb) ρ fun c : Bool => ∃ a b, P a ∧ P' b ∧ c = decide (a = b) :=
  dn_op ha hb fun a b pa pb x y S H hi r1 r2 Q q => by
    obtain ⟨h1, h2⟩ := Flat.eq (α := Int) r1 r2
    refine ⟨h1, ?_⟩
    rw [h2]
    exact q _ _ S H ⟨a, b, pa, pb, rfl⟩ (Ext.refl hi) rfl
theorem dn_quad {P1 : α → Prop} {P2 : β → Prop} {P3 : γ → Prop} {P4 : δ → Prop} (ha : DN K B ta ρ P1) (hb : DN K B tb ρ P2) (hc : DN K B tc ρ P3) (hd : DN K B td ρ P4) : DN K B (tTup (tCons ta (tCons tb (tCons tc (tCons td tNil))))) ρ (fun t : T4 α β γ δ => P1 t.a ∧ P2 t.b ∧ P3 t.c ∧ P4 t.d) := fun S0 H0 S H σ E Q q =>
  ha S0 H0 S H σ E _ fun x a1 S1 H1 p1 e1 r1 => hb S0 H0 S1 H1 σ (E.go e1) _ fun y a2 S2 H2 p2 e2 r2 => hc S0 H0 S2 H2 σ (E.go (e1.trans e2)) _ fun z a3 S3 H3 p3 e3 r3 => hd S0 H0 S3 H3 σ (E.go ((e1.trans e2).trans e3)) _ fun w a4 S4 H4 p4 e4 r4 => ⟨by show 4 ≤ sizeLine; decide, fun p hp => by
    have e5 : Ext B S4 H4 (upd S4 p (.tup [x, y, z, w])) (upd H4 p (.tup [x, y, z, w])) := Ext.new e4.i hp
    exact q _ (T4.mk a1 a2 a3 a4) _ _ ⟨p1, p2, p3, p4⟩ ((((e1.trans e2).trans e3).trans e4).trans e5) ⟨p, x, y, z, w, rfl, .inl (.inl upd_same), Enc.mono (((e2.s.trans e3.s).trans e4.s).trans e5.s) r1, Enc.mono ((e3.s.trans e4.s).trans e5.s) r2, Enc.mono (e4.s.trans e5.s) r3, Enc.mono e5.s r4⟩⟩
theorem dn_pair {P1 : α → Prop} {P2 : β → Prop} (ha : DN K B ta ρ P1) (hb : DN K B tb ρ P2) : DN K B (tTup (tCons ta (tCons tb tNil))) ρ (fun t : α × β => P1 t.1 ∧ P2 t.2) := fun S0 H0 S H σ E Q q =>
  ha S0 H0 S H σ E _ fun x a1 S1 H1 p1 e1 r1 => hb S0 H0 S1 H1 σ (E.go e1) _ fun y a2 S2 H2 p2 e2 r2 => ⟨by show 2 ≤ sizeLine; decide, fun p hp => by
    have e5 : Ext B S2 H2 (upd S2 p (.tup [x, y])) (upd H2 p (.tup [x, y])) := Ext.new e2.i hp
    exact q _ (a1, a2) _ _ ⟨p1, p2⟩ ((e1.trans e2).trans e5) ⟨p, x, y, rfl, .inl (.inl upd_same), Enc.mono (e2.s.trans e5.s) r1, Enc.mono e5.s r2⟩⟩
theorem DG.quad {g1 g2 g3 g4 : TG} {a : α} {b : β} {c : γ} {d : δ} {ρ3 ρ4 : List Slot} {js1 js2 js3 js4 : List Nat} (h1 : DG K B g1 a ρ ρ1 js1) (h2 : DG K B g2 b ρ1 ρ2 js2) (h3 : DG K B g3 c ρ2 ρ3 js3) (h4 : DG K B g4 d ρ3 ρ4 js4) : DG K B (gTup K 4 (gCons g1 (gCons g2 (gCons g3 (gCons g4 gNil))))) (T4.mk a b c d) ρ ρ4 (js1 ++ (js2 ++ (js3 ++ js4))) := fun S0 H0 S H σ v E r R q => by
  obtain ⟨p, v1, v2, v3, v4, rfl, hq, r1, r2, r3, r4⟩ := r
  refine ⟨p, [v1, v2, v3, v4], rfl, Evl.ex_t E.i hq, rfl, v1, [v2, v3, v4], rfl, ?_⟩
  refine h1 S0 H0 S H σ v1 E r1 _ fun σ1 E1 l1 f1 => ⟨v2, [v3, v4], rfl, ?_⟩
  refine h2 S0 H0 S H σ1 v2 E1 r2 _ fun σ2 E2 l2 f2 => ⟨v3, [v4], rfl, ?_⟩
  refine h3 S0 H0 S H σ2 v3 E2 r3 _ fun σ3 E3 l3 f3 => ⟨v4, [], rfl, ?_⟩
  refine h4 S0 H0 S H σ3 v4 E3 r4 _ fun σ4 E4 l4 f4 => ⟨rfl, q σ4 E4 (((l4.trans l3).trans l2).trans l1) fun i hi => ?_⟩
  simp only [List.mem_append, not_or] at hi
  rw [f4 i hi.2.2.2, f3 i hi.2.2.1, f2 i hi.2.1, f1 i hi.1]
/-- for x in range(n), n drawn -/
theorem ds_forN {g : TG} {P : Int → Prop} (h : DN K B te ρ P) (hs : ∀ n, P n → DS K B (tFor (iRng1 (tCons (tC (.int n)) tNil)) g ts) ρ Φ) : DS K B (tFor (iRng1 (tCons te tNil)) g ts) ρ Φ := fun S0 H0 S H σ D E px nx r b c => h S0 H0 S H σ E _ fun v n S1 H1 pn e1 r1 => by
  cases r1
  exact hs n pn S0 H0 S1 H1 σ D (E.go e1) px (fun ρ' σ' S' H' q s E' => nx ρ' σ' S' H' q (e1.s.trans s) E') r (fun ρ' σ' S' H' q s E' => b ρ' σ' S' H' q (e1.s.trans s) E') (fun ρ' σ' S' H' q s E' => c ρ' σ' S' H' q (e1.s.trans s) E')
theorem dq_forN {g : TG} {P : Int → Prop} (h : DN K B te ρ P) (hs : ∀ n, P n → DS K B (tSeq (tFor (iRng1 (tCons (tC (.int n)) tNil)) g ts) tz) ρ Φ) : DS K B (tSeq (tFor (iRng1 (tCons te tNil)) g ts) tz) ρ Φ := fun S0 H0 S H σ D E px nx r b c => h S0 H0 S H σ E _ fun v n S1 H1 pn e1 r1 => by
  cases r1
  exact hs n pn S0 H0 S1 H1 σ D (E.go e1) px (fun ρ' σ' S' H' q s E' => nx ρ' σ' S' H' q (e1.s.trans s) E') r (fun ρ' σ' S' H' q s E' => b ρ' σ' S' H' q (e1.s.trans s) E') (fun ρ' σ' S' H' q s E' => c ρ' σ' S' H' q (e1.s.trans s) E')
/-- [e for x in xs], e drawn each time -/
theorem dn_mapN {wi : TI} {g : TG} {vs : List Nat} {xs : List α} (P : α → β → Prop) (hi : DI K B wi ρ xs) (hl : xs.length ≤ BIG)
    (h : ∀ x ∈ xs, ∃ ρ' js, DG K B g x (wipeS ρ vs) ρ' js ∧ (∀ i ∈ js, i ∈ vs) ∧ DN K B te ρ' (P x)) : DN K B (tLc wi g tYes te vs) ρ (α := L β) (fun ys => Paired P xs ys) := by
  intro S0 H0 S H σ E Q q
  refine hi S0 H0 S H σ E _ fun J S1 H1 e1 y D hD => ?_
  have hD0 : H D = none := e1.free E.i hD
  have nB : ¬ B D := fun z => (E.bx D z).2.2 (E.ext.free E.i0 hD0)
  let Pv : Nat → Hp → Prop := fun i Hc => ∃ Sc ws ys, Ext B S1 H1 Sc Hc ∧ Sc D = none ∧ Hc D = some (.lst ws) ∧ Paired (Enc.rep K Sc) ws ys ∧ Paired P (xs.take i) ys
  refine ⟨fun i m Hc => m = xs.length - i ∧ i ≤ xs.length ∧ Pv i Hc, ⟨xs.length, by simp, Nat.zero_le _, S1, [], [], Ext.priv e1.i hD, e1.i.free hD, upd_same, .nil, .nil⟩, ?_⟩
  rintro i m Hc ⟨rfl, hle, Sc, ws, ys, ex, hs, hh, r, pp⟩
  have yy := y Sc Hc ex.s (E.ext.trans (e1.trans ex))
  by_cases hlt : i < xs.length
  · refine .inr ?_
    obtain ⟨x, hx⟩ : ∃ x, xs[i]? = some x := ⟨_, List.getElem?_eq_getElem hlt⟩
    obtain ⟨hgo, hy⟩ := yy.1 i x hx
    refine ⟨hgo, Pv (i + 1), fun H' hp => ⟨xs.length - (i + 1), by omega, rfl, hlt, hp⟩, fun v H' hyl => ?_⟩
    obtain ⟨S2, e2, r2⟩ := hy v H' hyl
    obtain ⟨ρ', js, hg, hjs, he⟩ := h x (List.mem_of_getElem? hx)
    have lw : ws.length < sizeLine := by
      rw [r.length, ← pp.length, List.length_take]
      have := big_line
      omega
    refine hg S0 H0 S2 H' (wipe σ vs) v ((E.go ((e1.trans ex).trans e2)).wp vs) r2 _ fun σ2 E2 l2 f2 => ⟨?_, ?_⟩
    · have z := wipe_eq (vs := vs) l2 fun i hi => f2 i fun z => hi (hjs i z)
      rw [z, wipe_wipe]
    · show tYes σ2 H' _
      refine he S0 H0 S2 H' σ2 E2 _ fun w b S4 H4 pb e4 r4 => ?_
      have e24 := e2.trans e4
      obtain ⟨a1, a2⟩ := e24.p D hs (by rw [hh]; exact fun z => nomatch z)
      have a3 : H4 D = some (.lst ws) := by
        rcases a2 with z | ⟨z, _⟩
        · rw [z]; exact hh
        · exact absurd z nB
      refine ⟨ws, a3, lw, S4, ws ++ [w], ys ++ [b], (ex.trans e24).mut hD a1, a1, upd_same, ?_, ?_⟩
      · exact Paired.app (Paired.mono (fun _ _ => Enc.mono e24.s) r) (.cons r4 .nil)
      · rw [List.take_add_one, hx]
        exact Paired.app pp (.cons pb .nil)
  · refine .inl ⟨?_, ?_⟩
    · rw [show i = xs.length by omega]
      exact yy.2
    · rw [List.take_of_length_le (by omega)] at pp
      have fz : Ext B S H (upd Sc D (.lst ws)) Hc := (e1.trans ex).frz hD0 E.i hh hs
      exact q _ ys _ Hc pp fz ⟨by rw [← pp.length]; exact hl, D, ws, rfl, upd_same, Paired.mono (fun _ _ => Enc.mono (same_new hs)) r⟩
/-! ### one's own list handed on to be read -/
theorem da_own {n : Nat} {tr : TA} {ss : List Slot} {P : OwnP} (h : ρ[n]? = some (.obj P)) (hr : DA K B tr ρ ss) : DA K B (tCons (tVar n) tr) ρ (.out P :: ss) := fun S0 H0 S H σ E Q q => by
  obtain ⟨p, o, h1, h0, hs, hh, pr⟩ := E.obj h
  have nB : ¬ B p := fun z => (E.bx p z).2.2 h0
  refine ⟨_, h1, hr S0 H0 S H σ E _ fun vs S2 H2 e2 r2 => ?_⟩
  obtain ⟨q1, q2⟩ := e2.p p hs (by rw [hh]; exact fun z => nomatch z)
  have h2 : H2 p = some o := by
    rcases q2 with z | ⟨z, _⟩
    · rw [z, hh]
    · exact absurd z nB
  exact q _ S2 H2 e2 (.cons ⟨p, o, rfl, nB, (by rw [h2]; exact fun z => nomatch z), q1, h2, P.mono e2.s pr⟩ rfl r2)
theorem da_out {n : Nat} {tr : TA} {ss : List Slot} {P : OwnP} (h : ρ[n]? = some (.out P)) (hr : DA K B tr ρ ss) : DA K B (tCons (tVar n) tr) ρ (.out P :: ss) := fun S0 H0 S H σ E Q q => by
  obtain ⟨p, o, h1, nB, h0, hs, hh, pr⟩ := E.out h
  refine ⟨_, h1, hr S0 H0 S H σ E _ fun vs S2 H2 e2 r2 => ?_⟩
  obtain ⟨q1, q2⟩ := e2.p p hs (by rw [hh]; exact fun z => nomatch z)
  have h2 : H2 p = some o := by
    rcases q2 with z | ⟨z, _⟩
    · rw [z, hh]
    · exact absurd z nB
  exact q _ S2 H2 e2 (.cons ⟨p, o, rfl, nB, (by rw [h2]; exact fun z => nomatch z), q1, h2, P.mono e2.s pr⟩ rfl r2)
theorem d_neEOut {n : Nat} {xs : List α} (h : ρ[n]? = some (.out (ownL xs))) : DE K B (tOp (rEmp K true) (tVar n) (tLst tNil)) ρ (!xs.isEmpty) := fun S0 H0 S H σ E Q q => by
  obtain ⟨p, o, h1, nB, h0, hs, hh, hl, vs, rfl, r⟩ := E.out h
  refine ⟨_, h1, Nat.zero_le _, fun w hw => ?_⟩
  have n : Same H (upd H w (.lst [])) := same_new hw
  refine ⟨p, w, vs, rfl, rfl, .inl (.inl (n _ _ hh)), .inl (.inl upd_same), ?_⟩
  have ee : vs.isEmpty = xs.isEmpty := by cases r <;> rfl
  show Q (.bl (!vs.isEmpty)) _
  rw [ee]
  exact q _ S _ (Ext.grow E.i n) rfl
theorem di_out {n : Nat} {xs : List α} (h : ρ[n]? = some (.out (ownL xs))) : DI K B (iSeq K (tVar n)) ρ xs := fun S0 H0 S H σ E R q => by
  obtain ⟨p, o, h1, nB, h0, hs, hh, hl, vs, rfl, r⟩ := E.out h
  have s0 : S0 p = none := by
    cases z : S0 p with
    | none => rfl
    | some u =>
      have := E.ext.s _ _ z
      rw [hs] at this
      cases this
  have he : H p = H0 p := by
    rcases (E.ext.p p s0 h0).2 with z | ⟨z, _⟩
    · exact z
    · exact absurd z nB
  refine ⟨_, h1, p, rfl, .inl ⟨⟨vs, .inl (.inl hh)⟩, q _ S H (Ext.refl E.i) fun S2 H2 s2 x2 => ?_⟩⟩
  have h2 : H2 p = some (.lst vs) := by
    rcases (x2.p p s0 h0).2 with z | ⟨z, _⟩
    · rw [z, ← he, hh]
    · exact absurd z nB
  refine ⟨fun i x hx => ?_, vs, .inl (.inl h2), by rw [r.length]; exact Nat.le_refl _⟩
  obtain ⟨w, k1, k2⟩ := Paired.at r hx
  refine ⟨⟨vs, w, .inl (.inl h2), k1⟩, fun v H3 hy => ⟨S2, ?_, ?_⟩⟩
  · rw [hy.1]
    exact Ext.refl x2.i
  · have z := hy.2 vs (.inl (.inl h2))
    rw [k1] at z
    cases z
    exact Enc.mono s2 k2
abbrev dpPickO (α : Type) [Enc α] : List Slot → (Slot → Prop) → Prop := fun ss R => ∃ xs : List α, ss = [.box, .out (ownL xs)] ∧ 0 < xs.length ∧ xs.length < 1000 ∧ ∀ c : α, c ∈ xs → R (.val c)
theorem imp_pickO {α : Type} [Enc α] (vs : List V) (H : Hp) (Q : VK) (E : XK) (h : spT K (dpPickO α) vs H Q E) : spPick K vs H Q E := by
  obtain ⟨B, S, ss, R, i, hb, ar, ⟨xs, rfl, m0, m1, r⟩, q⟩ := h
  cases ar with
  | cons h1 h2 h3 =>
    cases h3 with
    | cons k1 k2 k3 =>
      cases k3
      obtain ⟨p, rfl, bp⟩ := h1
      obtain ⟨l, o, rfl, nB, _, hs, hh, _, ws, rfl, pr⟩ := k1
      obtain ⟨sn, bx⟩ := hb p bp
      have hl := pr.length
      refine ⟨p, l, ws, rfl, bx, Sq.l hh, fun e => nB (by rw [e]; exact bp), by omega, by omega, fun x y z v hv => ?_⟩
      obtain ⟨c, c1, c2⟩ := paired_mem pr v hv
      exact q (.val c) v S _ (r c c1) (Ext.box i bp sn) c2
theorem dn_pickO {n m : Nat} {xs : List α} (hb : ρ[m]? = some .box) (h : ρ[n]? = some (.out (ownL xs))) (h0 : 0 < xs.length) (h1 : xs.length < 1000) : DN K B (tCall (spT K (dpPickO α)) [] E0 (tCons (tVar m) (tCons (tVar n) tNil))) ρ (fun c : α => c ∈ xs) :=
  dn_call (da_box hb (da_out h da_nil)) ⟨xs, rfl, h0, h1, fun c hc => ⟨c, hc, rfl⟩⟩
/-- d[z], d handed on to be read -/
theorem d_getDO {n : Nat} {xs : List (Str × α)} (h : ρ[n]? = some (.out (ownD xs))) (hk : DE K B tk ρ z) (hx : (Dct.mk xs).get z = some a) : DE K B (tDGet (tVar n) tk) ρ a := fun S0 H0 S H σ E Q q => by
  obtain ⟨p, o, h1, _⟩ := E.out h
  refine ⟨_, h1, hk S0 H0 S H σ E _ fun w S2 H2 e2 r2 => ?_⟩
  cases r2
  obtain ⟨p', o', h1', nB, h0, hs, hh, hl, kvs, rfl, r⟩ := (E.go e2).out h
  rw [h1] at h1'
  cases h1'
  obtain ⟨y, q1, q2⟩ := valV_kv r hx
  refine ⟨p, y, rfl, ?_, q y S2 H2 e2 q2⟩
  rw [← q1]
  exact DGet.k (k := Sum.inr z) hh
theorem ds_dputN {n : Nat} {xs : List (Str × α)} {P : α → Prop} (hn : ρ[n]? = some (.obj (ownD xs))) (hv : DN K B tv ρ P) (hk : DE K B tk ρ z) (nz : z ∉ xs.map (·.1)) (hl : xs.length < 1000) (k : ∀ a, P a → Φ.nx (ρ.set n (.obj (ownD (xs ++ [(z, a)]))))) : DS K B (sDPut (tVar n) tk tv) ρ Φ := fun S0 H0 S H σ D E px nx r b c => by
  refine hv S0 H0 S H σ E _ fun v a S1 H1 pa e1 r1 => ?_
  obtain ⟨p, o, g1, h0, hs, hh, pr⟩ := (E.go e1).obj hn
  refine ⟨_, g1, ?_⟩
  refine hk S0 H0 S1 H1 σ (E.go e1) _ fun w S2 H2 e2 r2 => ?_
  cases r2
  have E2 := (E.go e1).go e2
  obtain ⟨p', o', g1', h0', hs', hh', hl', kvs, rfl, rr⟩ := E2.obj hn
  rw [g1] at g1'
  cases g1'
  refine ⟨p, _, rfl, DPut.k (k := Sum.inr z) hh' (by rw [rr.length]; exact Nat.lt_trans hl (by decide)), ?_⟩
  rw [putK_new _ (valV_none rr nz)]
  refine nx _ σ S2 _ (k a pa) (e1.s.trans e2.s) (E2.chgOb hn g1 ⟨by rw [List.length_append]; exact hl, _, rfl, Paired.app rr (.cons ⟨rfl, Enc.mono e2.s r1⟩ .nil)⟩)
theorem ds_par3O {n m l : Nat} {xs : List γ} (h1 : DE K B ta ρ a) (h2 : DE K B tb ρ b) (h3 : DO K B tc ρ xs) (k : Φ.nx (((ρ.set n (.val a)).set m (.val b)).set l (.own xs))) : DS K B (tPar3 n m l (tCons ta (tCons tb (tCons tc tNil)))) ρ Φ := fun S0 H0 S H σ D E px nx r b c =>
  h1 S0 H0 S H σ E _ fun v S1 H1 e1 r1 => h2 S0 H0 S1 H1 σ (E.go e1) _ fun w S2 H2 e2 r2 => h3 S0 H0 S2 H2 σ (E.go (e1.trans e2)) _ fun p vs S3 H3 e3 hp hs hh rr hl =>
    ⟨v, w, _, rfl, nx _ _ S3 H3 k ((e1.s.trans e2.s).trans e3.s) (En.setO (((E.go (e1.trans e2)).setV (Enc.mono e2.s r1)).setV r2) e3 hp hs hh rr hl)⟩
theorem idx_mem {ws : List Str} {z : Str} (h : z ∈ ws) : ws[ws.idxOf z]? = some z ∧ ∀ m, m < ws.idxOf z → ws[m]? ≠ some z := by
  have hl : ws.idxOf z < ws.length := List.idxOf_lt_length_iff.mpr h
  refine ⟨by rw [List.getElem?_eq_getElem hl, List.getElem_idxOf hl], fun m hlt he => ?_⟩
  have : ws.idxOf z ≤ m := by
    clear h hl
    induction ws generalizing m with
    | nil => simp at he
    | cons a r ih =>
      rw [List.idxOf_cons] at hlt ⊢
      by_cases c : (a == z) = true
      · rw [c] at hlt
        exact absurd hlt (Nat.not_lt_zero _)
      · have c : (a == z) = false := by simpa using c
        rw [c] at hlt ⊢
        cases m with
        | zero =>
          simp at he
          rw [he] at c
          simp at c
        | succ m =>
          have := ih m (by simpa using hlt) (by simpa using he)
          simpa using this
  omega
end
end WW

set_option Elab.async false
set_option linter.all false
set_option maxRecDepth 100000
set_option maxHeartbeats 4000000
namespace WW
open PySem PySem.Spec PyProof.Rows L2
/-! ### drawn modules -/
abbrev Lk := T4 Str Str Int Int
structure DMd where
  n : Str
  i : List Str
  o : List Str
  s : List Str
  c : List (Str × Str)
  l : List Lk
def callsA (cs : List (Str × Str)) : AV := IsAV.av (α := L (Str × Str)) cs
def linksA (ls : List Lk) : AV := IsAV.av (α := L Lk) ls
def DMd.base (m : DMd) : List (Str × AV) := [("name", .str m.n), ("inlets", strsA m.i), ("outlets", strsA m.o), ("stations", strsA m.s), ("calls", callsA m.c)]
def DMd.dc (m : DMd) : Dct AV := ⟨m.base ++ ([("links", linksA m.l)] : List (Str × AV))⟩
instance : Enc DMd := ⟨fun K S v m => Enc.rep K S v m.dc, fun e h => Enc.mono (α := Dct AV) e h⟩
structure KN where
  ms : List DMd
def KN.dct (k : KN) : Dct DMd := ⟨k.ms.map fun m => (m.n, m)⟩
instance : Enc KN := ⟨fun K S v k => Enc.rep K S v k.dct, fun e h => Enc.mono (α := Dct DMd) e h⟩
def noM : DMd := ⟨"", [], [], [], [], []⟩
def findM (ks : List DMd) (z : Str) : DMd := ((KN.mk ks).dct.get z).getD noM
def DMd.labels (m : DMd) : List Str := m.c.map (·.1)
def DMd.all (m : DMd) : List Str := m.i ++ m.o ++ m.s ++ m.labels
structure KsOk (ks : List DMd) : Prop where
  nd : (ks.map (·.n)).Nodup
  len : ks.length ≤ 10
  all : ∀ d ∈ ks, d.all.length ≤ 18 ∧ (∀ z ∈ d.all, z ∈ ALLN) ∧ d.n.length ≤ 5
structure MOk (m : DMd) (ks : List DMd) : Prop where
  nd : m.all.Nodup
  al : ∀ z ∈ m.all, z ∈ ALLN
  ln : m.all.length ≤ 18
  s1 : 0 < m.s.length
  o1 : 0 < m.o.length
  nl : m.n.length ≤ 5
  cl : ∀ t ∈ m.c, t.2 ∈ ks.map (·.n)
theorem get_find {ks : List DMd} {z : Str} (h : z ∈ ks.map (·.n)) : (KN.mk ks).dct.get z = some (findM ks z) ∧ findM ks z ∈ ks ∧ (findM ks z).n = z := by
  have : ∃ d, (KN.mk ks).dct.get z = some d ∧ d ∈ ks ∧ d.n = z := by
    unfold KN.dct Dct.get
    dsimp only
    induction ks with
    | nil => cases h
    | cons d r ih =>
      rw [List.map_cons, List.find?_cons]
      by_cases c : d.n = z
      · exact ⟨d, by rw [decide_eq_true c]; rfl, List.mem_cons_self, c⟩
      · rw [decide_eq_false c]
        rw [List.map_cons] at h
        obtain ⟨e, h1, h2, h3⟩ := ih ((List.mem_cons.mp h).resolve_left (fun e => c e.symm))
        exact ⟨e, h1, List.mem_cons_of_mem _ h2, h3⟩
  obtain ⟨d, h1, h2, h3⟩ := this
  unfold findM
  rw [h1]
  exact ⟨rfl, h2, h3⟩
section
variable {K : PySem.W.Frag} {B : Addr → Prop} {ρ : List Slot} {ta tb te : TE} {ks : List DMd} {z : Str} {m : DMd}
theorem d_known (h : DE K B ta ρ (KN.mk ks)) (hz : DE K B tb ρ z) (hm : z ∈ ks.map (·.n)) : DE K B (tDGet ta tb) ρ (findM ks z) := d_getD (α := DMd) (d := (KN.mk ks).dct) h hz (get_find hm).1
theorem d_dc (h : DE K B te ρ m) : DE K B te ρ m.dc := h
theorem d_ofdc (h : DE K B te ρ m.dc) : DE K B te ρ m := h
theorem d_kn (h : DE K B te ρ (KN.mk ks).dct) : DE K B te ρ (KN.mk ks) := h
end
def dotted (a b : Str) : Str := (a ++ ".") ++ b
def begM (m : DMd) (ks : List DMd) : List Str := m.i ++ m.s ++ m.c.flatMap fun t => (findM ks t.2).o.map fun z => dotted t.1 z
def goeM (m : DMd) (ks : List DMd) : List Str := m.s ++ m.o ++ m.c.flatMap fun t => (findM ks t.2).i.map fun z => dotted t.1 z
def endsM (m : DMd) : List Str := m.i ++ m.s ++ m.labels ++ m.o
def hdS (z : Str) : Str := (Txt.split z ".").headD ""
theorem alln_len : ∀ z ∈ ALLN, z.length ≤ 5 := by decide +kernel
theorem split1 : ∀ z ∈ ALLN, Txt.split z "." = [z] := by decide +kernel
theorem split2 : ∀ a ∈ ALLN, ∀ b ∈ ALLN, Txt.split (dotted a b) "." = [a, b] := by decide +kernel
theorem dotted_len : ∀ a ∈ ALLN, ∀ b ∈ ALLN, (dotted a b).length ≤ 11 := by decide +kernel
theorem ends_of {m : DMd} {ks : List DMd} (ok : MOk m ks) (hk : KsOk ks) {z : Str} (h : z ∈ begM m ks ∨ z ∈ goeM m ks) : (∃ r, Txt.split z "." = hdS z :: r) ∧ hdS z ∈ endsM m ∧ z.length ≤ 11 ∧ (Txt.split z ".").length ≤ 2 := by
  have one : ∀ z, z ∈ m.all → z ∈ endsM m → (∃ r, Txt.split z "." = hdS z :: r) ∧ hdS z ∈ endsM m ∧ z.length ≤ 11 ∧ (Txt.split z ".").length ≤ 2 := fun z h1 h2 => by
    have e := split1 z (ok.al z h1)
    have l := alln_len z (ok.al z h1)
    unfold hdS
    rw [e]
    exact ⟨⟨[], rfl⟩, h2, by omega, by show 1 ≤ 2; decide⟩
  have two : ∀ t ∈ m.c, ∀ y ∈ ALLN, (∃ r, Txt.split (dotted t.1 y) "." = hdS (dotted t.1 y) :: r) ∧ hdS (dotted t.1 y) ∈ endsM m ∧ (dotted t.1 y).length ≤ 11 ∧ (Txt.split (dotted t.1 y) ".").length ≤ 2 := fun t ht y hy => by
    have hl : t.1 ∈ m.labels := List.mem_map.mpr ⟨t, ht, rfl⟩
    have ha : t.1 ∈ ALLN := ok.al _ (List.mem_append_right _ hl)
    have e := split2 t.1 ha y hy
    unfold hdS
    rw [e]
    exact ⟨⟨[y], rfl⟩, List.mem_append_left _ (List.mem_append_right _ hl), dotted_len t.1 ha y hy, Nat.le_refl _⟩
  have inM : ∀ t ∈ m.c, findM ks t.2 ∈ ks := fun t ht => (get_find (ok.cl t ht)).2.1
  unfold begM goeM at h
  rcases h with h | h
  · rcases List.mem_append.mp h with h | h
    · rcases List.mem_append.mp h with h | h
      · exact one z (List.mem_append_left _ (List.mem_append_left _ (List.mem_append_left _ h))) (List.mem_append_left _ (List.mem_append_left _ (List.mem_append_left _ h)))
      · exact one z (List.mem_append_left _ (List.mem_append_right _ h)) (List.mem_append_left _ (List.mem_append_left _ (List.mem_append_right _ h)))
    · obtain ⟨t, ht, hz⟩ := List.mem_flatMap.mp h
      obtain ⟨y, hy, rfl⟩ := List.mem_map.mp hz
      exact two t ht y ((hk.all _ (inM t ht)).2.1 y (List.mem_append_left _ (List.mem_append_left _ (List.mem_append_right _ hy))))
  · rcases List.mem_append.mp h with h | h
    · rcases List.mem_append.mp h with h | h
      · exact one z (List.mem_append_left _ (List.mem_append_right _ h)) (List.mem_append_left _ (List.mem_append_left _ (List.mem_append_right _ h)))
      · exact one z (List.mem_append_left _ (List.mem_append_left _ (List.mem_append_right _ h))) (List.mem_append_right _ h)
    · obtain ⟨t, ht, hz⟩ := List.mem_flatMap.mp h
      obtain ⟨y, hy, rfl⟩ := List.mem_map.mp hz
      exact two t ht y ((hk.all _ (inM t ht)).2.1 y (List.mem_append_left _ (List.mem_append_left _ (List.mem_append_left _ hy))))
theorem flat_len {α β : Type} (g : α → List β) (k : Nat) : ∀ {l : List α}, (∀ x ∈ l, (g x).length ≤ k) → (l.flatMap g).length ≤ l.length * k
  | [], _ => by simp
  | x :: r, h => by
    have h1 := h x List.mem_cons_self
    have h2 := flat_len g k (l := r) fun y hy => h y (List.mem_cons_of_mem _ hy)
    rw [List.flatMap_cons, List.length_append, List.length_cons, Nat.add_mul]
    omega
structure LkOk (m : DMd) (ks : List DMd) (t : Lk) : Prop where
  a : t.a ∈ begM m ks
  b : t.b ∈ goeM m ks
  c0 : 0 ≤ t.c
  c1 : t.c < 3
  d0 : 0 ≤ t.d
  d1 : t.d < 10
  on : t.c = 0 → (endsM m).idxOf (hdS t.a) < (endsM m).idxOf (hdS t.b)
section
variable {P : Program} {w : World} {K : PySem.W.Frag} {mg : Str → Option Value} {base : Heap} {f : Addr} {fd : FuncData}
def dpBeg : List Slot → (Slot → Prop) → Prop := fun ss R => ∃ (m : DMd) (ks : List DMd), ss = [.out (ownD m.base), .val (KN.mk ks)] ∧ MOk m ks ∧ KsOk ks ∧ R (.val (α := L Str) (begM m ks))
def dpGoe : List Slot → (Slot → Prop) → Prop := fun ss R => ∃ (m : DMd) (ks : List DMd), ss = [.out (ownD m.base), .val (KN.mk ks)] ∧ MOk m ks ∧ KsOk ks ∧ R (.val (α := L Str) (goeM m ks))
theorem all_lens {m : DMd} (h : m.all.length ≤ 18) : m.i.length + m.o.length + m.s.length + m.c.length ≤ 18 := by
  unfold DMd.all DMd.labels at h
  simp only [List.length_append, List.length_map] at h
  exact h
abbrev s_l_begins : Stmt := top 52
abbrev N_l_begins : List Str := ["_law_module_here", "_law_known", "_law_found", "_law_label", "_law_name", "_law_outlet"]
theorem sc_l_begins : FnScope N_l_begins ["_law_module_here", "_law_known"] (defScope s_l_begins) := ⟨rfl, rfl, rfl, by decide +kernel, rfl, by decide +kernel, by decide +kernel⟩

theorem ok_begins (F : FnP K "_law_begins" s_l_begins f fd) : FnOk P w K mg base CX0 1 f fd ["_law_module_here", "_law_known"] (spT K dpBeg) := by
  refine okT F sc_l_begins (fun ss R h => ?_) (fun cdv A outer s H E hr => ⟨_, (pss_cons (ps_set (i := 2) sc_l_begins.nd rfl (.inl rfl) (pe_op op_cat (pe_dget (hu_of hr) (pv 0) (pe_str) (fun _ _ => rfl)) (pe_dget (hu_of hr) (pv 0) (pe_str) (fun _ _ => rfl))))
 (pss_cons (ps_for PassesOwn.never rfl (pi_seqK K (pe_dget (hu_of hr) (pv 0) (pe_str) (fun _ _ => rfl))) (pg_tupK (n := 2) K rfl (pgs_cons (pg_name (i := 3) sc_l_begins.nd rfl (.inr rfl)) (pgs_cons (pg_name (i := 4) sc_l_begins.nd rfl (.inl rfl)) (pgs_nil)))) (pss_one (ps_set (i := 2) sc_l_begins.nd rfl (.inl rfl) (pe_op op_cat (pv 2) (pe_lc (own := [("_law_outlet", 5)]) rfl sc_l_begins.nd (pi_seqK K (pe_dget (hu_of hr) (pe_dget (hu_of hr) (pv 1) (pv 4) (fun _ _ => rfl)) (pe_str) (fun _ _ => rfl))) (blkOk_by (N := N_l_begins) (sc := defScope s_l_begins) (by decide +kernel)) (fun _ _ _ _ _ => pg_name (i := 5) sc_l_begins.nd rfl (.inl rfl)) (fun _ _ _ _ _ => pts_nil) (fun _ _ _ _ _ => pe_op op_add_str (pe_op op_add_str (pv 3) (pe_str)) (pv 5)))))))
 (pss_one (ps_ret (pv 2))))), fun B ss R h => ?_⟩)
  · obtain ⟨m, ks, rfl, _⟩ := h
    rfl
  · obtain ⟨m, ks, rfl, ok, hk, q⟩ := h
    have al := all_lens ok.ln
    show DS K B _ [.out (ownD m.base), .val (KN.mk ks), .no, .no, .no, .no] _
    have b18 : ∀ {n : Nat}, n ≤ 1000 → n ≤ BIG := fun h => Nat.le_trans h (by decide)
    refine dq_asgI (δ := L Str) (m.i ++ m.s) (DO.l (do_cat (d_va (α := L Str) (d_getDO (n := 0) rfl d_str (a := strsA m.i) rfl)) (d_va (α := L Str) (d_getDO (n := 0) rfl d_str (a := strsA m.s) rfl)) (b18 (by omega)))) ?_
    show DS K B _ [.out (ownD m.base), .val (KN.mk ks), .val (α := L Str) (m.i ++ m.s), .no, .no, .no] _
    let g : Str × Str → List Str := fun t => (findM ks t.2).o.map fun z => dotted t.1 z
    have fl : ∀ t ∈ m.c, (findM ks t.2).o.length ≤ 18 := fun t ht => by
      have := all_lens (hk.all _ (get_find (ok.cl t ht)).2.1).1
      omega
    refine dq_for (xs := m.c) (di_seq (d_Lq (d_va (α := L (Str × Str)) (d_getDO (n := 0) rfl d_str (a := callsA m.c) rfl)))) (fun i r => ∃ s3 s4 s5 : Slot, r = [.out (ownD m.base), .val (KN.mk ks), .val (α := L Str) (m.i ++ m.s ++ (m.c.take i).flatMap g), s3, s4, s5]) ⟨.no, .no, .no, by simp⟩ (fun i t r ht hI => ?_) fun r hI => ?_
    · obtain ⟨s3, s4, s5, rfl⟩ := hI
      have tm := List.mem_of_getElem? ht
      obtain ⟨g1, g2, g3⟩ := get_find (ok.cl t tm)
      have la : t.1 ∈ ALLN := ok.al _ (List.mem_append_right _ (List.mem_map.mpr ⟨t, tm, rfl⟩))
      have ll := alln_len _ la
      refine ⟨_, _, DG.pair dg_name dg_name, ?_⟩
      show DS K B _ [.out (ownD m.base), .val (KN.mk ks), .val (α := L Str) (m.i ++ m.s ++ (m.c.take i).flatMap g), .val t.1, .val t.2, s5] _
      refine ds_asg (α := L Str) (a := m.i ++ m.s ++ (m.c.take i).flatMap g ++ g t) (DO.l (do_cat (d_var rfl) (DO.l (do_map (fun z => dotted t.1 z) (di_seq (d_Lq (d_va (α := L Str) (d_getD (d := (findM ks t.2).dc) (d_dc (d_known (d_var rfl) (d_var rfl) (ok.cl t tm))) d_str (a := strsA (findM ks t.2).o) rfl)))) (b18 (by have := fl t tm; omega)) fun z hz => ⟨_, _, dg_name, by simp, d_addS (d_addS (d_var rfl) d_str ?_) (d_var rfl) ?_⟩)) ?_)) ⟨.val t.1, .val t.2, s5, ?_⟩
      · exact b18 (by show t.1.length + 1 ≤ 1000; omega)
      · have zl := alln_len z ((hk.all _ g2).2.1 z (List.mem_append_left _ (List.mem_append_left _ (List.mem_append_right _ hz))))
        have e : (t.1 ++ Str.ofString ".").length = t.1.length + 1 := by
          show (t.1.cps ++ (Str.ofString ".").cps).size = _
          rw [Array.size_append]
          rfl
        rw [e]
        exact b18 (by omega)
      · have h1 := flat_len g 18 (l := m.c.take i) fun x hx => by
          show ((findM ks x.2).o.map _).length ≤ 18
          rw [List.length_map]
          exact fl x (List.mem_of_mem_take hx)
        have h2 : (g t).length ≤ 18 := by
          show ((findM ks t.2).o.map _).length ≤ 18
          rw [List.length_map]
          exact fl t tm
        have h3 : (m.c.take i).length ≤ 18 := by rw [List.length_take]; omega
        simp only [List.length_append, List.length_map]
        refine b18 ?_
        have : (m.c.take i).length * 18 ≤ 18 * 18 := Nat.mul_le_mul_right _ h3
        omega
      · rw [List.take_add_one, ht, List.flatMap_append, ← List.append_assoc]
        simp [g]
    · obtain ⟨s3, s4, s5, rfl⟩ := hI
      rw [List.take_length]
      exact ds_ret (d_var rfl) q
abbrev s_l_goes : Stmt := top 53
abbrev N_l_goes : List Str := ["_law_module_here", "_law_known", "_law_found", "_law_label", "_law_name", "_law_inlet"]
theorem sc_l_goes : FnScope N_l_goes ["_law_module_here", "_law_known"] (defScope s_l_goes) := ⟨rfl, rfl, rfl, by decide +kernel, rfl, by decide +kernel, by decide +kernel⟩

theorem ok_goes (F : FnP K "_law_goes" s_l_goes f fd) : FnOk P w K mg base CX0 1 f fd ["_law_module_here", "_law_known"] (spT K dpGoe) := by
  refine okT F sc_l_goes (fun ss R h => ?_) (fun cdv A outer s H E hr => ⟨_, (pss_cons (ps_set (i := 2) sc_l_goes.nd rfl (.inl rfl) (pe_op op_cat (pe_dget (hu_of hr) (pv 0) (pe_str) (fun _ _ => rfl)) (pe_dget (hu_of hr) (pv 0) (pe_str) (fun _ _ => rfl))))
 (pss_cons (ps_for PassesOwn.never rfl (pi_seqK K (pe_dget (hu_of hr) (pv 0) (pe_str) (fun _ _ => rfl))) (pg_tupK (n := 2) K rfl (pgs_cons (pg_name (i := 3) sc_l_goes.nd rfl (.inr rfl)) (pgs_cons (pg_name (i := 4) sc_l_goes.nd rfl (.inl rfl)) (pgs_nil)))) (pss_one (ps_set (i := 2) sc_l_goes.nd rfl (.inl rfl) (pe_op op_cat (pv 2) (pe_lc (own := [("_law_inlet", 5)]) rfl sc_l_goes.nd (pi_seqK K (pe_dget (hu_of hr) (pe_dget (hu_of hr) (pv 1) (pv 4) (fun _ _ => rfl)) (pe_str) (fun _ _ => rfl))) (blkOk_by (N := N_l_goes) (sc := defScope s_l_goes) (by decide +kernel)) (fun _ _ _ _ _ => pg_name (i := 5) sc_l_goes.nd rfl (.inl rfl)) (fun _ _ _ _ _ => pts_nil) (fun _ _ _ _ _ => pe_op op_add_str (pe_op op_add_str (pv 3) (pe_str)) (pv 5)))))))
 (pss_one (ps_ret (pv 2))))), fun B ss R h => ?_⟩)
  · obtain ⟨m, ks, rfl, _⟩ := h
    rfl
  · obtain ⟨m, ks, rfl, ok, hk, q⟩ := h
    have al := all_lens ok.ln
    show DS K B _ [.out (ownD m.base), .val (KN.mk ks), .no, .no, .no, .no] _
    have b18 : ∀ {n : Nat}, n ≤ 1000 → n ≤ BIG := fun h => Nat.le_trans h (by decide)
    refine dq_asgI (δ := L Str) (m.s ++ m.o) (DO.l (do_cat (d_va (α := L Str) (d_getDO (n := 0) rfl d_str (a := strsA m.s) rfl)) (d_va (α := L Str) (d_getDO (n := 0) rfl d_str (a := strsA m.o) rfl)) (b18 (by omega)))) ?_
    show DS K B _ [.out (ownD m.base), .val (KN.mk ks), .val (α := L Str) (m.s ++ m.o), .no, .no, .no] _
    let g : Str × Str → List Str := fun t => (findM ks t.2).i.map fun z => dotted t.1 z
    have fl : ∀ t ∈ m.c, (findM ks t.2).i.length ≤ 18 := fun t ht => by
      have := all_lens (hk.all _ (get_find (ok.cl t ht)).2.1).1
      omega
    refine dq_for (xs := m.c) (di_seq (d_Lq (d_va (α := L (Str × Str)) (d_getDO (n := 0) rfl d_str (a := callsA m.c) rfl)))) (fun i r => ∃ s3 s4 s5 : Slot, r = [.out (ownD m.base), .val (KN.mk ks), .val (α := L Str) (m.s ++ m.o ++ (m.c.take i).flatMap g), s3, s4, s5]) ⟨.no, .no, .no, by simp⟩ (fun i t r ht hI => ?_) fun r hI => ?_
    · obtain ⟨s3, s4, s5, rfl⟩ := hI
      have tm := List.mem_of_getElem? ht
      obtain ⟨g1, g2, g3⟩ := get_find (ok.cl t tm)
      have la : t.1 ∈ ALLN := ok.al _ (List.mem_append_right _ (List.mem_map.mpr ⟨t, tm, rfl⟩))
      have ll := alln_len _ la
      refine ⟨_, _, DG.pair dg_name dg_name, ?_⟩
      show DS K B _ [.out (ownD m.base), .val (KN.mk ks), .val (α := L Str) (m.s ++ m.o ++ (m.c.take i).flatMap g), .val t.1, .val t.2, s5] _
      refine ds_asg (α := L Str) (a := m.s ++ m.o ++ (m.c.take i).flatMap g ++ g t) (DO.l (do_cat (d_var rfl) (DO.l (do_map (fun z => dotted t.1 z) (di_seq (d_Lq (d_va (α := L Str) (d_getD (d := (findM ks t.2).dc) (d_dc (d_known (d_var rfl) (d_var rfl) (ok.cl t tm))) d_str (a := strsA (findM ks t.2).i) rfl)))) (b18 (by have := fl t tm; omega)) fun z hz => ⟨_, _, dg_name, by simp, d_addS (d_addS (d_var rfl) d_str ?_) (d_var rfl) ?_⟩)) ?_)) ⟨.val t.1, .val t.2, s5, ?_⟩
      · exact b18 (by show t.1.length + 1 ≤ 1000; omega)
      · have zl := alln_len z ((hk.all _ g2).2.1 z (List.mem_append_left _ (List.mem_append_left _ (List.mem_append_left _ hz))))
        have e : (t.1 ++ Str.ofString ".").length = t.1.length + 1 := by
          show (t.1.cps ++ (Str.ofString ".").cps).size = _
          rw [Array.size_append]
          rfl
        rw [e]
        exact b18 (by omega)
      · have h1 := flat_len g 18 (l := m.c.take i) fun x hx => by
          show ((findM ks x.2).i.map _).length ≤ 18
          rw [List.length_map]
          exact fl x (List.mem_of_mem_take hx)
        have h2 : (g t).length ≤ 18 := by
          show ((findM ks t.2).i.map _).length ≤ 18
          rw [List.length_map]
          exact fl t tm
        have h3 : (m.c.take i).length ≤ 18 := by rw [List.length_take]; omega
        simp only [List.length_append, List.length_map]
        refine b18 ?_
        have : (m.c.take i).length * 18 ≤ 18 * 18 := Nat.mul_le_mul_right _ h3
        omega
      · rw [List.take_add_one, ht, List.flatMap_append, ← List.append_assoc]
        simp [g]
    · obtain ⟨s3, s4, s5, rfl⟩ := hI
      rw [List.take_length]
      exact ds_ret (d_var rfl) q
def dpLinks : List Slot → (Slot → Prop) → Prop := fun ss R => ∃ (m : DMd) (ks : List DMd), ss = [.box, .out (ownD m.base), .val (KN.mk ks)] ∧ MOk m ks ∧ KsOk ks ∧ ∀ ls : List Lk, (∀ t ∈ ls, LkOk m ks t) → ls.length ≤ 8 → R (.val (α := L Lk) ls)
theorem beg_len {m : DMd} {ks : List DMd} (ok : MOk m ks) (hk : KsOk ks) : (begM m ks).length ≤ 400 ∧ (goeM m ks).length ≤ 400 ∧ 0 < (begM m ks).length ∧ 0 < (goeM m ks).length := by
  have al := all_lens ok.ln
  have s1 := ok.s1
  have h1 := flat_len (fun t : Str × Str => (findM ks t.2).o.map fun z => dotted t.1 z) 18 (l := m.c) fun t ht => by
    have := all_lens (hk.all _ (get_find (ok.cl t ht)).2.1).1
    rw [List.length_map]
    omega
  have h2 := flat_len (fun t : Str × Str => (findM ks t.2).i.map fun z => dotted t.1 z) 18 (l := m.c) fun t ht => by
    have := all_lens (hk.all _ (get_find (ok.cl t ht)).2.1).1
    rw [List.length_map]
    omega
  have h3 : m.c.length * 18 ≤ 18 * 18 := Nat.mul_le_mul_right _ (by omega)
  unfold begM goeM
  simp only [List.length_append]
  omega
abbrev s_l_links : Stmt := top 54
abbrev N_l_links : List Str := ["_law_box_here", "_law_module_here", "_law_known", "_law_ends", "_law_begins_here", "_law_goes_here", "_law_found", "_law_turn", "_law_first", "_law_then", "_law_is_onward", "_law_marks", "_law_label", "_law_name"]
theorem sc_l_links : FnScope N_l_links ["_law_box_here", "_law_module_here", "_law_known"] (defScope s_l_links) := ⟨rfl, rfl, rfl, by decide +kernel, rfl, by decide +kernel, by decide +kernel⟩

theorem ok_links (F : FnP K "_law_links" s_l_links f fd) (m_range : mg "range" = none) (g_l_begins : FnAt P w K mg base CX0 1 "_law_begins" ["_law_module_here", "_law_known"] (spT K dpBeg)) (g_l_goes : FnAt P w K mg base CX0 1 "_law_goes" ["_law_module_here", "_law_known"] (spT K dpGoe))
    (g_l_take : FnAt P w K mg base CX0 1 "_law_take" ["_law_box_here", "_law_many"] (spT K dpTake)) (g_l_pick : FnAt P w K mg base CX0 2 "_law_pick" ["_law_box_here", "_law_items"] (spT K (dpPick Str))) : FnOk P w K mg base CX0 3 f fd ["_law_box_here", "_law_module_here", "_law_known"] (spT K dpLinks) := by
  refine okT F sc_l_links (fun ss R h => ?_) (fun cdv A outer s H E hr => ⟨_, (pss_cons (ps_set (i := 3) sc_l_links.nd rfl (.inl rfl) (pe_op op_cat (pe_op op_cat (pe_op op_cat (pe_dget (hu_of hr) (pv 1) (pe_str) (fun _ _ => rfl)) (pe_dget (hu_of hr) (pv 1) (pe_str) (fun _ _ => rfl))) (pe_lc (own := [("_law_label", 12), ("_law_name", 13)]) rfl sc_l_links.nd (pi_seqK K (pe_dget (hu_of hr) (pv 1) (pe_str) (fun _ _ => rfl))) (blkOk_by (N := N_l_links) (sc := defScope s_l_links) (by decide +kernel)) (fun _ _ _ _ _ => pg_tupK (n := 2) K rfl (pgs_cons (pg_name (i := 12) sc_l_links.nd rfl (.inl rfl)) (pgs_cons (pg_name (i := 13) sc_l_links.nd rfl (.inl rfl)) (pgs_nil)))) (fun _ _ _ _ _ => pts_nil) (fun _ _ _ _ _ => pv 12))) (pe_dget (hu_of hr) (pv 1) (pe_str) (fun _ _ => rfl))))
 (pss_cons (ps_par3 (i := 4) (j := 5) (l := 6) rfl sc_l_links.nd rfl rfl rfl (by decide) (by decide) (by decide) rfl rfl rfl (pa_cons (pe_fn g_l_begins hr rfl (pa_cons (pv 1) (pa_cons (pv 2) (pa_nil)))) (pa_cons (pe_fn g_l_goes hr rfl (pa_cons (pv 1) (pa_cons (pv 2) (pa_nil)))) (pa_cons (pe_lst (pa_nil)) (pa_nil)))) rfl)
 (pss_cons (ps_if (PW.pt (pw_or (pt_cmpR (op_eqE K hr) (pv 4) (pe_lst (pa_nil)) (nomark _)) (pw_or1 (pt_cmpR (op_eqE K hr) (pv 5) (pe_lst (pa_nil)) (nomark _))))) (pss_one (ps_ret (pv 6))) (pss_nil))
 (pss_cons (ps_for PassesOwn.never rfl (pi_range1 rfl m_range (pa_cons (pe_op op_add (pe_int) (pe_fn g_l_take hr rfl (pa_cons (pv 0) (pa_cons (pe_int) (pa_nil))))) (pa_nil))) (pg_name (i := 7) sc_l_links.nd rfl (.inl rfl)) (pss_cons (ps_par (i := 8) (j := 9) rfl sc_l_links.nd rfl rfl (by decide) rfl rfl (pa_cons (pe_fn g_l_pick hr rfl (pa_cons (pv 0) (pa_cons (pv 4) (pa_nil)))) (pa_cons (pe_fn g_l_pick hr rfl (pa_cons (pv 0) (pa_cons (pv 5) (pa_nil)))) (pa_nil))) rfl)
 (pss_cons (ps_set (i := 10) sc_l_links.nd rfl (.inl rfl) (pe_cmpR op_lt (pe_bmK K PySem.F.plainAttrs_list PySem.F.slot_list_index PySem.F.type_list_index (mt_indexK K) (pv 3) (pa_cons (pe_ix (ix_sqK K) (pe_split (pv 8) (pe_str)) (pe_int) (fun _ _ => rfl)) (pa_nil))) (pe_bmK K PySem.F.plainAttrs_list PySem.F.slot_list_index PySem.F.type_list_index (mt_indexK K) (pv 3) (pa_cons (pe_ix (ix_sqK K) (pe_split (pv 9) (pe_str)) (pe_int) (fun _ _ => rfl)) (pa_nil))) (nomark _)))
 (pss_cons (ps_set (i := 11) sc_l_links.nd rfl (.inl rfl) (pe_ifExp (pt_val (pv 10)) (pe_fn g_l_take hr rfl (pa_cons (pv 0) (pa_cons (pe_int) (pa_nil)))) (pe_op op_add (pe_int) (pe_fn g_l_take hr rfl (pa_cons (pv 0) (pa_cons (pe_int) (pa_nil)))))))
 (pss_one (ps_expr (pe_bmK K PySem.F.plainAttrs_list PySem.F.slot_list_append PySem.F.type_list_append mt_append (pv 6) (pa_cons (pe_tup (pa_cons (pv 8) (pa_cons (pv 9) (pa_cons (pe_ifExp (PW.pt (pw_and (pt_val (pv 10)) (pw_and1 (pt_cmpR op_eq (pe_fn g_l_take hr rfl (pa_cons (pv 0) (pa_cons (pe_int) (pa_nil)))) (pe_int) (nomark _))))) (pe_int) (pv 11)) (pa_cons (pe_fn g_l_take hr rfl (pa_cons (pv 0) (pa_cons (pe_int) (pa_nil)))) (pa_nil)))))) (pa_nil)))))))))
 (pss_one (ps_ret (pv 6))))))), fun B ss R h => ?_⟩)
  · obtain ⟨m, ks, rfl, _⟩ := h
    rfl
  · obtain ⟨m, ks, rfl, ok, hk, q⟩ := h
    have al := all_lens ok.ln
    obtain ⟨bl, gl, b0, g0⟩ := beg_len ok hk
    have b18 : ∀ {n : Nat}, n ≤ 1000 → n ≤ BIG := fun h => Nat.le_trans h (by decide)
    show DS K B _ [.box, .out (ownD m.base), .val (KN.mk ks), .no, .no, .no, .no, .no, .no, .no, .no, .no, .no, .no] _
    have cl : m.c.length ≤ 1000 := by omega
    have lb : m.labels.length = m.c.length := List.length_map ..
    refine dq_asgI (δ := L Str) (endsM m) (DO.l (do_cat (xs := m.i ++ m.s ++ m.labels) (DO.l (do_cat (xs := m.i ++ m.s) (DO.l (do_cat (d_va (α := L Str) (d_getDO (n := 1) rfl d_str (a := strsA m.i) rfl)) (d_va (α := L Str) (d_getDO (n := 1) rfl d_str (a := strsA m.s) rfl)) (b18 (by omega)))) (DO.l (do_map (fun t : Str × Str => t.1) (di_seq (d_Lq (d_va (α := L (Str × Str)) (d_getDO (n := 1) rfl d_str (a := callsA m.c) rfl)))) (b18 cl) fun t ht => ⟨_, _, DG.pair dg_name dg_name, by simp, d_var rfl⟩)) (b18 (by simp only [List.length_append]; omega)))) (d_va (α := L Str) (d_getDO (n := 1) rfl d_str (a := strsA m.o) rfl)) (b18 (by simp only [List.length_append]; omega)))) ?_
    show DS K B _ [.box, .out (ownD m.base), .val (KN.mk ks), .val (α := L Str) (endsM m), .no, .no, .no, .no, .no, .no, .no, .no, .no, .no] _
    refine ds_seq (ds_par3O (α := L Str) (β := L Str) (a := begM m ks) (b := goeM m ks) (d_call (da_out rfl (da_cons (d_var rfl) da_nil)) ⟨m, ks, rfl, ok, hk, rfl⟩) (d_call (da_out rfl (da_cons (d_var rfl) da_nil)) ⟨m, ks, rfl, ok, hk, rfl⟩) (do_nil Lk) ?_)
    show DS K B _ [.box, .out (ownD m.base), .val (KN.mk ks), .val (α := L Str) (endsM m), .val (α := L Str) (begM m ks), .val (α := L Str) (goeM m ks), .own (α := Lk) [], .no, .no, .no, .no, .no, .no, .no] _
    refine dq_when (c := false) (DT.is (dt_or (dt_test (d_eqE (d_var rfl))) fun _ => dt_test (d_eqE (d_var rfl))) ?_) (fun h => nomatch h) fun _ => ?_
    · have e1 : (begM m ks).isEmpty = false := by cases h : begM m ks with
        | nil => rw [h] at b0; cases b0
        | cons _ _ => rfl
      have e2 : (goeM m ks).isEmpty = false := by cases h : goeM m ks with
        | nil => rw [h] at g0; cases g0
        | cons _ _ => rfl
      rw [e1, e2]
      rfl
    refine dq_forN (dn_add (DE.n d_int) (dn_callb1 rfl d_int ⟨by decide, by decide⟩)) fun n hn => ?_
    obtain ⟨_, k, rfl, ⟨k0, k1⟩, rfl⟩ := hn
    refine dq_for (di_rng1 d_int (by omega) (by omega)) (fun i r => ∃ (ls : List Lk) (s7 s8 s9 s10 s11 s12 s13 : Slot), r = [.box, .out (ownD m.base), .val (KN.mk ks), .val (α := L Str) (endsM m), .val (α := L Str) (begM m ks), .val (α := L Str) (goeM m ks), .own ls, s7, s8, s9, s10, s11, s12, s13] ∧ ls.length = i ∧ ∀ t ∈ ls, LkOk m ks t) ⟨[], .no, .no, .no, .no, .no, .no, .no, rfl, rfl, fun _ h => nomatch h⟩ (fun i x r hx hI => ?_) fun r hI => ?_
    · obtain ⟨ls, s7, s8, s9, s10, s11, s12, s13, rfl, ll, lo⟩ := hI
      have hi := (List.getElem?_eq_some_iff.mp hx).1
      rw [rg_len] at hi
      refine ⟨_, _, dg_name, ?_⟩
      refine ds_seq (ds_parN (dn_callb1 rfl (d_var rfl) ⟨b0, by omega⟩) (dn_callb1 rfl (d_var rfl) ⟨g0, by omega⟩) fun a b ha hb => ?_)
      show DS K B _ [.box, .out (ownD m.base), .val (KN.mk ks), .val (α := L Str) (endsM m), .val (α := L Str) (begM m ks), .val (α := L Str) (goeM m ks), .own ls, .val x, .val a, .val b, s10, s11, s12, s13] _
      have ha : a ∈ begM m ks := ha
      have hb : b ∈ goeM m ks := hb
      obtain ⟨⟨ra, ea⟩, ma, la, la2⟩ := ends_of ok hk (.inl ha)
      obtain ⟨⟨rb, eb⟩, mb, lb, lb2⟩ := ends_of ok hk (.inr hb)
      have ia := idx_mem ma
      have ib := idx_mem mb
      refine dq_asg (a := decide (((endsM m).idxOf (hdS a) : Int) < ((endsM m).idxOf (hdS b) : Int))) (d_lt (d_indexS (d_var rfl) (d_ix (DO.q (do_split (d_var rfl) d_str (by decide) (b18 (by omega)) (b18 (by omega)))) d_int (by rw [ea]; exact atI_nat (j := 0) rfl)) ia.1 ia.2) (d_indexS (d_var rfl) (d_ix (DO.q (do_split (d_var rfl) d_str (by decide) (b18 (by omega)) (b18 (by omega)))) d_int (by rw [eb]; exact atI_nat (j := 0) rfl)) ib.1 ib.2)) ?_
      show DS K B _ [.box, .out (ownD m.base), .val (KN.mk ks), .val (α := L Str) (endsM m), .val (α := L Str) (begM m ks), .val (α := L Str) (goeM m ks), .own ls, .val x, .val a, .val b, .val (decide (((endsM m).idxOf (hdS a) : Int) < ((endsM m).idxOf (hdS b) : Int))), s11, s12, s13] _
      have onw : decide (((endsM m).idxOf (hdS a) : Int) < ((endsM m).idxOf (hdS b) : Int)) = true → (endsM m).idxOf (hdS a) < (endsM m).idxOf (hdS b) := fun h => by have := of_decide_eq_true h; omega
      generalize decide (((endsM m).idxOf (hdS a) : Int) < ((endsM m).idxOf (hdS b) : Int)) = on at onw
      refine dq_asgN (P := fun k : Int => 0 ≤ k ∧ k < 3 ∧ (k = 0 → on = true)) (dn_if (dt_B (d_var rfl)) (fun h => (dn_callb1 rfl d_int ⟨by decide, by decide⟩).imp fun k hk => ⟨hk.1, hk.2, fun _ => h⟩) (fun h => (dn_add (DE.n d_int) (dn_callb1 rfl d_int ⟨by decide, by decide⟩)).imp fun k hk => ?_)) fun mk hmk => ?_
      · obtain ⟨_, y, rfl, ⟨y0, y1⟩, rfl⟩ := hk
        exact ⟨by omega, by omega, fun h => by omega⟩
      refine ds_appendN (n := 6) (xs := ls) rfl (dn_quad (DE.n (d_var rfl)) (DE.n (d_var rfl)) (dn_ifN (P := fun k : Int => 0 ≤ k ∧ k < 3 ∧ (k = 0 → on = true)) (dtn_and (dt_B (d_var rfl)) fun _ => dtn_test (dn_eqI (dn_callb1 rfl d_int ⟨by decide, by decide⟩) (DE.n d_int))) (fun h => (DE.n d_int).imp fun k hk => ?_) (fun _ => (DE.n (d_var rfl)).imp fun k hk => by rw [hk]; exact hmk)) (dn_callb1 rfl d_int ⟨by decide, by decide⟩)) (by rw [ll]; exact Nat.lt_of_lt_of_le (show i < 1000 by omega) (by decide)) fun t ht => ⟨ls ++ [t], .val x, .val a, .val b, .val on, .val mk, s12, s13, rfl, by rw [List.length_append, ll]; rfl, fun u hu => ?_⟩
      · subst hk
        refine ⟨by decide, by decide, fun _ => ?_⟩
        cases on with
        | true => rfl
        | false => rw [if_neg (by decide)] at h; cases h
      · rcases List.mem_append.mp hu with hu | hu
        · exact lo u hu
        · rw [List.mem_singleton.mp hu]
          obtain ⟨h1, h2, ⟨h3, h4, h5⟩, h6, h7⟩ := ht
          refine ⟨by rw [h1]; exact ha, by rw [h2]; exact hb, h3, h4, h6, h7, fun hz => ?_⟩
          rw [h1, h2]
          exact onw (h5 hz)
    · obtain ⟨ls, s7, s8, s9, s10, s11, s12, s13, rfl, ll, lo⟩ := hI
      rw [rg_len] at ll
      exact ds_frz (n := 6) rfl (ds_ret (d_var rfl) (q ls lo (by omega)))
end
end WW

set_option Elab.async false
set_option linter.all false
set_option maxRecDepth 100000
set_option maxHeartbeats 4000000
namespace WW
open PySem PySem.Spec PyProof.Rows L2
/-! ### a drawn module, a drawn house -/
theorem cutA_drop {δ : Type} {xs : List δ} {t : Nat} : cutA xs (some (t : Int)) none = xs.drop t := by
  unfold cutA
  rw [HT.sIx_none, HT.sIx_nat]
  by_cases h : t ≤ xs.length
  · rw [Nat.min_eq_left h, List.take_of_length_le (by rw [List.length_drop]; omega)]
  · rw [Nat.min_eq_right (by omega), List.drop_of_length_le (Nat.le_refl _), List.drop_of_length_le (by omega), List.take_nil]
theorem cutA_mid {δ : Type} {xs : List δ} {t u : Nat} (h : t + u ≤ xs.length) : cutA xs (some (t : Int)) (some ((t : Int) + (u : Int))) = (xs.drop t).take u := by
  unfold cutA
  rw [show (t : Int) + (u : Int) = ((t + u : Nat) : Int) by omega, HT.sIx_nat, HT.sIx_nat, Nat.min_eq_left (show t ≤ xs.length by omega), Nat.min_eq_left h]
  congr 1
  omega
section
variable {K : PySem.W.Frag} {B : Addr → Prop} {ρ : List Slot} {te : TE}
theorem d_avL {zs : List Str} (h : DE K B te ρ (α := L Str) zs) : DE K B te ρ (strsA zs) := d_av (α := L Str) h
end
abbrev Sz := T4 Int Int Int Int
structure SzOk (z : Sz) : Prop where
  a0 : 0 ≤ z.a
  b0 : 1 ≤ z.b
  c0 : 1 ≤ z.c
  d0 : 0 ≤ z.d
  t : z.a + z.b + z.c + z.d ≤ 18
def LksOk (m : DMd) (ks : List DMd) (ls : List Lk) : Prop := (∀ t ∈ ls, LkOk m ks t) ∧ ls.length ≤ 8
structure MFull (m : DMd) (ks : List DMd) : Prop where
  ok : MOk m ks
  lk : ∀ t ∈ m.l, LkOk m ks t
  ll : m.l.length ≤ 8
def dpModule : List Slot → (Slot → Prop) → Prop := fun ss R => ∃ (nm : Str) (z : Sz) (ks : List DMd), ss = [.box, .val nm, .val z, .out (ownL ks)] ∧ nm.length ≤ 5 ∧ SzOk z ∧ KsOk ks ∧ ∀ m : DMd, MFull m ks → m.n = nm → (m.i.length : Int) = z.a → (m.o.length : Int) = z.b → (m.s.length : Int) = z.c → (m.c.length : Int) ≤ z.d → R (.val m)
section
variable {P : Program} {w : World} {K : PySem.W.Frag} {mg : Str → Option Value} {base : Heap} {f : Addr} {fd : FuncData}
abbrev s_l_module : Stmt := top 51
abbrev N_l_module : List Str := ["_law_box_here", "_law_name", "_law_sizes", "_law_called", "_law_inlets", "_law_outlets", "_law_stations", "_law_many", "_law_names_here", "_law_found", "_law_labels", "_law_known", "_law_label", "_law_one"]
theorem sc_l_module : FnScope N_l_module ["_law_box_here", "_law_name", "_law_sizes", "_law_called"] (defScope s_l_module) := ⟨rfl, rfl, rfl, by decide +kernel, rfl, by decide +kernel, by decide +kernel⟩

theorem ok_module (F : FnP K "_law_module" s_l_module f fd) (m_dict : mg "dict" = none) (g_l_names : FnAt P w K mg base CX0 3 "_law_names" ["_law_box_here", "_law_many"] (spT K (dpb1 (fun n : Int => 0 ≤ n ∧ n ≤ 18) (fun n (zs : L Str) => Drn n zs))))
    (g_l_pick : FnAt P w K mg base CX0 2 "_law_pick" ["_law_box_here", "_law_items"] (spT K (dpPickO DMd))) (g_l_links : FnAt P w K mg base CX0 3 "_law_links" ["_law_box_here", "_law_module_here", "_law_known"] (spT K dpLinks)) : FnOk P w K mg base CX0 4 f fd ["_law_box_here", "_law_name", "_law_sizes", "_law_called"] (spT K dpModule) := by
  refine okT F sc_l_module (fun ss R h => ?_) (fun cdv A outer s H E hr => ⟨_, (pss_cons (ps_asg (pv 2) (pg_tupK (n := 4) K rfl (pgs_cons (pg_name (i := 4) sc_l_module.nd rfl (.inl rfl)) (pgs_cons (pg_name (i := 5) sc_l_module.nd rfl (.inl rfl)) (pgs_cons (pg_name (i := 6) sc_l_module.nd rfl (.inl rfl)) (pgs_cons (pg_name (i := 7) sc_l_module.nd rfl (.inl rfl)) (pgs_nil)))))))
 (pss_cons (ps_set (i := 8) sc_l_module.nd rfl (.inl rfl) (pe_fn g_l_names hr rfl (pa_cons (pv 0) (pa_cons (pe_op op_add (pe_op op_add (pe_op op_add (pv 4) (pv 5)) (pv 6)) (pv 7)) (pa_nil)))))
 (pss_cons (ps_set (i := 9) sc_l_module.nd rfl (.inl rfl) (pe_disp (pps_cons (pe_str) (pv 1) (pps_cons (pe_str) (pe_slice (sl_sqK K) (pv 8) (po_none) (po_some (pv 4))) (pps_cons (pe_str) (pe_slice (sl_sqK K) (pv 8) (po_some (pv 4)) (po_some (pe_op op_add (pv 4) (pv 5)))) (pps_nil)))) (by rfl) (by rfl) (fun z => by cases z) (by decide)))
 (pss_cons (ps_dput (hu_of hr) (pv 9) (pe_str) (pe_slice (sl_sqK K) (pv 8) (po_some (pe_op op_add (pv 4) (pv 5))) (po_some (pe_op op_add (pe_op op_add (pv 4) (pv 5)) (pv 6)))) rfl)
 (pss_cons (ps_set (i := 10) sc_l_module.nd rfl (.inl rfl) (pe_ifExp (pt_cmpR (op_neE K hr) (pv 3) (pe_lst (pa_nil)) (nomark _)) (pe_slice (sl_sqK K) (pv 8) (po_some (pe_op op_add (pe_op op_add (pv 4) (pv 5)) (pv 6))) (po_none)) (pe_lst (pa_nil))))
 (pss_cons (ps_dput (hu_of hr) (pv 9) (pe_str) (pe_lc (own := [("_law_label", 12)]) rfl sc_l_module.nd (pi_seqK K (pv 10)) (blkOk_by (N := N_l_module) (sc := defScope s_l_module) (by decide +kernel)) (fun _ _ _ _ _ => pg_name (i := 12) sc_l_module.nd rfl (.inl rfl)) (fun _ _ _ _ _ => pts_nil) (fun _ _ _ _ _ => pe_tup (pa_cons (pv 12) (pa_cons (pe_dget (hu_of hr) (pe_fn g_l_pick hr rfl (pa_cons (pv 0) (pa_cons (pv 3) (pa_nil)))) (pe_str) (fun _ _ => rfl)) (pa_nil))))) rfl)
 (pss_cons (ps_set (i := 11) sc_l_module.nd rfl (.inl rfl) (pe_callTy (call_dictP rfl) rfl m_dict (by decide +kernel) (pa_cons (pe_lc (own := [("_law_one", 13)]) rfl sc_l_module.nd (pi_seqK K (pv 3)) (blkOk_by (N := N_l_module) (sc := defScope s_l_module) (by decide +kernel)) (fun _ _ _ _ _ => pg_name (i := 13) sc_l_module.nd rfl (.inl rfl)) (fun _ _ _ _ _ => pts_nil) (fun _ _ _ _ _ => pe_tup (pa_cons (pe_dget (hu_of hr) (pv 13) (pe_str) (fun _ _ => rfl)) (pa_cons (pv 13) (pa_nil))))) (pa_nil))))
 (pss_cons (ps_dput (hu_of hr) (pv 9) (pe_str) (pe_fn g_l_links hr rfl (pa_cons (pv 0) (pa_cons (pv 9) (pa_cons (pv 11) (pa_nil))))) rfl)
 (pss_one (ps_ret (pv 9))))))))))), fun B ss R h => ?_⟩)
  · obtain ⟨nm, z, ks, rfl, _⟩ := h
    rfl
  · obtain ⟨nm, ⟨a, b, c, d⟩, ks, rfl, hn, ⟨a0, b0, c0, d0, ht⟩, hk, q⟩ := h
    have a0 : 0 ≤ a := a0
    have b0 : 1 ≤ b := b0
    have c0 : 1 ≤ c := c0
    have d0 : 0 ≤ d := d0
    have ht : a + b + c + d ≤ 18 := ht
    obtain ⟨a, rfl⟩ : ∃ k : Nat, a = k := ⟨a.toNat, by omega⟩
    obtain ⟨b, rfl⟩ : ∃ k : Nat, b = k := ⟨b.toNat, by omega⟩
    obtain ⟨c, rfl⟩ : ∃ k : Nat, c = k := ⟨c.toNat, by omega⟩
    have b18 : ∀ {n : Nat}, n ≤ 1000 → n ≤ BIG := fun h => Nat.le_trans h (by decide)
    have kl := hk.len
    refine dq_asgG (d_var rfl) (DG.quad dg_name dg_name dg_name dg_name) ?_
    show DS K B _ [.box, .val nm, .val (T4.mk (a : Int) (b : Int) (c : Int) d), .out (ownL ks), .val (a : Int), .val (b : Int), .val (c : Int), .val d, .no, .no, .no, .no, .no, .no] _
    refine dq_asgN (dn_callb1 rfl (d_add (d_add (d_add (d_var rfl) (d_var rfl)) (d_var rfl)) (d_var rfl)) ⟨by omega, by omega⟩) fun (zs : List Str) hz => ?_
    show DS K B _ [.box, .val nm, .val (T4.mk (a : Int) (b : Int) (c : Int) d), .out (ownL ks), .val (a : Int), .val (b : Int), .val (c : Int), .val d, .val (α := L Str) zs, .no, .no, .no, .no, .no] _
    obtain ⟨zl, znd, zall⟩ := hz
    have zl' : ((List.length zs : Nat) : Int) = (a : Int) + b + c + d := zl
    -- the first three
    refine ds_seq (ds_asgOb (P := ownD ([("name", AV.str nm), ("inlets", strsA (List.take a zs)), ("outlets", strsA ((List.drop a zs).take b))] : List (Str × AV))) (do_disp (dps_cons d_str (d_avS (d_var rfl)) (dps_cons d_str (d_avL ((DO.l (do_slice (d_var rfl) dp_none (dp_some (d_var rfl)))).is cutA_take)) (dps_cons d_str (d_avL ((DO.l (do_slice (d_var rfl) (dp_some (d_var rfl)) (dp_some (d_add (d_var rfl) (d_var rfl))))).is (cutA_mid (by omega)))) dps_nil))) (by show ((["name", "inlets", "outlets"] : List Str)).Nodup; decide +kernel) (by show 3 ≤ 15; decide)) ?_)
    refine ds_seq (ds_dput (n := 9) (a := strsA ((List.drop (a + b) zs).take c)) rfl (d_avL ((DO.l (do_slice (d_var rfl) (dp_some (d_add (d_var rfl) (d_var rfl))) (dp_some (d_add (d_add (d_var rfl) (d_var rfl)) (d_var rfl))))).is (by rw [show (a : Int) + (b : Int) = ((a + b : Nat) : Int) by omega, cutA_mid (by omega)]))) d_str (by show ("stations" : Str) ∉ (["name", "inlets", "outlets"] : List Str); decide +kernel) (by show 3 < 1000; decide) ?_)
    let lbs : List Str := if (!ks.isEmpty) = true then List.drop (a + b + c) zs else []
    refine dq_asgI (δ := L Str) lbs (d_if (α := L Str) (dt_test (d_neEOut (n := 3) rfl)) (fun _ => (DO.l (do_slice (d_var rfl) (dp_some (d_add (d_add (d_var rfl) (d_var rfl)) (d_var rfl))) dp_none)).is (by rw [show (a : Int) + (b : Int) + (c : Int) = ((a + b + c : Nat) : Int) by omega, cutA_drop])) (fun _ => DO.l (do_nil Str))) ?_
    show DS K B _ [.box, .val nm, .val (T4.mk (a : Int) (b : Int) (c : Int) d), .out (ownL ks), .val (a : Int), .val (b : Int), .val (c : Int), .val d, .val (α := L Str) zs, .obj (ownD ([("name", AV.str nm), ("inlets", strsA (List.take a zs)), ("outlets", strsA ((List.drop a zs).take b)), ("stations", strsA ((List.drop (a + b) zs).take c))] : List (Str × AV))), .val (α := L Str) lbs, .no, .no, .no] _
    have lbl : lbs.length ≤ 18 := by
      show (if (!ks.isEmpty) = true then List.drop (a + b + c) zs else []).length ≤ 18
      split
      · rw [List.length_drop]; omega
      · exact Nat.zero_le _
    have k0 : ∀ x ∈ lbs, 0 < ks.length := fun x hx => by
      have hx : x ∈ (if (!ks.isEmpty) = true then List.drop (a + b + c) zs else []) := hx
      cases ks with
      | nil => exact absurd hx (by simp)
      | cons _ _ => exact Nat.succ_pos _
    refine ds_seq (ds_dputN (n := 9) (P := fun y : AV => ∃ cs : L (Str × Str), Paired (fun (lb : Str) (t : Str × Str) => t.1 = lb ∧ t.2 ∈ ks.map (·.n)) lbs cs ∧ y = callsA cs) rfl (dn_av (dn_mapN (fun (lb : Str) (t : Str × Str) => t.1 = lb ∧ t.2 ∈ ks.map (·.n)) (di_seq (d_Lq (d_var rfl))) (b18 (by omega)) fun x hx => ⟨_, _, dg_name, by simp, (dn_pair (DE.n (d_var rfl)) (DN.conv (P' := fun z : Str => z ∈ ks.map (·.n)) (dn_getD (P := fun y : Dct AV => ∃ m ∈ ks, y = m.dc) (P' := fun y : AV => ∃ m ∈ ks, y = .str m.n) (z := "name") (DN.conv (dn_pickO rfl rfl (k0 x hx) (by omega)) fun m hm => ⟨m.dc, ⟨m, hm, rfl⟩, fun _ _ r => r⟩) d_str ?_) fun y hy => ?_)).imp fun t ht => ⟨ht.1, ht.2⟩⟩)) d_str (by show ("calls" : Str) ∉ (["name", "inlets", "outlets", "stations"] : List Str); decide +kernel) (by show 4 < 1000; decide) fun y hy => ?_)
    · rintro y ⟨m, hm, rfl⟩
      exact ⟨.str m.n, rfl, m, hm, rfl⟩
    · obtain ⟨m, hm, rfl⟩ := hy
      exact ⟨m.n, List.mem_map.mpr ⟨m, hm, rfl⟩, fun _ _ r => IsAV.iff.mp r⟩
    obtain ⟨cs, hcs, rfl⟩ := hy
    -- the known ones
    refine dq_asgI (δ := KN) ⟨ks⟩ (d_kn (d_dict (xs := ks.map fun m => (m.n, m)) (DO.l (do_map (fun m : DMd => (m.n, m)) (di_out rfl) (b18 (by omega)) fun m hm => ⟨_, _, dg_name, by simp, d_pair (d_va (α := Str) (d_getD (d := m.dc) (a := AV.str m.n) (d_dc (d_var rfl)) d_str rfl)) (d_var rfl)⟩)) (by rw [List.map_map]; exact hk.nd) (by rw [List.length_map]; omega))) ?_
    let m0 : DMd := ⟨nm, List.take a zs, (List.drop a zs).take b, (List.drop (a + b) zs).take c, cs, []⟩
    show DS K B _ [.box, .val nm, .val (T4.mk (a : Int) (b : Int) (c : Int) d), .out (ownL ks), .val (a : Int), .val (b : Int), .val (c : Int), .val d, .val (α := L Str) zs, .obj (ownD m0.base), .val (α := L Str) lbs, .val (KN.mk ks), .no, .no] _
    have lab : m0.labels = lbs := by
      show cs.map (·.1) = lbs
      clear_value lbs
      clear k0 lbl q
      induction hcs with
      | nil => rfl
      | cons h1 _ ih => rw [List.map_cons, h1.1, ih]
    have cut : List.take a zs ++ (List.drop a zs).take b ++ (List.drop (a + b) zs).take c ++ List.drop (a + b + c) zs = zs := by
      rw [show List.drop (a + b + c) zs = List.drop c (List.drop (a + b) zs) by rw [List.drop_drop], List.append_assoc, List.take_append_drop, show List.drop (a + b) zs = List.drop b (List.drop a zs) by rw [List.drop_drop], List.append_assoc, List.take_append_drop, List.take_append_drop]
    have al : m0.all.Sublist zs := by
      show (m0.i ++ m0.o ++ m0.s ++ m0.labels).Sublist zs
      rw [lab]
      have e := cut
      conv => rhs; rw [← e]
      refine List.Sublist.append (List.Sublist.refl _) ?_
      show (if (!ks.isEmpty) = true then List.drop (a + b + c) zs else []).Sublist _
      split
      · exact List.Sublist.refl _
      · exact List.nil_sublist _
    have ok0 : MOk m0 ks := by
      refine ⟨znd.sublist al, fun z hz => zall z (al.subset hz), ?_, ?_, ?_, hn, fun t ht => ?_⟩
      · have := al.length_le
        have : m0.all.length ≤ List.length zs := this
        omega
      · show 0 < ((List.drop (a + b) zs).take c).length
        rw [List.length_take, List.length_drop]
        omega
      · show 0 < ((List.drop a zs).take b).length
        rw [List.length_take, List.length_drop]
        omega
      · have : ∀ {ls : List Str} {cs : List (Str × Str)}, Paired (fun (lb : Str) (t : Str × Str) => t.1 = lb ∧ t.2 ∈ ks.map (·.n)) ls cs → ∀ t ∈ cs, t.2 ∈ ks.map (·.n) := by
          intro ls cs h
          induction h with
          | nil => exact fun t h => nomatch h
          | cons h1 _ ih =>
            intro t ht
            rcases List.mem_cons.mp ht with rfl | ht
            · exact h1.2
            · exact ih t ht
        exact this hcs t ht
    refine ds_seq (ds_dputN (n := 9) (P := fun y : AV => ∃ ls : List Lk, LksOk m0 ks ls ∧ y = linksA ls) rfl ((dn_av (s := inferInstance) (dn_call (α := L Lk) (P := fun ls : L Lk => LksOk m0 ks ls) (da_box rfl (da_own rfl (da_cons (d_var rfl) da_nil))) ⟨m0, ks, rfl, ok0, hk, fun ls h1 h2 => ⟨ls, ⟨h1, h2⟩, rfl⟩⟩)).imp fun y hy => by obtain ⟨ls, h, rfl⟩ := hy; exact ⟨ls, h, rfl⟩) d_str (by show ("links" : Str) ∉ (["name", "inlets", "outlets", "stations", "calls"] : List Str); decide +kernel) (by show 5 < 1000; decide) fun y hy => ?_)
    obtain ⟨ls, ⟨h1, h2⟩, rfl⟩ := hy
    refine ds_frzD (n := 9) rfl (ds_ret (α := DMd) (a := ⟨nm, List.take a zs, (List.drop a zs).take b, (List.drop (a + b) zs).take c, cs, ls⟩) (d_ofdc (d_var rfl)) (q _ ⟨⟨ok0.nd, ok0.al, ok0.ln, ok0.s1, ok0.o1, hn, ok0.cl⟩, fun t ht => ?_, h2⟩ rfl ?_ ?_ ?_ ?_))
    · obtain ⟨l1, l2, l3, l4, l5, l6, l7⟩ := h1 t ht
      exact ⟨l1, l2, l3, l4, l5, l6, l7⟩
    · show ((List.take a zs).length : Int) = _
      rw [List.length_take]
      show ((min a (List.length zs) : Nat) : Int) = (a : Int)
      omega
    · show (((List.drop a zs).take b).length : Int) = _
      rw [List.length_take, List.length_drop]
      show ((min b (List.length zs - a) : Nat) : Int) = (b : Int)
      omega
    · show (((List.drop (a + b) zs).take c).length : Int) = _
      rw [List.length_take, List.length_drop]
      show ((min c (List.length zs - (a + b)) : Nat) : Int) = (c : Int)
      omega
    · show (cs.length : Int) ≤ d
      have e : cs.length = lbs.length := by
        have := congrArg List.length lab
        show cs.length = _
        rw [← this]
        exact (List.length_map ..).symm
      rw [e]
      show ((if (!ks.isEmpty) = true then List.drop (a + b + c) zs else []).length : Int) ≤ d
      split
      · rw [List.length_drop]
        omega
      · exact d0
def NM : List Str := ["first", "mid", "last"]
structure HouseOk (n : Int) (ms : List DMd) : Prop where
  len : (ms.length : Int) = n
  all : ∀ (i : Nat) (m : DMd), ms[i]? = some m → MFull m (ms.take i) ∧ NM[i]? = some m.n ∧ (i = 0 → m.c = []) ∧ m.i.length ≤ 2 ∧ m.o.length ≤ 2 ∧ m.s.length ≤ 2 ∧ m.c.length ≤ 2
theorem take_at {α : Type} {l : List α} {i j : Nat} {x : α} (h : (l.take j)[i]? = some x) : l[i]? = some x ∧ i < j := by
  rw [List.getElem?_take] at h
  split at h
  · exact ⟨h, by assumption⟩
  · cases h
theorem HouseOk.pre {n : Int} {ms : List DMd} (h : HouseOk n ms) (j : Nat) (hj : j ≤ ms.length) : HouseOk j (ms.take j) := by
  refine ⟨by rw [List.length_take]; omega, fun i m hi => ?_⟩
  obtain ⟨h1, h2⟩ := take_at hi
  obtain ⟨g1, g2⟩ := h.all i m h1
  rw [List.take_take, Nat.min_eq_left (by omega)]
  exact ⟨g1, g2⟩
theorem HouseOk.ks {n : Int} {ms : List DMd} (h : HouseOk n ms) : KsOk ms ∧ ms.length ≤ 3 := by
  have l3 : ms.length ≤ 3 := by
    rcases Nat.lt_or_ge 3 ms.length with c | c
    · obtain ⟨_, g, _⟩ := h.all 3 _ (List.getElem?_eq_getElem c)
      cases g
    · exact c
  have nm : ms.map (·.n) = NM.take ms.length := by
    refine List.ext_getElem? fun i => ?_
    rw [List.getElem?_map, List.getElem?_take]
    by_cases c : i < ms.length
    · rw [if_pos c, List.getElem?_eq_getElem c, (h.all i _ (List.getElem?_eq_getElem c)).2.1]
      rfl
    · rw [if_neg c, List.getElem?_eq_none (by omega)]
      rfl
  refine ⟨⟨?_, by omega, fun d hd => ?_⟩, l3⟩
  · rw [nm]
    exact List.Pairwise.sublist (List.take_sublist _ _) (by decide +kernel)
  · obtain ⟨i, hi, rfl⟩ := List.getElem_of_mem hd
    have g := (h.all i _ (List.getElem?_eq_getElem hi)).1
    exact ⟨g.ok.ln, g.ok.al, g.ok.nl⟩
abbrev s_l_house : Stmt := top 55
abbrev N_l_house : List Str := ["_law_box_here", "_law_many", "_law_found", "_law_at", "_law_calls", "_law_sizes"]
theorem sc_l_house : FnScope N_l_house ["_law_box_here", "_law_many"] (defScope s_l_house) := ⟨rfl, rfl, rfl, by decide +kernel, rfl, by decide +kernel, by decide +kernel⟩

theorem ok_house (F : FnP K "_law_house" s_l_house f fd) (m_range : mg "range" = none) (g_l_take : FnAt P w K mg base CX0 1 "_law_take" ["_law_box_here", "_law_many"] (spT K dpTake)) (g_l_module : FnAt P w K mg base CX0 4 "_law_module" ["_law_box_here", "_law_name", "_law_sizes", "_law_called"] (spT K dpModule)) :
    FnOk P w K mg base CX0 5 f fd ["_law_box_here", "_law_many"] (spT K (dpb1 (fun n : Int => 0 ≤ n ∧ n ≤ 3) (fun n (ms : L DMd) => HouseOk n ms))) := by
  refine okT F sc_l_house (fun ss R h => ?_) (fun cdv A outer s H E hr => ⟨_, (pss_cons (ps_set (i := 2) sc_l_house.nd rfl (.inl rfl) (pe_lst (pa_nil)))
 (pss_cons (ps_for PassesOwn.never rfl (pi_range1 rfl m_range (pa_cons (pv 1) (pa_nil))) (pg_name (i := 3) sc_l_house.nd rfl (.inl rfl)) (pss_cons (ps_set (i := 4) sc_l_house.nd rfl (.inl rfl) (pe_ifExp (pt_cmpR op_gt (pv 3) (pe_int) (nomark _)) (pe_fn g_l_take hr rfl (pa_cons (pv 0) (pa_cons (pe_ifExp (pt_cmpR op_lt (pv 1) (pe_int) (nomark _)) (pe_int) (pe_int)) (pa_nil)))) (pe_int)))
 (pss_cons (ps_set (i := 5) sc_l_house.nd rfl (.inl rfl) (pe_tup (pa_cons (pe_fn g_l_take hr rfl (pa_cons (pv 0) (pa_cons (pe_int) (pa_nil)))) (pa_cons (pe_op op_add (pe_int) (pe_fn g_l_take hr rfl (pa_cons (pv 0) (pa_cons (pe_int) (pa_nil))))) (pa_cons (pe_op op_add (pe_int) (pe_fn g_l_take hr rfl (pa_cons (pv 0) (pa_cons (pe_int) (pa_nil))))) (pa_cons (pv 4) (pa_nil)))))))
 (pss_one (ps_expr (pe_bmK K PySem.F.plainAttrs_list PySem.F.slot_list_append PySem.F.type_list_append mt_append (pv 2) (pa_cons (pe_fn g_l_module hr rfl (pa_cons (pv 0) (pa_cons (pe_ix (ix_sqK K) (pe_lst (pa_cons (pe_str) (pa_cons (pe_str) (pa_cons (pe_str) (pa_nil))))) (pv 3) (fun _ _ => rfl)) (pa_cons (pv 5) (pa_cons (pv 2) (pa_nil)))))) (pa_nil))))))))
 (pss_one (ps_ret (pv 2))))), fun B ss R h => ?_⟩)
  · obtain ⟨x, rfl, _⟩ := h
    rfl
  · obtain ⟨n, rfl, ⟨n0, n1⟩, q⟩ := h
    show DS K B _ [.box, .val n, .no, .no, .no, .no] _
    refine dq_asgO (do_nil DMd) ?_
    show DS K B _ [.box, .val n, .own (α := DMd) [], .no, .no, .no] _
    refine dq_for (di_rng1 (d_var rfl) (by omega) (by omega)) (fun i r => ∃ (ms : List DMd) (s3 s4 s5 : Slot), r = [.box, .val n, .own ms, s3, s4, s5] ∧ HouseOk i ms) ⟨[], .no, .no, .no, rfl, rfl, fun i m h => nomatch h⟩ (fun i x r hx hI => ?_) fun r hI => ?_
    · obtain ⟨ms, s3, s4, s5, rfl, ho⟩ := hI
      have hi := (List.getElem?_eq_some_iff.mp hx).1
      rw [rg_len] at hi
      have hx := (rg_at hx).1
      have hx : x = (i : Int) := by omega
      subst hx
      have il : i < 3 := by omega
      have ml := ho.len
      have ml' : ms.length = i := by omega
      refine ⟨_, _, dg_name, ?_⟩
      show DS K B _ [.box, .val n, .own ms, .val (i : Int), s4, s5] _
      refine dq_asgN (P := fun k : Int => 0 ≤ k ∧ k ≤ 2 ∧ (i = 0 → k = 0)) (dn_if (dt_test (d_gt (d_var rfl) d_int)) (fun h => (dn_callb1 rfl (d_if (dt_test (d_lt (d_var rfl) d_int)) (fun _ => d_int) (fun _ => d_int)) (by split <;> decide)).imp fun k hk => ⟨hk.1, ?_, fun z => ?_⟩) (fun h => (DE.n d_int).imp fun k hk => by subst hk; exact ⟨by decide, by decide, fun _ => rfl⟩)) fun k hk => ?_
      · have h2 := hk.2
        split at h2 <;> omega
      · have := of_decide_eq_true h
        omega
      refine dq_asgN (P := fun z : Sz => SzOk z ∧ z.d = k ∧ z.a ≤ 2 ∧ z.b ≤ 2 ∧ z.c ≤ 2) ((dn_quad (dn_callb1 rfl d_int ⟨by decide, by decide⟩) (dn_add (DE.n d_int) (dn_callb1 rfl d_int ⟨by decide, by decide⟩)) (dn_add (DE.n d_int) (dn_callb1 rfl d_int ⟨by decide, by decide⟩)) (DE.n (d_var rfl))).imp fun z hz => ?_) fun z hz => ?_
      · obtain ⟨⟨h1, h2⟩, ⟨_, y, rfl, ⟨y0, y1⟩, e1⟩, ⟨_, u, rfl, ⟨u0, u1⟩, e2⟩, e3⟩ := hz
        exact ⟨⟨h1, by omega, by omega, by rw [e3]; exact hk.1, by rw [e1, e2, e3]; have := hk.2.1; omega⟩, e3, by omega, by rw [e1]; omega, by rw [e2]; omega⟩
      obtain ⟨zo, zd, za, zb, zc⟩ := hz
      show DS K B _ [.box, .val n, .own ms, .val (i : Int), .val k, .val z] _
      obtain ⟨nm, hnm⟩ : ∃ nm, NM[i]? = some nm := ⟨_, List.getElem?_eq_getElem (show i < NM.length from il)⟩
      have nml : nm.length ≤ 5 := by
        have := List.mem_of_getElem? hnm
        exact (by decide +kernel : ∀ z ∈ NM, z.length ≤ 5) nm this
      refine ds_appendN (n := 2) (xs := ms) (P := fun m : DMd => MFull m ms ∧ m.n = nm ∧ m.i.length ≤ 2 ∧ m.o.length ≤ 2 ∧ m.s.length ≤ 2 ∧ m.c.length ≤ 2) rfl (dn_call (da_box rfl (da_cons (d_ix (xs := NM) (x := nm) (DO.q (do_lst (dl_cons d_str (dl_cons d_str (dl_cons d_str dl_nil))) (by decide))) (d_var rfl) (atI_nat hnm)) (da_cons (d_var rfl) (da_own rfl da_nil)))) ⟨nm, z, ms, rfl, nml, zo, ho.ks.1, fun m h1 h2 h3 h4 h5 h6 => ⟨m, ⟨h1, h2, by omega, by omega, by omega, by have := hk.2.1; omega⟩, rfl⟩⟩) (by rw [ml']; exact Nat.lt_trans il (by decide)) fun m hm => ⟨ms ++ [m], .val (i : Int), .val k, .val z, rfl, ?_⟩
      refine ⟨by rw [List.length_append, List.length_singleton]; omega, fun j d hj => ?_⟩
      by_cases c : j < ms.length
      · rw [List.getElem?_append_left c] at hj
        rw [List.take_append_of_le_length (by omega)]
        exact ho.all j d hj
      · rw [List.getElem?_append_right (by omega)] at hj
        have hj0 : j - ms.length = 0 := by
          rcases Nat.eq_zero_or_pos (j - ms.length) with z | z
          · exact z
          · rw [List.getElem?_eq_none (by rw [List.length_singleton]; omega)] at hj
            cases hj
        rw [hj0] at hj
        have hj : some m = some d := hj
        cases hj
        have ej : j = i := by omega
        subst ej
        rw [List.take_append_of_le_length (by omega), List.take_of_length_le (by omega)]
        refine ⟨hm.1, by rw [hm.2.1]; exact hnm, fun z0 => ?_, hm.2.2⟩
        have m0 : ms = [] := List.eq_nil_of_length_eq_zero (by omega)
        subst m0
        cases hc : m.c with
        | nil => rfl
        | cons t r =>
          have := hm.1.ok.cl t (by rw [hc]; exact List.mem_cons_self)
          cases this
    · obtain ⟨ms, s3, s4, s5, rfl, ho⟩ := hI
      rw [rg_len, Int.sub_zero] at ho
      have ho : HouseOk n ms := ⟨by have := ho.len; omega, ho.all⟩
      exact ds_frz (n := 2) rfl (ds_ret (d_var rfl) (q ms ho))
end
end WW

set_option Elab.async false
set_option linter.all false
set_option maxRecDepth 100000
set_option maxHeartbeats 4000000
namespace WW
open PySem PySem.Spec PyProof.Rows L2
/-! ### try with several clauses, each with a name or none -/
abbrev Sui := Addr → Value → Option Addr → TS
inductive NmOk (X : Cx) : Option Str → Option Nat → Prop
  | no : NmOk X none none
  | as {n : Str} {i : Nat} (hi : X.N[i]? = some n) (hl : X.env.kindOf n = some .local) : NmOk X (some n) (some i)
def nmIn : Option Nat → Addr → L2.St → L2.St
  | none, _, σ => σ
  | some i, a, σ => σ.set i (some (.ref a))
def nmOut : Option Nat → L2.St → L2.St
  | none, σ => σ
  | some i, σ => σ.set i none
def nmEnds (o : Option Nat) (D : Ends) : Ends := { nx := fun σ H => D.nx (nmOut o σ) H, rt := D.rt, bk := fun σ H => D.bk (nmOut o σ) H, ct := fun σ H => D.ct (nmOut o σ) H }
/-- what the clauses wish of an exception -/
def wNm (K : PySem.W.Frag) (D : Ends) : List (Value × Option Nat × Sui) → WX
  | [] => fun _ _ _ _ => False
  | (c, o, ts) :: r => fun cls d σ H => ∃ b, PySem.W.exmOne K cls c = some b ∧ (b = true → ∀ a, H a = none → ts a cls d (nmEnds o D) (nmIn o a σ) H) ∧ (b = false → wNm K D r cls d σ H)
inductive ClOk (X : Cx) : List ExceptHandler → List (Value × Option Nat × Sui) → Prop
  | nil : ClOk X [] []
  | cons {x : Str} {c : Value} {on : Option Str} {o : Option Nat} {ts : Sui} {b₀ : Stmt} {suite : List Stmt} {np pos' : Pos} {hds : List ExceptHandler} {l : List (Value × Option Nat × Sui)} (hc : Names X x c) (hn : NmOk X on o)
      (hsu : ∀ (a : Addr) (oe : Obj) (cls : Value) (d : Option Addr) (pn : List (Addr × Obj)), Zc cls d oe → (∃ vs, oe.data = .fields vs) → PSs (X.suite a ((a, oe) :: pn)) (b₀ :: suite) (ts a cls d)) (r : ClOk X hds l) :
      ClOk X (.ExceptHandler (some (.Name x np)) on (b₀ :: suite) pos' :: hds) ((c, o, ts) :: l)
section
variable {X : Cx} {body : List Stmt} {h₀ : ExceptHandler} {hds : List ExceptHandler} {l : List (Value × Option Nat × Sui)} {pos : Pos} {tb : WX → TS}
theorem sp_unsuite {D : Ends} {pins : List (Addr × Obj)} {a : Addr} {q : Addr × Obj} {f : Flow} {s : Shared} (ok : X.Ok) (h : SP (X.suite a (q :: (X.pn ++ pins))) [] D f s) : SP X pins D f s := by
  cases f with
  | ret u =>
    obtain ⟨v, σ1, H1, S1, r, q1⟩ := h
    exact ⟨v, σ1, H1, S1.unsuite ok, r, q1⟩
  | _ =>
    obtain ⟨σ1, H1, S1, q1⟩ := h
    exact ⟨σ1, H1, S1.unsuite ok, q1⟩
theorem sp_oftry {D : Ends} {pins pn : List (Addr × Obj)} {xe : Value → Shared → Prop} {f : Flow} {s : Shared} (ok : X.Ok) (h : SP (X.tr (X.pn ++ pins) xe) [] D f s) : SP X pins D f s := by
  cases f with
  | ret u =>
    obtain ⟨v, σ1, H1, S1, r, q1⟩ := h
    exact ⟨v, σ1, H1, S1.ofTry ok, r, q1⟩
  | _ =>
    obtain ⟨σ1, H1, S1, q1⟩ := h
    exact ⟨σ1, H1, S1.ofTry ok, q1⟩
/-- the name's end behind its suite -/
theorem sp_gone {D : Ends} {pins : List (Addr × Obj)} {f : Flow} {s : Shared} {n : Str} {i : Nat} {p : Pos} {E : Value → Shared → Prop} (hN : X.N.Nodup) (hi : X.N[i]? = some n) (hl : X.env.kindOf n = some .local) (h : SP X pins (nmEnds (some i) D) f s) :
    wpAny (model X.prog X.w) X.A (do bindName X.env n .none; unbindBehindTheSuite X.env n p) (fun _ s7 => SP X pins D f s7) E s := by
  cases f with
  | ret u =>
    obtain ⟨v, σ1, H1, S1, r, q1⟩ := h
    exact gone_ok S1 hN hi hl fun s7 J => ⟨v, _, H1, J, r, q1⟩
  | _ =>
    obtain ⟨σ1, H1, S1, q1⟩ := h
    exact gone_ok S1 hN hi hl fun s7 J => ⟨_, H1, J, q1⟩
theorem ps_try_nm (hs : X.stack = X.env :: X.outer) (hf : X.env.frame = some X.env.locals) (hN : X.N.Nodup)
    (hb : ∀ (W : WX) (pn : List (Addr × Obj)) (xe : Value → Shared → Prop), Takes (X.tr pn xe) W → PassesOwn (model X.prog X.w) X.A X.env xe → PSs (X.tr pn xe) body (tb W))
    (hh : ClOk X (h₀ :: hds) l) : PS X (.Try body (h₀ :: hds) [] [] pos) (fun D σ H => tb (wNm X.K D l) D σ H) := by
  refine ⟨fun pins s σ H D I h => ?_⟩
  have ok := I.ok
  refine wpAny_Try_except (wpAny_mono ((hb (wNm X.K D l) (X.pn ++ pins) _ (fun u s1 xx => ?_) PassesOwn.looking).run [] s σ H D (I.toTry _) h) (fun f s1 q => ?_) fun e s1 he => he)
  · obtain ⟨a, B, sI, pins', σ1, H1, cls, d, rfl, J0, nb, up, sky, na, os, ag, w⟩ := xx
    have J : Inv X pins σ1 H1 sI := J0.ofTry ok
    have sky1 : Sky B (X.env :: X.outer) a (Zc cls d) X.env.locals s1.heap := hs ▸ sky
    show wpAny (model X.prog X.w) X.A (noteFrame (.ref a) X.env) _ _ _
    refine Sky.land Zc.steady (by rw [ok.frames, hs]) hf sky1 fun h3 fl3 up3 => ?_
    have begin_ : ∀ h4, HandSPX.FlyingZ B (X.env :: X.outer) a (Zc cls d) h4 → s1.heap.UpToSlots h4 → ∃ oe, Zc cls d oe ∧ (∃ vs, oe.data = .fields vs) ∧ h4.get? a = some oe ∧ Inv (X.suite a ((a, oe) :: (X.pn ++ pins))) [] σ1 H1 { s1 with heap := h4 } := fun h4 fl4 up4 => by
      obtain ⟨oe, vs, he, hz, hd⟩ := fl4.there
      have nfr : a ∉ frs (X.env :: X.outer) := fun hm => by
        obtain ⟨_, o2, e2, hnf⟩ := fl4.2.2.1.mem hm
        rw [he] at e2
        cases e2
        exact hnf _ hd
      refine ⟨oe, hz, ⟨vs, hd⟩, he, (show Inv X pins σ1 H1 { s1 with heap := h4 } from J.landed nb fl4.1 (up.trans up4) os ag).suite he hd na (fun z => nfr (List.mem_filterMap.mpr ⟨X.env, List.mem_cons_self, by rw [hf, z]⟩)) fun hm => ?_⟩
      obtain ⟨e, he2, q⟩ := List.mem_filterMap.mp hm
      exact nfr (List.mem_filterMap.mpr ⟨e, List.mem_cons_of_mem _ he2, q⟩)
    obtain ⟨oe3, hz3, hd3, he3, S3⟩ := begin_ h3 fl3 up3
    have J3 : Inv X pins σ1 H1 { s1 with heap := h3 } := S3.unsuite ok
    clear hb h sky sky1
    show wpAny (model X.prog X.w) X.A (handleBy (.ref a) X.env (h₀ :: hds)) _ _ _
    generalize h₀ :: hds = hl at hh
    induction hh with
    | nil => exact w.elim
    | @cons x c on o ts b₀ suite np pos' hds2 l2 hc hn hsu r ih =>
      obtain ⟨b, hb1, hyes, hno⟩ := w
      refine wpAny_handleBy_cons (codeAny_handlers_test ?_) (by intro q; cases q)
      have LM := PySem.W.exm_one (M := model X.prog X.w) J3.kIn (fun A Q E s k q => wpAny_typeOf_ref (k _ _ he3) (by rw [hz3.1]; exact q)) hb1
      have test : ∀ {Q : Value → Shared → Prop} {E : Value → Shared → Prop}, Q c { s1 with heap := h3 } → wpAny (model X.prog X.w) (X.A.mark (some (.ref a))) (eval (.Name x np) X.env) Q E { s1 with heap := h3 } := fun {Q E} q => by
        obtain ⟨hg, hdbg, hm | ⟨hm, hv, hnn⟩⟩ := hc
        · exact ld_glob (X := X.suite a ((a, oe3) :: (X.pn ++ pins))) S3 hg hm q hdbg
        · exact ld_blt (X := X.suite a ((a, oe3) :: (X.pn ++ pins))) S3 hg hm hv q hnn hdbg
      refine test (LM.here ?_)
      cases b with
      | false => exact ih (hno rfl)
      | true =>
        have go := hyes rfl a na
        cases hn with
        | no =>
          refine codeAny_handlers_suite (HandSPX.lands_againZ fl3 fun h4 fl4 up4 => ?_)
          obtain ⟨oe4, hz4, hd4, _, S4⟩ := begin_ h4 fl4 (up3.trans up4)
          exact wpAny_mono ((hsu a oe4 cls d _ hz4 hd4).run [] _ _ H1 _ S4 go) (fun f s6 q => by
            have q2 := sp_unsuite ok q
            cases f <;> exact q2) fun _ _ z => False.elim z
        | as hi hln =>
          refine codeAny_handlers_suite_as (HandSPX.lands_againZ fl3 fun h4 fl4 up4 => ?_)
          obtain ⟨oe4, hz4, hd4, _, S4⟩ := begin_ h4 fl4 (up3.trans up4)
          refine store_ok (X := X.suite a ((a, oe4) :: (X.pn ++ pins))) (v := .ref a) S4 hN hi (.inl hln) rfl (fun s5 S5 => ?_) (.inr hln)
          exact wpAny_mono ((hsu a oe4 cls d _ hz4 hd4).run [] s5 _ H1 _ S5 go) (fun f s6 q => sp_gone hN hi hln (sp_unsuite ok q)) fun _ _ z => False.elim z
  · cases f with
    | next =>
      obtain ⟨σ1, H1, J, q1⟩ := q
      exact wpAny_execs_nil ⟨σ1, H1, J.ofTry ok, q1⟩
    | _ => exact sp_oftry (pn := []) ok q
end
end WW

set_option Elab.async false
set_option linter.all false
set_option maxRecDepth 100000
set_option maxHeartbeats 4000000
namespace WW
open PySem PySem.Spec PyProof.Rows L2
/-! ### what is drawn is right -/
def m6L (xs : List AV) : M6 := ⟨xs.getD 0 .non, xs.getD 1 .non, xs.getD 2 .non, xs.getD 3 .non, xs.getD 4 .non, xs.getD 5 .non⟩
def six (m : DMd) : List AV := [.str m.n, strsA m.i, strsA m.o, strsA m.s, linksA m.l, callsA m.c]
def heardM (xs : List AV) : Str := (wrongMod (m6L xs)).getD "let"
theorem alln_name : ∀ z ∈ ALLN, nameB z = true := by decide +kernel
theorem nm_name : ∀ z ∈ NM, nameB z = true := by decide +kernel
theorem alln_end : ∀ z ∈ ALLN, endB z = true ∧ decide ((Txt.partition z ".").2.1 = dot) = false := by decide +kernel
theorem dot_end : ∀ a ∈ ALLN, ∀ b ∈ ALLN, endB (dotted a b) = true ∧ decide ((Txt.partition (dotted a b) ".").2.1 = dot) = true ∧ (Txt.partition (dotted a b) ".").1 = a := by decide +kernel
theorem names_strsA (zs : List Str) : (strsA zs).names = zs := by
  show ((zs.map AV.str).map AV.txt) = zs
  rw [List.map_map]
  exact (List.map_congr_left fun _ _ => rfl).trans (List.map_id _)
theorem fresh_strsA {zs tk : List Str} (hn : ∀ z ∈ zs, nameB z = true) (nd : zs.Nodup) (ht : ∀ z ∈ zs, z ∉ tk) : freshB (strsA zs) tk = true := by
  unfold freshB
  have e : (strsA zs).items.map AV.txt = zs := names_strsA zs
  rw [e, decide_eq_true nd, Bool.and_true]
  show (true && (zs.map AV.str).all _) = true
  rw [Bool.true_and, List.all_map, List.all_eq_true]
  intro z hz
  show (nameB z && !decide (z ∈ tk)) = true
  rw [hn z hz, decide_eq_false (ht z hz)]
  rfl
theorem labels_calls : ∀ {cs : List (Str × Str)}, (∀ t ∈ cs, nameB t.1 = true ∧ nameB t.2 = true) → labelsOf (callsA cs) = cs.map (·.1) := fun {cs} h => by
  have e : (callsA cs).items = cs.map fun t => AV.tup [.str t.1, .str t.2] := rfl
  unfold labelsOf
  rw [if_pos (show (callsA cs).isSeq = true from rfl), e]
  have f : (cs.map fun t => AV.tup [.str t.1, .str t.2]).filter pairB = cs.map fun t => AV.tup [.str t.1, .str t.2] := by
    rw [List.filter_eq_self]
    intro p hp
    obtain ⟨t, ht, rfl⟩ := List.mem_map.mp hp
    obtain ⟨h1, h2⟩ := h t ht
    show (true && (true && (nameB t.1 && (nameB t.2 && true)))) = true
    rw [h1, h2]
    rfl
  rw [f, List.map_map]
  exact List.map_congr_left fun _ _ => rfl
theorem there_of {m : DMd} {ks : List DMd} (ok : MOk m ks) (hk : KsOk ks) {z : Str} {ns ls : List Str} (hl : ∀ y ∈ m.labels, y ∈ ls) :
    (z ∈ begM m ks → (∀ y ∈ m.i ++ m.s, y ∈ ns) → thereB (.str z) ns ls = true) ∧ (z ∈ goeM m ks → (∀ y ∈ m.s ++ m.o, y ∈ ns) → thereB (.str z) ns ls = true) := by
  have one : ∀ z, z ∈ m.all → z ∈ ns → thereB (.str z) ns ls = true := fun z h1 h2 => by
    obtain ⟨e1, e2⟩ := alln_end z (ok.al z h1)
    show ((true && endB z) && (if decide ((Txt.partition z ".").2.1 = dot) = true then decide ((Txt.partition z ".").1 ∈ ls) else decide (z ∈ ns))) = true
    rw [e1, e2, if_neg (by decide), decide_eq_true h2]
    rfl
  have two : ∀ t ∈ m.c, ∀ y ∈ ALLN, thereB (.str (dotted t.1 y)) ns ls = true := fun t ht y hy => by
    have hm : t.1 ∈ m.labels := List.mem_map.mpr ⟨t, ht, rfl⟩
    obtain ⟨e1, e2, e3⟩ := dot_end t.1 (ok.al _ (List.mem_append_right _ hm)) y hy
    show ((true && endB (dotted t.1 y)) && (if decide ((Txt.partition (dotted t.1 y) ".").2.1 = dot) = true then decide ((Txt.partition (dotted t.1 y) ".").1 ∈ ls) else decide (dotted t.1 y ∈ ns))) = true
    rw [e1, e2, if_pos rfl, e3, decide_eq_true (hl _ hm)]
    rfl
  have inM : ∀ t ∈ m.c, findM ks t.2 ∈ ks := fun t ht => (get_find (ok.cl t ht)).2.1
  constructor
  · intro h hn
    unfold begM at h
    rcases List.mem_append.mp h with h | h
    · refine one z ?_ (hn z h)
      rcases List.mem_append.mp h with h | h
      · exact List.mem_append_left _ (List.mem_append_left _ (List.mem_append_left _ h))
      · exact List.mem_append_left _ (List.mem_append_right _ h)
    · obtain ⟨t, ht, hz⟩ := List.mem_flatMap.mp h
      obtain ⟨y, hy, rfl⟩ := List.mem_map.mp hz
      exact two t ht y ((hk.all _ (inM t ht)).2.1 y (List.mem_append_left _ (List.mem_append_left _ (List.mem_append_right _ hy))))
  · intro h hn
    unfold goeM at h
    rcases List.mem_append.mp h with h | h
    · refine one z ?_ (hn z h)
      rcases List.mem_append.mp h with h | h
      · exact List.mem_append_left _ (List.mem_append_right _ h)
      · exact List.mem_append_left _ (List.mem_append_left _ (List.mem_append_right _ h))
    · obtain ⟨t, ht, hz⟩ := List.mem_flatMap.mp h
      obtain ⟨y, hy, rfl⟩ := List.mem_map.mp hz
      exact two t ht y ((hk.all _ (inM t ht)).2.1 y (List.mem_append_left _ (List.mem_append_left _ (List.mem_append_left _ hy))))
structure Good (m : DMd) (ks : List DMd) : Prop where
  f : MFull m ks
  k : KsOk ks
  n : m.n ∈ NM
  kn : ∀ d ∈ ks, d.n ∈ NM
section
variable {m : DMd} {ks : List DMd}
theorem Good.parts (g : Good m ks) : m.i.Nodup ∧ m.o.Nodup ∧ m.s.Nodup ∧ m.labels.Nodup ∧ (∀ z ∈ m.o, z ∉ m.i) ∧ (∀ z ∈ m.s, z ∉ m.i ++ m.o) ∧ ∀ z ∈ m.labels, z ∉ m.i ++ m.o ++ m.s := by
  have nd := g.f.ok.nd
  unfold DMd.all at nd
  rw [List.nodup_append] at nd
  obtain ⟨n1, n2, n3⟩ := nd
  rw [List.nodup_append] at n1
  obtain ⟨n4, n5, n6⟩ := n1
  rw [List.nodup_append] at n4
  obtain ⟨n7, n8, n9⟩ := n4
  exact ⟨n7, n8, n5, n2, fun z hz hi => n9 z hi z hz rfl, fun z hz hi => n6 z hi z hz rfl, fun z hz hi => n3 z hi z hz rfl⟩
theorem Good.nm (g : Good m ks) : (∀ z ∈ m.i, nameB z = true) ∧ (∀ z ∈ m.o, nameB z = true) ∧ (∀ z ∈ m.s, nameB z = true) ∧ ∀ z ∈ m.labels, nameB z = true := by
  have al := g.f.ok.al
  unfold DMd.all at al
  refine ⟨fun z hz => alln_name z (al z ?_), fun z hz => alln_name z (al z ?_), fun z hz => alln_name z (al z ?_), fun z hz => alln_name z (al z ?_)⟩
  · exact List.mem_append_left _ (List.mem_append_left _ (List.mem_append_left _ hz))
  · exact List.mem_append_left _ (List.mem_append_left _ (List.mem_append_right _ hz))
  · exact List.mem_append_left _ (List.mem_append_right _ hz)
  · exact List.mem_append_right _ hz
theorem Good.calls (g : Good m ks) : ∀ t ∈ m.c, nameB t.1 = true ∧ nameB t.2 = true := fun t ht => by
  refine ⟨g.nm.2.2.2 _ (List.mem_map.mpr ⟨t, ht, rfl⟩), ?_⟩
  obtain ⟨d, hd, e⟩ := List.mem_map.mp (g.f.ok.cl t ht)
  rw [← e]
  exact nm_name _ (g.kn d hd)
/-- links keep with more labels -/
theorem Good.links (g : Good m ks) {ls : List Str} (hl : ∀ y ∈ m.labels, y ∈ ls) : (linksA m.l).items.all (fun k => linkB k (m.i ++ m.s) (m.s ++ m.o) ls) = true := by
  have e : (linksA m.l).items = m.l.map fun t => AV.tup [.str t.a, .str t.b, .int t.c, .int t.d] := rfl
  rw [e, List.all_map, List.all_eq_true]
  intro t ht
  have o := g.f.lk t ht
  have h1 := (there_of g.f.ok g.k (z := t.a) (ns := m.i ++ m.s) hl).1 o.a fun _ h => h
  have h2 := (there_of g.f.ok g.k (z := t.b) (ns := m.s ++ m.o) hl).2 o.b fun _ h => h
  show ((true && true) && ((thereB (.str t.a) (m.i ++ m.s) ls && thereB (.str t.b) (m.s ++ m.o) ls) && (decide (0 ≤ t.c) && decide (0 ≤ t.d)))) = true
  rw [h1, h2, decide_eq_true o.c0, decide_eq_true o.d0]
  rfl
theorem Good.f0 (g : Good m ks) : isName (.str m.n) = true := nm_name _ g.n
theorem Good.f1 (g : Good m ks) : freshB (strsA m.i) [] = true := fresh_strsA g.nm.1 g.parts.1 fun _ _ h => nomatch h
theorem Good.f2 (g : Good m ks) : freshB (strsA m.o) (strsA m.i).names = true := by rw [names_strsA]; exact fresh_strsA g.nm.2.1 g.parts.2.1 g.parts.2.2.2.2.1
theorem Good.f3 (g : Good m ks) : freshB (strsA m.s) ((strsA m.i).names ++ (strsA m.o).names) = true := by rw [names_strsA, names_strsA]; exact fresh_strsA g.nm.2.2.1 g.parts.2.2.1 g.parts.2.2.2.2.2.1
theorem Good.lab (g : Good m ks) : labelsOf (callsA m.c) = m.labels := labels_calls g.calls
theorem Good.f4 (g : Good m ks) : (m6L (six m)).linksB = true := by
  show (true && (linksA m.l).items.all fun k => linkB k ((strsA m.i).names ++ (strsA m.s).names) ((strsA m.s).names ++ (strsA m.o).names) (labelsOf (callsA m.c))) = true
  rw [names_strsA, names_strsA, names_strsA, g.lab, g.links fun _ h => h]
  rfl
theorem Good.f5 (g : Good m ks) : (m6L (six m)).callsB = true := by
  show (true && !decide ((labelsOf (callsA m.c)).length < (callsA m.c).items.length)) = true
  have e : (callsA m.c).items.length = m.c.length := List.length_map ..
  have e2 : m.labels.length = m.c.length := List.length_map ..
  rw [g.lab, e, e2, decide_eq_false (Nat.lt_irrefl _)]
  rfl
theorem Good.f6 (g : Good m ks) : freshB (strsA (labelsOf (callsA m.c))) ((strsA m.i).names ++ (strsA m.o).names ++ (strsA m.s).names) = true := by
  rw [names_strsA, names_strsA, names_strsA, g.lab]
  exact fresh_strsA g.nm.2.2.2 g.parts.2.2.2.1 g.parts.2.2.2.2.2.2
theorem wm_none {x : M6} (h0 : isName x.n = true) (h1 : freshB x.i [] = true) (h2 : freshB x.o x.i.names = true) (h3 : freshB x.s (x.i.names ++ x.o.names) = true) (h4 : x.linksB = true) (h5 : x.callsB = true) (h6 : freshB (strsA (labelsOf x.c)) (x.i.names ++ x.o.names ++ x.s.names) = true) : wrongMod x = none := by
  unfold wrongMod
  rw [h0, h1, h2, h3, h4, h5, h6]
  simp
theorem wm0 {x : M6} (h0 : isName x.n = false) : wrongMod x = some ("name" : Str) := by
  unfold wrongMod
  rw [if_pos h0]
theorem wm1 {x : M6} (h0 : isName x.n = true) (h1 : freshB x.i [] = false) : wrongMod x = some ("inlets" : Str) := by
  unfold wrongMod
  rw [h0, if_neg (by decide), if_pos h1]
theorem wm2 {x : M6} (h0 : isName x.n = true) (h1 : freshB x.i [] = true) (h2 : freshB x.o x.i.names = false) : wrongMod x = some ("outlets" : Str) := by
  unfold wrongMod
  rw [h0, h1, if_neg (by decide), if_neg (by decide), if_pos h2]
theorem wm3 {x : M6} (h0 : isName x.n = true) (h1 : freshB x.i [] = true) (h2 : freshB x.o x.i.names = true) (h3 : freshB x.s (x.i.names ++ x.o.names) = false) : wrongMod x = some ("stations" : Str) := by
  unfold wrongMod
  rw [h0, h1, h2, if_neg (by decide), if_neg (by decide), if_neg (by decide), if_pos h3]
theorem wm4 {x : M6} (h0 : isName x.n = true) (h1 : freshB x.i [] = true) (h2 : freshB x.o x.i.names = true) (h3 : freshB x.s (x.i.names ++ x.o.names) = true) (h4 : x.linksB = false) : wrongMod x = some ("links" : Str) := by
  unfold wrongMod
  rw [h0, h1, h2, h3, if_neg (by decide), if_neg (by decide), if_neg (by decide), if_neg (by decide), if_pos h4]
theorem wm5 {x : M6} (h0 : isName x.n = true) (h1 : freshB x.i [] = true) (h2 : freshB x.o x.i.names = true) (h3 : freshB x.s (x.i.names ++ x.o.names) = true) (h4 : x.linksB = true) (h5 : x.callsB = false ∨ freshB (strsA (labelsOf x.c)) (x.i.names ++ x.o.names ++ x.s.names) = false) : wrongMod x = some ("calls" : Str) := by
  unfold wrongMod
  rw [h0, h1, h2, h3, h4, if_neg (by decide), if_neg (by decide), if_neg (by decide), if_neg (by decide), if_neg (by decide)]
  by_cases c : x.callsB = false
  · rw [if_pos c]
  · rw [if_neg c, if_pos (h5.resolve_left c)]
theorem Good.let_ (g : Good m ks) : heardM (six m) = "let" := by
  unfold heardM
  rw [wm_none (x := m6L (six m)) g.f0 g.f1 g.f2 g.f3 g.f4 g.f5 g.f6]
  rfl
/-- the same with tuples -/
def tupd : AV → AV := fun a => .tup a.items
theorem fresh_tup {v : AV} {tk : List Str} (h : v.isSeq = true) : freshB (tupd v) tk = freshB v tk := by
  unfold freshB
  rw [h]
  rfl
theorem names_tup (v : AV) : (tupd v).names = v.names := rfl
theorem labels_tup {v : AV} (h : v.isSeq = true) : labelsOf (tupd v) = labelsOf v := by
  unfold labelsOf
  rw [h]
  rfl
def sixT (m : DMd) : List AV := [.str m.n, tupd (strsA m.i), tupd (strsA m.o), tupd (strsA m.s), tupd (linksA m.l), tupd (callsA m.c)]
theorem Good.letT (g : Good m ks) : heardM (sixT m) = "let" := by
  unfold heardM
  rw [wm_none (x := m6L (sixT m)) g.f0 g.f1 g.f2 g.f3 g.f4 g.f5 g.f6]
  rfl
end
section
structure SixOk (xs : List AV) : Prop where
  len : xs.length = 6
  sm : ∀ x ∈ xs, x.sm = true
theorem SixOk.get {xs : List AV} (h : SixOk xs) {k : Nat} (hk : k < 6) : atI xs (k : Int) = some (xs.getD k .non) ∧ (xs.getD k .non).sm = true := by
  have e : xs[k]? = some (xs.getD k .non) := by rw [List.getD_eq_getElem?_getD, List.getElem?_eq_getElem (by rw [h.len]; exact hk)]; rfl
  exact ⟨atI_nat e, h.sm _ (List.mem_of_getElem? e)⟩
end
end WW

set_option Elab.async false
set_option linter.all false
set_option maxRecDepth 100000
set_option maxHeartbeats 4000000
namespace WW
open PySem PySem.Spec PyProof.Rows L2
/-! ### plain lists in parts; one's own list, drawn -/
theorem Paired.set {α β : Type} {F : α → β → Prop} {x : α} {y : β} (hf : F x y) : ∀ {l : List α} {r : List β} (n : Nat), Paired F l r → Paired F (l.set n x) (r.set n y)
  | _, _, _, .nil => .nil
  | _, _, 0, .cons f t => .cons hf t
  | _, _, n + 1, .cons f t => .cons f (Paired.set hf n t)
section
variable {K : PySem.W.Frag} {B : Addr → Prop} {ρ ρ' ρ1 ρ2 : List Slot} {ta tb tc td te ti : TE} {t u : TT} {ts tu tz : TS} {Φ : Post} {α β γ δ : Type} {e_α : Enc α} {e_β : Enc β} {e_γ : Enc γ} {e_δ : Enc δ} {a : α} {b : β} {i j : Int} {z : Str}
theorem DS.nxI {N : List Slot → Prop} (h : DS K B ts ρ { Φ with nx := N }) (hn : ∀ ρ', N ρ' → Φ.nx ρ') : DS K B ts ρ Φ := fun S0 H0 S H σ D E px n r b c =>
  h S0 H0 S H σ D E px (fun ρ' σ' S' H' q => n ρ' σ' S' H' (hn ρ' q)) r b c
theorem d_lstA {xs : List AV} (h : DE K B te ρ (AV.lst xs)) : DE K B te ρ (α := L AV) xs := h.conv fun S v r => by
  have r : AV.rep K S v (.lst xs) := r
  rw [AV.rep] at r
  obtain ⟨hl, p, vs, e, hq, r⟩ := r
  exact ⟨hl, p, vs, e, hq, AV.pr.mp r⟩
theorem d_lstOf {xs : List AV} (h : DE K B te ρ (α := L AV) xs) : DE K B te ρ (AV.lst xs) := h.conv fun S v r => by
  obtain ⟨hl, p, vs, e, hq, r⟩ := r
  show AV.rep K S v (.lst xs)
  rw [AV.rep]
  exact ⟨hl, p, vs, e, hq, AV.pr.mpr r⟩
theorem d_tupOf {xs : List AV} (h : DE K B te ρ (α := U AV) xs) : DE K B te ρ (AV.tup xs) := h.conv fun S v r => by
  obtain ⟨hl, p, vs, e, hq, r⟩ := r
  show AV.rep K S v (.tup xs)
  rw [AV.rep]
  exact ⟨hl, p, vs, e, hq, AV.pr.mpr r⟩
theorem d_tupA {tr : TA} {xs : List AV} (h : DL K B tr ρ xs) (hl : xs.length ≤ BIG) : DE K B (tTup tr) ρ (AV.tup xs) := d_tupOf (d_tupU h hl)
/-- a new list of one's own, one of some -/
def DON {α : Type} [Enc α] (K : PySem.W.Frag) (B : Addr → Prop) (te : TE) (ρ : List Slot) (P : List α → Prop) : Prop := ∀ S0 H0 S H σ, En K B S0 H0 S H σ ρ → ∀ Q : VK, (∀ p vs xs S' H', P xs → Ext B S H S' H' → H p = none → S' p = none → H' p = some (.lst vs) → Paired (Enc.rep K S') vs xs → xs.length ≤ BIG → Q (.ref p) H') → te σ H Q
theorem DON.n {P : List α → Prop} (h : DON K B te ρ P) : DN K B te ρ (α := L α) P := fun S0 H0 S H σ E Q q =>
  h S0 H0 S H σ E Q fun p vs xs S1 H1 px e1 hp hs hh rr hl => q _ xs _ H1 px (e1.frz hp E.i hh hs) ⟨hl, p, vs, rfl, upd_same, Paired.mono (fun _ _ => Enc.mono (same_new hs)) rr⟩
theorem don_cat {P1 P2 : List α → Prop} (h1 : DN K B ta ρ (α := L α) P1) (h2 : DN K B tb ρ (α := L α) P2) (hl : ∀ xs ys, P1 xs → P2 ys → xs.length + ys.length ≤ BIG) : DON K B (tOp rCat ta tb) ρ (fun zs : List α => ∃ xs ys : List α, P1 xs ∧ P2 ys ∧ zs = xs ++ ys) := fun S0 H0 S H σ E Q q =>
  h1 S0 H0 S H σ E _ fun v (xs : List α) S1 H1 px e1 r1 => h2 S0 H0 S1 H1 σ (E.go e1) _ fun w (ys : List α) S2 H2 py e2 ⟨l2, p2, vs2, z2, hh2, r2⟩ => by
    obtain ⟨l1, p1, vs1, z1, hh1, r1'⟩ := Enc.mono e2.s r1
    subst z1
    subst z2
    have r := Paired.app r1' r2
    refine ⟨p1, p2, vs1, vs2, rfl, rfl, e2.i _ _ hh1, e2.i _ _ hh2, ?_, fun p hp => q p _ (xs ++ ys) S2 _ ⟨xs, ys, px, py, rfl⟩ ((e1.trans e2).trans (Ext.priv e2.i hp)) ((e1.trans e2).free E.i hp) (e2.i.free hp) upd_same r ?_⟩
    · rw [r1'.length, r2.length]
      exact Nat.le_trans (hl _ _ px py) big_line
    · rw [List.length_append]
      exact hl _ _ px py
theorem DON.imp {P P' : List α → Prop} (h : DON K B te ρ P) (f : ∀ xs, P xs → P' xs) : DON K B te ρ P' := fun S0 H0 S H σ E Q q => h S0 H0 S H σ E Q fun p vs xs S1 H1 px => q p vs xs S1 H1 (f xs px)
theorem ds_retON {P : List α → Prop} (h : DON K B te ρ P) (k : ∀ xs, P xs → Φ.rt (.own xs)) : DS K B (tRet te) ρ Φ := fun S0 H0 S H σ D E px n r b c =>
  h S0 H0 S H σ E _ fun p vs xs S1 H1 pa e1 hp hs hh rr hl => r _ _ S1 H1 (k xs pa) (E.ext.trans e1) ⟨p, _, rfl, E.ext.free E.i0 hp, hs, hh, hl, vs, rfl, rr⟩
theorem ds_asgON {n : Nat} {P : List α → Prop} (h : DON K B te ρ P) (k : ∀ xs, P xs → Φ.nx (ρ.set n (.own xs))) : DS K B (tAsg te (gName n)) ρ Φ := fun S0 H0 S H σ D E px n r b c =>
  h S0 H0 S H σ E _ fun p vs xs S1 H1 pa e1 hp hs hh rr hl => n _ _ S1 H1 (k xs pa) e1.s (E.setO e1 hp hs hh rr hl)
theorem don_call {dp : List Slot → (Slot → Prop) → Prop} {tr : TA} {ss : List Slot} {P : List α → Prop} (h : DA K B tr ρ ss) (hd : dp ss fun s => ∃ xs : List α, P xs ∧ s = .own xs) : DON K B (tCall (spT K dp) [] E0 tr) ρ P := fun S0 H0 S H σ E Q q =>
  h S0 H0 S H σ E _ fun vs S1 H1 e1 r1 => by
    show spT K dp (vs ++ []) H1 Q E0
    rw [List.append_nil]
    refine ⟨B, S1, ss, _, e1.i, fun p hp => ⟨((E.go e1).bx p hp).1, ((E.go e1).bx p hp).2.1⟩, r1.base, hd, fun s v S2 H2 hs e2 ok => ?_⟩
    obtain ⟨xs, px, rfl⟩ := hs
    obtain ⟨p, o, rfl, hp, hs, hh, hl, vs, rfl, rr⟩ := ok
    exact q p vs xs S2 H2 px (e1.trans e2) (e1.free E.i hp) hs hh rr hl
theorem ixN_in {n : Nat} (h0 : 0 ≤ i) (h : i.toNat < n) : ixN n i = some i.toNat := by
  unfold ixN
  rw [if_pos h0, if_pos (by omega)]
/-- xs[i] = a, xs one's own -/
theorem ds_setO {n : Nat} {xs : List α} (hx : ρ[n]? = some (.own xs)) (hv : DE K B te ρ a) (hi : DE K B ti ρ i) (h0 : 0 ≤ i) (hl : i.toNat < xs.length) (k : Φ.nx (ρ.set n (.own (xs.set i.toNat a)))) : DS K B (tAsg te (gSub (tVar n) ti rSetL)) ρ Φ := fun S0 H0 S H σ D E px nx r b c => by
  refine hv S0 H0 S H σ E _ fun w S1 H1 e1 r1 => ?_
  obtain ⟨_, p, vs, g1, h0', hs, hh, rr⟩ := (E.go e1).own hx
  refine ⟨_, g1, ?_⟩
  refine hi S0 H0 S1 H1 σ (E.go e1) _ fun v S2 H2 e2 r2 => ?_
  cases r2
  have E2 := (E.go e1).go e2
  obtain ⟨lx, p', vs', g1', h0', hs', hh', rr'⟩ := E2.own hx
  rw [g1] at g1'
  cases g1'
  refine ⟨p, vs', i, i.toNat, rfl, rfl, hh', ?_, nx _ σ S2 _ k (e1.s.trans e2.s) (E2.chg hx g1 (Paired.set (Enc.mono e2.s r1) i.toNat rr') ?_)⟩
  · rw [rr'.length]
    exact ixN_in h0 hl
  · rw [List.length_set]
    exact lx
theorem dn_call1 {pre : α → Prop} {f : α → γ} {P : α → Prop} (h : DN K B ta ρ P) (hp : ∀ x, P x → pre x) : DN K B (tCall (spT K (dp1 pre f)) [] E0 (tCons ta tNil)) ρ (fun y => ∃ x, P x ∧ y = f x) := fun S0 H0 S H σ E Q q =>
  h S0 H0 S H σ E _ fun v a S1 H1 pa e1 r1 => by
    show spT K _ ([v] ++ []) H1 Q E0
    rw [List.append_nil]
    refine ⟨B, S1, [.val a], fun s => s = .val (f a), e1.i, fun p hp => ⟨((E.go e1).bx p hp).1, ((E.go e1).bx p hp).2.1⟩, .cons r1 rfl .nil, ⟨a, rfl, hp a pa, rfl⟩, fun s v S2 H2 hs e2 ok => ?_⟩
    cases hs
    exact q v (f a) S2 H2 ⟨a, pa, rfl⟩ (e1.trans e2) ok
/-- for x in xs, xs one of some -/
def DIN {α : Type} [Enc α] (K : PySem.W.Frag) (B : Addr → Prop) (wi : TI) (ρ : List Slot) (P : List α → Prop) : Prop := ∀ S0 H0 S H σ, En K B S0 H0 S H σ ρ → ∀ R : It → Hp → Prop, (∀ J xs S' H', P xs → Ext B S H S' H' → Yld K B S0 H0 J S' xs → R J H') → wi σ H R
theorem din_seq {P : List α → Prop} (h : DN K B te ρ (α := L α) P) : DIN K B (iSeq K te) ρ P := fun S0 H0 S H σ E R q =>
  h S0 H0 S H σ E _ fun v xs S1 H1 px e1 ⟨hl, p, vs, e, hq, r⟩ => by
    have hh : SqL K S1 p vs := SqL.of hq
    refine ⟨p, e, ?_⟩
    refine .inl ⟨⟨vs, Evl.ex_l e1.i hh⟩, q _ xs S1 H1 px e1 fun S2 H2 s2 x2 => have i2 := x2.i; ⟨fun i x hx => ?_, vs, Evl.ex_l (s2.trans i2) hh, by rw [r.length]; exact Nat.le_refl _⟩⟩
    obtain ⟨w, h1, h2⟩ := Paired.at r hx
    refine ⟨⟨vs, w, Evl.ex_l (s2.trans i2) hh, h1⟩, fun v H3 hy => ⟨S2, ?_, ?_⟩⟩
    · rw [hy.1]
      exact Ext.refl i2
    · have z := hy.2 vs (Evl.ex_l (s2.trans i2) hh)
      rw [h1] at z
      cases z
      exact Enc.mono s2 h2
theorem ds_forWN {wi : TI} {g : TG} {P : List α → Prop} (ρf : List Slot) (hi : DIN K B wi ρ P) (h0 : Wk ρ ρf)
    (hs : ∀ xs, P xs → ∀ x ∈ xs, ∃ ρ2 js, DG K B g x ρf ρ2 js ∧ DS K B ts ρ2 ⟨fun r => Wk r ρf, Φ.rt, Φ.nx, fun r => Wk r ρf, Φ.px⟩) (hd : ∀ r, Wk r ρf → Φ.nx r) : DS K B (tFor wi g ts) ρ Φ := fun S0 H0 S H σ D E px n r b c => by
  refine hi S0 H0 S H σ E _ fun J xs S1 H1 pxs e1 y => ?_
  refine ⟨fun i m σ' Hc => m = xs.length - i ∧ i ≤ xs.length ∧ ∃ ρ' Sc, Wk ρ' ρf ∧ Same S1 Sc ∧ En K B S0 H0 Sc Hc σ' ρ', ⟨xs.length, by simp, Nat.zero_le _, ρ, S1, h0, Same.refl _, E.go e1⟩, ?_⟩
  rintro i m σ' Hc ⟨rfl, hle, ρ', Sc, hI, sm, E'⟩
  have yy := y Sc Hc sm E'.ext
  by_cases hlt : i < xs.length
  · refine .inr ?_
    obtain ⟨x, hx⟩ : ∃ x, xs[i]? = some x := ⟨_, List.getElem?_eq_getElem hlt⟩
    obtain ⟨hgo, hy⟩ := yy.1 i x hx
    refine ⟨hgo, fun σ2 H2 => ∃ ρ2 S2, Wk ρ2 ρf ∧ Same S1 S2 ∧ En K B S0 H0 S2 H2 σ2 ρ2, fun σ2 H2 hp => ⟨xs.length - (i + 1), by omega, rfl, hlt, hp⟩, fun v H' hyl => ?_⟩
    obtain ⟨S2, e2, r2⟩ := hy v H' hyl
    obtain ⟨ρ2, js, hg, hb⟩ := hs xs pxs x (List.mem_of_getElem? hx)
    refine (hg.weak hI) S0 H0 S2 H' σ' v (E'.go e2) r2 _ fun σ2 E2 _ _ => ?_
    refine hb S0 H0 S2 H' σ2 _ E2 px (fun ρ3 σ3 S3 H3 q s E3 => ⟨ρ3, S3, q, (sm.trans e2.s).trans s, E3⟩) r (fun ρ3 σ3 S3 H3 q s E3 => n ρ3 σ3 S3 H3 q (((e1.s.trans sm).trans e2.s).trans s) E3) (fun ρ3 σ3 S3 H3 q s E3 => ⟨ρ3, S3, q, (sm.trans e2.s).trans s, E3⟩)
  · refine .inl ⟨?_, ?_⟩
    · rw [show i = xs.length by omega]
      exact yy.2
    · exact n ρ' σ' Sc Hc (hd ρ' hI) (e1.s.trans sm) E'
end
end WW

set_option Elab.async false
set_option linter.all false
set_option maxRecDepth 100000
set_option maxHeartbeats 4000000
namespace WW
open PySem PySem.Spec PyProof.Rows L2
/-! ### what is wrong with a bad part -/
def W6 : List Str := ["name", "inlets", "outlets", "stations", "links", "calls"]
def BadAt (m : DMd) (k : Nat) (w : AV) : Prop := w.sm = true ∧ wrongMod (m6L ((six m).set k w)) = some (W6.getD k "")
theorem fr_not {v : AV} {tk : List Str} (h : v.isSeq = false) : freshB v tk = false := by unfold freshB; rw [h]; rfl
theorem fr_name {xs : List AV} {tk : List Str} {x : AV} (hx : x ∈ xs) (h : isName x = false) : freshB (.lst xs) tk = false := by
  cases hh : freshB (.lst xs) tk with
  | false => rfl
  | true =>
    unfold freshB at hh
    simp only [Bool.and_eq_true] at hh
    have := all_get hh.2.1 hx
    rw [h] at this
    cases this
theorem fr_taken {xs : List AV} {tk : List Str} {x : AV} (hx : x ∈ xs) (h : x.txt ∈ tk) : freshB (.lst xs) tk = false := by
  cases hh : freshB (.lst xs) tk with
  | false => rfl
  | true =>
    unfold freshB at hh
    simp only [Bool.and_eq_true] at hh
    have := all_get hh.2.1 hx
    rw [decide_eq_true h, Bool.and_eq_true] at this
    exact absurd this.2 (by decide)
theorem fr_twice {xs : List AV} {tk : List Str} (h : ¬ (xs.map AV.txt).Nodup) : freshB (.lst xs) tk = false := by
  cases hh : freshB (.lst xs) tk with
  | false => rfl
  | true =>
    unfold freshB at hh
    simp only [Bool.and_eq_true, decide_eq_true_eq] at hh
    exact absurd hh.2.2 h
theorem lst_sm {xs : List AV} (h : xs.length ≤ 1000) (hx : ∀ x ∈ xs, x.sm = true) : (AV.lst xs).sm = true := by
  rw [AV.sm, Bool.and_eq_true, AV.sms_iff]
  exact ⟨decide_eq_true h, hx⟩
theorem tup_sm {xs : List AV} (h : xs.length ≤ 1000) (hx : ∀ x ∈ xs, x.sm = true) : (AV.tup xs).sm = true := by
  rw [AV.sm, Bool.and_eq_true, AV.sms_iff]
  exact ⟨decide_eq_true h, hx⟩
theorem str_sm {z : Str} (h : z.length ≤ 1000) : (AV.str z).sm = true := by
  rw [AV.sm]
  exact decide_eq_true h
theorem int_sm {i : Int} : (AV.int i).sm = true := by simp [AV.sm]
theorem bl_sm {i : Bool} : (AV.bl i).sm = true := by simp [AV.sm]
theorem non_sm : AV.non.sm = true := by simp [AV.sm]
theorem sm3 {x y z : AV} (h1 : x.sm = true) (h2 : y.sm = true) (h3 : z.sm = true) : (AV.tup [x, y, z]).sm = true := tup_sm (by show 3 ≤ 1000; decide) fun u hu => by
  simp only [List.mem_cons, List.not_mem_nil, or_false] at hu
  rcases hu with rfl | rfl | rfl <;> assumption
theorem sm4 {x y z w : AV} (h1 : x.sm = true) (h2 : y.sm = true) (h3 : z.sm = true) (h4 : w.sm = true) : (AV.tup [x, y, z, w]).sm = true := tup_sm (by show 4 ≤ 1000; decide) fun u hu => by
  simp only [List.mem_cons, List.not_mem_nil, or_false] at hu
  rcases hu with rfl | rfl | rfl | rfl <;> assumption
theorem sm4l {x y z w : AV} (h1 : x.sm = true) (h2 : y.sm = true) (h3 : z.sm = true) (h4 : w.sm = true) : (AV.lst [x, y, z, w]).sm = true := lst_sm (by show 4 ≤ 1000; decide) fun u hu => by
  simp only [List.mem_cons, List.not_mem_nil, or_false] at hu
  rcases hu with rfl | rfl | rfl | rfl <;> assumption
theorem alln_end2 : ∀ z ∈ ALLN, endB (z ++ ("." : Str)) = false := by decide +kernel
section
variable {m : DMd} {ks : List DMd}
theorem Good.all_in (g : Good m ks) : (∀ z ∈ m.i, z ∈ ALLN) ∧ (∀ z ∈ m.o, z ∈ ALLN) ∧ (∀ z ∈ m.s, z ∈ ALLN) ∧ ∀ z ∈ m.labels, z ∈ ALLN := by
  have al := g.f.ok.al
  unfold DMd.all at al
  refine ⟨fun z hz => al z ?_, fun z hz => al z ?_, fun z hz => al z ?_, fun z hz => al z ?_⟩
  · exact List.mem_append_left _ (List.mem_append_left _ (List.mem_append_left _ hz))
  · exact List.mem_append_left _ (List.mem_append_left _ (List.mem_append_right _ hz))
  · exact List.mem_append_left _ (List.mem_append_right _ hz)
  · exact List.mem_append_right _ hz
theorem Good.lens (g : Good m ks) : m.i.length + m.o.length + m.s.length + m.c.length ≤ 18 := all_lens g.f.ok.ln
theorem call_sm (g : Good m ks) : ∀ x ∈ (callsA m.c).items, x.sm = true := fun x hx => by
  obtain ⟨t, ht, rfl⟩ := List.mem_map.mp (show x ∈ m.c.map (fun t => AV.tup [.str t.1, .str t.2]) from hx)
  obtain ⟨h1, h2⟩ := g.calls t ht
  refine tup_sm (by show 2 ≤ 1000; decide) fun y hy => ?_
  rcases List.mem_cons.mp hy with rfl | hy
  · exact str_sm (Nat.le_trans (nameB_len h1) (by decide))
  · rw [List.mem_singleton.mp hy]
    exact str_sm (Nat.le_trans (nameB_len h2) (by decide))
theorem link_sm (g : Good m ks) : ∀ x ∈ (linksA m.l).items, x.sm = true := fun x hx => by
  obtain ⟨t, ht, rfl⟩ := List.mem_map.mp (show x ∈ m.l.map (fun t => AV.tup [.str t.a, .str t.b, .int t.c, .int t.d]) from hx)
  have o := g.f.lk t ht
  have h1 := (ends_of g.f.ok g.k (.inl o.a)).2.2.1
  have h2 := (ends_of g.f.ok g.k (.inr o.b)).2.2.1
  refine tup_sm (by show 4 ≤ 1000; decide) fun y hy => ?_
  rcases List.mem_cons.mp hy with rfl | hy
  · exact str_sm (Nat.le_trans h1 (by decide))
  · rcases List.mem_cons.mp hy with rfl | hy
    · exact str_sm (Nat.le_trans h2 (by decide))
    · rcases List.mem_cons.mp hy with rfl | hy
      · exact int_sm
      · rw [List.mem_singleton.mp hy]
        exact int_sm
theorem names_sm {zs : List Str} (h : zs.length ≤ 18) (hz : ∀ z ∈ zs, z ∈ ALLN) : ∀ x ∈ (strsA zs).items, x.sm = true := fun x hx => by
  obtain ⟨z, hm, rfl⟩ := List.mem_map.mp (show x ∈ zs.map AV.str from hx)
  exact str_sm (Nat.le_trans (alln_len z (hz z hm)) (by decide))
theorem Good.items_sm (g : Good m ks) : (∀ x ∈ (strsA m.i).items, x.sm = true) ∧ (∀ x ∈ (strsA m.o).items, x.sm = true) ∧ (∀ x ∈ (strsA m.s).items, x.sm = true) := by
  have l := g.lens
  have a := g.all_in
  exact ⟨names_sm (by omega) a.1, names_sm (by omega) a.2.1, names_sm (by omega) a.2.2.1⟩
theorem Good.ilens (g : Good m ks) : (strsA m.i).items.length ≤ 18 ∧ (strsA m.o).items.length ≤ 18 ∧ (strsA m.s).items.length ≤ 18 ∧ (linksA m.l).items.length ≤ 8 ∧ (callsA m.c).items.length ≤ 18 := by
  have l := g.lens
  have ll := g.f.ll
  refine ⟨?_, ?_, ?_, ?_, ?_⟩
  · show (m.i.map AV.str).length ≤ 18
    rw [List.length_map]; omega
  · show (m.o.map AV.str).length ≤ 18
    rw [List.length_map]; omega
  · show (m.s.map AV.str).length ≤ 18
    rw [List.length_map]; omega
  · show (m.l.map (fun t => AV.tup [.str t.a, .str t.b, .int t.c, .int t.d])).length ≤ 8
    rw [List.length_map]; omega
  · show (m.c.map (fun t => AV.tup [.str t.1, .str t.2])).length ≤ 18
    rw [List.length_map]; omega
theorem Good.six_ok (g : Good m ks) : SixOk (six m) := by
  obtain ⟨l1, l2, l3, l4, l5⟩ := g.ilens
  obtain ⟨a1, a2, a3⟩ := g.items_sm
  refine ⟨rfl, fun x hx => ?_⟩
  have nl : m.n.length ≤ 1000 := Nat.le_trans g.f.ok.nl (by decide)
  have hx : x ∈ [AV.str m.n, strsA m.i, strsA m.o, strsA m.s, linksA m.l, callsA m.c] := hx
  simp only [List.mem_cons, List.not_mem_nil, or_false] at hx
  rcases hx with rfl | rfl | rfl | rfl | rfl | rfl
  · exact str_sm nl
  · exact lst_sm (Nat.le_trans l1 (by decide)) a1
  · exact lst_sm (Nat.le_trans l2 (by decide)) a2
  · exact lst_sm (Nat.le_trans l3 (by decide)) a3
  · exact lst_sm (Nat.le_trans l4 (by decide)) (link_sm g)
  · exact lst_sm (Nat.le_trans l5 (by decide)) (call_sm g)
theorem Good.sixT_ok (g : Good m ks) : SixOk (sixT m) := by
  obtain ⟨l1, l2, l3, l4, l5⟩ := g.ilens
  obtain ⟨a1, a2, a3⟩ := g.items_sm
  refine ⟨rfl, fun x hx => ?_⟩
  have nl : m.n.length ≤ 1000 := Nat.le_trans g.f.ok.nl (by decide)
  have hx : x ∈ [AV.str m.n, tupd (strsA m.i), tupd (strsA m.o), tupd (strsA m.s), tupd (linksA m.l), tupd (callsA m.c)] := hx
  simp only [List.mem_cons, List.not_mem_nil, or_false] at hx
  rcases hx with rfl | rfl | rfl | rfl | rfl | rfl
  · exact str_sm nl
  · exact tup_sm (Nat.le_trans l1 (by decide)) a1
  · exact tup_sm (Nat.le_trans l2 (by decide)) a2
  · exact tup_sm (Nat.le_trans l3 (by decide)) a3
  · exact tup_sm (Nat.le_trans l4 (by decide)) (link_sm g)
  · exact tup_sm (Nat.le_trans l5 (by decide)) (call_sm g)
theorem SixOk.set {xs : List AV} (h : SixOk xs) {k : Nat} {w : AV} (hw : w.sm = true) : SixOk (xs.set k w) := by
  refine ⟨by rw [List.length_set]; exact h.len, fun x hx => ?_⟩
  rcases List.mem_or_eq_of_mem_set hx with hx | rfl
  · exact h.sm x hx
  · exact hw
/-! the six parts -/
theorem bad0 {w : AV} (hs : w.sm = true) (h : isName w = false) : BadAt m 0 w := ⟨hs, wm0 (x := m6L ((six m).set 0 w)) h⟩
theorem bad1 (g : Good m ks) {w : AV} (hs : w.sm = true) (h : freshB w [] = false) : BadAt m 1 w := ⟨hs, wm1 (x := m6L ((six m).set 1 w)) g.f0 h⟩
theorem bad2 (g : Good m ks) {w : AV} (hs : w.sm = true) (h : freshB w m.i = false) : BadAt m 2 w := ⟨hs, wm2 (x := m6L ((six m).set 2 w)) g.f0 g.f1 (by show freshB w (strsA m.i).names = false; rw [names_strsA]; exact h)⟩
theorem bad3 (g : Good m ks) {w : AV} (hs : w.sm = true) (h : freshB w (m.i ++ m.o) = false) : BadAt m 3 w := ⟨hs, wm3 (x := m6L ((six m).set 3 w)) g.f0 g.f1 g.f2 (by show freshB w ((strsA m.i).names ++ (strsA m.o).names) = false; rw [names_strsA, names_strsA]; exact h)⟩
theorem bad4 (g : Good m ks) {w : AV} (hs : w.sm = true) (h : (w.isSeq && w.items.all fun k => linkB k (m.i ++ m.s) (m.s ++ m.o) m.labels) = false) : BadAt m 4 w := by
  refine ⟨hs, wm4 (x := m6L ((six m).set 4 w)) g.f0 g.f1 g.f2 g.f3 ?_⟩
  show (w.isSeq && w.items.all fun k => linkB k ((strsA m.i).names ++ (strsA m.s).names) ((strsA m.s).names ++ (strsA m.o).names) (labelsOf (callsA m.c))) = false
  rw [names_strsA, names_strsA, names_strsA, g.lab]
  exact h
theorem bad5 (g : Good m ks) {w : AV} (hs : w.sm = true) (hl : ∀ y ∈ m.labels, y ∈ labelsOf w) (h : (w.isSeq && !decide ((labelsOf w).length < w.items.length)) = false ∨ freshB (strsA (labelsOf w)) (m.i ++ m.o ++ m.s) = false) : BadAt m 5 w := by
  refine ⟨hs, wm5 (x := m6L ((six m).set 5 w)) g.f0 g.f1 g.f2 g.f3 ?_ ?_⟩
  · show (true && (linksA m.l).items.all fun k => linkB k ((strsA m.i).names ++ (strsA m.s).names) ((strsA m.s).names ++ (strsA m.o).names) (labelsOf w)) = true
    rw [names_strsA, names_strsA, names_strsA, g.links hl]
    rfl
  · rcases h with h | h
    · exact .inl h
    · refine .inr ?_
      show freshB (strsA (labelsOf w)) ((strsA m.i).names ++ (strsA m.o).names ++ (strsA m.s).names) = false
      rw [names_strsA, names_strsA, names_strsA]
      exact h
/-- one bad thing among links -/
theorem bad4L (g : Good m ks) {xs ys : List AV} {w : AV} (hs : w.sm = true) (hx : ∀ x ∈ xs ++ ys, x.sm = true) (hl : xs.length + ys.length ≤ 999) (h : linkB w (m.i ++ m.s) (m.s ++ m.o) m.labels = false) : BadAt m 4 (.lst (xs ++ [w] ++ ys)) := by
  refine bad4 g (lst_sm (by simp only [List.length_append, List.length_cons, List.length_nil]; omega) fun x hm => ?_) ?_
  · simp only [List.mem_append, List.mem_singleton] at hm
    rcases hm with (hm | rfl) | hm
    · exact hx x (List.mem_append_left _ hm)
    · exact hs
    · exact hx x (List.mem_append_right _ hm)
  · show (true && (xs ++ [w] ++ ys).all _) = false
    rw [List.all_append, List.all_append, List.all_cons, h]
    simp
theorem lk_num {a b c d : AV} {bs gs ls : List Str} (h : (c.isNum && d.isNum) = false) : linkB (.tup [a, b, c, d]) bs gs ls = false := by
  show ((true && true) && ((thereB a bs ls && thereB b gs ls) && (c.isNum && d.isNum))) = false
  rw [h, Bool.and_false]
  rfl
theorem lk_a {a b c d : AV} {bs gs ls : List Str} (h : thereB a bs ls = false) : linkB (.tup [a, b, c, d]) bs gs ls = false := by
  show ((true && true) && ((thereB a bs ls && thereB b gs ls) && (c.isNum && d.isNum))) = false
  rw [h, Bool.false_and]
  rfl
theorem lk_b {a b c d : AV} {bs gs ls : List Str} (h : thereB b gs ls = false) : linkB (.tup [a, b, c, d]) bs gs ls = false := by
  show ((true && true) && ((thereB a bs ls && thereB b gs ls) && (c.isNum && d.isNum))) = false
  rw [h, Bool.and_false, Bool.false_and]
  rfl
theorem th_one {z : Str} {ns ls : List Str} (h : decide ((Txt.partition z ".").2.1 = dot) = false) (hn : z ∉ ns) : thereB (.str z) ns ls = false := by
  show ((true && endB z) && (if decide ((Txt.partition z ".").2.1 = dot) = true then decide ((Txt.partition z ".").1 ∈ ls) else decide (z ∈ ns))) = false
  rw [h, if_neg (by decide), decide_eq_false hn, Bool.and_false]
theorem th_lab {z : Str} {ns ls : List Str} (h : decide ((Txt.partition z ".").2.1 = dot) = true) (hn : (Txt.partition z ".").1 ∉ ls) : thereB (.str z) ns ls = false := by
  show ((true && endB z) && (if decide ((Txt.partition z ".").2.1 = dot) = true then decide ((Txt.partition z ".").1 ∈ ls) else decide (z ∈ ns))) = false
  rw [h, if_pos rfl, decide_eq_false hn, Bool.and_false]
theorem th_end {z : Str} {ns ls : List Str} (h : endB z = false) : thereB (.str z) ns ls = false := by
  show ((true && endB z) && _) = false
  rw [h]
  rfl
/-- the links that are odd, in the order of the text -/
def oddL (m : DMd) (a b : Str) : List AV := [.tup [.str a, .str b, .int 0], .tup [.str a, .str b, .int (-1), .int 0], .tup [.str a, .str b, .int 1, .int (-1)], .tup [.str a, .str b, .bl true, .int 0], .tup [.str a, .str b, .int 1, .non]] ++
  [.tup [.str "qq", .str b, .int 1, .int 0], .tup [.str a, .str "qq", .int 1, .int 0], .lst [.str a, .str b, .int 1, .int 0], .non, .str "a", .tup [.str a, .str "q.a", .int 1, .int 0]] ++ [.tup [.str "q.a", .str b, .int 1, .int 0]] ++
  (if (!m.i.isEmpty) = true then [.tup [.str a, .str (m.i.headD ""), .int 1, .int 0]] else []) ++
  [.tup [.str (m.o.headD ""), .str b, .int 1, .int 0], .tup [.str a, .str (b ++ ("." : Str)), .int 1, .int 0], .tup [.non, .str b, .int 1, .int 0], .tup [.str "a.b.c", .str b, .int 1, .int 0]]
theorem headD_mem {α : Type} {l : List α} {d : α} (h : 0 < l.length) : l.headD d ∈ l := by
  cases l with
  | nil => exact absurd h (by simp)
  | cons x r => exact List.mem_cons_self
theorem oddL_bad (g : Good m ks) {a b : Str} (ha : a ∈ ALLN) (hb : b ∈ ALLN) : ∀ x ∈ oddL m a b, x.sm = true ∧ linkB x (m.i ++ m.s) (m.s ++ m.o) m.labels = false := by
  obtain ⟨ai, ao, as, al⟩ := g.all_in
  have q1 : ("qq" : Str) ∉ ALLN := by decide +kernel
  have q2 : ("q" : Str) ∉ ALLN := by decide +kernel
  have sa : (AV.str a).sm = true := str_sm (Nat.le_trans (alln_len a ha) (by decide))
  have sb : (AV.str b).sm = true := str_sm (Nat.le_trans (alln_len b hb) (by decide))
  have s3 := @sm3
  have s4 := @sm4
  have si := @int_sm
  have sn := non_sm
  have sbl := @bl_sm
  have nq1 : ("qq" : Str) ∉ m.i ++ m.s := fun h => by rcases List.mem_append.mp h with h | h; exact q1 (ai _ h); exact q1 (as _ h)
  have nq2 : ("qq" : Str) ∉ m.s ++ m.o := fun h => by rcases List.mem_append.mp h with h | h; exact q1 (as _ h); exact q1 (ao _ h)
  have nq3 : (Txt.partition ("q.a" : Str) ".").1 ∉ m.labels := fun h => q2 (by have := al _ h; exact (by decide +kernel : (Txt.partition ("q.a" : Str) ".").1 = ("q" : Str)) ▸ this)
  intro x hx
  unfold oddL at hx
  simp only [List.mem_append, List.mem_cons, List.not_mem_nil, or_false] at hx
  rcases hx with ((((rfl | rfl | rfl | rfl | rfl) | (rfl | rfl | rfl | rfl | rfl | rfl)) | rfl) | hx) | (rfl | rfl | rfl | rfl)
  · exact ⟨s3 sa sb si, rfl⟩
  · exact ⟨s4 sa sb si si, lk_num rfl⟩
  · exact ⟨s4 sa sb si si, lk_num rfl⟩
  · exact ⟨s4 sa sb sbl si, lk_num rfl⟩
  · exact ⟨s4 sa sb si sn, lk_num rfl⟩
  · exact ⟨s4 (str_sm (by decide +kernel)) sb si si, lk_a (th_one (by decide +kernel) nq1)⟩
  · exact ⟨s4 sa (str_sm (by decide +kernel)) si si, lk_b (th_one (by decide +kernel) nq2)⟩
  · exact ⟨sm4l sa sb si si, rfl⟩
  · exact ⟨sn, rfl⟩
  · exact ⟨str_sm (by decide +kernel), rfl⟩
  · exact ⟨s4 sa (str_sm (by decide +kernel)) si si, lk_b (th_lab (by decide +kernel) nq3)⟩
  · exact ⟨s4 (str_sm (by decide +kernel)) sb si si, lk_a (th_lab (by decide +kernel) nq3)⟩
  · split at hx
    · rename_i hi
      have hx := List.mem_singleton.mp hx
      subst hx
      have i0 : m.i.headD "" ∈ m.i := headD_mem (by cases hh : m.i with | nil => rw [hh] at hi; cases hi | cons _ _ => simp)
      have p := g.parts
      refine ⟨s4 sa (str_sm (Nat.le_trans (alln_len _ (ai _ i0)) (by decide))) si si, lk_b (th_one (alln_end _ (ai _ i0)).2 fun h => ?_)⟩
      rcases List.mem_append.mp h with h | h
      · exact p.2.2.2.2.2.1 _ h (List.mem_append_left _ i0)
      · exact p.2.2.2.2.1 _ h i0
    · cases hx
  · have o0 : m.o.headD "" ∈ m.o := headD_mem g.f.ok.o1
    have p := g.parts
    refine ⟨s4 (str_sm (Nat.le_trans (alln_len _ (ao _ o0)) (by decide))) sb si si, lk_a (th_one (alln_end _ (ao _ o0)).2 fun h => ?_)⟩
    rcases List.mem_append.mp h with h | h
    · exact p.2.2.2.2.1 _ o0 h
    · exact p.2.2.2.2.2.1 _ h (List.mem_append_right _ o0)
  · refine ⟨s4 sa (str_sm ?_) si si, lk_b (th_end (alln_end2 b hb))⟩
    exact Nat.le_trans ((by decide +kernel : ∀ z ∈ ALLN, (z ++ ("." : Str)).length ≤ 6) b hb) (by decide)
  · exact ⟨s4 sn sb si si, lk_a rfl⟩
  · exact ⟨s4 (str_sm (by decide +kernel)) sb si si, lk_a (th_end (by decide +kernel))⟩
/-! calls -/
theorem labels_app {xs ys : List AV} : labelsOf (.lst (xs ++ ys)) = labelsOf (.lst xs) ++ labelsOf (.lst ys) := by
  show ((xs ++ ys).filter pairB).map _ = (xs.filter pairB).map _ ++ (ys.filter pairB).map _
  rw [List.filter_append, List.map_append]
theorem labels_cs (g : Good m ks) (ys : List AV) : labelsOf (.lst ((callsA m.c).items ++ ys)) = m.labels ++ labelsOf (.lst ys) := by
  rw [labels_app]
  congr 1
  exact g.lab
theorem bad5L (g : Good m ks) {ys : List AV} (hs : ∀ y ∈ ys, y.sm = true) (hl : ys.length ≤ 10) (h : (labelsOf (.lst ys)).length < ys.length ∨ freshB (strsA (labelsOf (.lst ys))) (m.i ++ m.o ++ m.s) = false) : BadAt m 5 (.lst ((callsA m.c).items ++ ys)) := by
  have e := labels_cs g ys
  have l5 := g.ilens.2.2.2.2
  refine bad5 g (lst_sm (by rw [List.length_append]; omega) fun x hx => ?_) (fun y hy => by rw [e]; exact List.mem_append_left _ hy) ?_
  · rcases List.mem_append.mp hx with hx | hx
    · exact call_sm g x hx
    · exact hs x hx
  · rw [e]
    rcases h with h | h
    · refine .inl ?_
      show (true && !decide ((m.labels ++ labelsOf (.lst ys)).length < ((callsA m.c).items ++ ys).length)) = false
      have e1 : (callsA m.c).items.length = m.c.length := List.length_map ..
      have e2 : m.labels.length = m.c.length := List.length_map ..
      rw [List.length_append, List.length_append, decide_eq_true (by omega)]
      rfl
    · refine .inr ?_
      cases hh : freshB (strsA (m.labels ++ labelsOf (.lst ys))) (m.i ++ m.o ++ m.s) with
      | false => rfl
      | true =>
        unfold freshB at h hh
        have ei : (strsA (m.labels ++ labelsOf (.lst ys))).items = (strsA m.labels).items ++ (strsA (labelsOf (.lst ys))).items := by
          show List.map _ _ = _
          rw [List.map_append]
          rfl
        rw [ei, List.all_append, List.map_append] at hh
        simp only [Bool.and_eq_true, decide_eq_true_eq] at hh
        have h1 := hh.2.1.2
        have h2 := (List.nodup_append.mp hh.2.2).2.1
        rw [h1, decide_eq_true h2] at h
        cases h
/-- the calls that are odd -/
def oddC (m : DMd) : List AV := [.tup [.str "q"], .tup [.str "q", .str "r", .str "s"], .lst [.str "q", .str "r"], .tup [.str "q", .str "abcdef"], .tup [.str "Q", .str "r"], .non, .str "qr", .tup [.str "q", .int 3]] ++
  [.tup [.str (m.o.headD ""), .str "r"], .tup [.str (m.s.headD ""), .str "r"]] ++ (m.i.take 1).map fun z => .tup [.str z, .str "r"]
theorem lab_one {z : Str} (h : nameB z = true) : labelsOf (.lst [.tup [.str z, .str "r"]]) = [z] := by
  have : pairB (.tup [.str z, .str "r"]) = true := by
    show (true && (true && (nameB z && (nameB "r" && true)))) = true
    rw [h, (by decide +kernel : nameB "r" = true)]
    rfl
  show ([AV.tup [.str z, .str "r"]].filter pairB).map _ = [z]
  rw [List.filter_cons, if_pos this]
  rfl
theorem oddC_bad (g : Good m ks) : ∀ x ∈ oddC m, BadAt m 5 (.lst ((callsA m.c).items ++ [x])) := by
  obtain ⟨ai, ao, as, al⟩ := g.all_in
  have nt : ∀ x : AV, x.sm = true → pairB x = false → BadAt m 5 (.lst ((callsA m.c).items ++ [x])) := fun x h1 h2 => by
    refine bad5L g (fun y hy => by rw [List.mem_singleton.mp hy]; exact h1) (by show 1 ≤ 10; decide) (.inl ?_)
    show (([x].filter pairB).map _).length < 1
    rw [List.filter_cons, if_neg (by rw [h2]; decide)]
    exact Nat.one_pos
  have tk : ∀ z : Str, z ∈ m.i ++ m.o ++ m.s → z ∈ ALLN → BadAt m 5 (.lst ((callsA m.c).items ++ [.tup [.str z, .str "r"]])) := fun z hz ha => by
    refine bad5L g (fun y hy => ?_) (by show 1 ≤ 10; decide) (.inr ?_)
    · rw [List.mem_singleton.mp hy]
      refine tup_sm (by show 2 ≤ 1000; decide) fun u hu => ?_
      rcases List.mem_cons.mp hu with rfl | hu
      · exact str_sm (Nat.le_trans (alln_len z ha) (by decide))
      · rw [List.mem_singleton.mp hu]
        exact str_sm (by decide +kernel)
    · rw [lab_one (alln_name z ha)]
      exact fr_taken (x := .str z) (List.mem_singleton.mpr rfl) hz
  intro x hx
  unfold oddC at hx
  rcases List.mem_append.mp hx with hx | hx
  · rcases List.mem_append.mp hx with hx | hx
    · have : ∀ x ∈ ([.tup [.str "q"], .tup [.str "q", .str "r", .str "s"], .lst [.str "q", .str "r"], .tup [.str "q", .str "abcdef"], .tup [.str "Q", .str "r"], .non, .str "qr", .tup [.str "q", .int 3]] : List AV), x.sm = true ∧ pairB x = false := by
        intro x hx
        simp only [List.mem_cons, List.not_mem_nil, or_false] at hx
        rcases hx with rfl | rfl | rfl | rfl | rfl | rfl | rfl | rfl <;> exact ⟨by decide +kernel, by decide +kernel⟩
      exact nt x (this x hx).1 (this x hx).2
    · rcases List.mem_cons.mp hx with rfl | hx
      · have o0 : m.o.headD "" ∈ m.o := headD_mem g.f.ok.o1
        exact tk _ (List.mem_append_left _ (List.mem_append_right _ o0)) (ao _ o0)
      · rw [List.mem_singleton.mp hx]
        have s0 : m.s.headD "" ∈ m.s := headD_mem g.f.ok.s1
        exact tk _ (List.mem_append_right _ s0) (as _ s0)
  · obtain ⟨z, hz, rfl⟩ := List.mem_map.mp hx
    have hi := List.mem_of_mem_take hz
    exact tk z (List.mem_append_left _ (List.mem_append_left _ hi)) (ai z hi)
theorem qr_bad (g : Good m ks) : BadAt m 5 (.lst ((callsA m.c).items ++ [.tup [.str "q", .str "r"], .tup [.str "q", .str "s"]])) := by
  refine bad5L g (fun y hy => ?_) (by show 2 ≤ 10; decide) (.inr ?_)
  · simp only [List.mem_cons, List.not_mem_nil, or_false] at hy
    rcases hy with rfl | rfl <;> decide +kernel
  · have e : labelsOf (.lst [.tup [.str "q", .str "r"], .tup [.str "q", .str "s"]]) = (["q", "q"] : List Str) := by decide +kernel
    rw [e]
    exact fr_twice (by decide +kernel)
end
end WW

set_option Elab.async false
set_option linter.all false
set_option maxRecDepth 100000
set_option maxHeartbeats 4000000
namespace WW
open PySem PySem.Spec PyProof.Rows L2
/-! ### sorted: tuples of two texts and two ints -/
structure TotB {α : Type} (lt : α → α → Bool) : Prop where
  irr : ∀ x, lt x x = false
  tri : ∀ x y, x = y ∨ lt x y = true ∨ lt y x = true
  tr : ∀ x y z, lt x y = true → lt y z = true → lt x z = true
theorem TotB.asym {α : Type} {lt : α → α → Bool} (T : TotB lt) {x y : α} (h : lt x y = true) : lt y x = false := by
  cases h2 : lt y x with
  | false => rfl
  | true =>
    have := T.tr x y x h h2
    rw [T.irr] at this
    cases this
theorem TotB.swo {α : Type} {lt : α → α → Bool} (T : TotB lt) : SrtO.Swo lt := by
  refine ⟨fun x y h => T.asym h, fun x y z h1 h2 => ?_⟩
  rcases T.tri x y with e | e | e
  · rw [e]; exact h2
  · rcases T.tri y z with f | f | f
    · rw [← f]; exact h1
    · exact T.asym (T.tr x y z e f)
    · rw [f] at h2; cases h2
  · rw [e] at h1; cases h1
theorem TotB.map {α β : Type} {lt : α → α → Bool} (T : TotB lt) (f : β → α) (inj : ∀ x y, f x = f y → x = y) : TotB fun x y => lt (f x) (f y) :=
  ⟨fun x => T.irr _, fun x y => by rcases T.tri (f x) (f y) with h | h | h; exact .inl (inj _ _ h); exact .inr (.inl h); exact .inr (.inr h), fun x y z => T.tr _ _ _⟩
def lx {α β : Type} [DecidableEq α] (l1 : α → α → Bool) (l2 : β → β → Bool) (p q : α × β) : Bool := if p.1 = q.1 then l2 p.2 q.2 else l1 p.1 q.1
theorem TotB.lx {α β : Type} [DecidableEq α] {l1 : α → α → Bool} {l2 : β → β → Bool} (T1 : TotB l1) (T2 : TotB l2) : TotB (WW.lx l1 l2) := by
  refine ⟨fun x => ?_, fun x y => ?_, fun x y z h1 h2 => ?_⟩
  · unfold WW.lx
    rw [if_pos rfl]
    exact T2.irr _
  · obtain ⟨a, b⟩ := x
    obtain ⟨c, d⟩ := y
    unfold WW.lx
    by_cases e : a = c
    · subst e
      rw [if_pos rfl, if_pos rfl]
      rcases T2.tri b d with h | h | h
      · exact .inl (by rw [h])
      · exact .inr (.inl h)
      · exact .inr (.inr h)
    · rw [if_neg e, if_neg (fun z => e z.symm)]
      rcases T1.tri a c with h | h | h
      · exact absurd h e
      · exact .inr (.inl h)
      · exact .inr (.inr h)
  · obtain ⟨a, b⟩ := x
    obtain ⟨c, d⟩ := y
    obtain ⟨e, f⟩ := z
    unfold WW.lx at h1 h2 ⊢
    by_cases e1 : a = c
    · subst e1
      rw [if_pos rfl] at h1
      by_cases e2 : a = e
      · subst e2
        rw [if_pos rfl] at h2 ⊢
        exact T2.tr _ _ _ h1 h2
      · rw [if_neg e2] at h2 ⊢
        exact h2
    · rw [if_neg e1] at h1
      by_cases e2 : c = e
      · subst e2
        rw [if_neg e1]
        exact h1
      · rw [if_neg e2] at h2
        have h3 := T1.tr _ _ _ h1 h2
        by_cases e3 : a = e
        · have h3 : l1 a e = true := h3
          rw [e3, T1.irr] at h3
          cases h3
        · rw [if_neg e3]
          exact h3
def ltI (i j : Int) : Bool := decide (i < j)
theorem totI : TotB ltI := ⟨fun x => decide_eq_false (Int.lt_irrefl x), fun x y => by unfold ltI; simp only [decide_eq_true_eq]; omega, fun x y z => by unfold ltI; simp only [decide_eq_true_eq]; omega⟩
def ltS (x y : Str) : Bool := decide (x.cps.toList < y.cps.toList)
theorem totS : TotB ltS := by
  refine ⟨fun x => decide_eq_false (List.lt_irrefl _), fun x y => ?_, fun x y z h1 h2 => ?_⟩
  · unfold ltS
    simp only [decide_eq_true_eq]
    by_cases h1 : x.cps.toList < y.cps.toList
    · exact .inr (.inl h1)
    · by_cases h2 : y.cps.toList < x.cps.toList
      · exact .inr (.inr h2)
      · refine .inl ?_
        have e := List.le_antisymm (List.not_lt.mp h2) (List.not_lt.mp h1)
        obtain ⟨⟨a⟩⟩ := x
        obtain ⟨⟨b⟩⟩ := y
        have e : a = b := e
        rw [e]
  · unfold ltS at h1 h2 ⊢
    rw [decide_eq_true_eq] at h1 h2 ⊢
    exact List.lt_trans h1 h2
def kL (t : T4 Str Str Int Int) : Str × (Str × (Int × Int)) := (t.a, t.b, t.c, t.d)
def ltL (p q : T4 Str Str Int Int) : Bool := lx ltS (lx ltS (lx ltI ltI)) (kL p) (kL q)
theorem totL : TotB ltL := (totS.lx (totS.lx (totI.lx totI))).map kL fun x y h => by
  obtain ⟨a, b, c, d⟩ := x
  obtain ⟨a', b', c', d'⟩ := y
  injection h with h1 h2
  injection h2 with h2 h3
  injection h3 with h3 h4
  subst h1 h2 h3 h4
  rfl
abbrev LkT := T4 Str Str Int Int
def IsLk (h : PySem.Heap) (v : Value) (p : LkT) : Prop := ∃ a o t1 t2 t3 t4 n, v = .ref a ∧ h.get? a = some o ∧ o.cls = .type "tuple" ∧ o.data = .seq #[.str p.a t1, .str p.b t2, .int p.c t3, .int p.d t4] n
theorem IsLk.keeps {h h' : PySem.Heap} {v : Value} {p : LkT} (l : IsLk h v p) (k : ∀ b o, h.get? b = some o → o.cls = .type "tuple" → h'.get? b = some o) : IsLk h' v p := by
  obtain ⟨a, o, t1, t2, t3, t4, n, e, ho, hc, hd⟩ := l
  exact ⟨a, o, t1, t2, t3, t4, n, e, k _ _ ho hc, hc, hd⟩
section
variable {prog : Program} {w : World} {A : Around} {E : Value → Shared → Prop} {s : Shared}
theorem link_cmp {vs : List Value} {k : Value → LkT} (hp : ∀ v ∈ vs, IsLk s.heap v (k v)) : SrtO.Cmp prog w A s (tuples' true) (fun p => p.1 ∈ vs) (SrtO.lt2 fun v u => ltL (k v) (k u)) := by
  intro p q hm hm'
  have h1 := hp _ hm
  have h2 := hp _ hm'
  show wpAny (model prog w) A (keyLt' (tuples' true) p.1 q.1) (fun r s' => s' = s ∧ r = ltL (k p.1) (k q.1)) (fun _ _ => False) s
  generalize k p.1 = x at h1 ⊢
  generalize k q.1 = y at h2 ⊢
  obtain ⟨xa, xb, xc, xd⟩ := x
  obtain ⟨ya, yb, yc, yd⟩ := y
  obtain ⟨a, o, t1, t2, t3, t4, n, e, ho, hc, hd⟩ := h1
  obtain ⟨a', o', u1, u2, u3, u4, n', e', ho', hc', hd'⟩ := h2
  rw [e, e']
  refine PySem.W.kat_lt ho hd ho' hd' ?_
  show PySem.W.KatLex prog w A true (decide (4 < 4)) _ [(.str xa t1, .str ya u1), (.str xb t2, .str yb u2), (.int xc t3, .int yc u3), (.int xd t4, .int yd u4)] 0 s
  have bs : ∀ {i : Nat} {x y : Str}, (x == y) = true → x = y := fun h => eq_of_beq h
  have bn : ∀ {x y : Str}, (x == y) = false → ¬ x = y := fun h e => by rw [e] at h; simp at h
  have l1 : ∀ {r r' : Str × (Int × Int)}, ltL ⟨xa, xb, xc, xd⟩ ⟨ya, yb, yc, yd⟩ = if xa = ya then (if xb = yb then (if xc = yc then ltI xd yd else ltI xc yc) else ltS xb yb) else ltS xa ya := rfl
  have l1 := @l1 (xb, xc, xd) (xb, xc, xd)
  refine PySem.W.kat_cons (SeqAt.EqAt.str_str xa t1 ya u1 prog w _ _ ?_)
  refine PySem.W.kat_go (fun e1 => ?_) (fun e1 => ?_)
  · rw [if_pos (eq_of_beq e1)] at l1
    refine PySem.W.kat_yes (PySem.W.kat_cons (SeqAt.EqAt.str_str xb t2 yb u2 prog w _ _ ?_))
    refine PySem.W.kat_go (fun e2 => ?_) (fun e2 => ?_)
    · rw [if_pos (eq_of_beq e2)] at l1
      refine PySem.W.kat_yes (PySem.W.kat_cons (SeqAt.EqAt.int_int xc t3 yc u3 prog w _ _ ?_))
      refine PySem.W.kat_go (fun e3 => ?_) (fun e3 => ?_)
      · rw [if_pos (eq_of_beq e3)] at l1
        refine PySem.W.kat_yes (PySem.W.kat_cons (SeqAt.EqAt.int_int xd t4 yd u4 prog w _ _ ?_))
        refine PySem.W.kat_go (fun e4 => ?_) (fun e4 => ?_)
        · have e5 : ltI xd yd = false := by rw [eq_of_beq e4]; exact totI.irr _
          refine PySem.W.kat_yes (PySem.W.kat_nil ⟨rfl, ?_⟩)
          rw [l1, e5]
          rfl
        · refine PySem.W.kat_no (PySem.W.kat_one _ _ (PyProof.Rows.lt_int ?_))
          exact (show s = s ∧ decide (xd < yd) = ltL ⟨xa, xb, xc, xd⟩ ⟨ya, yb, yc, yd⟩ from ⟨rfl, l1.symm⟩)
      · have n3 : ¬ xc = yc := fun z => by rw [z] at e3; simp at e3
        rw [if_neg n3] at l1
        refine PySem.W.kat_no (PySem.W.kat_one _ _ (PyProof.Rows.lt_int ?_))
        exact (show s = s ∧ decide (xc < yc) = ltL ⟨xa, xb, xc, xd⟩ ⟨ya, yb, yc, yd⟩ from ⟨rfl, l1.symm⟩)
    · rw [if_neg (bn e2)] at l1
      refine PySem.W.kat_no (PySem.W.kat_one _ _ (PyProof.Rows.lt_str ?_))
      exact (show s = s ∧ decide (xb.cps.toList < yb.cps.toList) = ltL ⟨xa, xb, xc, xd⟩ ⟨ya, yb, yc, yd⟩ from ⟨rfl, l1.symm⟩)
  · rw [if_neg (bn e1)] at l1
    exact PySem.W.kat_no (PyProof.Rows.oneLt_str ⟨rfl, l1.symm⟩)
theorem link_firsts {h : PySem.Heap} : ∀ {vs : List Value}, (∀ v ∈ vs, ∃ p, IsLk h v p) → ∃ fs : List Value, PySem.W.KatTups h vs fs ∧ fs.length = vs.length ∧ ∀ f ∈ fs, ∃ x t, f = Value.str x t
  | [], _ => ⟨[], PySem.W.KatTups.nil, rfl, fun _ hm => by simp at hm⟩
  | v :: vs, hp => by
    obtain ⟨fs, h1, h2, h3⟩ := link_firsts (vs := vs) fun v' hm => hp v' (List.mem_cons_of_mem _ hm)
    obtain ⟨p, a, o, t1, t2, t3, t4, n, e, ho, hc, hd⟩ := hp v (List.mem_cons_self ..)
    subst e
    refine ⟨.str p.a t1 :: fs, PySem.W.KatTups.cons ho hc hd rfl h1, by rw [List.length_cons, List.length_cons, h2], fun f hm => ?_⟩
    rcases List.mem_cons.mp hm with rfl | hm
    · exact ⟨_, _, rfl⟩
    · exact h3 f hm
theorem links_sortable {a : Addr} {vs : List Value} {k : Value → LkT} (h0 : 0 < vs.length) (hp : ∀ v ∈ vs, IsLk s.heap v (k v)) (ha : ∀ o, s.heap.get? a = some o → o.cls ≠ .type "tuple") : SrtO.SortableO prog w A s a vs fun v u => ltL (k v) (k u) := by
  intro h' keep
  have hp' : ∀ v ∈ vs, IsLk h' v (k v) := fun v hm => (hp v hm).keeps fun b o e c => keep b o (fun z => by subst z; exact ha o e c) e
  obtain ⟨fs, h1, h2, h3⟩ := link_firsts fun v hm => ⟨_, hp' v hm⟩
  refine ⟨tuples' true, fun Q E hq => ?_, link_cmp hp'⟩
  refine PySem.W.kat_kind (T := .type "str") h1 (by omega) (fun f hm => ?_) (by rfl) ?_
  · obtain ⟨x, t, rfl⟩ := h3 f hm
    exact PySem.W.Looks.now
  · have e : (Value.type "str" != Value.type "tuple") = true := by first | decide +kernel | rfl | decide
    rw [e]
    exact hq
theorem sorted_links {l : Addr} {vs : List Value} {k : Value → LkT} {Q : Value → Shared → Prop} (hl : s.heap.IsList l vs.toArray) (hz : vs.length ≤ sizeLine) (hp : ∀ v ∈ vs, IsLk s.heap v (k v))
    (h : ∀ (h' : PySem.Heap) (d : Addr) (out : List Value), SrtO.Srtd (fun v u => ltL (k v) (k u)) out → SrtO.Stb (fun v u => ltL (k v) (k u)) out vs → (∀ b o, s.heap.get? b = some o → h'.get? b = some o) → s.heap.objs.size ≤ d → (∃ n, h'.get? d = some (seqObj "list" out.toArray n)) → Q (.ref d) { s with heap := h' }) :
    wpAny (model prog w) A (call (.builtin "sorted") [.ref l]) Q E s := by
  refine SrtO.sorted_ord (ltv := fun v u => ltL (k v) (k u)) ?_ hl hz (fun h2 h₁ a ha kk => ?_) fun out hs hb => ?_
  · have S := totL.swo
    exact ⟨fun x y => S.asym (k x) (k y), fun x y z => S.tr (k x) (k y) (k z)⟩
  · refine links_sortable (s := { s with heap := h₁ }) (by omega) (fun v hm => (hp v hm).keeps fun b o e _ => (kk b o e).2) fun o e => ?_
    have e' : some o = some (seqObj "list" vs.toArray 0) := e.symm.trans ha
    cases e'
    intro c
    exact absurd (Value.type.inj c) (by decide)
  · exact h _ _ out hs hb (fun b o e => sortedAll_old e) (Nat.le_succ _) (sortedAll_at s.heap vs out.toArray)
end
/-- sorted(xs), xs a list of such tuples (k says which): a new list, sorted -/
def rSortedL0 (K : PySem.W.Frag) : List V → Hp → VK → Prop := fun vs H Q => ∃ (a : Addr) (xs : List V) (k : V → LkT), vs = [V.ref a] ∧ SqL K H a xs ∧ (∀ x ∈ xs, ∃ t, x = V.ref t ∧ SqT K H t [.str (k x).a, .str (k x).b, .int (k x).c, .int (k x).d]) ∧
  ∀ ys p, SrtO.Srtd (fun v u => ltL (k v) (k u)) ys → ys.Perm xs → H p = none → Q (.ref p) (upd H p (.lst ys))
theorem cr_sortedL0 {X : Cx} (K : PySem.W.Frag) (hK : X.K = K := by rfl) : CallR X (.builtin "sorted") (rSortedL0 K) := by
  subst hK
  intro pins s σ H vs us Q I r h
  obtain ⟨a, xs, k, rfl, hs, hx, q⟩ := h
  obtain ⟨its, rv, hl, hz⟩ := I.list hs
  obtain ⟨u, rfl, ru⟩ := vals1 r
  obtain rfl : u = Value.ref a := ru
  obtain ⟨e1, e2⟩ := refs_back rv fun x m => by
    obtain ⟨t, e, _⟩ := hx x m
    exact ⟨t, e⟩
  refine sorted_links (k := fun u => k (backV u)) hl.isList (by rw [← rv.length]; exact hz) (fun v hv => ?_) fun h' d out h1 h2 kp hd hn => ?_
  · obtain ⟨t, rfl⟩ := e2 v hv
    have hm : V.ref t ∈ xs := by rw [e1]; exact List.mem_map.mpr ⟨_, hv, rfl⟩
    obtain ⟨t', e, ht⟩ := hx _ hm
    cases e
    obtain ⟨its2, r2, ⟨o, ho, hc, n, hd⟩, _⟩ := I.tuple ht
    cases r2 with
    | cons r1 r2 => cases r2 with
      | cons r2 r3 => cases r3 with
        | cons r3 r4 => cases r4 with
          | cons r4 r5 =>
            cases r5
            obtain ⟨t1, rfl⟩ := r1
            obtain ⟨t2, rfl⟩ := r2
            obtain ⟨t3, rfl⟩ := r3
            obtain ⟨t4, rfl⟩ := r4
            exact ⟨t, o, t1, t2, t3, t4, n, rfl, ho, hc, hd⟩
  · have h3 : ∀ u ∈ out, ∃ a, u = Value.ref a := fun u hu => e2 u (h2.perm.mem_iff.mp hu)
    obtain ⟨n, hn⟩ := hn
    have hp : (out.map backV).Perm xs := by
      rw [e1]
      exact h2.perm.map _
    refine ⟨.ref d, upd H d (.lst (out.map backV)), I.laid (t' := s.toks) kp hd ⟨?_, out, n, vals_back h3, hn⟩, rfl, q _ d ?_ hp (I.hok.fresh hd)⟩
    · rw [hp.length_eq]
      exact hz
    · exact List.pairwise_map.mpr (List.Pairwise.imp (fun h => h) h1)
def LkR (K : PySem.W.Frag) (H : Hp) (x : V) (t : LkT) : Prop := ∃ p, x = V.ref p ∧ SqT K H p [.str t.a, .str t.b, .int t.c, .int t.d]
/-- sorted(xs), xs such tuples: a new list of them, sorted -/
def rSortedL (K : PySem.W.Frag) : List V → Hp → VK → Prop := fun vs H Q => ∃ (a : Addr) (xs : List V) (ts : List LkT) (R : V → LkT → Prop), vs = [V.ref a] ∧ SqL K H a xs ∧ Paired R xs ts ∧ (∀ x t, R x t → LkR K H x t) ∧
  ∀ ys us p, Paired R ys us → SrtO.Srtd ltL us → us.Perm ts → H p = none → Q (.ref p) (upd H p (.lst ys))
theorem paired_mapf {α β : Type} {F : α → β → Prop} {f : α → β} : ∀ {l : List α}, (∀ x ∈ l, F x (f x)) → Paired F l (l.map f)
  | [], _ => .nil
  | x :: r, h => .cons (h x List.mem_cons_self) (paired_mapf fun y hy => h y (List.mem_cons_of_mem _ hy))
theorem paired_eqf {α β : Type} {F : α → β → Prop} {f : α → β} (h : ∀ x y, F x y → y = f x) : ∀ {l : List α} {r : List β}, Paired F l r → r = l.map f
  | _, _, .nil => rfl
  | _, _, .cons a t => by rw [List.map_cons, ← paired_eqf h t, h _ _ a]
theorem paired_left {α β : Type} {F : α → β → Prop} : ∀ {l : List α} {r : List β}, Paired F l r → ∀ x ∈ l, ∃ y, F x y
  | _, _, .nil, x, h => nomatch h
  | _, _, .cons a t, x, h => by
    rcases List.mem_cons.mp h with rfl | h
    · exact ⟨_, a⟩
    · exact paired_left t x h
open Classical in
theorem cr_sortedL {X : Cx} (K : PySem.W.Frag) (hK : X.K = K := by rfl) : CallR X (.builtin "sorted") (rSortedL K) := by
  subst hK
  intro pins s σ H vs us Q I r h
  obtain ⟨a, xs, ts, R, rfl, hs, hp, hR, q⟩ := h
  have un : ∀ x t t', LkR X.K H x t → LkR X.K H x t' → t' = t := fun x t t' ⟨p, e, h1⟩ ⟨p', e', h2⟩ => by
    rw [e] at e'
    cases e'
    have := I.tuple_inj h1 h2
    obtain ⟨a1, b1, c1, d1⟩ := t
    obtain ⟨a2, b2, c2, d2⟩ := t'
    simp only [List.cons.injEq, V.str.injEq, V.int.injEq, and_true] at this
    obtain ⟨rfl, rfl, rfl, rfl⟩ := this
    rfl
  let k : V → LkT := fun x => if h : ∃ t, LkR X.K H x t then h.choose else ⟨"", "", 0, 0⟩
  have hk : ∀ x t, LkR X.K H x t → t = k x := fun x t ht => by
    have ex : ∃ t, LkR X.K H x t := ⟨t, ht⟩
    show t = if h : ∃ t, LkR X.K H x t then h.choose else ⟨"", "", 0, 0⟩
    rw [dif_pos ex]
    exact un _ _ _ ex.choose_spec ht
  have hr : ∀ x ∈ xs, R x (k x) := fun x hx => by
    obtain ⟨t, ht⟩ := paired_left hp x hx
    rw [← hk x t (hR x t ht)]
    exact ht
  refine cr_sortedL0 X.K rfl pins s σ H _ us Q I r ⟨a, xs, k, rfl, hs, fun x hx => ?_, fun ys p h1 h2 h3 => ?_⟩
  · obtain ⟨p, e, h⟩ := hR _ _ (hr x hx)
    exact ⟨p, e, h⟩
  · refine q ys (ys.map k) p (paired_mapf fun y hy => hr y (h2.mem_iff.mp hy)) ?_ ?_ h3
    · exact List.pairwise_map.mpr (List.Pairwise.imp (fun h => h) h1)
    · rw [paired_eqf (fun x t h => hk x t (hR x t h)) hp]
      exact h2.map _
def srt {α : Type} (lt : α → α → Bool) (xs : List α) : List α := xs.mergeSort fun x y => !lt y x
theorem srt_is {α : Type} {lt : α → α → Bool} (T : TotB lt) {us ts : List α} (h1 : SrtO.Srtd lt us) (h2 : us.Perm ts) : us = srt lt ts := by
  have p2 : (srt lt ts).Perm ts := List.mergeSort_perm ts _
  have s2 : SrtO.Srtd lt (srt lt ts) := by
    have := List.pairwise_mergeSort (le := fun x y => !lt y x) (fun a b c h1 h2 => by
      have h1 : (!lt b a) = true := h1
      have h2 : (!lt c b) = true := h2
      show (!lt c a) = true
      rw [Bool.not_eq_true'] at h1 h2 ⊢
      exact T.swo.tr a b c h1 h2) (fun a b => by
      show (!lt b a || !lt a b) = true
      cases h : lt b a with
      | false => rfl
      | true => rw [T.asym h]; rfl) ts
    exact List.Pairwise.imp (fun h => by simpa using h) this
  refine List.Perm.eq_of_pairwise (le := fun x y => lt y x = false) (fun a b _ _ h1 h2 => ?_) h1 s2 (h2.trans p2.symm)
  rcases T.tri a b with h | h | h
  · exact h
  · rw [h] at h2; cases h2
  · rw [h] at h1; cases h1
section
variable {K : PySem.W.Frag} {B : Addr → Prop} {ρ : List Slot} {te : TE}
theorem d_sortL {ts : List LkT} (h : DE K B te ρ (α := L LkT) ts) : DO K B (tCB (rSortedL K) (tCons te tNil)) ρ (srt ltL ts) := fun S0 H0 S H σ E Q q =>
  h S0 H0 S H σ E _ fun v S1 H1 e1 ⟨hl, p, vs, z, hh, r⟩ => by
    refine ⟨p, vs, ts, Enc.rep K S1, by rw [z], SqL.of (e1.i _ _ hh), r, fun x t hx => ?_, fun ys us w h1 h2 h3 hn => ?_⟩
    · obtain ⟨p, v1, v2, v3, v4, e, hq, r1, r2, r3, r4⟩ := hx
      cases r1
      cases r2
      cases r3
      cases r4
      exact ⟨p, e, Evl.ex_t e1.i hq⟩
    · have e := srt_is totL h2 h3
      subst e
      exact q w _ S1 _ (e1.trans (Ext.priv e1.i hn)) (e1.free E.i hn) (e1.i.free hn) upd_same h1 (by rw [h3.length_eq]; exact hl)
end
end WW

set_option Elab.async false
set_option linter.all false
set_option maxRecDepth 100000
set_option maxHeartbeats 4000000
namespace WW
open PySem PySem.Spec PyProof.Rows L2
/-! ### texts: min, sorted -/
theorem holdStrs {h : PySem.Heap} : ∀ {its : List Value} {zs : List Str}, StrsAre its zs → PySem.W.HoldAll h its zs
  | _, [], .nil => PySem.W.HoldAll.nil
  | _, _ :: _, .cons y t r => PySem.W.HoldAll.cons (PySem.W.holds_str _ _) (holdStrs r)
def minS (z : Str) (zs : List Str) : Str := zs.foldl (fun a y => if ltS y a = true then y else a) z
theorem minS_is : ∀ {zs : List Str} {z : Str}, minS z zs ∈ z :: zs ∧ ∀ y ∈ z :: zs, ltS y (minS z zs) = false
  | [], z => ⟨List.mem_cons_self, fun y hy => by rw [List.mem_singleton.mp hy]; exact totS.irr _⟩
  | x :: r, z => by
    show minS (if ltS x z = true then x else z) r ∈ z :: x :: r ∧ _
    obtain ⟨h1, h2⟩ := minS_is (zs := r) (z := if ltS x z = true then x else z)
    have h3 := h2 _ List.mem_cons_self
    have e : minS z (x :: r) = minS (if ltS x z = true then x else z) r := rfl
    rw [e]
    generalize minS (if ltS x z = true then x else z) r = m at *
    refine ⟨?_, fun y hy => ?_⟩
    · rcases List.mem_cons.mp h1 with h | h
      · rw [h]
        split
        · exact List.mem_cons_of_mem _ List.mem_cons_self
        · exact List.mem_cons_self
      · exact List.mem_cons_of_mem _ (List.mem_cons_of_mem _ h)
    · by_cases c : ltS x z = true
      · rw [if_pos c] at h3
        rcases List.mem_cons.mp hy with rfl | hy
        · exact totS.swo.tr m x y h3 (totS.asym c)
        · rcases List.mem_cons.mp hy with rfl | hy
          · exact h3
          · exact h2 y (List.mem_cons_of_mem _ hy)
      · rw [if_neg c] at h3
        have c : ltS x z = false := by simpa using c
        rcases List.mem_cons.mp hy with rfl | hy
        · exact h3
        · rcases List.mem_cons.mp hy with rfl | hy
          · exact totS.swo.tr m z y h3 c
          · exact h2 y (List.mem_cons_of_mem _ hy)
def rMinS (K : PySem.W.Frag) : List V → Hp → VK → Prop := fun vs H Q => ∃ (a : Addr) (z : Str) (zs : List Str), vs = [V.ref a] ∧ SqL K H a ((z :: zs).map V.str) ∧ Q (.str (minS z zs)) H
theorem cr_minS {X : Cx} (K : PySem.W.Frag) (hc : X.calm = true) (hu : X.A.units + 64 < cLine) (hK : X.K = K := by rfl) : CallR X (.builtin "min") (rMinS K) := by
  subst hK
  intro pins s σ H vs us Q I r h
  obtain ⟨a, z, zs, rfl, hs, q⟩ := h
  obtain ⟨its, rv, hl, _⟩ := I.list hs
  rw [Vals.ref1 r]
  have st := Vals.strs rv
  refine PySem.W.min_list_datum (x := z) (xs := zs) (I.ok.hd hc) hl.isList (holdStrs st) (by show X.A.units + 1 + 0 < cLine; omega) fun i v h' tk hi hv hk => ?_
  obtain ⟨as, rd⟩ := hv
  have e : PySem.W.minOf z zs = minS z zs := rfl
  rw [e] at rd
  have rd : PySem.Reads h' v (.str (minS z zs)) as := rd
  cases rd
  exact ⟨.str _, H, I.kept hk, ⟨_, rfl⟩, q⟩
theorem rising_srt : ∀ {r : List Str} {x : Str}, risingS x r = true → SrtO.Srtd ltS (x :: r)
  | [], x, _ => List.pairwise_singleton _ _
  | y :: r, x, h => by
    have h : (!ltCps y.cps.toList x.cps.toList && risingS y r) = true := h
    rw [Bool.and_eq_true, ltCps_eq] at h
    obtain ⟨h1, h2⟩ := h
    have h1 : ltS y x = false := by simpa [ltS] using h1
    have ih := rising_srt h2
    refine List.pairwise_cons.mpr ⟨fun z hz => ?_, ih⟩
    rcases List.mem_cons.mp hz with rfl | hz
    · exact h1
    · exact totS.swo.tr x y z h1 ((List.pairwise_cons.mp ih).1 z hz)
theorem sortedS_srt {ys : List Str} (h : sortedS ys = true) : SrtO.Srtd ltS ys := by
  cases ys with
  | nil => exact List.Pairwise.nil
  | cons x r => exact rising_srt h
theorem cr_sortedSK {X : Cx} (K : PySem.W.Frag) (hK : X.K = K := by rfl) : CallR X (.builtin "sorted") (rSortedS K) := by
  subst hK
  exact cr_sortedS
section
variable {K : PySem.W.Frag} {B : Addr → Prop} {ρ : List Slot} {te : TE}
theorem d_sortS {zs : List Str} (h : DE K B te ρ (α := L Str) zs) (h64 : zs.length < 64) : DO K B (tCB (rSortedS K) (tCons te tNil)) ρ (srt ltS zs) := fun S0 H0 S H σ E Q q =>
  h S0 H0 S H σ E _ fun v S1 H1 e1 ⟨hl, p, vs, e, hh, r⟩ => by
    cases vals_str r
    refine ⟨p, zs, by rw [e], SqL.of (e1.i _ _ hh), h64, fun ys w h1 h2 hn => ?_⟩
    have e := srt_is totS (sortedS_srt h2) h1
    subst e
    exact q w _ S1 _ (e1.trans (Ext.priv e1.i hn)) (e1.free E.i hn) (e1.i.free hn) upd_same (paired_map V.str (fun _ => rfl) _) (by rw [h1.length_eq]; exact hl)
theorem d_minS {z : Str} {zs : List Str} (h : DE K B te ρ (α := L Str) (z :: zs)) : DE K B (tCB (rMinS K) (tCons te tNil)) ρ (minS z zs) := fun S0 H0 S H σ E Q q =>
  h S0 H0 S H σ E _ fun v S1 H1 e1 ⟨hl, p, vs, e, hh, r⟩ => by
    cases vals_str r
    exact ⟨p, z, zs, by rw [e], SqL.of (e1.i _ _ hh), q _ S1 H1 e1 rfl⟩
end
end WW

set_option Elab.async false
set_option linter.all false
set_option maxRecDepth 100000
set_option maxHeartbeats 4000000
namespace WW
open PySem PySem.Spec PyProof.Rows L2
/-! ### modules as objects -/
structure MOb where
  m : DMd
instance : Enc MOb where
  rep K S v o := ∃ x dx v1 v2 v3 v4 v5, v = .ref x ∧ S x = some (.ins (He.ga K "Module") dx [("name", .str o.m.n), ("inlets", v1), ("outlets", v2), ("stations", v3), ("links", v4), ("calls", v5)]) ∧
    Enc.rep K S v1 (show U Str from o.m.i) ∧ Enc.rep K S v2 (show U Str from o.m.o) ∧ Enc.rep K S v3 (show U Str from o.m.s) ∧ Enc.rep K S v4 (show U Lk from o.m.l) ∧ Enc.rep K S v5 (show U (Str × Str) from o.m.c)
  mono e h := by
    obtain ⟨x, dx, v1, v2, v3, v4, v5, z, hx, h1, h2, h3, h4, h5⟩ := h
    exact ⟨x, dx, v1, v2, v3, v4, v5, z, e _ _ hx, Enc.mono e h1, Enc.mono e h2, Enc.mono e h3, Enc.mono e h4, Enc.mono e h5⟩
instance : NotN MOb := ⟨fun h => by obtain ⟨x, _, _, _, _, _, _, rfl, _⟩ := h; exact fun z => nomatch z⟩
instance : OfCls MOb where
  cn := "Module"
  fl := ["name", "inlets", "outlets", "stations", "links", "calls"]
  is h := by
    obtain ⟨x, dx, _, _, _, _, _, rfl, hx, _⟩ := h
    exact ⟨x, dx, _, rfl, hx, rfl⟩
section
variable {K : PySem.W.Frag} {B : Addr → Prop} {ρ : List Slot} {te : TE} {o : MOb} {C : Addr}
theorem d_mname (MC : ModC K (He.ga K "Module")) (h : DE K B te ρ o) : DE K B (tFld K te "name") ρ o.m.n := fun S0 H0 S H σ E Q q =>
  h S0 H0 S H σ E _ fun v S1 H1 e1 ⟨x, dx, v1, v2, v3, v4, v5, z, hx, h1, h2, h3, h4, h5⟩ => ⟨x, _, dx, _, _, z, e1.i _ _ hx, MC.cls, MC.n, rfl, q _ S1 H1 e1 rfl⟩
theorem d_minlets (MC : ModC K (He.ga K "Module")) (h : DE K B te ρ o) : DE K B (tFld K te "inlets") ρ (α := U Str) o.m.i := fun S0 H0 S H σ E Q q =>
  h S0 H0 S H σ E _ fun v S1 H1 e1 ⟨x, dx, v1, v2, v3, v4, v5, z, hx, h1, h2, h3, h4, h5⟩ => ⟨x, _, dx, _, _, z, e1.i _ _ hx, MC.cls, MC.i, rfl, q _ S1 H1 e1 h1⟩
theorem d_moutlets (MC : ModC K (He.ga K "Module")) (h : DE K B te ρ o) : DE K B (tFld K te "outlets") ρ (α := U Str) o.m.o := fun S0 H0 S H σ E Q q =>
  h S0 H0 S H σ E _ fun v S1 H1 e1 ⟨x, dx, v1, v2, v3, v4, v5, z, hx, h1, h2, h3, h4, h5⟩ => ⟨x, _, dx, _, _, z, e1.i _ _ hx, MC.cls, MC.o, rfl, q _ S1 H1 e1 h2⟩
theorem d_mstations (MC : ModC K (He.ga K "Module")) (h : DE K B te ρ o) : DE K B (tFld K te "stations") ρ (α := U Str) o.m.s := fun S0 H0 S H σ E Q q =>
  h S0 H0 S H σ E _ fun v S1 H1 e1 ⟨x, dx, v1, v2, v3, v4, v5, z, hx, h1, h2, h3, h4, h5⟩ => ⟨x, _, dx, _, _, z, e1.i _ _ hx, MC.cls, MC.s, rfl, q _ S1 H1 e1 h3⟩
theorem d_mlinks (MC : ModC K (He.ga K "Module")) (h : DE K B te ρ o) : DE K B (tFld K te "links") ρ (α := U Lk) o.m.l := fun S0 H0 S H σ E Q q =>
  h S0 H0 S H σ E _ fun v S1 H1 e1 ⟨x, dx, v1, v2, v3, v4, v5, z, hx, h1, h2, h3, h4, h5⟩ => ⟨x, _, dx, _, _, z, e1.i _ _ hx, MC.cls, MC.l, rfl, q _ S1 H1 e1 h4⟩
theorem d_mcalls (MC : ModC K (He.ga K "Module")) (h : DE K B te ρ o) : DE K B (tFld K te "calls") ρ (α := U (Str × Str)) o.m.c := fun S0 H0 S H σ E Q q =>
  h S0 H0 S H σ E _ fun v S1 H1 e1 ⟨x, dx, v1, v2, v3, v4, v5, z, hx, h1, h2, h3, h4, h5⟩ => ⟨x, _, dx, _, _, z, e1.i _ _ hx, MC.cls, MC.c, rfl, q _ S1 H1 e1 h5⟩
/-- what is given is this module, in lists or in tuples -/
structure ModOf (g : M6) (m : DMd) : Prop where
  n : g.n = .str m.n
  i : g.i.items = (strsA m.i).items
  o : g.o.items = (strsA m.o).items
  s : g.s.items = (strsA m.s).items
  l : g.l.items = (linksA m.l).items
  c : g.c.items = (callsA m.c).items
  sm : g.Sm
  w : wrongMod g = none
theorem repU {α : Type} [Enc α] [i : IsAV α] {S : Hp} {v : V} {xs : List α} (h : Enc.rep K S v (show U AV from xs.map i.av)) : Enc.rep K S v (show U α from xs) := by
  obtain ⟨hl, p, vs, e, hq, r⟩ := h
  have : AV.rep K S v (.tup (xs.map i.av)) := by
    rw [AV.rep]
    exact ⟨hl, p, vs, e, hq, AV.pr.mpr r⟩
  exact (IsAV.iff (α := U α)).mp this
/-- Module(..), all parts right -/
theorem d_mkMod {t : TA} {g : M6} {m : DMd} {CI : Addr} {W : WX} (h : DA K B t ρ [.val g.n, .val g.i, .val g.o, .val g.s, .val g.l, .val g.c]) (hg : ModOf g m) : DE K B (tMakeS (He.ga K "Module") (spInitMod K (He.ga K "Module") CI) [] (WE W) t) ρ (MOb.mk m) := fun S0 H0 S H σ En Q q => by
  refine h S0 H0 S H σ En _ ?_
  intro vs S1 H1 e1 r1 x dx nx ndx hn
  have s1 : Same H1 (upd (upd H1 dx (.own x)) x (.ins (He.ga K "Module") dx [])) := (same_new ndx).trans (same_new ((upd_ne (Ne.symm hn)).trans nx))
  have sx : S1 x = none := e1.i.free nx
  have toE : ∀ (S2 H2 : Hp), Off x S1 (upd (upd H1 dx (.own x)) x (.ins (He.ga K "Module") dx [])) S2 H2 → Ext B S1 H1 S2 H2 := fun S2 H2 o => by
    refine ⟨o.s, o.i, fun a h1 h2 => ?_⟩
    have n1 : a ≠ x := fun z => h2 (by rw [z]; exact nx)
    have n2 : a ≠ dx := fun z => h2 (by rw [z]; exact ndx)
    have e : upd (upd H1 dx (.own x)) x (.ins (He.ga K "Module") dx []) a = H1 a := by rw [upd_ne n1, upd_ne n2]
    obtain ⟨q1, q2⟩ := o.p a h1 (by rw [e]; exact h2) n1
    exact ⟨q1, .inl (by rw [q2, e])⟩
  have av : ∀ {vs : List V} {ss : List Slot}, ArgsOk K B H1 S1 H1 vs ss → (∀ s ∈ ss, s.plain = true) → ArgsOk K noB (upd (upd H1 dx (.own x)) x (.ins (He.ga K "Module") dx [])) S1 (upd (upd H1 dx (.own x)) x (.ins (He.ga K "Module") dx [])) vs ss := by
    intro vs ss h
    induction h with
    | nil => exact fun _ => .nil
    | cons h1 h2 _ ih =>
      intro hp
      refine .cons ?_ h2 (ih fun s hs => hp s (List.mem_cons_of_mem _ hs))
      have := hp _ List.mem_cons_self
      rename_i v s vs ss _
      cases s with
      | no => trivial
      | val a => exact h1
      | _ => cases this
  rw [List.append_nil]
  refine ⟨S1, x, dx, g, e1.i.trans s1, sx, upd_same, .cons rfl rfl (av r1 (by simp [Slot.plain])), hg.sm, fun C fs d S2 H2 hX e2 nd hd => ?_, fun hw S2 H2 fs of hxx hF => ⟨rfl, ?_⟩⟩
  · obtain ⟨_, wd, hw, _⟩ := hX
    rw [hg.w] at hw
    cases hw
  · have ee := toE S2 H2 of
    have fz := ee.frz (p := x) nx e1.i hxx of.x0
    have up : Same S2 (upd S2 x (.ins (He.ga K "Module") dx fs)) := same_new of.x0
    obtain ⟨v0, v1, v2, v3, v4, v5, rfl, h0, h1, h2, h3, h4, h5⟩ := hF
    rw [hg.n] at h0
    have h0 : v0 = .str m.n := by rw [AV.rep] at h0; exact h0
    subst h0
    rw [hg.i] at h1
    rw [hg.o] at h2
    rw [hg.s] at h3
    rw [hg.l] at h4
    rw [hg.c] at h5
    exact q _ _ H2 (e1.trans fz) ⟨x, dx, v1, v2, v3, v4, v5, rfl, upd_same, Enc.mono up (repU (α := Str) h1), Enc.mono up (repU (α := Str) h2), Enc.mono up (repU (α := Str) h3), Enc.mono up (repU (α := Lk) h4), Enc.mono up (repU (α := Str × Str) h5)⟩
end
section
variable {m : DMd} {ks : List DMd}
theorem Good.of6 (g : Good m ks) : ModOf (m6L (six m)) m := by
  have ok := g.six_ok
  refine ⟨rfl, rfl, rfl, rfl, rfl, rfl, ⟨?_, ?_, ?_, ?_, ?_, ?_⟩, wm_none g.f0 g.f1 g.f2 g.f3 g.f4 g.f5 g.f6⟩
  · exact ok.sm _ (by simp [six, m6L])
  · exact ok.sm _ (by simp [six, m6L])
  · exact ok.sm _ (by simp [six, m6L])
  · exact ok.sm _ (by simp [six, m6L])
  · exact ok.sm _ (by simp [six, m6L])
  · exact ok.sm _ (by simp [six, m6L])
end
end WW

set_option Elab.async false
set_option linter.all false
set_option maxRecDepth 100000
set_option maxHeartbeats 4000000
namespace WW
open PySem PySem.Spec PyProof.Rows L2
/-! ### f-strings; dicts as sets and as maps of texts -/
/-- keys of a dict, all texts -/
structure KSet where
  has : Str → Bool
instance : Enc KSet where
  rep K S v k := ∃ p kvs, v = .ref p ∧ S p = some (.dK kvs) ∧ ∀ z, (valV kvs (Sum.inr z)).isSome = k.has z
  mono e h := by
    obtain ⟨p, kvs, r, hq, hp⟩ := h
    exact ⟨p, kvs, r, e _ _ hq, hp⟩
/-- one's own map of texts to texts, at most n entries -/
def ownM (n : Nat) (f : Str → Option Str) : OwnP := ⟨fun K S o => ∃ kvs, o = .dK kvs ∧ kvs.length ≤ n ∧ ∀ z, valV kvs (Sum.inr z) = (f z).map V.str, fun e ⟨kvs, r, l, h⟩ => ⟨kvs, r, l, h⟩⟩
theorem putK_le {k : Key} {x : V} {kvs : List (Key × V)} : (putK kvs k x).length ≤ kvs.length + 1 := by
  unfold putK
  by_cases e : (kvs.any fun kv => decide (kv.1 = k)) = true
  · rw [if_pos e, List.length_map]
    omega
  · rw [if_neg e, List.length_append]
    simp
section
variable {K : PySem.W.Frag} {B : Addr → Prop} {ρ ρ' ρ1 ρ2 : List Slot} {ta tb tc td te tk tv : TE} {t u : TT} {ts tu tz : TS} {Φ : Post} {α β γ δ : Type} {e_α : Enc α} {e_β : Enc β} {a : α} {b : β} {i j : Int} {z y : Str}
def DJs (K : PySem.W.Frag) (B : Addr → Prop) (js : List TE) (ρ : List Slot) (zs : List Str) : Prop := ∀ S0 H0 S H σ, En K B S0 H0 S H σ ρ → ∀ (acc : Str) (Q : Str → Hp → Prop), acc.length + (zs.map (·.length)).sum ≤ BIG → (∀ S' H', Ext B S H S' H' → Q (zs.foldl (· ++ ·) acc) H') → tJs js acc σ H Q
theorem dj_nil : DJs K B [] ρ [] := fun S0 H0 S H σ E acc Q l q => q S H (Ext.refl E.i)
theorem str_app_len (a b : Str) : (a ++ b).length = a.length + b.length := by
  show (a.cps ++ b.cps).size = _
  rw [Array.size_append]
  rfl
theorem dj_cons {js : List TE} {zs : List Str} (h : DE K B te ρ z) (hr : DJs K B js ρ zs) : DJs K B (te :: js) ρ (z :: zs) := fun S0 H0 S H σ E acc Q l q =>
  h S0 H0 S H σ E _ fun v S1 H1 e1 r1 => by
    rw [List.map_cons, List.sum_cons] at l
    refine ⟨z, r1, by rw [str_app_len]; exact Nat.le_trans (by omega) big_line, hr S0 H0 S1 H1 σ (E.go e1) (acc ++ z) Q (by rw [str_app_len]; omega) fun S2 H2 e2 => q S2 H2 (e1.trans e2)⟩
theorem d_fmtS (h : DE K B te ρ z) (hl : z.length ≤ BIG) : DE K B (tFmt te) ρ z := fun S0 H0 S H σ E Q q =>
  h S0 H0 S H σ E _ fun v S1 H1 e1 r1 => .inl ⟨z, r1, Nat.le_trans hl big_line, q _ S1 H1 e1 rfl⟩
theorem d_joined {js : List TE} {zs : List Str} (h : DJs K B js ρ zs) (hl : (zs.map (·.length)).sum ≤ BIG) : DE K B (fun σ H Q => tJs js Str.empty σ H fun out H1 => Q (.str out) H1) ρ (zs.foldl (· ++ ·) Str.empty) := fun S0 H0 S H σ E Q q =>
  h S0 H0 S H σ E Str.empty _ (by show 0 + _ ≤ _; omega) fun S1 H1 e1 => q _ S1 H1 e1 rfl
theorem empty_app (a : Str) : Str.empty ++ a = a := by
  obtain ⟨a⟩ := a
  show (⟨#[] ++ a⟩ : Str) = ⟨a⟩
  rw [Array.empty_append]
theorem paired_rev {α β : Type} {F : α → β → Prop} : ∀ {l : List α} {r : List β}, Paired F l r → Paired F l.reverse r.reverse
  | _, _, .nil => .nil
  | _, _, .cons a t => by rw [List.reverse_cons, List.reverse_cons]; exact Paired.app (paired_rev t) (.cons a .nil)
/-- {k: v for x in xs if ..}, all values alike: the keys -/
theorem d_dcSet {wi : TI} {g : TG} {vs : List Nat} {xs : List α} (p : α → Bool) (f : α → Str) (hi : DI K B wi ρ xs) (hl : xs.length ≤ BIG)
    (h : ∀ x ∈ xs, ∃ ρ' js, DG K B g x (wipeS ρ vs) ρ' js ∧ (∀ i ∈ js, i ∈ vs) ∧ DT K B t ρ' (p x) ∧ (p x = true → DE K B tk ρ' (f x) ∧ DE K B tv ρ' true)) : DE K B (tDc wi g t tk tv vs) ρ (KSet.mk fun z => xs.any fun x => p x && decide (f x = z)) := by
  intro S0 H0 S H σ E Q q
  refine hi S0 H0 S H σ E _ fun J S1 H1 e1 y D hD => ?_
  have hD0 : H D = none := e1.free E.i hD
  have nB : ¬ B D := fun z => (E.bx D z).2.2 (E.ext.free E.i0 hD0)
  let Pv : Nat → Hp → Prop := fun i Hc => ∃ Sc kvs, Ext B S1 H1 Sc Hc ∧ Sc D = none ∧ Hc D = some (.dK kvs) ∧ kvs.length ≤ i ∧ ∀ z, (valV kvs (Sum.inr z)).isSome = (xs.take i).any fun x => p x && decide (f x = z)
  refine ⟨fun i m Hc => m = xs.length - i ∧ i ≤ xs.length ∧ Pv i Hc, ⟨xs.length, by simp, Nat.zero_le _, S1, [], Ext.priv e1.i hD, e1.i.free hD, upd_same, Nat.le_refl _, fun z => by rw [List.take_zero]; rfl⟩, ?_⟩
  rintro i m Hc ⟨rfl, hle, Sc, kvs, ex, hs, hh, kl, hv⟩
  have yy := y Sc Hc ex.s (E.ext.trans (e1.trans ex))
  by_cases hlt : i < xs.length
  · refine .inr ?_
    obtain ⟨x, hx⟩ : ∃ x, xs[i]? = some x := ⟨_, List.getElem?_eq_getElem hlt⟩
    obtain ⟨hgo, hy⟩ := yy.1 i x hx
    refine ⟨hgo, Pv (i + 1), fun H' hp => ⟨xs.length - (i + 1), by omega, rfl, hlt, hp⟩, fun v H' hyl => ?_⟩
    obtain ⟨S2, e2, r2⟩ := hy v H' hyl
    obtain ⟨ρ', js, hg, hjs, ht, he⟩ := h x (List.mem_of_getElem? hx)
    refine hg S0 H0 S2 H' (wipe σ vs) v ((E.go ((e1.trans ex).trans e2)).wp vs) r2 _ fun σ2 E2 l2 f2 => ⟨?_, ?_⟩
    · have z := wipe_eq (vs := vs) l2 fun i hi => f2 i fun z => hi (hjs i z)
      rw [z, wipe_wipe]
    · have st : ∀ S4 H4, Ext B Sc Hc S4 H4 → S4 D = none ∧ H4 D = some (.dK kvs) := fun S4 H4 e => by
        obtain ⟨q1, q2⟩ := e.p D hs (by rw [hh]; exact fun z => nomatch z)
        refine ⟨q1, ?_⟩
        rcases q2 with q2 | ⟨q2, _⟩
        · rw [q2]; exact hh
        · exact absurd q2 nB
      refine ht S0 H0 S2 H' σ2 E2 _ fun S3 H3 e3 => ?_
      cases hp : p x with
      | false =>
        obtain ⟨a1, a2⟩ := st S3 H3 (e2.trans e3)
        refine ⟨S3, kvs, ex.trans (e2.trans e3), a1, a2, Nat.le_succ_of_le kl, fun z => ?_⟩
        rw [List.take_add_one, hx, List.any_append, hv z]
        show _ = (_ || (p x && decide (f x = z) || false))
        rw [hp]
        simp
      | true =>
        obtain ⟨hk, hv2⟩ := he hp
        refine hk S0 H0 S3 H3 σ2 (E2.go e3) _ fun kk S4 H4 e4 r4 => ?_
        cases r4
        refine hv2 S0 H0 S4 H4 σ2 (E2.go (e3.trans e4)) _ fun w S5 H5 e5 r5 => ?_
        have e25 := ((e2.trans e3).trans e4).trans e5
        obtain ⟨a1, a2⟩ := st S5 H5 e25
        refine ⟨kvs, Sum.inr (f x), rfl, a2, ?_, S5, putK kvs (Sum.inr (f x)) w, (ex.trans e25).mut hD a1, a1, upd_same, ?_, fun z => ?_⟩
        · have := big_line
          omega
        · exact Nat.le_trans (putK_le) (Nat.succ_le_succ kl)
        · rw [valV_put, List.take_add_one, hx, List.any_append]
          show _ = (_ || (p x && decide (f x = z) || false))
          rw [hp, ← hv z]
          by_cases c : z = f x
          · subst c
            rw [if_pos rfl, decide_eq_true rfl]
            simp
          · rw [if_neg (fun e => c (by injection e)), decide_eq_false (fun e => c e.symm)]
            simp
  · refine .inl ⟨?_, ?_⟩
    · rw [show i = xs.length by omega]
      exact yy.2
    · rw [List.take_of_length_le (by omega)] at hv
      have fz : Ext B S H (upd Sc D (.dK kvs)) Hc := (e1.trans ex).frz hD0 E.i hh hs
      exact q _ _ Hc fz ⟨D, kvs, rfl, upd_same, hv⟩
/-- z in d -/
theorem d_inK {k : KSet} (h1 : DE K B te ρ z) (h2 : DE K B td ρ k) : DE K B (tDIn te td) ρ (k.has z) := fun S0 H0 S H σ E Q q =>
  h1 S0 H0 S H σ E _ fun v S1 H1 e1 r1 => h2 S0 H0 S1 H1 σ (E.go e1) _ fun w S2 H2 e2 ⟨p, kvs, e, hq, hv⟩ => by
    cases r1
    refine ⟨p, valV kvs (Sum.inr z), e, DGet.k (k := Sum.inr z) (e2.i _ _ hq), ?_⟩
    rw [hv z]
    exact q _ S2 H2 (e1.trans e2) rfl
/-- {} -/
theorem dob_map : DOb K B tDNewK ρ (ownM 0 fun _ => none) := fun S0 H0 S H σ E Q q p hp => q p _ S _ (Ext.priv E.i hp) hp (E.i.free hp) upd_same ⟨[], rfl, Nat.le_refl _, fun z => rfl⟩
/-- d[z] = y, d one's own map -/
theorem ds_mput {n m : Nat} {f : Str → Option Str} (hn : ρ[n]? = some (.obj (ownM m f))) (hv : DE K B tv ρ y) (hk : DE K B tk ρ z) (hm : m < BIG) (k : Φ.nx (ρ.set n (.obj (ownM (m + 1) fun x => if x = z then some y else f x)))) : DS K B (sDPut (tVar n) tk tv) ρ Φ := fun S0 H0 S H σ D E px nx r b c => by
  refine hv S0 H0 S H σ E _ fun v S1 H1 e1 r1 => ?_
  cases r1
  obtain ⟨p, o, g1, h0, hs, hh, pr⟩ := (E.go e1).obj hn
  refine ⟨_, g1, ?_⟩
  refine hk S0 H0 S1 H1 σ (E.go e1) _ fun w S2 H2 e2 r2 => ?_
  cases r2
  have E2 := (E.go e1).go e2
  obtain ⟨p', o', g1', h0', hs', hh', kvs, rfl, kl, rr⟩ := E2.obj hn
  rw [g1] at g1'
  cases g1'
  refine ⟨p, _, rfl, DPut.k (k := Sum.inr z) hh' (by have := big_line; omega), ?_⟩
  refine nx _ σ S2 _ k (e1.s.trans e2.s) (E2.chgOb hn g1 ⟨_, rfl, Nat.le_trans (putK_le) (Nat.succ_le_succ kl), fun x => ?_⟩)
  rw [valV_put, rr x]
  by_cases c : x = z
  · subst c
    rw [if_pos rfl]
    show _ = Option.map V.str (if x = x then some y else f x)
    rw [if_pos rfl]
    rfl
  · rw [if_neg (fun e => c (by injection e))]
    show _ = Option.map V.str (if x = z then some y else f x)
    rw [if_neg c]
/-- d[z], d one's own map -/
theorem d_mget {n m : Nat} {f : Str → Option Str} (hn : ρ[n]? = some (.obj (ownM m f))) (hk : DE K B tk ρ z) (hf : f z = some y) : DE K B (tDGet (tVar n) tk) ρ y := fun S0 H0 S H σ E Q q => by
  obtain ⟨p, o, g1, _⟩ := E.obj hn
  refine ⟨_, g1, hk S0 H0 S H σ E _ fun w S2 H2 e2 r2 => ?_⟩
  cases r2
  obtain ⟨p', o', g1', h0', hs', hh', kvs, rfl, kl, rr⟩ := (E.go e2).obj hn
  rw [g1] at g1'
  cases g1'
  have r := rr z
  rw [hf] at r
  refine ⟨p, .str y, rfl, ?_, q _ S2 H2 e2 rfl⟩
  show DGet H2 p (V.str z) (some (.str y))
  have g := DGet.k (k := Sum.inr z) hh'
  rw [r] at g
  exact g
/-- xs[::-1] -/
theorem do_rev {xs : List α} (h : DE K B te ρ (α := L α) xs) : DO K B (tRevL K te) ρ xs.reverse := fun S0 H0 S H σ E Q q =>
  h S0 H0 S H σ E _ fun v S1 H1 e1 ⟨hl, p, vs, e, hq, r⟩ => ⟨p, vs, e, SqL.of (e1.i _ _ hq), fun w hw => q w vs.reverse S1 _ (e1.trans (Ext.priv e1.i hw)) (e1.free E.i hw) (e1.i.free hw) upd_same (paired_rev r) (by rw [List.length_reverse]; exact hl)⟩
end
end WW

set_option Elab.async false
set_option linter.all false
set_option maxRecDepth 100000
set_option maxHeartbeats 4000000
namespace WW
open PySem PySem.Spec PyProof.Rows L2
/-! ### the shape of a module in a house -/
abbrev Shp := U Str × U LkT
def shOf (sh : List (Str × Shp)) (z : Str) : Shp := ((Dct.mk sh).get z).getD (([] : List Str), ([] : List LkT))
def ledL (a : Str) (k : LkT) : LkT := ⟨dotted a k.a, dotted a k.b, k.c, k.d⟩
def plOf (m : DMd) (sh : List (Str × Shp)) : List Str := (m.i ++ m.o ++ m.s) ++ m.c.flatMap fun t => List.map (dotted t.1) (shOf sh t.2).1
def lkOf (m : DMd) (sh : List (Str × Shp)) : List LkT := m.l ++ m.c.flatMap fun t => List.map (ledL t.1) (shOf sh t.2).2
def shapeM (m : DMd) (sh : List (Str × Shp)) : Shp := ((srt ltS (plOf m sh) : List Str), (srt ltL (lkOf m sh) : List LkT))
structure ShOk (m : DMd) (sh : List (Str × Shp)) : Prop where
  get : ∀ t ∈ m.c, (Dct.mk sh).get t.2 = some (shOf sh t.2)
  lab : ∀ t ∈ m.c, t.1.length ≤ 5
  pl : ∀ t ∈ m.c, List.length (shOf sh t.2).1 ≤ 1000 ∧ ∀ z ∈ (show List Str from (shOf sh t.2).1), z.length ≤ 1000
  lk : ∀ t ∈ m.c, List.length (shOf sh t.2).2 ≤ 1000 ∧ ∀ k ∈ (show List LkT from (shOf sh t.2).2), k.a.length ≤ 1000 ∧ k.b.length ≤ 1000
  n64 : (plOf m sh).length < 64
  n1 : (lkOf m sh).length ≤ 1000
section
variable {P : Program} {w : World} {K : PySem.W.Frag} {mg : Str → Option Value} {base : Heap} {f : Addr} {fd : FuncData}
abbrev dpLed := dp2 (fun a b : Str => a.length ≤ 1000 ∧ b.length ≤ 1000) dotted
abbrev s_led_end : Stmt := top 8
abbrev N_led_end : List Str := ["label", "place"]
theorem sc_led_end : FnScope N_led_end ["label", "place"] (defScope s_led_end) := ⟨rfl, rfl, rfl, by decide +kernel, rfl, by decide +kernel, by decide +kernel⟩

theorem ok_led_end (F : FnP K "led_end" s_led_end f fd) : FnOk P w K mg base CX0 1 f fd ["label", "place"] (spT K dpLed) := by
  refine okT F sc_led_end (fun ss R h => ?_) (fun cdv A outer s H E hr => ⟨_, (pss_one (ps_ret (pe_joined (.cons (pe_fmt (pv 0)) (.cons (pe_str) (.cons (pe_fmt (pv 1)) (.nil))))))), fun B ss R h => ?_⟩)
  · obtain ⟨x, y, rfl, _⟩ := h
    rfl
  · obtain ⟨a, b, rfl, ⟨ha, hb⟩, q⟩ := h
    have b18 : ∀ {n : Nat}, n ≤ 10000 → n ≤ BIG := fun h => Nat.le_trans h (by decide)
    refine ds_retE q (d_joined (dj_cons (d_fmtS (d_var rfl) (b18 (by omega))) (dj_cons d_str (dj_cons (d_fmtS (d_var rfl) (b18 (by omega))) dj_nil))) (b18 ?_)) ?_
    · show a.length + (1 + (b.length + 0)) ≤ 10000
      omega
    · show ((Str.empty ++ a) ++ ("." : Str)) ++ b = dotted a b
      rw [empty_app]
      rfl
def dpShape : List Slot → (Slot → Prop) → Prop := fun ss R => ∃ (m : DMd) (sh : List (Str × Shp)), ss = [.val (MOb.mk m), .out (ownD sh)] ∧ ShOk m sh ∧ R (.val (shapeM m sh))
abbrev s_shape_of : Stmt := top 9
abbrev N_shape_of : List Str := ["module", "shapes", "places", "links", "label", "name", "inner_places", "inner_links", "first", "then", "marks", "lasts", "place"]
theorem sc_shape_of : FnScope N_shape_of ["module", "shapes"] (defScope s_shape_of) := ⟨rfl, rfl, rfl, by decide +kernel, rfl, by decide +kernel, by decide +kernel⟩

theorem ok_shape_of (F : FnP K "shape_of" s_shape_of f fd) (MC : ModC K (He.ga K "Module")) (m_list : mg "list" = none) (m_tuple : mg "tuple" = none) (m_sorted : mg "sorted" = none) (g_led_end : FnAt P w K mg base CX0 1 "led_end" ["label", "place"] (spT K dpLed)) : FnOk P w K mg base CX0 2 f fd ["module", "shapes"] (spT K dpShape) := by
  refine okT F sc_shape_of (fun ss R h => ?_) (fun cdv A outer s H E hr => ⟨_, (pss_cons (ps_set (i := 2) sc_shape_of.nd rfl (.inl rfl) (pe_lst (pa_starK K (pe_fldK K (pv 0) rfl) (pa_starK K (pe_fldK K (pv 0) rfl) (pa_starK K (pe_fldK K (pv 0) rfl) (pa_nil))))))
 (pss_cons (ps_set (i := 3) sc_shape_of.nd rfl (.inl rfl) (pe_callTy (call_listK K) rfl m_list (by decide +kernel) (pa_cons (pe_fldK K (pv 0) rfl) (pa_nil))))
 (pss_cons (ps_for PassesOwn.never rfl (pi_seqK K (pe_fldK K (pv 0) rfl)) (pg_tupK (n := 2) K rfl (pgs_cons (pg_name (i := 4) sc_shape_of.nd rfl (.inr rfl)) (pgs_cons (pg_name (i := 5) sc_shape_of.nd rfl (.inl rfl)) (pgs_nil)))) (pss_cons (ps_asg (pe_dget (hu_of hr) (pv 1) (pv 5) (fun _ _ => rfl)) (pg_tupK (n := 2) K rfl (pgs_cons (pg_name (i := 6) sc_shape_of.nd rfl (.inl rfl)) (pgs_cons (pg_name (i := 7) sc_shape_of.nd rfl (.inl rfl)) (pgs_nil)))))
 (pss_cons (ps_expr (pe_bmK K PySem.F.plainAttrs_list PySem.F.slot_list_extend PySem.F.type_list_extend mt_extend (pv 2) (pa_cons (pe_lc (own := [("place", 12)]) rfl sc_shape_of.nd (pi_seqK K (pv 6)) (blkOk_by (N := N_shape_of) (sc := defScope s_shape_of) (by decide +kernel)) (fun _ _ _ _ _ => pg_name (i := 12) sc_shape_of.nd rfl (.inl rfl)) (fun _ _ _ _ _ => pts_nil) (fun _ _ _ _ _ => pe_fn g_led_end hr rfl (pa_cons (pv 4) (pa_cons (pv 12) (pa_nil))))) (pa_nil))))
 (pss_one (ps_for PassesOwn.never rfl (pi_seqK K (pv 7)) (pg_tupK (n := 4) K rfl (pgs_cons (pg_name (i := 8) sc_shape_of.nd rfl (.inl rfl)) (pgs_cons (pg_name (i := 9) sc_shape_of.nd rfl (.inl rfl)) (pgs_cons (pg_name (i := 10) sc_shape_of.nd rfl (.inl rfl)) (pgs_cons (pg_name (i := 11) sc_shape_of.nd rfl (.inl rfl)) (pgs_nil)))))) (pss_one (ps_expr (pe_bmK K PySem.F.plainAttrs_list PySem.F.slot_list_append PySem.F.type_list_append mt_append (pv 3) (pa_cons (pe_tup (pa_cons (pe_fn g_led_end hr rfl (pa_cons (pv 4) (pa_cons (pv 8) (pa_nil)))) (pa_cons (pe_fn g_led_end hr rfl (pa_cons (pv 4) (pa_cons (pv 9) (pa_nil)))) (pa_cons (pv 10) (pa_cons (pv 11) (pa_nil)))))) (pa_nil))))))))))
 (pss_one (ps_ret (pe_tup (pa_cons (pe_callTy (call_tupleK K) rfl m_tuple (by decide +kernel) (pa_cons (pe_callB (cr_sortedSK K) rfl m_sorted (by decide +kernel) (pa_cons (pv 2) (pa_nil))) (pa_nil))) (pa_cons (pe_callTy (call_tupleK K) rfl m_tuple (by decide +kernel) (pa_cons (pe_callB (cr_sortedL K) rfl m_sorted (by decide +kernel) (pa_cons (pv 3) (pa_nil))) (pa_nil))) (pa_nil))))))))), fun B ss R h => ?_⟩)
  · obtain ⟨m, sh, rfl, _⟩ := h
    rfl
  · obtain ⟨m, sh, rfl, ok, q⟩ := h
    have b18 : ∀ {n : Nat}, n ≤ 10000 → n ≤ BIG := fun h => Nat.le_trans h (by decide)
    have n64 := ok.n64
    have n1 := ok.n1
    unfold plOf at n64
    unfold lkOf at n1
    rw [List.length_append] at n64 n1
    let g1 : Str × Str → List Str := fun t => List.map (dotted t.1) (shOf sh t.2).1
    let g2 : Str × Str → List LkT := fun t => List.map (ledL t.1) (shOf sh t.2).2
    have pre1 : ∀ i, ((m.c.take i).flatMap g1).length ≤ (m.c.flatMap g1).length := fun i => by
      conv => rhs; rw [← List.take_append_drop i m.c, List.flatMap_append, List.length_append]
      exact Nat.le_add_right _ _
    have pre2 : ∀ i, ((m.c.take i).flatMap g2).length ≤ (m.c.flatMap g2).length := fun i => by
      conv => rhs; rw [← List.take_append_drop i m.c, List.flatMap_append, List.length_append]
      exact Nat.le_add_right _ _
    have n64 : (m.i ++ m.o ++ m.s).length + (m.c.flatMap g1).length < 64 := n64
    have n1 : m.l.length + (m.c.flatMap g2).length ≤ 1000 := n1
    show DS K B _ [.val (MOb.mk m), .out (ownD sh), .no, .no, .no, .no, .no, .no, .no, .no, .no, .no, .no] _
    refine dq_asgO (xs := m.i ++ m.o ++ m.s) (do_lst ((dl_star (d_Uq (d_minlets MC (d_var rfl))) (dl_star (d_Uq (d_moutlets MC (d_var rfl))) (dl_star (ys := []) (d_Uq (d_mstations MC (d_var rfl))) dl_nil))).is (by rw [List.append_nil, List.append_assoc])) (b18 (by omega))) ?_
    refine dq_asgO (xs := m.l) (do_list (d_Uq (d_mlinks MC (d_var rfl)))) ?_
    show DS K B _ [.val (MOb.mk m), .out (ownD sh), .own (m.i ++ m.o ++ m.s), .own m.l, .no, .no, .no, .no, .no, .no, .no, .no, .no] _
    refine dq_for (xs := m.c) (di_seq (d_Uq (d_mcalls MC (d_var rfl)))) (fun i r => ∃ s4 s5 s6 s7 s8 s9 s10 s11 s12 : Slot, r = [.val (MOb.mk m), .out (ownD sh), .own (m.i ++ m.o ++ m.s ++ (m.c.take i).flatMap g1), .own (m.l ++ (m.c.take i).flatMap g2), s4, s5, s6, s7, s8, s9, s10, s11, s12]) ⟨.no, .no, .no, .no, .no, .no, .no, .no, .no, by simp⟩ (fun i t r ht hI => ?_) fun r hI => ?_
    · obtain ⟨s4, s5, s6, s7, s8, s9, s10, s11, s12, rfl⟩ := hI
      have tm := List.mem_of_getElem? ht
      have ll := ok.lab t tm
      obtain ⟨p1, p2⟩ := ok.pl t tm
      obtain ⟨k1, k2⟩ := ok.lk t tm
      have hg := ok.get t tm
      have e1 : (m.c.take (i + 1)).flatMap g1 = (m.c.take i).flatMap g1 ++ g1 t := by rw [List.take_add_one, ht, List.flatMap_append]; simp
      have e2 : (m.c.take (i + 1)).flatMap g2 = (m.c.take i).flatMap g2 ++ g2 t := by rw [List.take_add_one, ht, List.flatMap_append]; simp
      have l1 := pre1 (i + 1)
      have l2 := pre2 (i + 1)
      rw [e1, List.length_append] at l1
      rw [e2, List.length_append] at l2
      obtain ⟨ps, ls, hsh⟩ : ∃ (ps : List Str) (ls : List LkT), shOf sh t.2 = (ps, ls) := ⟨_, _, rfl⟩
      rw [hsh] at p1 p2 k1 k2 hg
      have p1 : ps.length ≤ 1000 := p1
      have k1 : ls.length ≤ 1000 := k1
      have eg1 : g1 t = ps.map (dotted t.1) := by show List.map (dotted t.1) (shOf sh t.2).1 = _; rw [hsh]
      have eg2 : g2 t = ls.map (ledL t.1) := by show List.map (ledL t.1) (shOf sh t.2).2 = _; rw [hsh]
      rw [eg1] at e1 l1
      rw [eg2] at e2 l2
      rw [List.length_map] at l1 l2
      generalize (m.c.take i).flatMap g1 = A1 at e1 l1
      generalize (m.c.take i).flatMap g2 = A2 at e2 l2
      refine ⟨_, _, DG.pair dg_name dg_name, ?_⟩
      show DS K B _ [.val (MOb.mk m), .out (ownD sh), .own (m.i ++ m.o ++ m.s ++ A1), .own (m.l ++ A2), .val t.1, .val t.2, s6, s7, s8, s9, s10, s11, s12] _
      refine dq_asgG (d_getDO (n := 1) rfl (d_var rfl) hg) (DG.pair dg_name dg_name) ?_
      show DS K B _ [.val (MOb.mk m), .out (ownD sh), .own (m.i ++ m.o ++ m.s ++ A1), .own (m.l ++ A2), .val t.1, .val t.2, .val (α := U Str) ps, .val (α := U LkT) ls, s8, s9, s10, s11, s12] _
      refine ds_seq (ds_extend (n := 2) (xs := m.i ++ m.o ++ m.s ++ A1) (ys := ps.map (dotted t.1)) rfl (DO.l (do_map (dotted t.1) (di_seq (d_Uq (d_var rfl))) (b18 (Nat.le_trans p1 (by decide))) fun z hz => ⟨_, _, dg_name, by simp, d_call2 (d_var rfl) (d_var rfl) ⟨Nat.le_trans ll (by decide), p2 z hz⟩⟩)) (b18 (by rw [List.length_append, List.length_map]; omega)) ?_)
      show DS K B _ [.val (MOb.mk m), .out (ownD sh), .own (m.i ++ m.o ++ m.s ++ A1 ++ ps.map (dotted t.1)), .own (m.l ++ A2), .val t.1, .val t.2, .val (α := U Str) ps, .val (α := U LkT) ls, s8, s9, s10, s11, s12] _
      refine ds_for (xs := ls) (di_seq (d_Uq (d_var rfl))) (fun j r => ∃ s8 s9 s10 s11 : Slot, r = [.val (MOb.mk m), .out (ownD sh), .own (m.i ++ m.o ++ m.s ++ A1 ++ ps.map (dotted t.1)), .own (m.l ++ A2 ++ (ls.take j).map (ledL t.1)), .val t.1, .val t.2, .val (α := U Str) ps, .val (α := U LkT) ls, s8, s9, s10, s11, s12]) ⟨s8, s9, s10, s11, by rw [List.take_zero, List.map_nil, List.append_nil]⟩ (fun j k r hk hJ => ?_) fun r hJ => ?_
      · obtain ⟨s8, s9, s10, s11, rfl⟩ := hJ
        obtain ⟨ka, kb⟩ := k2 k (List.mem_of_getElem? hk)
        refine ⟨_, _, DG.quad dg_name dg_name dg_name dg_name, ?_⟩
        show DS K B _ [.val (MOb.mk m), .out (ownD sh), .own (m.i ++ m.o ++ m.s ++ A1 ++ ps.map (dotted t.1)), .own (m.l ++ A2 ++ (ls.take j).map (ledL t.1)), .val t.1, .val t.2, .val (α := U Str) ps, .val (α := U LkT) ls, .val k.a, .val k.b, .val k.c, .val k.d, s12] _
        refine ds_append (n := 3) (xs := m.l ++ A2 ++ (ls.take j).map (ledL t.1)) (a := ledL t.1 k) rfl (d_quad (d_call2 (d_var rfl) (d_var rfl) ⟨Nat.le_trans ll (by decide), ka⟩) (d_call2 (d_var rfl) (d_var rfl) ⟨Nat.le_trans ll (by decide), kb⟩) (d_var rfl) (d_var rfl)) ?_ ⟨.val k.a, .val k.b, .val k.c, .val k.d, ?_⟩
        · have : ((ls.take j).map (ledL t.1)).length ≤ 1000 := by rw [List.length_map, List.length_take]; omega
          rw [List.length_append, List.length_append]
          exact Nat.lt_of_le_of_lt (show _ ≤ 5000 by omega) (by decide)
        · have e : ls.take (j + 1) = ls.take j ++ [k] := by
            rw [List.take_add_one, hk]
            rfl
          rw [e, List.map_append, ← List.append_assoc]
          rfl
      · obtain ⟨s8, s9, s10, s11, rfl⟩ := hJ
        refine ⟨.val t.1, .val t.2, .val (α := U Str) ps, .val (α := U LkT) ls, s8, s9, s10, s11, s12, ?_⟩
        rw [List.take_length, e1, e2, ← List.append_assoc, ← List.append_assoc]
    · obtain ⟨s4, s5, s6, s7, s8, s9, s10, s11, s12, rfl⟩ := hI
      rw [List.take_length]
      refine ds_frz (n := 2) rfl (ds_frz (n := 3) rfl ?_)
      exact ds_ret (d_pair (d_tuple (DO.q (d_sortS (d_var rfl) (by rw [List.length_append]; exact n64)))) (d_tuple (DO.q (d_sortL (d_var rfl))))) q
end
end WW

set_option Elab.async false
set_option linter.all false
set_option maxRecDepth 100000
set_option maxHeartbeats 4000000
namespace WW
open PySem PySem.Spec PyProof.Rows L2
/-! ### places that nothing ends: what is loose -/
def Zero (ls : List LkT) (a b : Str) : Prop := ∃ t ∈ ls, t.c = 0 ∧ t.a = a ∧ t.b = b
structure LooseOk (ps : List Str) (ls : List LkT) (l : List Str) : Prop where
  sub : ∀ p ∈ l, p ∈ ps
  cl : ∀ p ∈ l, ∃ a ∈ l, Zero ls a p
  max : ∀ C : Str → Prop, (∀ p, C p → p ∈ ps ∧ ∃ a, C a ∧ Zero ls a p) → ∀ p, C p → p ∈ l
def stepB (ls : List LkT) (l : List Str) (p : Str) : Bool := ls.any fun t => (decide (t.c = 0) && decide (t.a ∈ l)) && decide (t.b = p)
theorem stepB_iff {ls : List LkT} {l : List Str} {p : Str} : stepB ls l p = true ↔ ∃ a ∈ l, Zero ls a p := by
  unfold stepB Zero
  rw [List.any_eq_true]
  constructor
  · rintro ⟨t, ht, h⟩
    simp only [Bool.and_eq_true, decide_eq_true_eq] at h
    exact ⟨t.a, h.1.2, t, ht, h.1.1, rfl, h.2⟩
  · rintro ⟨a, ha, t, ht, h0, rfl, h2⟩
    refine ⟨t, ht, ?_⟩
    simp only [Bool.and_eq_true, decide_eq_true_eq]
    exact ⟨⟨h0, ha⟩, h2⟩
section
variable {K : PySem.W.Frag} {B : Addr → Prop} {ρ : List Slot} {te : TE} {z : Str}
theorem d_strT (h : DE K B te ρ z) : DE K B (tCB (fun xs H Q => ∃ a, xs = [V.str a] ∧ Q (.str a) H) (tCons te tNil)) ρ z := fun S0 H0 S H σ E Q q =>
  h S0 H0 S H σ E _ fun v S1 H1 e1 r1 => by
    cases r1
    exact ⟨z, rfl, q _ S1 H1 e1 rfl⟩
end
theorem hu64 {k : Nat} {A : Around} (hr : Room k A) : A.units + 64 < cLine := by have := hr.un; omega
section
variable {P : Program} {w : World} {K : PySem.W.Frag} {mg : Str → Option Value} {base : Heap} {f : Addr} {fd : FuncData}
def dpLoose : List Slot → (Slot → Prop) → Prop := fun ss R => ∃ (ps : List Str) (ls : List LkT), ss = [.val (α := U Str) ps, .val (α := U LkT) ls] ∧ ps.length ≤ 1000 ∧ ls.length ≤ 1000 ∧ ∀ l : List Str, LooseOk ps ls l → R (.val (α := L Str) l)
abbrev s_loose_places : Stmt := top 10
abbrev N_loose_places : List Str := ["places", "links", "left", "is_moving", "later", "kept", "first", "then", "marks", "lasts", "place"]
theorem sc_loose_places : FnScope N_loose_places ["places", "links"] (defScope s_loose_places) := ⟨rfl, rfl, rfl, by decide +kernel, rfl, by decide +kernel, by decide +kernel⟩

theorem ok_loose (F : FnP K "loose_places" s_loose_places f fd) (m_list : mg "list" = none) (m_len : mg "len" = none) : FnOk P w K mg base CX0 1 f fd ["places", "links"] (spT K dpLoose) := by
  refine okT F sc_loose_places (fun ss R h => ?_) (fun cdv A outer s H E hr => ⟨_, (pss_cons (ps_set (i := 2) sc_loose_places.nd rfl (.inr rfl) (pe_callTy (call_listK K) rfl m_list (by decide +kernel) (pa_cons (pv 0) (pa_nil))))
 (pss_cons (ps_set (i := 3) sc_loose_places.nd rfl (.inl rfl) (pe_bl))
 (pss_cons (ps_while PassesOwn.never (pt_val (pv 3)) (pss_cons (ps_set (i := 4) sc_loose_places.nd rfl (.inr rfl) (pe_dc (own := [("first", 6), ("then", 7), ("marks", 8), ("lasts", 9)]) rfl sc_loose_places.nd (pi_seqK K (pv 1)) (blkOk_by (N := N_loose_places) (sc := defScope s_loose_places) (by decide +kernel)) (fun _ _ _ _ _ => pg_tupK (n := 4) K rfl (pgs_cons (pg_name (i := 6) sc_loose_places.nd rfl (.inl rfl)) (pgs_cons (pg_name (i := 7) sc_loose_places.nd rfl (.inl rfl)) (pgs_cons (pg_name (i := 8) sc_loose_places.nd rfl (.inl rfl)) (pgs_cons (pg_name (i := 9) sc_loose_places.nd rfl (.inl rfl)) (pgs_nil)))))) (fun _ _ _ _ _ => pts_one (PW.pt (pw_and (pt_cmpR op_eq (pv 8) (pe_int) (nomark _)) (pw_and1 (pt_cmpR (op_inK K) (pv 6) (pv 2) rfl))))) (fun _ _ _ _ _ => pv 7) (fun _ _ _ _ _ => pe_bl)))
 (pss_cons (ps_setLc (i := 5) (own := [("place", 10)]) rfl sc_loose_places.nd rfl rfl (sw_true rfl rfl rfl (by decide +kernel)) (pi_seqK K (pv 2)) (blkOk_by (N := N_loose_places) (sc := defScope s_loose_places) (by decide +kernel)) (fun _ _ _ _ _ => pg_name (i := 10) sc_loose_places.nd rfl (.inl rfl)) (fun _ _ _ _ _ => pts_one (pt_cmp (pc_din (hu_of hr) (pv 10) (pv 4)))) (fun _ _ _ _ _ => pv 10))
 (pss_cons (ps_set (i := 3) sc_loose_places.nd rfl (.inl rfl) (pe_cmpR op_lt (pe_callB (call_lenK K) rfl m_len (by decide +kernel) (pa_cons (pv 5) (pa_nil))) (pe_callB (call_lenK K) rfl m_len (by decide +kernel) (pa_cons (pv 2) (pa_nil))) (nomark _)))
 (pss_one (ps_set (i := 2) sc_loose_places.nd rfl (.inr rfl) (pv 5)))))))
 (pss_one (ps_ret (pv 2)))))), fun B ss R h => ?_⟩)
  · obtain ⟨m, sh, rfl, _⟩ := h
    rfl
  · obtain ⟨ps, ls, rfl, pl, ll, q⟩ := h
    have b18 : ∀ {n : Nat}, n ≤ 10000 → n ≤ BIG := fun h => Nat.le_trans h (by decide)
    show DS K B _ [.val (α := U Str) ps, .val (α := U LkT) ls, .no, .no, .no, .no, .no, .no, .no, .no, .no] _
    refine dq_asgI (δ := L Str) ps (DO.l (do_list (d_Uq (d_var rfl)))) ?_
    refine dq_asg (a := true) d_bl ?_
    show DS K B _ [.val (α := U Str) ps, .val (α := U LkT) ls, .val (α := L Str) ps, .val true, .no, .no, .no, .no, .no, .no, .no] _
    refine ds_seq (ds_while (fun m r => ∃ (l : List Str) (mv : Bool) (s4 s5 s6 s7 s8 s9 s10 : Slot), r = [.val (α := U Str) ps, .val (α := U LkT) ls, .val (α := L Str) l, .val mv, s4, s5, s6, s7, s8, s9, s10] ∧ (∀ p ∈ l, p ∈ ps) ∧
      (mv = false → ∀ p ∈ l, ∃ a ∈ l, Zero ls a p) ∧ (∀ C : Str → Prop, (∀ p, C p → p ∈ ps ∧ ∃ a, C a ∧ Zero ls a p) → ∀ p, C p → p ∈ l) ∧ l.length ≤ 1000 ∧ (mv = true → l.length < m)) (ps.length + 1)
      ⟨ps, true, .no, .no, .no, .no, .no, .no, .no, rfl, fun p h => h, (fun h => by cases h), (fun C h p hp => (h p hp).1), pl, fun _ => Nat.lt_succ_self _⟩ fun m r hI => ?_)
    obtain ⟨l, mv, s4, s5, s6, s7, s8, s9, s10, rfl, h1, h2, h3, h4, h5⟩ := hI
    refine ⟨mv, dt_B (d_var rfl), fun hm => ?_, fun hm => ?_⟩
    · subst hm
      have h5 := h5 rfl
      refine dq_asgI (δ := KSet) (KSet.mk (stepB ls l)) (d_dcSet (fun t : LkT => decide (t.c = 0) && decide (t.a ∈ l)) (fun t => t.b) (di_seq (d_Uq (d_var rfl))) (b18 (by omega)) fun t ht => ⟨_, _, DG.quad dg_name dg_name dg_name dg_name, by simp, dt_and (dt_test (d_eq (d_var rfl) d_int inferInstance inferInstance)) (fun _ => dt_test (d_inS (d_var rfl) (d_Lq (d_var rfl)))), fun _ => ⟨d_var rfl, d_bl⟩⟩) ?_
      show DS K B _ [.val (α := U Str) ps, .val (α := U LkT) ls, .val (α := L Str) l, .val true, .val (KSet.mk (stepB ls l)), s5, s6, s7, s8, s9, s10] _
      let kp := l.filter (stepB ls l)
      refine dq_asgI (δ := L Str) kp (DE.is (DO.l (do_lc (stepB ls l) (fun p : Str => p) (di_seq (d_Lq (d_var rfl))) (b18 (by omega)) fun p hp => ⟨_, _, dg_name, by simp, dt_test (d_inK (k := KSet.mk (stepB ls l)) (z := p) (d_var rfl) (d_var rfl)), fun _ => d_var rfl⟩)) (List.map_id' _)) ?_
      show DS K B _ [.val (α := U Str) ps, .val (α := U LkT) ls, .val (α := L Str) l, .val true, .val (KSet.mk (stepB ls l)), .val (α := L Str) kp, s6, s7, s8, s9, s10] _
      refine dq_asg (d_lt (d_len (d_Lq (d_var rfl))) (d_len (d_Lq (d_var rfl)))) ?_
      refine ds_asg (α := L Str) (a := kp) (d_var rfl) ?_
      have kl : kp.length ≤ l.length := List.length_filter_le _ _
      refine ⟨l.length, h5, kp, decide ((kp.length : Int) < l.length), .val (KSet.mk (stepB ls l)), .val (α := L Str) kp, s6, s7, s8, s9, s10, rfl, fun p hp => h1 p (List.mem_filter.mp hp).1, fun hm p hp => ?_, fun C hC p hp => ?_, by omega, fun hm => ?_⟩
      · have hm := of_decide_eq_false hm
        have e : kp = l := List.Sublist.eq_of_length (List.filter_sublist) (by show kp.length = l.length; omega)
        rw [e] at hp ⊢
        have := List.filter_eq_self.mp e p hp
        exact stepB_iff.mp this
      · refine List.mem_filter.mpr ⟨h3 C hC p hp, stepB_iff.mpr ?_⟩
        obtain ⟨_, a, ha, hz⟩ := hC p hp
        exact ⟨a, h3 C hC a ha, hz⟩
      · have := of_decide_eq_true hm
        omega
    · subst hm
      exact ds_ret (d_var rfl) (q l ⟨h1, h2 rfl, h3⟩)
def rotS : List Str → List Str
  | [] => []
  | z :: zs => (z :: zs).drop ((z :: zs).idxOf (minS z zs)) ++ (z :: zs).take ((z :: zs).idxOf (minS z zs))
abbrev s_turned_about : Stmt := top 11
abbrev N_turned_about : List Str := ["ring", "at", "place"]
theorem sc_turned_about : FnScope N_turned_about ["ring"] (defScope s_turned_about) := ⟨rfl, rfl, rfl, by decide +kernel, rfl, by decide +kernel, by decide +kernel⟩

theorem ok_turned (F : FnP K "turned_about" s_turned_about f fd) (m_min : mg "min" = none) (m_str : mg "str" = none) (m_tuple : mg "tuple" = none) : FnOk P w K mg base CX0 1 f fd ["ring"] (spT K (dp1 (α := L Str) (γ := U Str) (fun r : L Str => 0 < List.length r ∧ List.length r ≤ 1000) fun r => rotS r)) := by
  refine okT F sc_turned_about (fun ss R h => ?_) (fun cdv A outer s H E hr => ⟨_, (pss_cons (ps_set (i := 1) sc_turned_about.nd rfl (.inl rfl) (pe_bmK K PySem.F.plainAttrs_list PySem.F.slot_list_index PySem.F.type_list_index (mt_indexK K) (pv 0) (pa_cons (pe_callB (cr_minS K rfl (hu64 hr)) rfl m_min (by decide +kernel) (pa_cons (pe_lc (own := [("place", 2)]) rfl sc_turned_about.nd (pi_seqK K (pv 0)) (blkOk_by (N := N_turned_about) (sc := defScope s_turned_about) (by decide +kernel)) (fun _ _ _ _ _ => pg_name (i := 2) sc_turned_about.nd rfl (.inl rfl)) (fun _ _ _ _ _ => pts_nil) (fun _ _ _ _ _ => pe_callTy SkE.call_str_str rfl m_str (by decide +kernel) (pa_cons (pv 2) (pa_nil)))) (pa_nil))) (pa_nil))))
 (pss_one (ps_ret (pe_callTy (call_tupleK K) rfl m_tuple (by decide +kernel) (pa_cons (pe_lst (pa_starK K (pe_slice (sl_sqK K) (pv 0) (po_some (pv 1)) (po_none)) (pa_starK K (pe_slice (sl_sqK K) (pv 0) (po_none) (po_some (pv 1))) (pa_nil)))) (pa_nil)))))), fun B ss R h => ?_⟩)
  · obtain ⟨m, rfl, _⟩ := h
    rfl
  · obtain ⟨r, rfl, ⟨r0, r1⟩, q⟩ := h
    have b18 : ∀ {n : Nat}, n ≤ 10000 → n ≤ BIG := fun h => Nat.le_trans h (by decide)
    cases r with
    | nil => cases r0
    | cons z zs =>
      have r1 : (z :: zs).length ≤ 1000 := r1
      obtain ⟨mm, _⟩ := minS_is (z := z) (zs := zs)
      obtain ⟨i1, i2⟩ := idx_mem mm
      have e : rotS (z :: zs) = (z :: zs).drop ((z :: zs).idxOf (minS z zs)) ++ (z :: zs).take ((z :: zs).idxOf (minS z zs)) := rfl
      show DS K B _ [.val (α := L Str) (z :: zs), .no, .no] _
      have hq : (Slot.val (α := U Str) (rotS (z :: zs))) = .val (α := U Str) ((z :: zs).drop ((z :: zs).idxOf (minS z zs)) ++ (z :: zs).take ((z :: zs).idxOf (minS z zs))) := rfl
      generalize hk : (z :: zs).idxOf (minS z zs) = k at *
      refine dq_asgI (δ := Int) (k : Int) (d_indexS (ws := z :: zs) (d_var rfl) (d_minS (z := z) (zs := zs) (DE.is (DO.l (do_map (fun p : Str => p) (di_seq (d_Lq (d_var rfl))) (b18 (by omega)) fun p hp => ⟨_, _, dg_name, by simp, d_strT (d_var rfl)⟩)) (List.map_id' _))) i1 i2) ?_
      show DS K B _ [.val (α := L Str) (z :: zs), .val (k : Int), .no] _
      refine ds_ret (α := U Str) (a := (z :: zs).drop k ++ (z :: zs).take k) (d_tuple (DO.q (do_lst ((dl_star (DO.q ((do_slice (d_var rfl) (dp_some (d_var rfl)) dp_none))) (dl_star (ys := []) (DO.q (do_slice (d_var rfl) dp_none (dp_some (d_var rfl)))) dl_nil)).is (by rw [List.append_nil, cutA_drop, cutA_take])) (b18 (by rw [List.length_append, List.length_drop, List.length_take]; omega))))) ?_
      rw [← hq]
      exact q
end
end WW

set_option Elab.async false
set_option linter.all false
set_option maxRecDepth 100000
set_option maxHeartbeats 4000000
namespace WW
open PySem PySem.Spec PyProof.Rows L2
/-! ### rings -/
def ch (E : Str → Str → Prop) : Str → List Str → Prop
  | _, [] => True
  | x, y :: r => E x y ∧ ch E y r
theorem ch_app {E : Str → Str → Prop} : ∀ {a : List Str} {x y : Str} {b : List Str}, ch E x (a ++ y :: b) ↔ ch E x (a ++ [y]) ∧ ch E y b
  | [], x, y, b => by
    show (E x y ∧ ch E y b) ↔ (E x y ∧ True) ∧ ch E y b
    simp
  | z :: a, x, y, b => by
    show (E x z ∧ ch E z (a ++ y :: b)) ↔ (E x z ∧ ch E z (a ++ [y])) ∧ ch E y b
    rw [ch_app (a := a)]
    exact ⟨fun ⟨h1, h2, h3⟩ => ⟨⟨h1, h2⟩, h3⟩, fun ⟨⟨h1, h2⟩, h3⟩ => ⟨h1, h2, h3⟩⟩
theorem ch_rev {E : Str → Str → Prop} : ∀ {l : List Str} {x y : Str}, ch E x (l ++ [y]) → ch (fun a b => E b a) y (l.reverse ++ [x])
  | [], x, y, h => ⟨h.1, trivial⟩
  | z :: l, x, y, h => by
    have h2 := ch_rev (l := l) (x := z) (y := y) h.2
    rw [List.reverse_cons, List.append_assoc]
    exact ch_app.mpr ⟨h2, h.1, trivial⟩
/-- a ring, each leads to the next, the last to the first -/
def Cyc (E : Str → Str → Prop) (l : List Str) : Prop := ∃ x r, l = x :: r ∧ ch E x (r ++ [x])
theorem Cyc.rot {E : Str → Str → Prop} {a b : List Str} (h : Cyc E (a ++ b)) : Cyc E (b ++ a) := by
  obtain ⟨x, r, e, c⟩ := h
  cases a with
  | nil => exact ⟨x, r, by rw [List.append_nil]; exact e, c⟩
  | cons x' a' =>
    injection e with e1 e2
    subst e1
    subst e2
    cases b with
    | nil => exact ⟨x', a', rfl, by rw [List.append_eq, List.append_nil] at c; exact c⟩
    | cons y b' =>
      refine ⟨y, b' ++ x' :: a', rfl, ?_⟩
      rw [List.append_eq, List.append_assoc] at c
      obtain ⟨c1, c2⟩ := ch_app.mp c
      rw [List.append_assoc]
      exact ch_app.mpr ⟨c2, c1⟩
theorem Cyc.rev {E : Str → Str → Prop} {l : List Str} (h : Cyc E l) : Cyc (fun a b => E b a) l.reverse := by
  obtain ⟨x, r, rfl, c⟩ := h
  have := ch_rev c
  rw [List.reverse_cons]
  exact Cyc.rot (a := [x]) (b := r.reverse) ⟨x, r.reverse, rfl, this⟩
structure IsRing (ls : List LkT) (rg : List Str) : Prop where
  cyc : Cyc (Zero ls) rg
  nd : rg.Nodup
  least : ∀ y ∈ rg, ∀ x ∈ rg.head?, ltS y x = false
theorem rotS_ring {ls : List LkT} {l : List Str} (h : Cyc (Zero ls) l) (nd : l.Nodup) : IsRing ls (rotS l) ∧ ∀ z, z ∈ rotS l ↔ z ∈ l := by
  cases l with
  | nil =>
    obtain ⟨x, r, e, _⟩ := h
    cases e
  | cons z zs =>
    obtain ⟨m1, m2⟩ := minS_is (z := z) (zs := zs)
    obtain ⟨i1, _⟩ := idx_mem m1
    have e : rotS (z :: zs) = (z :: zs).drop ((z :: zs).idxOf (minS z zs)) ++ (z :: zs).take ((z :: zs).idxOf (minS z zs)) := rfl
    rw [e]
    generalize (z :: zs).idxOf (minS z zs) = k at *
    generalize minS z zs = mn at *
    generalize z :: zs = l at *
    have tk := List.take_append_drop k l
    have mem : ∀ y, y ∈ l.drop k ++ l.take k ↔ y ∈ l := fun y => by
      conv => rhs; rw [← tk]
      rw [List.mem_append, List.mem_append]
      exact Or.comm
    have hd : ∀ x ∈ (l.drop k ++ l.take k).head?, x = mn := fun x hx => by
      have : (l.drop k)[0]? = some mn := by rw [List.getElem?_drop]; exact i1
      cases hq : l.drop k with
      | nil => rw [hq] at this; cases this
      | cons a r =>
        rw [hq] at this hx
        cases this
        cases hx
        rfl
    refine ⟨⟨Cyc.rot (by rw [tk]; exact h), ?_, fun y hy x hx => ?_⟩, mem⟩
    · rw [← tk] at nd
      rw [List.nodup_append] at nd ⊢
      exact ⟨nd.2.1, nd.1, fun a ha b hb e => nd.2.2 b hb a ha e.symm⟩
    · rw [hd x hx]
      exact m2 y ((mem y).mp hy)
theorem nd_len : ∀ {w l : List Str}, w.Nodup → (∀ z ∈ w, z ∈ l) → w.length ≤ l.length
  | [], _, _, _ => Nat.zero_le _
  | z :: r, l, nd, h => by
    have nd := List.nodup_cons.mp nd
    have hz := h z List.mem_cons_self
    have ih := nd_len (l := l.erase z) nd.2 fun y hy => (List.mem_erase_of_ne (fun e => nd.1 (by rw [← e]; exact hy))).mpr (h y (List.mem_cons_of_mem _ hy))
    rw [List.length_erase_of_mem hz] at ih
    have := List.length_pos_of_mem hz
    rw [List.length_cons]
    omega
section
variable {K : PySem.W.Frag} {B : Addr → Prop} {ρ : List Slot} {te : TE} {z : Str}
theorem d_notInO {n : Nat} {ws : List Str} (h1 : DE K B te ρ z) (hn : ρ[n]? = some (.own ws)) : DE K B (tOp (rIn K true) te (tVar n)) ρ (!decide (z ∈ ws)) := fun S0 H0 S H σ E Q q =>
  h1 S0 H0 S H σ E _ fun v S1 H1 e1 r1 => by
    obtain ⟨hl, p, vs, g1, h0, hs, hh, r⟩ := (E.go e1).own hn
    cases r1
    cases vals_str r
    refine ⟨_, g1, p, _, rfl, .inl (SqL.of hh), rfl, ?_, ?_⟩
    · rw [List.all_map]
      exact List.all_eq_true.mpr fun _ _ => rfl
    · have e : inV (.str z) (ws.map V.str) = decide (z ∈ ws) := inV_str z ws
      rw [e]
      exact q _ S1 H1 e1 rfl
end
theorem atI_last {xs : List Str} {z : Str} : atI (xs ++ [z]) (-1) = some z := by
  unfold atI ixN
  rw [if_neg (by decide), if_pos (by rw [List.length_append, List.length_singleton]; omega), List.length_append, List.length_singleton]
  show (xs ++ [z])[((-1 : Int) + ((xs.length + 1 : Nat) : Int)).toNat]? = some z
  rw [show ((-1 : Int) + ((xs.length + 1 : Nat) : Int)).toNat = xs.length by omega, List.getElem?_append_right (Nat.le_refl _), Nat.sub_self]
  rfl
theorem ch_snoc {E : Str → Str → Prop} : ∀ {a : List Str} {x z y : Str}, ch E x (a ++ [z]) → E z y → ch E x (a ++ [z] ++ [y]) := fun {a x z y} h e => by
  rw [List.append_assoc]
  exact ch_app.mpr ⟨h, e, trivial⟩
section
variable {P : Program} {w : World} {K : PySem.W.Frag} {mg : Str → Option Value} {base : Heap} {f : Addr} {fd : FuncData}
def dpRing : List Slot → (Slot → Prop) → Prop := fun ss R => ∃ (ps : List Str) (ls : List LkT), ss = [.val (α := U Str) ps, .val (α := U LkT) ls] ∧ ps.length ≤ 1000 ∧ ls.length ≤ 1000 ∧
  (LooseOk ps ls [] → R (.val (α := Option (U Str)) none)) ∧ ∀ rg : List Str, IsRing ls rg → (∀ z ∈ rg, z ∈ ps) → R (.val (α := Option (U Str)) (some rg))
abbrev s_ring_of : Stmt := top 12
abbrev N_ring_of : List Str := ["places", "links", "loose", "ahead", "first", "then", "marks", "lasts", "way", "ring"]
theorem sc_ring_of : FnScope N_ring_of ["places", "links"] (defScope s_ring_of) := ⟨rfl, rfl, rfl, by decide +kernel, rfl, by decide +kernel, by decide +kernel⟩

theorem ok_ring (F : FnP K "ring_of" s_ring_of f fd) (m_len : mg "len" = none) (g_loose_places : FnAt P w K mg base CX0 1 "loose_places" ["places", "links"] (spT K dpLoose)) (g_turned_about : FnAt P w K mg base CX0 1 "turned_about" ["ring"] (spT K (dp1 (α := L Str) (γ := U Str) (fun r : L Str => 0 < List.length r ∧ List.length r ≤ 1000) fun r => rotS r))) : FnOk P w K mg base CX0 2 f fd ["places", "links"] (spT K dpRing) := by
  refine okT F sc_ring_of (fun ss R h => ?_) (fun cdv A outer s H E hr => ⟨_, (pss_cons (ps_set (i := 2) sc_ring_of.nd rfl (.inl rfl) (pe_fn g_loose_places hr rfl (pa_cons (pv 0) (pa_cons (pv 1) (pa_nil)))))
 (pss_cons (ps_if (pt_cmpR op_eq (pe_callB (call_lenK K) rfl m_len (by decide +kernel) (pa_cons (pv 2) (pa_nil))) (pe_int) (nomark _)) (pss_one (ps_ret (pe_non))) (pss_nil))
 (pss_cons (ps_set (i := 3) sc_ring_of.nd rfl (.inl rfl) (pe_dnewK))
 (pss_cons (ps_for PassesOwn.never rfl (pi_seqK K (pv 1)) (pg_tupK (n := 4) K rfl (pgs_cons (pg_name (i := 4) sc_ring_of.nd rfl (.inl rfl)) (pgs_cons (pg_name (i := 5) sc_ring_of.nd rfl (.inl rfl)) (pgs_cons (pg_name (i := 6) sc_ring_of.nd rfl (.inl rfl)) (pgs_cons (pg_name (i := 7) sc_ring_of.nd rfl (.inl rfl)) (pgs_nil)))))) (pss_one (ps_if (PW.pt (pw_and (pt_cmpR op_eq (pv 6) (pe_int) (nomark _)) (pw_and (pt_cmpR (op_inK K) (pv 4) (pv 2) rfl) (pw_and1 (pt_cmpR (op_inK K) (pv 5) (pv 2) rfl))))) (pss_one (ps_dput (hu_of hr) (pv 3) (pv 5) (pv 4) rfl)) (pss_nil))))
 (pss_cons (ps_set (i := 8) sc_ring_of.nd rfl (.inl rfl) (pe_lst (pa_cons (pe_ix (ix_sqK K) (pv 2) (pe_int) (fun _ _ => rfl)) (pa_nil))))
 (pss_cons (ps_while PassesOwn.never (pt_cmpR (op_notInK K) (pe_dget (hu_of hr) (pv 3) (pe_ix (ix_sqK K) (pv 8) (pe_un un_neg (pe_int)) (fun _ _ => rfl)) (fun _ _ => rfl)) (pv 8) rfl) (pss_one (ps_expr (pe_bmK K PySem.F.plainAttrs_list PySem.F.slot_list_append PySem.F.type_list_append mt_append (pv 8) (pa_cons (pe_dget (hu_of hr) (pv 3) (pe_ix (ix_sqK K) (pv 8) (pe_un un_neg (pe_int)) (fun _ _ => rfl)) (fun _ _ => rfl)) (pa_nil))))))
 (pss_cons (ps_set (i := 9) sc_ring_of.nd rfl (.inl rfl) (pe_slice (sl_sqK K) (pv 8) (po_some (pe_bmK K PySem.F.plainAttrs_list PySem.F.slot_list_index PySem.F.type_list_index (mt_indexK K) (pv 8) (pa_cons (pe_dget (hu_of hr) (pv 3) (pe_ix (ix_sqK K) (pv 8) (pe_un un_neg (pe_int)) (fun _ _ => rfl)) (fun _ _ => rfl)) (pa_nil)))) (po_none)))
 (pss_one (ps_ret (pe_fn g_turned_about hr rfl (pa_cons (pe_revL (pv 9)) (pa_nil)))))))))))), fun B ss R h => ?_⟩)
  · obtain ⟨m, sh, rfl, _⟩ := h
    rfl
  · obtain ⟨ps, ls, rfl, pl, ll, qn, qs⟩ := h
    have b18 : ∀ {n : Nat}, n ≤ 10000 → n ≤ BIG := fun h => Nat.le_trans h (by decide)
    show DS K B _ [.val (α := U Str) ps, .val (α := U LkT) ls, .no, .no, .no, .no, .no, .no, .no, .no] _
    refine dq_asgN (α := L Str) (P := fun l : L Str => LooseOk ps ls l) (dn_call (da_cons (d_var rfl) (da_cons (d_var rfl) da_nil)) ⟨ps, ls, rfl, pl, ll, fun l hl => ⟨l, hl, rfl⟩⟩) fun (l : List Str) hl => ?_
    have hl : LooseOk ps ls l := hl
    show DS K B _ [.val (α := U Str) ps, .val (α := U LkT) ls, .val (α := L Str) l, .no, .no, .no, .no, .no, .no, .no] _
    refine dq_when (c := decide ((l.length : Int) = 0)) (dt_test (d_eq (d_len (d_Lq (d_var rfl))) d_int inferInstance inferInstance)) (fun h => ?_) (fun h => ?_)
    · have e : l = [] := List.eq_nil_of_length_eq_zero (by have := of_decide_eq_true h; omega)
      subst e
      exact ds_ret d_none (qn hl)
    · have l0 : 0 < l.length := by have := of_decide_eq_false h; omega
      -- ahead
      refine ds_seq (ds_asgOb (P := ownM 0 fun _ => none) dob_map ?_)
      show DS K B _ [.val (α := U Str) ps, .val (α := U LkT) ls, .val (α := L Str) l, .obj (ownM 0 fun _ => none), .no, .no, .no, .no, .no, .no] _
      refine dq_for (xs := ls) (di_seq (d_Uq (d_var rfl))) (fun i r => ∃ (f : Str → Option Str) (n : Nat) (s4 s5 s6 s7 : Slot), r = [.val (α := U Str) ps, .val (α := U LkT) ls, .val (α := L Str) l, .obj (ownM n f), s4, s5, s6, s7, .no, .no] ∧ n ≤ i ∧
        (∀ z y, f z = some y → y ∈ l ∧ Zero ls y z) ∧ ∀ t ∈ ls.take i, t.c = 0 → t.a ∈ l → t.b ∈ l → ∃ y, f t.b = some y) ⟨fun _ => none, 0, .no, .no, .no, .no, rfl, Nat.le_refl _, (fun z y h => by cases h), (fun t ht => by rw [List.take_zero] at ht; cases ht)⟩ (fun i t r ht hI => ?_) fun r hI => ?_
      · obtain ⟨f, n, s4, s5, s6, s7, rfl, hn, h1, h2⟩ := hI
        refine ⟨_, _, DG.quad dg_name dg_name dg_name dg_name, ?_⟩
        show DS K B _ [.val (α := U Str) ps, .val (α := U LkT) ls, .val (α := L Str) l, .obj (ownM n f), .val t.a, .val t.b, .val t.c, .val t.d, .no, .no] _
        have hi := (List.getElem?_eq_some_iff.mp ht).1
        have tk : ls.take (i + 1) = ls.take i ++ [t] := by rw [List.take_add_one, ht]; rfl
        refine ds_if (c := decide (t.c = 0) && (decide (t.a ∈ l) && decide (t.b ∈ l))) (dt_and (dt_test (d_eq (d_var rfl) d_int inferInstance inferInstance)) fun _ => dt_and (dt_test (d_inS (d_var rfl) (d_Lq (d_var rfl)))) fun _ => dt_test (d_inS (d_var rfl) (d_Lq (d_var rfl)))) (fun c => ?_) (fun c => ?_)
        · simp only [Bool.and_eq_true, decide_eq_true_eq] at c
          obtain ⟨c1, c2, c3⟩ := c
          refine ds_mput (n := 3) rfl (d_var rfl) (d_var rfl) (Nat.lt_of_le_of_lt (show n ≤ 1000 by omega) (by decide)) ⟨fun x => if x = t.b then some t.a else f x, n + 1, .val t.a, .val t.b, .val t.c, .val t.d, rfl, by omega, fun z y hz => ?_, fun u hu u0 ua ub => ?_⟩
          · have hz : (if z = t.b then some t.a else f z) = some y := hz
            split at hz
            · rename_i e
              cases hz
              exact ⟨c2, t, List.mem_of_getElem? ht, c1, rfl, e.symm⟩
            · exact h1 z y hz
          · show ∃ y, (if u.b = t.b then some t.a else f u.b) = some y
            split
            · exact ⟨_, rfl⟩
            · rename_i ne
              rw [tk] at hu
              rcases List.mem_append.mp hu with hu | hu
              · exact h2 u hu u0 ua ub
              · rw [List.mem_singleton.mp hu] at ne
                exact absurd rfl ne
        · refine ds_next ⟨f, n, .val t.a, .val t.b, .val t.c, .val t.d, rfl, by omega, h1, fun u hu u0 ua ub => ?_⟩
          rw [tk] at hu
          rcases List.mem_append.mp hu with hu | hu
          · exact h2 u hu u0 ua ub
          · rw [List.mem_singleton.mp hu] at u0 ua ub
            rw [decide_eq_true u0, decide_eq_true ua, decide_eq_true ub] at c
            cases c
      · obtain ⟨f, n, s4, s5, s6, s7, rfl, _, h1, h2⟩ := hI
        rw [List.take_length] at h2
        have tot : ∀ z ∈ l, ∃ y, f z = some y ∧ y ∈ l ∧ Zero ls y z := fun z hz => by
          obtain ⟨a, ha, t, ht, t0, rfl, rfl⟩ := hl.cl z hz
          obtain ⟨y, hy⟩ := h2 t ht t0 ha hz
          exact ⟨y, hy, h1 _ _ hy⟩
        clear h1 h2
        -- the way back
        obtain ⟨z0, hz0⟩ : ∃ z0, l[0]? = some z0 := ⟨_, List.getElem?_eq_getElem l0⟩
        have hz0m := List.mem_of_getElem? hz0
        refine dq_asgO (xs := [z0]) (do_lst (dl_cons (d_ix (d_Lq (d_var rfl)) d_int (atI_nat (j := 0) hz0)) dl_nil) (by show 1 ≤ BIG; decide)) ?_
        let E' : Str → Str → Prop := fun a b => Zero ls b a
        refine ds_seq (ds_while (fun m r => ∃ (w : List Str) (z : Str) (x : Str) (wr : List Str), r = [.val (α := U Str) ps, .val (α := U LkT) ls, .val (α := L Str) l, .obj (ownM n f), s4, s5, s6, s7, .own (w ++ [z]), .no] ∧ (w ++ [z]).Nodup ∧ (∀ y ∈ w ++ [z], y ∈ l) ∧ w ++ [z] = x :: wr ∧ ch E' x wr ∧ l.length + 1 - (w ++ [z]).length = m) (l.length + 1 - 1) ⟨[], z0, z0, [], rfl, by simp, fun y hy => by rw [List.mem_singleton.mp hy]; exact hz0m, rfl, trivial, rfl⟩ fun m r hI => ?_)
        obtain ⟨w, z, x, wr, rfl, nd, sub, ex, hc, hm⟩ := hI
        have wl := nd_len nd sub
        have zl : z ∈ l := sub z (List.mem_append_right _ (List.mem_singleton.mpr rfl))
        obtain ⟨y, fy, yl, zy⟩ := tot z zl
        refine ⟨_, dt_test (d_notInO (d_mget (n := 3) rfl (d_ixO (n := 8) rfl (d_neg d_int) atI_last) fy) rfl), fun c => ?_, fun c => ?_⟩
        · have yn : y ∉ w ++ [z] := by simpa using c
          have wp := nd_len nd fun u hu => hl.sub u (sub u hu)
          refine ds_append (n := 8) (xs := w ++ [z]) (a := y) rfl (d_mget (n := 3) rfl (d_ixO (n := 8) rfl (d_neg d_int) atI_last) fy) (Nat.lt_of_le_of_lt (show _ ≤ 1000 by omega) (by decide)) ?_
          have nd2 : (w ++ [z] ++ [y]).Nodup := List.nodup_append.mpr ⟨nd, by simp, fun a ha b hb e => yn (by rw [List.mem_singleton.mp hb] at e; rw [← e]; exact ha)⟩
          have sub2 : ∀ u ∈ w ++ [z] ++ [y], u ∈ l := fun u hu => by
            rcases List.mem_append.mp hu with hu | hu
            · exact sub u hu
            · rw [List.mem_singleton.mp hu]; exact yl
          have wl2 := nd_len nd2 sub2
          rw [List.length_append, List.length_singleton] at wl2
          refine ⟨_, ?_, w ++ [z], y, x, wr ++ [y], rfl, nd2, sub2, by rw [ex]; rfl, ?_, rfl⟩
          · rw [List.length_append (as := w ++ [z]), List.length_singleton]
            omega
          · cases w with
            | nil =>
              injection ex with e1 e2
              subst e1
              subst e2
              exact ⟨zy, trivial⟩
            | cons a w' =>
              injection ex with e1 e2
              rw [← e2] at hc ⊢
              exact ch_snoc hc zy
        · have yin : y ∈ w ++ [z] := by
            have c : (!decide (y ∈ w ++ [z])) = false := c
            rw [Bool.not_eq_false', decide_eq_true_eq] at c
            exact c
          refine ds_frz (n := 8) rfl ?_
          show DS K B _ [.val (α := U Str) ps, .val (α := U LkT) ls, .val (α := L Str) l, .obj (ownM n f), s4, s5, s6, s7, .val (α := L Str) (w ++ [z]), .no] _
          obtain ⟨i1, i2⟩ := idx_mem yin
          have wp := nd_len nd fun u hu => hl.sub u (sub u hu)
          generalize (w ++ [z]).idxOf y = k at i1 i2
          refine dq_asgI (δ := L Str) ((w ++ [z]).drop k) (DE.is (DO.l (do_slice (d_var rfl) (dp_some (d_indexS (d_var rfl) (d_mget (n := 3) rfl (d_ix (d_Lq (d_var rfl)) (d_neg d_int) atI_last) fy) i1 i2)) dp_none)) cutA_drop) ?_
          show DS K B _ [.val (α := U Str) ps, .val (α := U LkT) ls, .val (α := L Str) l, .obj (ownM n f), s4, s5, s6, s7, .val (α := L Str) (w ++ [z]), .val (α := L Str) ((w ++ [z]).drop k)] _
          have kl : k < (w ++ [z]).length := (List.getElem?_eq_some_iff.mp i1).1
          have cy : Cyc E' ((w ++ [z]).drop k) := by
            have e : (w ++ [z]).drop k = y :: (w ++ [z]).drop (k + 1) := by
              rw [List.drop_eq_getElem_cons kl]
              congr 1
              exact (List.getElem?_eq_some_iff.mp i1).2
            refine ⟨y, _, e, ?_⟩
            -- the chain from y on, and back
            have full : ch E' x (wr ++ [y]) := by
              cases w with
              | nil =>
                injection ex with e1 e2
                subst e1
                subst e2
                exact ⟨zy, trivial⟩
              | cons a w' =>
                injection ex with e1 e2
                rw [← e2] at hc ⊢
                exact ch_snoc hc zy
            cases k with
            | zero =>
              rw [ex] at i1
              cases i1
              rw [ex]
              exact full
            | succ k =>
              have e3 : wr = wr.take k ++ y :: (w ++ [z]).drop (k + 1 + 1) := by
                rw [ex, List.drop_succ_cons, List.drop_succ_cons] at e
                rw [ex, List.drop_succ_cons, ← e, List.take_append_drop]
              rw [e3, List.append_assoc] at full
              exact (ch_app.mp full).2
          have nd3 : ((w ++ [z]).drop k).Nodup := nd.sublist (List.drop_sublist _ _)
          have lr : ((w ++ [z]).drop k).length = (w ++ [z]).length - k := List.length_drop ..
          have mm : ∀ u ∈ (w ++ [z]).drop k, u ∈ ps := fun u hu => hl.sub u (sub u (List.mem_of_mem_drop hu))
          generalize (w ++ [z]).drop k = cw at cy nd3 lr mm
          obtain ⟨r1, r2⟩ := rotS_ring (ls := ls) cy.rev (List.pairwise_reverse.mpr (List.Pairwise.imp (fun h => Ne.symm h) nd3))
          exact ds_ret (α := Option (U Str)) (a := some (rotS cw.reverse)) (d_some (d_call1 (α := L Str) (γ := U Str) (x := cw.reverse) (f := fun r => rotS r) (DO.l (do_rev (d_var rfl))) ⟨by show 0 < cw.reverse.length; rw [List.length_reverse]; omega, by show cw.reverse.length ≤ 1000; rw [List.length_reverse]; omega⟩)) (qs _ r1 fun u hu => mm u (List.mem_reverse.mp ((r2 u).mp hu)))
end
end WW

set_option Elab.async false
set_option linter.all false
set_option maxRecDepth 100000
set_option maxHeartbeats 4000000
namespace WW
open PySem PySem.Spec PyProof.Rows L2
/-! ### typed defs that may raise; the error may keep what lies in the heap -/
abbrev XPH := Hp → Addr → List (Str × V) → Prop
def PXH (B : Addr → Prop) (X : XPH) (E : XK) (S0 H0 : Hp) : Prop := ∀ C fs d S' H', X S' C fs → Ext B S0 H0 S' H' → H0 d = none → H' d = some (.xd fs) → E (.ref C) (some d) H'
def spTXH (K : PySem.W.Frag) (dp : List Slot → (Slot → Prop) → XPH → Prop) : Sp := fun vs H Q E => ∃ B S ss R X, Same S H ∧ (∀ p, B p → S p = none ∧ IsBx (H p)) ∧ ArgsOk K B H S H vs ss ∧ dp ss R X ∧ (∀ s v S' H', R s → Ext B S H S' H' → SlotOk K B H S' H' (some v) s → Q v H') ∧ PXH B X E S H
section
variable {K : PySem.W.Frag} {B : Addr → Prop} {ρ : List Slot} {ta tb tc te : TE} {Φ : Post} {α : Type} {e_α : Enc α} {a : α}
theorem ds_raiseH {C : Addr} {fld : Str} {E : XK} {X : XPH} (h : DE K B te ρ a) (hx : ∀ S v, Enc.rep K S v a → X S C [(fld, v)]) (hp : ∀ S0 H0, Φ.px S0 H0 → PXH B X E S0 H0) :
    DS K B (fun _ σ H => tMkS C fld te σ H fun cls d H' => E cls d H') ρ Φ := fun S0 H0 S H σ D En px n r b c =>
  h S0 H0 S H σ En _ fun v S1 H1 e1 r1 d hd => hp S0 H0 px C _ d S1 _ (hx S1 v r1) ((En.ext.trans e1).trans (Ext.priv e1.i hd)) ((En.ext.trans e1).free En.i0 hd) upd_same
/-- the promise used where what is raised is handed on -/
theorem PXH.sub {X X' : XPH} {E : XK} {S0 H0 S1 H1 : Hp} (h : PXH B X E S0 H0) (i : Same S0 H0) (e : Ext B S0 H0 S1 H1) (f : ∀ S C fs, X' S C fs → X S C fs) : PXH B X' E S1 H1 := fun C fs d S' H' hX e2 nd hd =>
  h C fs d S' H' (f _ _ _ hX) (e.trans e2) (e.free i nd) hd
end
theorem okTXH {P : Program} {w : World} {K : PySem.W.Frag} {mg : Str → Option Value} {base : Heap} {x qual : Str} {params : Arguments} {body : List Stmt} {scope : Scope} {dvs : List V} {kws : List (Str × V)} {f : Addr} {fd : FuncData} {N ps : List Str} {k : Nat} {dp : List Slot → (Slot → Prop) → XPH → Prop}
    (F : FunD K x qual params body scope dvs kws f fd) (S : FnScope N ps scope) (len : ∀ ss R X, dp ss R X → ss.length = ps.length)
    (hbody : ∀ (cdv : Value) (A : Around) (outer : List PySem.Env) (s : Shared) (H : Hp) (E : XK), Room k (A.deeper (envOfC qual scope s.heap.objs.size f cdv)) →
      ∃ t, PSs (cxOf (L2.CX P w) P w K mg base N qual scope f cdv A outer s H E) body t ∧ ∀ (B : Addr → Prop) ss R X, dp ss R X → DS K B t (startS N ss) ⟨fun _ => R (.val ()), R, fun _ => False, fun _ => False, fun S0 H0 => PXH B X E S0 H0⟩) : FnOk P w K mg base (L2.CX P w) (k + 1) f fd ps (spTXH K dp) := by
  refine F.ok S (fun vs H Q E h => ?_) (fun cdv A outer s H vs Q E hr h => ?_)
  · obtain ⟨B, S, ss, R, X, _, _, ha, hd, _⟩ := h
    rw [ha.length, len ss R X hd]
  · obtain ⟨B, S, ss, R, X, hi, hb, ha, hd, q, qx⟩ := h
    obtain ⟨t, h1, h2⟩ := hbody cdv A outer s H E hr
    exact ⟨t, h1, h2 B ss R X hd S H S H _ _ (start_en hi hb ha) qx (fun ρ' σ' S' H' r _ E' => q _ _ S' H' r E'.ext rfl) (fun s v S' H' r ex ok => q s v S' H' r ex ok) (fun _ _ _ _ h => h.elim) (fun _ _ _ _ h => h.elim)⟩
end WW

set_option Elab.async false
set_option linter.all false
set_option maxRecDepth 100000
set_option maxHeartbeats 4000000
namespace WW
open PySem PySem.Spec PyProof.Rows L2
/-! ### the shapes of a house -/
def shS (ms : List DMd) : List (Str × Shp) := ms.foldl (fun sh m => sh ++ [(m.n, shapeM m sh)]) []
theorem shS_snoc (a : List DMd) (m : DMd) : shS (a ++ [m]) = shS a ++ [(m.n, shapeM m (shS a))] := by
  unfold shS
  rw [List.foldl_append]
  rfl
theorem shS_keys : ∀ (a : List DMd), (shS a).map (·.1) = a.map (·.n) := fun a => by
  unfold shS
  have : ∀ (l : List DMd) (sh : List (Str × Shp)), (l.foldl (fun sh m => sh ++ [(m.n, shapeM m sh)]) sh).map (·.1) = sh.map (·.1) ++ l.map (·.n) := fun l => by
    induction l with
    | nil => intro sh; simp
    | cons m r ih => intro sh; rw [List.foldl_cons, ih]; simp
  rw [this]
  rfl
/-- nothing is loose in m's shape -/
def NoRing (m : DMd) (sh : List (Str × Shp)) : Prop := LooseOk (srt ltS (plOf m sh)) (srt ltL (lkOf m sh)) []
structure ShsOk (ms : List DMd) : Prop where
  at' : ∀ (i : Nat) (m : DMd), ms[i]? = some m → ShOk m (shS (ms.take i))
  nd : (ms.map (·.n)).Nodup
  len : ms.length ≤ 10
section
variable {K : PySem.W.Frag} {B : Addr → Prop} {ρ : List Slot}
theorem dob_dct {α : Type} [Enc α] : DOb K B tDNewK ρ (ownD ([] : List (Str × α))) := fun S0 H0 S H σ E Q q p hp => q p _ S _ (Ext.priv E.i hp) hp (E.i.free hp) upd_same ⟨Nat.zero_le _, [], rfl, .nil⟩
end
section
variable {P : Program} {w : World} {K : PySem.W.Frag} {mg : Str → Option Value} {base : Heap} {f : Addr} {fd : FuncData}
/-- NeverGoes(rg) -/
def ringX (K : PySem.W.Frag) (rg : List Str) : XPH := fun S C fs => C = He.ga K "NeverGoes" ∧ ∃ v, fs = ([("ring", v)] : List (Str × V)) ∧ Enc.rep K S v (show U Str from rg)
def dpKnS (K : PySem.W.Frag) : List Slot → (Slot → Prop) → XPH → Prop := fun ss R X => ∃ ms : List DMd, ss = [.val (α := List MOb) (ms.map MOb.mk)] ∧ ShsOk ms ∧ ((∀ i m, ms[i]? = some m → NoRing m (shS (ms.take i))) → R (.val (Dct.mk (shS ms)))) ∧
  ∀ i m rg, ms[i]? = some m → (∀ j m', j < i → ms[j]? = some m' → NoRing m' (shS (ms.take j))) → IsRing (srt ltL (lkOf m (shS (ms.take i)))) rg → (∀ z ∈ rg, z ∈ srt ltS (plOf m (shS (ms.take i)))) → ∀ S C fs, ringX K rg S C fs → X S C fs
theorem srt_len {α : Type} {lt : α → α → Bool} {l : List α} : (srt lt l).length = l.length := (List.mergeSort_perm l _).length_eq
abbrev s_known_shapes : Stmt := top 43
abbrev N_known_shapes : List Str := ["modules", "shapes", "module", "places", "links", "ring"]
theorem sc_known_shapes : FnScope N_known_shapes ["modules"] (defScope s_known_shapes) := ⟨rfl, rfl, rfl, by decide +kernel, rfl, by decide +kernel, by decide +kernel⟩

theorem ok_known_shapes (F : FnP K "known_shapes" s_known_shapes f fd) (MC : ModC K (He.ga K "Module")) (g_shape_of : FnAt P w K mg base CX0 2 "shape_of" ["module", "shapes"] (spT K dpShape)) (g_ring_of : FnAt P w K mg base CX0 2 "ring_of" ["places", "links"] (spT K dpRing)) (S_NeverGoes : SupAt P K mg "NeverGoes" "ring") :
    FnOk P w K mg base (L2.CX P w) 3 f fd ["modules"] (spTXH K (dpKnS K)) := by
  refine okTXH F sc_known_shapes (fun ss R X h => ?_) (fun cdv A outer s H E hr => ⟨_, (pss_cons (ps_set (i := 1) sc_known_shapes.nd rfl (.inl rfl) (pe_dnewK))
 (pss_cons (ps_for (passes_of rfl) rfl (pi_seqK K (pv 0)) (pg_name (i := 2) sc_known_shapes.nd rfl (.inl rfl)) (pss_cons (ps_asg (pe_fn g_shape_of hr rfl (pa_cons (pv 2) (pa_cons (pv 1) (pa_nil)))) (pg_tupK (n := 2) K rfl (pgs_cons (pg_name (i := 3) sc_known_shapes.nd rfl (.inl rfl)) (pgs_cons (pg_name (i := 4) sc_known_shapes.nd rfl (.inl rfl)) (pgs_nil)))))
 (pss_cons (ps_set (i := 5) sc_known_shapes.nd rfl (.inl rfl) (pe_fn g_ring_of hr rfl (pa_cons (pv 3) (pa_cons (pv 4) (pa_nil)))))
 (pss_cons (ps_if (pt_cmpR op_notN (pv 5) (pe_non) (nomark _)) (pss_one (ps_raise rfl (takes_of rfl rfl rfl rfl) (pmk_sup S_NeverGoes hr rfl (pv 5)))) (pss_nil))
 (pss_one (ps_dput (hu_of hr) (pv 1) (pe_fldK K (pv 2) rfl) (pe_tup (pa_cons (pv 3) (pa_cons (pv 4) (pa_nil)))) rfl))))))
 (pss_one (ps_ret (pv 1))))), fun B ss R X h => ?_⟩)
  · obtain ⟨ms, rfl, _⟩ := h
    rfl
  · obtain ⟨ms, rfl, ok, q, qx⟩ := h
    have ml := ok.len
    show DS K B _ [.val (α := List MOb) (ms.map MOb.mk), .no, .no, .no, .no, .no] _
    refine ds_seq (ds_asgOb (P := ownD ([] : List (Str × Shp))) dob_dct ?_)
    show DS K B _ [.val (α := List MOb) (ms.map MOb.mk), .obj (ownD ([] : List (Str × Shp))), .no, .no, .no, .no] _
    refine dq_for (xs := ms.map MOb.mk) (di_seq (d_var rfl)) (fun i r => ∃ s2 s3 s4 s5 : Slot, r = [.val (α := List MOb) (ms.map MOb.mk), .obj (ownD (shS (ms.take i))), s2, s3, s4, s5] ∧ ∀ j m', j < i → ms[j]? = some m' → NoRing m' (shS (ms.take j))) ⟨.no, .no, .no, .no, rfl, fun j m' h => absurd h (Nat.not_lt_zero _)⟩ (fun i o r ho hI => ?_) fun r hI => ?_
    · obtain ⟨s2, s3, s4, s5, rfl, hj⟩ := hI
      obtain ⟨m, hm, rfl⟩ : ∃ m, ms[i]? = some m ∧ MOb.mk m = o := by
        rw [List.getElem?_map] at ho
        cases hh : ms[i]? with
        | none => rw [hh] at ho; cases ho
        | some m => rw [hh] at ho; cases ho; exact ⟨m, rfl, rfl⟩
      have sk := ok.at' i m hm
      have n64 := sk.n64
      have n1 := sk.n1
      have il := (List.getElem?_eq_some_iff.mp hm).1
      refine ⟨_, _, dg_name, ?_⟩
      show DS K B _ [.val (α := List MOb) (ms.map MOb.mk), .obj (ownD (shS (ms.take i))), .val (MOb.mk m), s3, s4, s5] _
      let pl : List Str := srt ltS (plOf m (shS (ms.take i)))
      let lk : List LkT := srt ltL (lkOf m (shS (ms.take i)))
      refine dq_asgG (α := Shp) (a := shapeM m (shS (ms.take i))) (d_call (da_cons (d_var rfl) (da_own rfl da_nil)) ⟨m, _, rfl, sk, rfl⟩) (DG.pair dg_name dg_name) ?_
      show DS K B _ [.val (α := List MOb) (ms.map MOb.mk), .obj (ownD (shS (ms.take i))), .val (MOb.mk m), .val (α := U Str) pl, .val (α := U LkT) lk, s5] _
      refine dq_asgN (α := Option (U Str)) (P := fun o => (o = none ∧ LooseOk pl lk []) ∨ ∃ rg : List Str, o = some rg ∧ IsRing lk rg ∧ ∀ z ∈ rg, z ∈ pl) (dn_call (da_cons (d_var rfl) (da_cons (d_var rfl) da_nil)) ⟨pl, lk, rfl, by show (srt ltS _).length ≤ 1000; rw [srt_len]; omega, by show (srt ltL _).length ≤ 1000; rw [srt_len]; omega, fun h => ⟨_, .inl ⟨rfl, h⟩, rfl⟩, fun rg h1 h2 => ⟨_, .inr ⟨rg, rfl, h1, h2⟩, rfl⟩⟩) fun o ho => ?_
      have tk : ms.take (i + 1) = ms.take i ++ [m] := by rw [List.take_add_one, hm]; rfl
      rcases ho with ⟨rfl, hl⟩ | ⟨rg, rfl, h1, h2⟩
      · show DS K B _ [.val (α := List MOb) (ms.map MOb.mk), .obj (ownD (shS (ms.take i))), .val (MOb.mk m), .val (α := U Str) pl, .val (α := U LkT) lk, .val (α := Option (U Str)) none] _
        refine dq_when (c := false) (DT.is (dt_test (d_notN (α := U Str) (o := none) (d_var rfl) inferInstance)) rfl) (fun h => nomatch h) fun _ => ?_
        refine ds_dput (n := 1) (xs := shS (ms.take i)) (a := shapeM m (shS (ms.take i))) rfl (d_pair (d_var rfl) (d_var rfl)) (d_mname MC (d_var rfl)) ?_ ?_ ⟨.val (MOb.mk m), .val (α := U Str) pl, .val (α := U LkT) lk, .val (α := Option (U Str)) none, ?_, fun j m' hj2 hm' => ?_⟩
        · rw [shS_keys]
          have nd := ok.nd
          rw [← List.take_append_drop (i + 1) ms, tk, List.map_append, List.map_append] at nd
          have nd := (List.nodup_append.mp nd).1
          exact fun hin => (List.nodup_append.mp nd).2.2 _ hin _ (List.mem_singleton.mpr rfl) rfl
        · have : (shS (ms.take i)).length = (ms.take i).length := by
            have := congrArg List.length (shS_keys (ms.take i))
            rw [List.length_map, List.length_map] at this
            exact this
          rw [this, List.length_take]
          omega
        · rw [tk, shS_snoc]
          rfl
        · rcases Nat.lt_or_ge j i with c | c
          · exact hj j m' c hm'
          · have e : j = i := by omega
            subst e
            rw [hm] at hm'
            cases hm'
            exact hl
      · show DS K B _ [.val (α := List MOb) (ms.map MOb.mk), .obj (ownD (shS (ms.take i))), .val (MOb.mk m), .val (α := U Str) pl, .val (α := U LkT) lk, .val (α := Option (U Str)) (some rg)] _
        refine dq_when (c := true) (DT.is (dt_test (d_notN (α := U Str) (o := some rg) (d_var rfl) inferInstance)) rfl) (fun _ => ?_) fun h => nomatch h
        exact ds_raiseH (α := Option (U Str)) (a := some rg) (X := X) (d_var rfl) (fun S v r => qx i m rg hm hj h1 h2 S _ _ ⟨rfl, v, rfl, r⟩) fun S0 H0 e => e
    · obtain ⟨s2, s3, s4, s5, rfl, hj⟩ := hI
      rw [List.length_map, List.take_length]
      refine ds_frzD (n := 1) rfl (ds_ret (d_var rfl) (q fun i m hm => hj i m ?_ hm))
      rw [List.length_map]
      exact (List.getElem?_eq_some_iff.mp hm).1
end
end WW

set_option Elab.async false
set_option linter.all false
set_option maxRecDepth 100000
set_option maxHeartbeats 4000000
namespace WW
open PySem PySem.Spec PyProof.Rows L2
/-! ### dict comprehensions with values -/
theorem valV_is {α : Type} [Enc α] {K : PySem.W.Frag} {S : Hp} {z : Str} : ∀ {kvs : List (Key × V)} {xs : List (Str × α)}, Paired (KvR K S) kvs xs → (valV kvs (Sum.inr z)).isSome = ((Dct.mk xs).get z).isSome
  | _, _, .nil => rfl
  | _ :: _, x :: xs, .cons k1 k2 => by
    by_cases c : x.1 = z
    · rw [valV_pos (by rw [k1.1, c])]
      show true = ((List.find? (fun x => decide (x.1 = z)) (x :: xs)).map (·.2)).isSome
      rw [List.find?_cons, decide_eq_true c]
      rfl
    · rw [valV_neg (by rw [k1.1]; exact fun e => c (by injection e)), valV_is k2]
      show _ = ((List.find? (fun x => decide (x.1 = z)) (x :: xs)).map (·.2)).isSome
      rw [List.find?_cons, decide_eq_false c]
      rfl
section
variable {K : PySem.W.Frag} {B : Addr → Prop} {ρ ρ' ρ1 ρ2 : List Slot} {ta tb tc td te tk tv : TE} {t u : TT} {ts tu tz : TS} {Φ : Post} {α β γ δ : Type} {e_α : Enc α} {e_β : Enc β} {a : α} {b : β} {i j : Int} {z y : Str}
/-- {f x: g x for x in xs}, the keys differ -/
theorem d_dcDct {wi : TI} {g : TG} {vs : List Nat} {xs : List α} (f : α → Str) (v : α → β) (hi : DI K B wi ρ xs) (hl : xs.length ≤ 1000) (nd : (xs.map f).Nodup)
    (h : ∀ x ∈ xs, ∃ ρ' js, DG K B g x (wipeS ρ vs) ρ' js ∧ (∀ i ∈ js, i ∈ vs) ∧ DE K B tk ρ' (f x) ∧ DE K B tv ρ' (v x)) : DE K B (tDc wi g tYes tk tv vs) ρ (Dct.mk (xs.map fun x => (f x, v x))) := by
  intro S0 H0 S H σ E Q q
  refine hi S0 H0 S H σ E _ fun J S1 H1 e1 y D hD => ?_
  have hD0 : H D = none := e1.free E.i hD
  have nB : ¬ B D := fun z => (E.bx D z).2.2 (E.ext.free E.i0 hD0)
  let Pv : Nat → Hp → Prop := fun i Hc => ∃ Sc kvs, Ext B S1 H1 Sc Hc ∧ Sc D = none ∧ Hc D = some (.dK kvs) ∧ Paired (KvR K Sc) kvs ((xs.take i).map fun x => (f x, v x))
  refine ⟨fun i m Hc => m = xs.length - i ∧ i ≤ xs.length ∧ Pv i Hc, ⟨xs.length, by simp, Nat.zero_le _, S1, [], Ext.priv e1.i hD, e1.i.free hD, upd_same, .nil⟩, ?_⟩
  rintro i m Hc ⟨rfl, hle, Sc, kvs, ex, hs, hh, pr⟩
  have yy := y Sc Hc ex.s (E.ext.trans (e1.trans ex))
  by_cases hlt : i < xs.length
  · refine .inr ?_
    obtain ⟨x, hx⟩ : ∃ x, xs[i]? = some x := ⟨_, List.getElem?_eq_getElem hlt⟩
    obtain ⟨hgo, hy⟩ := yy.1 i x hx
    refine ⟨hgo, Pv (i + 1), fun H' hp => ⟨xs.length - (i + 1), by omega, rfl, hlt, hp⟩, fun w H' hyl => ?_⟩
    obtain ⟨S2, e2, r2⟩ := hy w H' hyl
    obtain ⟨ρ', js, hg, hjs, hk, hv⟩ := h x (List.mem_of_getElem? hx)
    refine hg S0 H0 S2 H' (wipe σ vs) w ((E.go ((e1.trans ex).trans e2)).wp vs) r2 _ fun σ2 E2 l2 f2 => ⟨?_, ?_⟩
    · have z := wipe_eq (vs := vs) l2 fun i hi => f2 i fun z => hi (hjs i z)
      rw [z, wipe_wipe]
    · show tYes σ2 H' _
      refine hk S0 H0 S2 H' σ2 E2 _ fun kk S4 H4 e4 r4 => ?_
      cases r4
      refine hv S0 H0 S4 H4 σ2 (E2.go e4) _ fun w2 S5 H5 e5 r5 => ?_
      have e25 := (e2.trans e4).trans e5
      obtain ⟨q1, q2⟩ := e25.p D hs (by rw [hh]; exact fun z => nomatch z)
      have a2 : H5 D = some (.dK kvs) := by
        rcases q2 with q2 | ⟨q2, _⟩
        · rw [q2]; exact hh
        · exact absurd q2 nB
      have kl : kvs.length ≤ xs.length := by
        rw [pr.length, List.length_map, List.length_take]
        exact Nat.min_le_right _ _
      have nk : valV kvs (Sum.inr (f x)) = none := by
        refine valV_none pr ?_
        rw [List.map_map]
        intro hin
        have hin : f x ∈ (xs.take i).map f := hin
        rw [← List.take_append_drop (i + 1) xs, List.take_add_one, hx, List.map_append, List.map_append] at nd
        exact (List.nodup_append.mp (List.nodup_append.mp nd).1).2.2 _ hin (f x) (by simp) rfl
      refine ⟨kvs, Sum.inr (f x), rfl, a2, ?_, S5, putK kvs (Sum.inr (f x)) w2, (ex.trans e25).mut hD q1, q1, upd_same, ?_⟩
      · exact Nat.lt_of_le_of_lt (Nat.le_trans kl hl) (by decide)
      · rw [putK_new _ nk, List.take_add_one, hx, List.map_append]
        exact Paired.app (Paired.mono (fun _ _ => KvR.mono e25.s) pr) (.cons ⟨rfl, r5⟩ .nil)
  · refine .inl ⟨?_, ?_⟩
    · rw [show i = xs.length by omega]
      exact yy.2
    · rw [List.take_of_length_le (by omega)] at pr
      have fz : Ext B S H (upd Sc D (.dK kvs)) Hc := (e1.trans ex).frz hD0 E.i hh hs
      exact q _ _ Hc fz ⟨by rw [List.length_map]; exact hl, D, kvs, rfl, upd_same, Paired.mono (fun _ _ => KvR.mono (same_new hs)) pr⟩
/-- z in d, d one's own dict -/
theorem d_inOb {n : Nat} {xs : List (Str × α)} (h1 : DE K B te ρ z) (hn : ρ[n]? = some (.obj (ownD xs))) : DE K B (tDIn te (tVar n)) ρ (((Dct.mk xs).get z).isSome) := fun S0 H0 S H σ E Q q =>
  h1 S0 H0 S H σ E _ fun v S1 H1 e1 r1 => by
    cases r1
    obtain ⟨p, o, g1, h0, hs, hh, hl, kvs, rfl, rr⟩ := (E.go e1).obj hn
    refine ⟨_, g1, p, valV kvs (Sum.inr z), rfl, DGet.k (k := Sum.inr z) hh, ?_⟩
    have e := valV_is (z := z) rr
    rw [e]
    exact q _ S1 H1 e1 rfl
end
end WW

set_option Elab.async false
set_option linter.all false
set_option maxRecDepth 100000
set_option maxHeartbeats 4000000
namespace WW
open PySem PySem.Spec PyProof.Rows L2
/-! ### name = {k: v for ..} on one line, the name a local -/
section
variable {X : Cx}
theorem ps_setDc {i : Nat} {y : Str} {py : Pos} {kx vx tg iter : Expr} {ifs : List Expr} {scope : Scope} {own : List (Str × Nat)} {pos spos : Pos} {wi : TI} {g : TG} {tt : TT} {tk tv : TE} (hc : X.calm = true) (hN : X.N.Nodup) (hy : X.N[i]? = some y) (hyl : X.env.scope.names.lookup y = some .local)
    (hsw : swapsWith (.DictComp kx vx [⟨tg, iter, ifs, 0⟩] scope pos) (some (.Name y py)) spos.line X.env = pure true) (hi : PI X tg iter wi) (ok : BlkOk X.N X.env.scope scope own)
    (hg : ∀ (s : Shared) (H : Hp) (C : Addr) (cl : List (Str × Addr)) (fp : List Addr), PG (X.blk s H scope (compEnvC scope cl C X.env) fp) tg g) (ht : ∀ (s : Shared) (H : Hp) (C : Addr) (cl : List (Str × Addr)) (fp : List Addr), PTs (X.blk s H scope (compEnvC scope cl C X.env) fp) ifs tt)
    (hk : ∀ (s : Shared) (H : Hp) (C : Addr) (cl : List (Str × Addr)) (fp : List Addr), PE (X.blk s H scope (compEnvC scope cl C X.env) fp) kx tk)
    (he : ∀ (s : Shared) (H : Hp) (C : Addr) (cl : List (Str × Addr)) (fp : List Addr), PE (X.blk s H scope (compEnvC scope cl C X.env) fp) vx tv) (hs : ∀ x, foldedSetIterable iter X.env x = pure x := by intro _; rfl) :
    PS X (.Assign [.Name y py] (.DictComp kx vx [⟨tg, iter, ifs, 0⟩] scope pos) spos) (tAsg (tDc wi g tt tk tv (own.map (·.2))) (gName i)) := by
  refine ⟨fun pins s σ H D I h => ?_⟩
  rw [exec_Assign_Name_used _ _ _ _ hsw]
  refine wpAny_bind (wpAny_standAt (wpAny_bind ?_))
  show wpAny _ X.A (do let _ ← comprehension (.DictComp kx vx [⟨tg, iter, ifs, 0⟩] scope pos) scope X.env (firstIterPos [⟨tg, iter, ifs, 0⟩] pos) newDict false (eval iter X.env) (some (assign (.Name y py) X.env))) _ _ s
  have h : tDc wi g tt tk tv (own.map (·.2)) σ H (fun x H1 => gName i x σ H1 D.nx) := h
  refine wpAny_bind (thn (dc_core (Qf := fun _ s' => SP X pins D .next s') hc hN I hi ok hg ht hk he hs h fun L C s' m H' I' q hn f => ?_) fun _ s' hq => wpAny_pure (wpAny_pure hq))
  show wpAny _ _ (assign (.Name y py) X.env (.ref L)) _ _ _
  refine wpAny_assign_Name (store_ok2 (v := V.ref L) I' hN hy (.inl hyl) rfl (fun s2 I2 ⟨a, sb, ha⟩ => ?_) (.inr hyl))
  obtain ⟨f0, f1, f2, f3, f4, f5⟩ := f
  have haC : C ≠ a := by
    rcases ha with z | z
    · rw [z]; exact f1
    · exact fun e => f4 y a z e.symm
  refine ⟨m, hn.sameBut sb haC, fun h3 sb3 => ?_⟩
  exact ⟨_, H', I2.turned (t' := s2.toks) (fun b o hb e => (sb3.2 b hb).trans e) f0 f1 f3 f4 f5, q⟩
theorem sw_trueD {kx vx : Expr} {gs : List Comprehension} {scope : Scope} {pos py : Pos} {y : Str} {l : Nat} {env : Env} (hk : env.scope.kind = .function) (hy : env.scope.names.lookup y = some .local) (hl : (py.line == pos.line) = true)
    (ha : (scope.names.any fun (n, k) => n == y && (k == .local || k == .cell)) = false) : swapsWith (.DictComp kx vx gs scope pos) (some (.Name y py)) l env = pure true := by
  have ky : env.kindOf y = some .local := hy
  have hb : env.blockKind = .function := by unfold Env.blockKind; rw [hk]; rfl
  unfold swapsWith
  simp only [hb, ky, ha, Expr.pos, hl]
  rfl
end
end WW

set_option Elab.async false
set_option linter.all false
set_option maxRecDepth 100000
set_option maxHeartbeats 4000000
namespace WW
open PySem PySem.Spec PyProof.Rows L2
/-! ### the ends of a module's links, in a house -/
def lookM (kn : List (Str × MOb)) (z : Str) : DMd := (((Dct.mk kn).get z).getD ⟨noM⟩).m
def calledD (m : DMd) (kn : List (Str × MOb)) : List (Str × MOb) := m.c.map fun t => (t.1, MOb.mk (lookM kn t.2))
def endOk (cd : List (Str × MOb)) (sel : DMd → List Str) (z : Str) : Bool := !(decide ((Txt.partition z ".").2.1 = dot) && !decide ((Txt.partition z ".").2.2 ∈ sel (lookM cd (Txt.partition z ".").1)))
def endsOk (m : DMd) (kn : List (Str × MOb)) : Bool := m.l.all fun t => endOk (calledD m kn) DMd.o t.a && endOk (calledD m kn) DMd.i t.b
structure EndPre (m : DMd) (kn : List (Str × MOb)) : Prop where
  nd : m.labels.Nodup
  len : m.c.length ≤ 1000
  get : ∀ t ∈ m.c, (Dct.mk kn).get t.2 = some (MOb.mk (lookM kn t.2))
  lab : ∀ t ∈ m.l, ∀ z, z = t.a ∨ z = t.b → z.length ≤ 1000 ∧ (decide ((Txt.partition z ".").2.1 = dot) = true → (Dct.mk (calledD m kn)).get (Txt.partition z ".").1 = some (MOb.mk (lookM (calledD m kn) (Txt.partition z ".").1)))
section
variable {P : Program} {w : World} {K : PySem.W.Frag} {mg : Str → Option Value} {base : Heap} {f : Addr} {fd : FuncData}
def dpEnds : List Slot → (Slot → Prop) → Prop := fun ss R => ∃ (m : DMd) (kn : List (Str × MOb)), ss = [.val (MOb.mk m), .out (ownD kn)] ∧ EndPre m kn ∧ R (.val (endsOk m kn))
abbrev s_ends_are_there : Stmt := top 41
abbrev N_ends_are_there : List Str := ["module", "known", "called", "first", "then", "marks", "lasts", "label", "point", "name"]
theorem sc_ends_are_there : FnScope N_ends_are_there ["module", "known"] (defScope s_ends_are_there) := ⟨rfl, rfl, rfl, by decide +kernel, rfl, by decide +kernel, by decide +kernel⟩

theorem ok_ends (F : FnP K "ends_are_there" s_ends_are_there f fd) (MC : ModC K (He.ga K "Module")) : FnOk P w K mg base CX0 1 f fd ["module", "known"] (spT K dpEnds) := by
  refine okT F sc_ends_are_there (fun ss R h => ?_) (fun cdv A outer s H E hr => ⟨_, (pss_cons (ps_setDc (i := 2) (own := [("label", 7), ("name", 9)]) rfl sc_ends_are_there.nd rfl rfl (sw_trueD rfl rfl rfl (by decide +kernel)) (pi_seqK K (pe_fldK K (pv 0) rfl)) (blkOk_by (N := N_ends_are_there) (sc := defScope s_ends_are_there) (by decide +kernel)) (fun _ _ _ _ _ => pg_tupK (n := 2) K rfl (pgs_cons (pg_name (i := 7) sc_ends_are_there.nd rfl (.inl rfl)) (pgs_cons (pg_name (i := 9) sc_ends_are_there.nd rfl (.inl rfl)) (pgs_nil)))) (fun _ _ _ _ _ => pts_nil) (fun _ _ _ _ _ => pv 7) (fun _ _ _ _ _ => pe_dget (hu_of hr) (pv 1) (pv 9) (fun _ _ => rfl)))
 (pss_cons (ps_for PassesOwn.never rfl (pi_seqK K (pe_fldK K (pv 0) rfl)) (pg_tupK (n := 4) K rfl (pgs_cons (pg_name (i := 3) sc_ends_are_there.nd rfl (.inl rfl)) (pgs_cons (pg_name (i := 4) sc_ends_are_there.nd rfl (.inl rfl)) (pgs_cons (pg_name (i := 5) sc_ends_are_there.nd rfl (.inl rfl)) (pgs_cons (pg_name (i := 6) sc_ends_are_there.nd rfl (.inl rfl)) (pgs_nil)))))) (pss_cons (ps_asg (pe_partition (pv 3) pe_str) (pg_tupK (n := 3) K rfl (pgs_cons (pg_name (i := 7) sc_ends_are_there.nd rfl (.inl rfl)) (pgs_cons (pg_name (i := 8) sc_ends_are_there.nd rfl (.inl rfl)) (pgs_cons (pg_name (i := 9) sc_ends_are_there.nd rfl (.inl rfl)) (pgs_nil))))))
 (pss_cons (ps_if (PW.pt (pw_and (pt_cmpR op_eq (pv 8) (pe_str) (nomark _)) (pw_and1 (pt_cmpR (op_notInK K) (pv 9) (pe_fldK K (pe_dget (hu_of hr) (pv 2) (pv 7) (fun _ _ => rfl)) rfl) rfl)))) (pss_one (ps_ret (pe_bl))) (pss_nil))
 (pss_cons (ps_asg (pe_partition (pv 4) pe_str) (pg_tupK (n := 3) K rfl (pgs_cons (pg_name (i := 7) sc_ends_are_there.nd rfl (.inl rfl)) (pgs_cons (pg_name (i := 8) sc_ends_are_there.nd rfl (.inl rfl)) (pgs_cons (pg_name (i := 9) sc_ends_are_there.nd rfl (.inl rfl)) (pgs_nil))))))
 (pss_one (ps_if (PW.pt (pw_and (pt_cmpR op_eq (pv 8) (pe_str) (nomark _)) (pw_and1 (pt_cmpR (op_notInK K) (pv 9) (pe_fldK K (pe_dget (hu_of hr) (pv 2) (pv 7) (fun _ _ => rfl)) rfl) rfl)))) (pss_one (ps_ret (pe_bl))) (pss_nil)))))))
 (pss_one (ps_ret (pe_bl))))), fun B ss R h => ?_⟩)
  · obtain ⟨m, sh, rfl, _⟩ := h
    rfl
  · obtain ⟨m, kn, rfl, ok, q⟩ := h
    have b18 : ∀ {n : Nat}, n ≤ 10000 → n ≤ BIG := fun h => Nat.le_trans h (by decide)
    show DS K B _ [.val (MOb.mk m), .out (ownD kn), .no, .no, .no, .no, .no, .no, .no, .no] _
    refine dq_asgI (δ := Dct MOb) (Dct.mk (calledD m kn)) (d_dcDct (fun t : Str × Str => t.1) (fun t => MOb.mk (lookM kn t.2)) (di_seq (d_Uq (d_mcalls MC (d_var rfl)))) ok.len ok.nd fun t ht => ⟨_, _, DG.pair dg_name dg_name, by simp, d_var rfl, d_getDO (n := 1) rfl (d_var rfl) (ok.get t ht)⟩) ?_
    show DS K B _ [.val (MOb.mk m), .out (ownD kn), .val (Dct.mk (calledD m kn)), .no, .no, .no, .no, .no, .no, .no] _
    have lab := ok.lab
    have eq : endsOk m kn = m.l.all fun t => endOk (calledD m kn) DMd.o t.a && endOk (calledD m kn) DMd.i t.b := rfl
    generalize calledD m kn = cd at lab eq
    refine dq_for (xs := m.l) (di_seq (d_Uq (d_mlinks MC (d_var rfl)))) (fun i r => ∃ s3 s4 s5 s6 s7 s8 s9 : Slot, r = [.val (MOb.mk m), .out (ownD kn), .val (Dct.mk cd), s3, s4, s5, s6, s7, s8, s9] ∧ ∀ t ∈ m.l.take i, (endOk cd DMd.o t.a && endOk cd DMd.i t.b) = true) ⟨.no, .no, .no, .no, .no, .no, .no, rfl, fun t ht => by rw [List.take_zero] at ht; cases ht⟩ (fun i t r ht hI => ?_) fun r hI => ?_
    · obtain ⟨s3, s4, s5, s6, s7, s8, s9, rfl, hp⟩ := hI
      have tm := List.mem_of_getElem? ht
      have tk : m.l.take (i + 1) = m.l.take i ++ [t] := by rw [List.take_add_one, ht]; rfl
      obtain ⟨la, ga⟩ := lab t tm t.a (.inl rfl)
      obtain ⟨lb, gb⟩ := lab t tm t.b (.inr rfl)
      have no : endOk cd DMd.o t.a = false ∨ endOk cd DMd.i t.b = false → false = endsOk m kn := fun h => by
        rw [eq]
        symm
        rw [List.all_eq_false]
        exact ⟨t, tm, by rcases h with h | h <;> rw [h] <;> simp⟩
      refine ⟨_, _, DG.quad dg_name dg_name dg_name dg_name, ?_⟩
      show DS K B _ [.val (MOb.mk m), .out (ownD kn), .val (Dct.mk cd), .val t.a, .val t.b, .val t.c, .val t.d, s7, s8, s9] _
      refine dq_asgG (d_partition (d_var rfl) d_str (by decide) (b18 (by omega))) (DG.trip dg_name dg_name dg_name) ?_
      show DS K B _ [.val (MOb.mk m), .out (ownD kn), .val (Dct.mk cd), .val t.a, .val t.b, .val t.c, .val t.d, .val (Txt.partition t.a ".").1, .val (Txt.partition t.a ".").2.1, .val (Txt.partition t.a ".").2.2] _
      refine dq_when (c := decide ((Txt.partition t.a ".").2.1 = dot) && !decide ((Txt.partition t.a ".").2.2 ∈ (lookM cd (Txt.partition t.a ".").1).o)) (dt_and (dt_test (d_eq (d_var rfl) d_str inferInstance inferInstance)) fun hd => dt_test (d_notInS (d_var rfl) (d_Uq (d_moutlets MC (d_getD (α := MOb) (d_var rfl) (d_var rfl) (ga hd)))))) (fun c => ds_retE q d_bl (no (.inl (by unfold endOk; rw [c]; rfl)))) fun c1 => ?_
      refine dq_asgG (d_partition (d_var rfl) d_str (by decide) (b18 (by omega))) (DG.trip dg_name dg_name dg_name) ?_
      show DS K B _ [.val (MOb.mk m), .out (ownD kn), .val (Dct.mk cd), .val t.a, .val t.b, .val t.c, .val t.d, .val (Txt.partition t.b ".").1, .val (Txt.partition t.b ".").2.1, .val (Txt.partition t.b ".").2.2] _
      refine ds_if (c := decide ((Txt.partition t.b ".").2.1 = dot) && !decide ((Txt.partition t.b ".").2.2 ∈ (lookM cd (Txt.partition t.b ".").1).i)) (dt_and (dt_test (d_eq (d_var rfl) d_str inferInstance inferInstance)) fun hd => dt_test (d_notInS (d_var rfl) (d_Uq (d_minlets MC (d_getD (α := MOb) (d_var rfl) (d_var rfl) (gb hd)))))) (fun c => ds_retE q d_bl (no (.inr (by unfold endOk; rw [c]; rfl)))) fun c2 => ds_next ⟨_, _, _, _, _, _, _, rfl, fun u hu => ?_⟩
      rw [tk] at hu
      rcases List.mem_append.mp hu with hu | hu
      · exact hp u hu
      · rw [List.mem_singleton.mp hu]
        unfold endOk
        rw [c1, c2]
        rfl
    · obtain ⟨s3, s4, s5, s6, s7, s8, s9, rfl, hp⟩ := hI
      rw [List.take_length] at hp
      exact ds_retE q d_bl (by rw [eq]; exact (List.all_eq_true.mpr hp).symm)
end
end WW

set_option Elab.async false
set_option linter.all false
set_option maxRecDepth 100000
set_option maxHeartbeats 4000000
namespace WW
open PySem PySem.Spec PyProof.Rows L2
/-! ### what a house asks of what is handed to it -/
section
variable {K : PySem.W.Frag} {B : Addr → Prop} {ρ : List Slot} {te : TE} {o : MOb}
/-- isinstance(m, Module), m a module -/
theorem d_isM (MC : ModC K (He.ga K "Module")) (T : TyC K (He.ga K "Module")) (h : DE K B te ρ o) : DE K B (tCB (rIsi K) (tCons te (tCons (tC (.ref (He.ga K "Module"))) tNil))) ρ true := fun S0 H0 S H σ E Q q =>
  h S0 H0 S H σ E _ fun v S1 H1 e1 ⟨x, dx, v1, v2, v3, v4, v5, z, hx, _⟩ => by
    subst z
    exact ⟨_, _, _, _, true, rfl, .own _, tyx_same e1.i (.base (.ins hx MC.cls T.cl T.ge T.tk T.ob)), T.own, q _ S1 H1 e1 rfl⟩
end
section
variable {P : Program} {w : World} {K : PySem.W.Frag} {mg : Str → Option Value} {base : Heap} {f : Addr} {fd : FuncData}
abbrev dpSeqM := dp1 (fun _ : List MOb => True) (fun _ => true)
theorem ok_is_sequenceM (F : FnP K "is_sequence" s_is_sequence f fd) (m_isinstance : mg "isinstance" = none) (m_list : mg "list" = none) (m_tuple : mg "tuple" = none) : FnOk P w K mg base CX0 1 f fd ["value"] (spT K dpSeqM) := by
  refine okT F sc_is_sequence (fun ss R h => ?_) (fun cdv A outer s H E hr => ⟨_, (pss_one (ps_ret (pe_callB (call_isiTK K) rfl m_isinstance (by decide +kernel) (pa_cons (pv 0) (pa_cons (pe_tup (pa_cons (pe_bltn (v := .ty "list") (u := .type "list") rfl m_list (by decide +kernel) rfl) (pa_cons (pe_bltn (v := .ty "tuple") (u := .type "tuple") rfl m_tuple (by decide +kernel) rfl) (pa_nil)))) (pa_nil)))))), fun B ss R h => ?_⟩)
  · obtain ⟨x, rfl, _⟩ := h
    rfl
  · obtain ⟨v, rfl, _, q⟩ := h
    exact ds_ret (d_isSq (d_var rfl)) q
end
end WW

set_option Elab.async false
set_option linter.all false
set_option maxRecDepth 100000
set_option maxHeartbeats 4000000
namespace WW
open PySem PySem.Spec PyProof.Rows L2
/-! ### enumerate(xs), xs a list -/
section
variable {K : PySem.W.Frag} {B : Addr → Prop} {ρ : List Slot} {te : TE} {α : Type} {e_α : Enc α}
def enumL {α : Type} (xs : List α) : List (Int × α) := xs.zipIdx.map fun p => ((p.2 : Int), p.1)
theorem enumL_at {α : Type} {xs : List α} {i : Nat} {p : Int × α} : (enumL xs)[i]? = some p ↔ ∃ x, xs[i]? = some x ∧ p = ((i : Int), x) := by
  unfold enumL
  rw [List.getElem?_map, List.getElem?_zipIdx]
  cases h : xs[i]? with
  | none => simp
  | some x =>
    simp
    exact ⟨fun h => h.symm, fun h => h.symm⟩
theorem enumL_len {α : Type} {xs : List α} : (enumL xs).length = xs.length := by
  unfold enumL
  rw [List.length_map, List.length_zipIdx]
theorem di_enum {xs : List α} (h : DE K B te ρ (α := L α) xs) : DI K B (iEnum K (tCons te tNil)) ρ (enumL xs) := fun S0 H0 S H σ E R q =>
  h S0 H0 S H σ E _ fun v S1 H1 e1 ⟨hl, p, vs, e, hq, r⟩ => by
    have hh : SqL K S1 p vs := SqL.of hq
    refine ⟨p, vs, by rw [e], Evl.ex_l e1.i hh, q _ S1 H1 e1 fun S2 H2 s2 x2 => have i2 := x2.i; ⟨fun i y hy => ?_, vs, Evl.ex_l (s2.trans i2) hh, by rw [r.length, enumL_len]; exact Nat.le_refl _⟩⟩
    obtain ⟨x, hx, rfl⟩ := enumL_at.mp hy
    obtain ⟨w, h1, h2⟩ := Paired.at r hx
    refine ⟨⟨vs, w, Evl.ex_l (s2.trans i2) hh, h1⟩, fun v H3 hyl => ?_⟩
    obtain ⟨T, x', rfl, hT, rfl, hall⟩ := hyl
    have z := hall vs (Evl.ex_l (s2.trans i2) hh)
    rw [h1] at z
    cases z
    have e4 : Ext B S2 H2 (upd S2 T (.tup [.int (i : Nat), w])) (upd H2 T (.tup [.int (i : Nat), w])) := Ext.new i2 hT
    exact ⟨_, e4, T, _, _, rfl, .inl (.inl upd_same), rfl, Enc.mono (s2.trans e4.s) h2⟩
end
end WW

set_option Elab.async false
set_option linter.all false
set_option maxRecDepth 100000
set_option maxHeartbeats 4000000
namespace WW
open PySem PySem.Spec PyProof.Rows L2
/-! ### the modules of a house, all right -/
def knM (ms : List DMd) : List (Str × MOb) := ms.map fun m => (m.n, MOb.mk m)
theorem knM_get {ms : List DMd} {z : Str} : ((Dct.mk (knM ms)).get z).isSome = decide (z ∈ ms.map (·.n)) := by
  unfold knM Dct.get
  induction ms with
  | nil => rfl
  | cons m r ih =>
    rw [List.map_cons, List.find?_cons]
    by_cases c : m.n = z
    · rw [decide_eq_true c, List.map_cons, decide_eq_true (by rw [c]; exact List.mem_cons_self)]
      rfl
    · rw [decide_eq_false c]
      show (Option.map _ (List.find? _ (List.map _ r))).isSome = _
      rw [ih]
      congr 1
      rw [List.map_cons, List.mem_cons]
      exact propext ⟨.inr, fun h => h.resolve_left (fun e => c e.symm)⟩
structure KnOk (ms : List DMd) : Prop where
  at' : ∀ (i : Nat) (m : DMd), ms[i]? = some m → EndPre m (knM (ms.take i)) ∧ endsOk m (knM (ms.take i)) = true ∧ m.n ∉ (ms.take i).map (·.n) ∧ ∀ t ∈ m.c, t.2 ∈ (ms.take i).map (·.n)
  len : ms.length ≤ 10
section
variable {P : Program} {w : World} {K : PySem.W.Frag} {mg : Str → Option Value} {base : Heap} {f : Addr} {fd : FuncData}
def dpKnown : List Slot → (Slot → Prop) → XPH → Prop := fun ss R X => ∃ ms : List DMd, ss = [.val (α := L MOb) (ms.map MOb.mk)] ∧ KnOk ms ∧ R (.val (Dct.mk (knM ms)))
abbrev s_known_modules : Stmt := top 42
abbrev N_known_modules : List Str := ["modules", "known", "at", "module", "label", "name"]
theorem sc_known_modules : FnScope N_known_modules ["modules"] (defScope s_known_modules) := ⟨rfl, rfl, rfl, by decide +kernel, rfl, by decide +kernel, by decide +kernel⟩

theorem ok_known_modules (F : FnP K "known_modules" s_known_modules f fd) (MC : ModC K (He.ga K "Module")) (T : TyC K (He.ga K "Module")) (m_Module : mg "Module" = some (.ref (He.ga K "Module"))) (m_isinstance : mg "isinstance" = none) (m_all : mg "all" = none) (m_enumerate : mg "enumerate" = none)
    (g_is_sequence : FnAt P w K mg base CX0 1 "is_sequence" ["value"] (spT K dpSeqM)) (g_ends_are_there : FnAt P w K mg base CX0 1 "ends_are_there" ["module", "known"] (spT K dpEnds)) (S_InvalidHouse : SupAt P K mg "InvalidHouse" "at") :
    FnOk P w K mg base (L2.CX P w) 3 f fd ["modules"] (spTXH K dpKnown) := by
  refine okTXH F sc_known_modules (fun ss R X h => ?_) (fun cdv A outer s H E hr => ⟨_, (pss_cons (ps_if (pt_not (pt_val (pe_fn g_is_sequence hr rfl (pa_cons (pv 0) (pa_nil))))) (pss_one (ps_raise rfl (takes_of rfl rfl rfl rfl) (pmk_sup S_InvalidHouse hr rfl pe_int))) (pss_nil))
 (pss_cons (ps_set (i := 1) sc_known_modules.nd rfl (.inr rfl) (pe_dnewK))
 (pss_cons (ps_for (passes_of rfl) rfl (pi_enum rfl m_enumerate (pa_cons (pv 0) (pa_nil))) (pg_tupK (n := 2) K rfl (pgs_cons (pg_name (i := 2) sc_known_modules.nd rfl (.inl rfl)) (pgs_cons (pg_name (i := 3) sc_known_modules.nd rfl (.inl rfl)) (pgs_nil)))) (pss_cons (ps_if (PW.pt (pw_or (pt_not (pt_val (pe_callB (call_isiK1 K) rfl m_isinstance (by decide +kernel) (pa_cons (pv 3) (pa_cons (pe_glob (v := .ref (He.ga K "Module")) rfl m_Module rfl) (pa_nil)))))) (pw_or1 (pt_cmp (pc_din (hu_of hr) (pe_fldK K (pv 3) rfl) (pv 1)))))) (pss_one (ps_raise rfl (takes_of rfl rfl rfl rfl) (pmk_sup S_InvalidHouse hr rfl (pv 2)))) (pss_nil))
 (pss_cons (ps_if (PW.pt (pw_or (pt_not (pt_val (pe_callB (cr_allK K) rfl m_all (by decide +kernel) (pa_cons (pe_lc (own := [("label", 4), ("name", 5)]) rfl sc_known_modules.nd (pi_seqK K (pe_fldK K (pv 3) rfl)) (blkOk_by (N := N_known_modules) (sc := defScope s_known_modules) (by decide +kernel)) (fun _ _ _ _ _ => pg_tupK (n := 2) K rfl (pgs_cons (pg_name (i := 4) sc_known_modules.nd rfl (.inl rfl)) (pgs_cons (pg_name (i := 5) sc_known_modules.nd rfl (.inl rfl)) (pgs_nil)))) (fun _ _ _ _ _ => pts_nil) (fun _ _ _ _ _ => pe_cmp (pc_din (hu_of hr) (pv 5) (pv 1)))) (pa_nil))))) (pw_or1 (pt_not (pt_val (pe_fn g_ends_are_there hr rfl (pa_cons (pv 3) (pa_cons (pv 1) (pa_nil))))))))) (pss_one (ps_raise rfl (takes_of rfl rfl rfl rfl) (pmk_sup S_InvalidHouse hr rfl (pv 2)))) (pss_nil))
 (pss_one (ps_dput (hu_of hr) (pv 1) (pe_fldK K (pv 3) rfl) (pv 3) rfl)))))
 (pss_one (ps_ret (pv 1)))))), fun B ss R X h => ?_⟩)
  · obtain ⟨ms, rfl, _⟩ := h
    rfl
  · obtain ⟨ms, rfl, ok, q⟩ := h
    have ml := ok.len
    have b18 : ∀ {n : Nat}, n ≤ 10000 → n ≤ BIG := fun h => Nat.le_trans h (by decide)
    show DS K B _ [.val (α := L MOb) (ms.map MOb.mk), .no, .no, .no, .no, .no] _
    refine dq_when (c := false) (DT.is (dt_not (dt_B (d_call1 (x := (show List MOb from ms.map MOb.mk)) (d_Lq (d_var rfl)) trivial))) rfl) (fun h => nomatch h) fun _ => ?_
    refine ds_seq (ds_asgOb (P := ownD (knM [])) dob_dct ?_)
    show DS K B _ [.val (α := L MOb) (ms.map MOb.mk), .obj (ownD (knM [])), .no, .no, .no, .no] _
    refine dq_for (xs := enumL (ms.map MOb.mk)) (di_enum (d_var rfl)) (fun i r => ∃ s2 s3 s4 s5 : Slot, r = [.val (α := L MOb) (ms.map MOb.mk), .obj (ownD (knM (ms.take i))), s2, s3, s4, s5]) ⟨.no, .no, .no, .no, rfl⟩ (fun i p r hp hI => ?_) fun r hI => ?_
    · obtain ⟨s2, s3, s4, s5, rfl⟩ := hI
      obtain ⟨x, hx, rfl⟩ := enumL_at.mp hp
      obtain ⟨m, hm, rfl⟩ : ∃ m, ms[i]? = some m ∧ MOb.mk m = x := by
        rw [List.getElem?_map] at hx
        cases hh : ms[i]? with
        | none => rw [hh] at hx; cases hx
        | some m => rw [hh] at hx; cases hx; exact ⟨m, rfl, rfl⟩
      obtain ⟨o1, o2, o3, o4⟩ := ok.at' i m hm
      have il := (List.getElem?_eq_some_iff.mp hm).1
      have tk : ms.take (i + 1) = ms.take i ++ [m] := by rw [List.take_add_one, hm]; rfl
      refine ⟨_, _, DG.pair dg_name dg_name, ?_⟩
      show DS K B _ [.val (α := L MOb) (ms.map MOb.mk), .obj (ownD (knM (ms.take i))), .val (i : Int), .val (MOb.mk m), s4, s5] _
      refine dq_when (c := false) (DT.is (dt_or (dt_not (dt_B (d_isM MC T (d_var rfl)))) fun _ => dt_test (d_inOb (z := m.n) (xs := knM (ms.take i)) (d_mname MC (d_var rfl)) rfl)) (by rw [knM_get, decide_eq_false o3]; rfl)) (fun h => nomatch h) fun _ => ?_
      refine dq_when (c := false) (DT.is (dt_or (dt_not (dt_B (d_all (DO.l (do_map (fun t : Str × Str => ((Dct.mk (knM (ms.take i))).get t.2).isSome) (di_seq (d_Uq (d_mcalls MC (d_var rfl)))) (Nat.le_trans o1.len (by decide)) fun t ht => ⟨_, _, DG.pair dg_name dg_name, by simp, d_inOb (d_var rfl) rfl⟩))))) fun _ => dt_not (dt_B (d_call (da_cons (d_var rfl) (da_own rfl da_nil)) ⟨m, _, rfl, o1, rfl⟩))) ?_) (fun h => nomatch h) fun _ => ?_
      · rw [o2, List.all_map]
        have : (m.c.all (id ∘ fun t : Str × Str => ((Dct.mk (knM (ms.take i))).get t.2).isSome)) = true := List.all_eq_true.mpr fun t ht => by
          show ((Dct.mk (knM (ms.take i))).get t.2).isSome = true
          rw [knM_get]
          exact decide_eq_true (o4 t ht)
        rw [this]
        rfl
      refine ds_dput (n := 1) (xs := knM (ms.take i)) (a := MOb.mk m) rfl (d_var rfl) (d_mname MC (d_var rfl)) ?_ ?_ ⟨.val (i : Int), .val (MOb.mk m), s4, s5, ?_⟩
      · have e : (knM (ms.take i)).map (·.1) = (ms.take i).map (·.n) := by unfold knM; rw [List.map_map]; rfl
        rw [e]
        exact o3
      · unfold knM
        rw [List.length_map, List.length_take]
        omega
      · have e : knM (ms.take (i + 1)) = knM (ms.take i) ++ [(m.n, MOb.mk m)] := by unfold knM; rw [tk, List.map_append]; rfl
        rw [e]
        rfl
    · obtain ⟨s2, s3, s4, s5, rfl⟩ := hI
      rw [enumL_len, List.length_map, List.take_length]
      exact ds_frzD (n := 1) rfl (ds_ret (d_var rfl) q)
end
end WW

set_option Elab.async false
set_option linter.all false
set_option maxRecDepth 100000
set_option maxHeartbeats 4000000
namespace WW
open PySem PySem.Spec PyProof.Rows L2
/-! ### calls of defs that may raise -/
section
variable {X : Cx} {k j : Nat} {x : Str} {ps : List Str} {sp : Sp} {e : Expr} {es : List Expr} {t : TA} {p pos : Pos} {W : WX}
theorem pe_fnX (K : PySem.W.Frag) (F : FnAt X.prog X.w K X.mg X.base (L2.CX X.prog X.w) k x ps sp) (tk : Takes X W) (hr : Room j X.A) (hg : Gl X x) (ha : PA X (e :: es) t) (hk : k ≤ j := by decide) (hK : X.K = K := by rfl)
    (hdb : (x == ("__debug__" : Str)) = false := by decide) (he : starEach (e :: es) X.env = (false, eval e X.env) :: starEach es X.env := by rfl) (hpl : (backTo pos (starEach es X.env)).any (·.1) = false := by rfl) :
    PE X (.Call (.Name x p) (e :: es) [] pos) (tCallS sp (WE W) t) := by
  subst hK
  obtain ⟨fd, F1, b⟩ := F.ex
  exact pe_callS F1 (hr.mono hk) hg F.g F.kp b (fun σ => passAt tk σ) ha hdb he hpl
end
/-- an expression that may raise what px lets -/
def DX {α : Type} [Enc α] (K : PySem.W.Frag) (B : Addr → Prop) (te : TE) (ρ : List Slot) (P : α → Prop) (px : Hp → Hp → Prop) : Prop := ∀ S0 H0 S H σ, En K B S0 H0 S H σ ρ → px S0 H0 → ∀ Q : VK, (∀ v a S' H', P a → Ext B S H S' H' → Enc.rep K S' v a → Q v H') → te σ H Q
def DXW {α : Type} [Enc α] (K : PySem.W.Frag) (B : Addr → Prop) (te : TE) (ρ : List Slot) (P : α → Prop) (X : XPH) (W : WX) : Prop := ∀ S0 H0 S H σ, En K B S0 H0 S H σ ρ → ∀ Q : VK, (∀ v a S' H', P a → Ext B S H S' H' → Enc.rep K S' v a → Q v H') →
  (∀ C fs d S' H', X S' C fs → Ext B S H S' H' → H d = none → H' d = some (.xd fs) → W (.ref C) (some d) σ H') → te σ H Q
section
variable {K : PySem.W.Frag} {B : Addr → Prop} {ρ ρ' : List Slot} {te : TE} {tr t : TA} {ts tz : TS} {α β : Type} {e_α : Enc α} {e_β : Enc β} {P : α → Prop} {px : Hp → Hp → Prop} {Φ : Post} {n : Nat} {ss : List Slot}
theorem DN.x (h : DN K B te ρ P) : DX K B te ρ P px := fun S0 H0 S H σ E _ Q q => h S0 H0 S H σ E Q q
theorem DE.x {a : α} (h : DE K B te ρ a) : DX K B te ρ (fun b => b = a) px := (DE.n h).x
theorem DX.imp {P' : α → Prop} (h : DX K B te ρ P px) (f : ∀ a, P a → P' a) : DX K B te ρ P' px := fun S0 H0 S H σ E x Q q => h S0 H0 S H σ E x Q fun v a S' H' pa => q v a S' H' (f a pa)
theorem DX.conv {P' : β → Prop} (h : DX K B te ρ P px) (f : ∀ a, P a → ∃ b, P' b ∧ ∀ S v, Enc.rep K S v a → Enc.rep K S v b) : DX K B te ρ P' px := fun S0 H0 S H σ E x Q q => h S0 H0 S H σ E x Q fun v a S' H' pa e r => by
  obtain ⟨b, pb, hb⟩ := f a pa
  exact q v b S' H' pb e (hb _ _ r)
theorem ds_asgGX {g : TG} (h : DX K B te ρ P Φ.px) (hg : ∀ a, P a → ∃ ρ' js, DG K B g a ρ ρ' js ∧ Φ.nx ρ') : DS K B (tAsg te g) ρ Φ := fun S0 H0 S H σ D E px n r b c =>
  h S0 H0 S H σ E px _ fun v a S1 H1 pa e1 r1 => by
    obtain ⟨ρ', js, h1, h2⟩ := hg a pa
    exact h1 S0 H0 S1 H1 σ v (E.go e1) r1 _ fun σ' E' _ _ => n ρ' σ' S1 H1 h2 e1.s E'
theorem ds_asgX (h : DX K B te ρ P Φ.px) (k : ∀ a, P a → Φ.nx (ρ.set n (.val a))) : DS K B (tAsg te (gName n)) ρ Φ := ds_asgGX h fun a pa => ⟨_, _, dg_name, k a pa⟩
theorem dq_asgX (h : DX K B te ρ P Φ.px) (k : ∀ a, P a → DS K B tz (ρ.set n (.val a)) Φ) : DS K B (tSeq (tAsg te (gName n)) tz) ρ Φ := ds_seq (ds_asgX h k)
theorem ds_retX (h : DX K B te ρ P Φ.px) (k : ∀ a, P a → Φ.rt (.val a)) : DS K B (tRet te) ρ Φ := fun S0 H0 S H σ D E px n r b c =>
  h S0 H0 S H σ E px _ fun v a S1 H1 pa e1 r1 => r _ v S1 H1 (k a pa) (E.ext.trans e1) r1
theorem ds_dropX (h : DX K B te ρ P Φ.px) (k : Φ.nx ρ) : DS K B (tDrop te) ρ Φ := fun S0 H0 S H σ D E px n r b c =>
  h S0 H0 S H σ E px _ fun v a S1 H1 pa e1 r1 => n ρ σ S1 H1 k e1.s (E.go e1)
/-- a call that may raise, in a def that may raise -/
theorem dx_call {dp : List Slot → (Slot → Prop) → XPH → Prop} {X X' : XPH} {E : XK} (h : DA K B tr ρ ss) (hd : dp ss (fun s => ∃ a, P a ∧ s = .val a) X') (f : ∀ S C fs, X' S C fs → X S C fs) : DX K B (tCallS (spTXH K dp) (WE fun cls d _ H => E cls d H) tr) ρ P (PXH B X E) := fun S0 H0 S H σ En px Q q =>
  h S0 H0 S H σ En _ fun vs S1 H1 e1 r1 => ⟨B, S1, ss, _, X', e1.i, (fun p hp => by
      have := (En.go e1).bx p hp
      exact ⟨this.1, this.2.1⟩), r1, hd, (fun s v S' H' ⟨a, pa, es⟩ e2 ok => by
      subst es
      exact q v a S' H' pa (e1.trans e2) ok), px.sub En.i0 (En.ext.trans e1) f⟩
/-- nothing is raised -/
theorem dn_callX {dp : List Slot → (Slot → Prop) → XPH → Prop} {W : WX} (h : DA K B tr ρ ss) (hd : dp ss (fun s => ∃ a, P a ∧ s = .val a) fun _ _ _ => False) : DN K B (tCallS (spTXH K dp) (WE W) tr) ρ P := fun S0 H0 S H σ En Q q =>
  h S0 H0 S H σ En _ fun vs S1 H1 e1 r1 => ⟨B, S1, ss, _, _, e1.i, (fun p hp => by
      have := (En.go e1).bx p hp
      exact ⟨this.1, this.2.1⟩), r1, hd, (fun s v S' H' ⟨a, pa, es⟩ e2 ok => by
      subst es
      exact q v a S' H' pa (e1.trans e2) ok), fun C fs d S' H' hX => hX.elim⟩
end
/-! ### __init__ by typed slots -/
def PXO (x : Addr) (X : XPH) (E : XK) (S0 H0 : Hp) : Prop := ∀ C fs d S' H', X S' C fs → Off x S0 H0 S' H' → H0 d = none → H' d = some (.xd fs) → E (.ref C) (some d) H'
def spInitT (K : PySem.W.Frag) (C : Addr) (dp : List Slot → (Hp → List (Str × V) → Prop) → XPH → Prop) : Sp := fun vs H Q E => ∃ (S : Hp) (x dx : Addr) (ss : List Slot) (R : Hp → List (Str × V) → Prop) (X : XPH), Same S H ∧ S x = none ∧ H x = some (.ins C dx []) ∧
  ArgsOk K noB H S H vs (.val (V.ref x) :: ss) ∧ (∀ s ∈ ss, s.plain = true) ∧ dp ss R X ∧ PXO x X E S H ∧ (∀ S' H' fs, Off x S H S' H' → H' x = some (.ins C dx fs) → R S' fs → Q .non H')
theorem Off.free {x d : Addr} {S0 H0 S H : Hp} (o : Off x S0 H0 S H) (i : Same S0 H0) (hx : H x ≠ none) (h : H d = none) : H0 d = none := by
  cases q : H0 d with
  | none => rfl
  | some v =>
    have n : d ≠ x := fun z => hx (by rw [← z]; exact h)
    cases r : S0 d with
    | some u =>
      rw [o.i _ _ (o.s _ _ r)] at h
      cases h
    | none =>
      have := (o.p d r (by rw [q]; exact fun z => nomatch z) n).2
      rw [h, q] at this
      cases this
theorem PXO.at' {x : Addr} {X X' : XPH} {E : XK} {S0 H0 S H : Hp} (h : PXO x X E S0 H0) (i : Same S0 H0) (o : Off x S0 H0 S H) (hx : H x ≠ none) (f : ∀ S C fs, X' S C fs → X S C fs) : PXH noB X' E S H := fun C fs d S' H' hX e2 nd hd =>
  h C fs d S' H' (f _ _ _ hX) (o.ext e2 hx) (o.free i hx nd) hd
section
variable {K : PySem.W.Frag} {B : Addr → Prop} {ρ ρ' : List Slot} {te : TE} {tr t : TA} {ts tz : TS} {α β : Type} {e_α : Enc α} {e_β : Enc β} {P : α → Prop} {ss : List Slot}
/-- where an __init__ stands -/
structure Self (K : PySem.W.Frag) (C x dx : Addr) (S0 H0 : Hp) (fs : List (Str × V)) (ρ : List Slot) (S H : Hp) (σ : L2.St) : Prop where
  off : Off x S0 H0 S H
  hx : H x = some (.ins C dx fs)
  en : En K noB S H S H σ ρ
theorem Self.put {C x dx : Addr} {S0 H0 S H S1 H1 : Hp} {fs fs' : List (Str × V)} {σ : L2.St} (st : Self K C x dx S0 H0 fs ρ S H σ) (hv : ∀ s ∈ ρ, s.plain = true) (e : Ext noB S H S1 H1) : H1 x = some (.ins C dx fs) ∧ Self K C x dx S0 H0 fs' ρ S1 (upd H1 x (.ins C dx fs')) σ := by
  have hn : H x ≠ none := by rw [st.hx]; exact fun z => nomatch z
  obtain ⟨p1, p2⟩ := e.p x st.off.x0 hn
  have h1 : H1 x = some (.ins C dx fs) := by
    rcases p2 with z | ⟨z, _⟩
    · rw [z, st.hx]
    · exact z.elim
  have o1 := (st.off.ext e hn).put (u := .ins C dx fs')
  exact ⟨h1, o1, upd_same, (st.en.go e).anew o1.i hv⟩
/-- self.f = e -/
theorem self_fld {C x dx : Addr} {S0 H0 S H : Hp} {fs : List (Str × V)} {σ : L2.St} {f : Str} {D : Ends} {X X' : XPH} {E : XK} (CC : Cls K C) (NA : NoAttr K C f) (st : Self K C x dx S0 H0 fs ρ S H σ) (hv : ∀ s ∈ ρ, s.plain = true) (h0 : ρ[0]? = some (.val (V.ref x))) (i0 : Same S0 H0)
    (px : PXO x X E S0 H0) (few : fs.length < 1000) (sub : ∀ S C fs, X' S C fs → X S C fs) (h : DX K noB te ρ P (PXH noB X' E))
    (k : ∀ a v S' H', P a → Same S S' → Enc.rep K S' v a → Self K C x dx S0 H0 (putF f v fs) ρ S' H' σ → D.nx σ H') : sFld K (tVar 0) te f D σ H := by
  refine h S H S H σ st.en (px.at' i0 st.off (by rw [st.hx]; exact fun z => nomatch z) sub) _ fun v a S1 H1 pa e1 r1 => ?_
  obtain ⟨h1, s2⟩ := st.put (fs' := putF f v fs) hv e1
  obtain ⟨vx, gx, wx⟩ := st.en.val h0
  cases wx
  exact ⟨_, gx, x, C, dx, fs, rfl, h1, CC, NA, few, k a v S1 _ pa e1.s r1 s2⟩
/-- statements of an __init__ that leave self alone -/
theorem self_run {C x dx : Addr} {S0 H0 S H : Hp} {fs : List (Str × V)} {σ : L2.St} {D : Ends} {X X' : XPH} {E : XK} {nx : List Slot → Prop} (st : Self K C x dx S0 H0 fs ρ S H σ) (i0 : Same S0 H0)
    (px : PXO x X E S0 H0) (sub : ∀ S C fs, X' S C fs → X S C fs) (h : DS K noB ts ρ ⟨nx, fun _ => False, fun _ => False, fun _ => False, PXH noB X' E⟩) (hv : ∀ ρ', nx ρ' → ∀ s ∈ ρ', s.plain = true)
    (k : ∀ ρ' σ' S' H', nx ρ' → Same S S' → Self K C x dx S0 H0 fs ρ' S' H' σ' → tz D σ' H') : tSeq ts tz D σ H := by
  have hn : H x ≠ none := by rw [st.hx]; exact fun z => nomatch z
  refine DS.run h st.en (px.at' i0 st.off hn sub) (fun ρ' σ' S1 H1 hn' s1 E1 => ?_) (fun _ h => h) (fun _ h => h) (fun _ h => h)
  have e := E1.ext
  obtain ⟨p1, p2⟩ := e.p x st.off.x0 hn
  have h1 : H1 x = some (.ins C dx fs) := by
    rcases p2 with z | ⟨z, _⟩
    · rw [z, st.hx]
    · exact z.elim
  exact k ρ' σ' S1 H1 hn' s1 ⟨st.off.ext e hn, h1, E1.anew e.i (hv ρ' hn')⟩
/-- C(..), an __init__ of typed slots -/
theorem dxw_make {C : Addr} {dp : List Slot → (Hp → List (Str × V) → Prop) → XPH → Prop} {X' : XPH} {R : Hp → List (Str × V) → Prop} {W : WX} (h : DA K B t ρ ss) (hs : ∀ s ∈ ss, s.plain = true) (hd : dp ss R X')
    (hR : ∀ S fs, R S fs → ∃ a, P a ∧ ∀ S' x dx, Same S S' → S' x = some (.ins C dx fs) → Enc.rep K S' (.ref x) a) : DXW K B (tMakeS C (spInitT K C dp) [] (WE W) t) ρ P X' W := fun S0 H0 S H σ En Q q hE => by
  refine h S0 H0 S H σ En _ ?_
  intro vs S1 H1 e1 r1 x dx nx ndx hn
  have s1 : Same H1 (upd (upd H1 dx (.own x)) x (.ins C dx [])) := (same_new ndx).trans (same_new ((upd_ne (Ne.symm hn)).trans nx))
  have sx : S1 x = none := e1.i.free nx
  have toE : ∀ (S2 H2 : Hp), Off x S1 (upd (upd H1 dx (.own x)) x (.ins C dx [])) S2 H2 → Ext B S1 H1 S2 H2 := fun S2 H2 o => by
    refine ⟨o.s, o.i, fun a h1 h2 => ?_⟩
    have n1 : a ≠ x := fun z => h2 (by rw [z]; exact nx)
    have n2 : a ≠ dx := fun z => h2 (by rw [z]; exact ndx)
    have e : upd (upd H1 dx (.own x)) x (.ins C dx []) a = H1 a := by rw [upd_ne n1, upd_ne n2]
    obtain ⟨q1, q2⟩ := o.p a h1 (by rw [e]; exact h2) n1
    exact ⟨q1, .inl (by rw [q2, e])⟩
  have av : ∀ {vs : List V} {ss : List Slot}, ArgsOk K B H1 S1 H1 vs ss → (∀ s ∈ ss, s.plain = true) → ArgsOk K noB (upd (upd H1 dx (.own x)) x (.ins C dx [])) S1 (upd (upd H1 dx (.own x)) x (.ins C dx [])) vs ss := by
    intro vs ss h
    induction h with
    | nil => exact fun _ => .nil
    | cons h1 h2 _ ih =>
      intro hp
      refine .cons ?_ h2 (ih fun s hs => hp s (List.mem_cons_of_mem _ hs))
      have := hp _ List.mem_cons_self
      rename_i v s vs ss _
      cases s with
      | no => trivial
      | val a => exact h1
      | _ => cases this
  rw [List.append_nil]
  refine ⟨S1, x, dx, ss, R, X', e1.i.trans s1, sx, upd_same, .cons rfl rfl (av r1 hs), hs, hd, fun Cx fs d S2 H2 hX of nd hdd => ?_, fun S2 H2 fs of hxx hF => ⟨rfl, ?_⟩⟩
  · have n1 : d ≠ x := fun z => by rw [z, upd_same] at nd; cases nd
    rw [upd_ne n1] at nd
    have n2 : d ≠ dx := fun z => by rw [z, upd_same] at nd; cases nd
    rw [upd_ne n2] at nd
    exact hE Cx fs d S2 H2 hX (e1.trans (toE S2 H2 of)) (e1.free En.i nd) hdd
  · have ee := toE S2 H2 of
    have fz := ee.frz (p := x) nx e1.i hxx of.x0
    have up : Same S2 (upd S2 x (.ins C dx fs)) := same_new of.x0
    obtain ⟨a, pa, ha⟩ := hR S2 fs hF
    exact q _ a _ H2 pa (e1.trans fz) (ha _ x dx up upd_same)
theorem dx_make {C : Addr} {dp : List Slot → (Hp → List (Str × V) → Prop) → XPH → Prop} {X' : XPH} {R : Hp → List (Str × V) → Prop} {W : WX} {px : Hp → Hp → Prop} (h : DA K B t ρ ss) (hs : ∀ s ∈ ss, s.plain = true) (hd : dp ss R X')
    (hR : ∀ S fs, R S fs → ∃ a, P a ∧ ∀ S' x dx, Same S S' → S' x = some (.ins C dx fs) → Enc.rep K S' (.ref x) a)
    (hE : ∀ S0 H0 σ, px S0 H0 → Same S0 H0 → PXH B X' (WE W σ) S0 H0) : DX K B (tMakeS C (spInitT K C dp) [] (WE W) t) ρ P px := fun S0 H0 S H σ En pe Q q =>
  dxw_make h hs hd hR S0 H0 S H σ En Q q fun Cx fs d S' H' hX e nd hdd => hE S0 H0 σ pe En.i0 Cx fs d S' H' hX (En.ext.trans e) (En.ext.free En.i0 nd) hdd
/-- nothing is raised -/
theorem dn_make {C : Addr} {dp : List Slot → (Hp → List (Str × V) → Prop) → XPH → Prop} {R : Hp → List (Str × V) → Prop} {W : WX} (h : DA K B t ρ ss) (hs : ∀ s ∈ ss, s.plain = true) (hd : dp ss R fun _ _ _ => False)
    (hR : ∀ S fs, R S fs → ∃ a, P a ∧ ∀ S' x dx, Same S S' → S' x = some (.ins C dx fs) → Enc.rep K S' (.ref x) a) : DN K B (tMakeS C (spInitT K C dp) [] (WE W) t) ρ P := fun S0 H0 S H σ En Q q =>
  dx_make (px := fun _ _ => True) h hs hd hR (fun _ _ _ _ _ _ _ _ _ _ hX => hX.elim) S0 H0 S H σ En trivial Q q
/-- in a def that may raise -/
theorem dx_makeX {C : Addr} {dp : List Slot → (Hp → List (Str × V) → Prop) → XPH → Prop} {X X' : XPH} {E : XK} {R : Hp → List (Str × V) → Prop} (h : DA K B t ρ ss) (hs : ∀ s ∈ ss, s.plain = true) (hd : dp ss R X') (f : ∀ S C fs, X' S C fs → X S C fs)
    (hR : ∀ S fs, R S fs → ∃ a, P a ∧ ∀ S' x dx, Same S S' → S' x = some (.ins C dx fs) → Enc.rep K S' (.ref x) a) : DX K B (tMakeS C (spInitT K C dp) [] (WE fun cls d _ H => E cls d H) t) ρ P (PXH B X E) :=
  dx_make h hs hd hR fun _ _ _ px i => px.sub i (Ext.refl i) f
end
end WW

set_option Elab.async false
set_option linter.all false
set_option maxRecDepth 100000
set_option maxHeartbeats 4000000
namespace WW
open PySem PySem.Spec PyProof.Rows L2
/-! ### methods that may raise -/
def tMethX (C : Addr) (m : Str) (sp : Sp) (E : L2.St → XK) (ta : TE) (t : TA) : TE := fun σ H Q => ta σ H fun x H1 => ∃ a dx fs, x = .ref a ∧ H1 a = some (.ins C dx fs) ∧ fs.lookup m = none ∧ t σ H1 fun vs H2 => sp (x :: vs) H2 Q (E σ)
section
variable {X : Cx} {k j : Nat} {C : Addr} {m : Str} {ps : List Str} {sp : Sp} {o e : Expr} {es : List Expr} {ta : TE} {t : TA} {apos pos : Pos} {W : WX}
theorem pe_mthX (K : PySem.W.Frag) {pl : Sem Bool} (c : Cls K C) (F : MthAt X.prog X.w K X.mg X.base (L2.CX X.prog X.w) k C m ps sp) (tk : Takes X W) (hr : Room j X.A) (ho : PE X o ta) (ha : PA X (e :: es) t) (hk : k ≤ j := by decide) (hK : X.K = K := by rfl)
    (hst : starEach (e :: es) X.env = (false, eval e X.env) :: starEach es X.env := by rfl) (hpl : (backTo pos (starEach es X.env)).any (·.1) = false := by rfl)
    (ht : eval (.Call (.Attribute o m apos) (e :: es) [] pos) X.env = (do let ov ← eval o X.env; standAt apos.atName; let (f, first) ← holding [ov] (getMethod ov m pl); callWith pos f first (backTo pos (starEach (e :: es) X.env)) (backToKw pos (keywordEach [] X.env))) := by rfl) : PE X (.Call (.Attribute o m apos) (e :: es) [] pos) (tMethX C m sp (WE W) ta t) := by
  subst hK
  obtain ⟨f, fd, M, F1, b⟩ := F.ex
  refine ⟨fun pins s σ H Q I h => ?_⟩
  refine PySem.W.methodCall_KW (pl := pl) (thn (ho.run pins s σ H _ I h) fun u s1 ⟨x, H1, I1, rx, a, dx, fs, ex, ea, l, q⟩ => ?_) ht
  subst ex
  obtain rfl : u = Value.ref a := rx
  refine getmeth_ok I1 ea c M l ?_
  refine PySem.W.callWith_K (first := [.ref a]) (h₀ := X.base) I.ok.mod.kin M.kp (thn (ha.run pos pins s1 σ H1 _ I1 q) fun us s2 ⟨vs, H2, I2, r, q2⟩ => ⟨I2.kIn, ?_⟩) hst hpl
  exact run_fnS (us := .ref a :: us) (vs := .ref a :: vs) F1 (hr.mono hk) b (passAt tk σ) I2 (.cons rfl r) q2
end
section
variable {K : PySem.W.Frag} {B : Addr → Prop} {ρ ρ' : List Slot} {te td : TE} {tr t : TA} {ts tz : TS} {α β : Type} {e_α : Enc α} {e_β : Enc β} {P : α → Prop} {px : Hp → Hp → Prop} {Φ : Post} {n : Nat} {ss : List Slot} {b : β} {z : Str}
theorem dx_meth [o : OfCls β] {m : Str} {dp : List Slot → (Slot → Prop) → XPH → Prop} {X X' : XPH} {E : XK} (ho : DE K B te ρ b) (h : DA K B tr ρ ss) (hd : dp (.val b :: ss) (fun s => ∃ a, P a ∧ s = .val a) X') (f : ∀ S C fs, X' S C fs → X S C fs) (hm : m ∉ o.fl) : DX K B (tMethX (He.ga K o.cn) m (spTXH K dp) (WE fun cls d _ H => E cls d H) te tr) ρ P (PXH B X E) := fun S0 H0 S H σ En px Q q =>
  ho S0 H0 S H σ En _ fun v S1 H1 e1 r1 => by
    obtain ⟨x, dx, fs, rfl, hx, hfl⟩ := OfCls.is r1
    refine ⟨x, dx, fs, rfl, e1.i _ _ hx, look_none (by rw [hfl]; exact hm), ?_⟩
    refine h S0 H0 S1 H1 σ (En.go e1) _ fun vs S2 H2 e2 r2 => ⟨B, S2, .val b :: ss, _, X', e2.i, (fun p hp => by
      have := ((En.go e1).go e2).bx p hp
      exact ⟨this.1, this.2.1⟩), .cons (Enc.mono e2.s r1) rfl r2, hd, (fun s v S' H' ⟨a, pa, es⟩ e3 ok => by
      subst es
      exact q v a S' H' pa ((e1.trans e2).trans e3) ok), px.sub En.i0 ((En.ext.trans e1).trans e2) f⟩
theorem dn_methX [o : OfCls β] {m : Str} {dp : List Slot → (Slot → Prop) → XPH → Prop} {W : WX} (ho : DE K B te ρ b) (h : DA K B tr ρ ss) (hd : dp (.val b :: ss) (fun s => ∃ a, P a ∧ s = .val a) fun _ _ _ => False) (hm : m ∉ o.fl) : DN K B (tMethX (He.ga K o.cn) m (spTXH K dp) (WE W) te tr) ρ P := fun S0 H0 S H σ En Q q =>
  ho S0 H0 S H σ En _ fun v S1 H1 e1 r1 => by
    obtain ⟨x, dx, fs, rfl, hx, hfl⟩ := OfCls.is r1
    refine ⟨x, dx, fs, rfl, e1.i _ _ hx, look_none (by rw [hfl]; exact hm), ?_⟩
    refine h S0 H0 S1 H1 σ (En.go e1) _ fun vs S2 H2 e2 r2 => ⟨B, S2, .val b :: ss, _, _, e2.i, (fun p hp => by
      have := ((En.go e1).go e2).bx p hp
      exact ⟨this.1, this.2.1⟩), .cons (Enc.mono e2.s r1) rfl r2, hd, (fun s v S' H' ⟨a, pa, es⟩ e3 ok => by
      subst es
      exact q v a S' H' pa ((e1.trans e2).trans e3) ok), fun C fs d S' H' hX => hX.elim⟩
/-- z in d -/
theorem d_inD {d : Dct β} (h1 : DE K B te ρ z) (h2 : DE K B td ρ d) : DE K B (tDIn te td) ρ ((d.get z).isSome) := fun S0 H0 S H σ E Q q =>
  h1 S0 H0 S H σ E _ fun v S1 H1 e1 r1 => h2 S0 H0 S1 H1 σ (E.go e1) _ fun w S2 H2 e2 ⟨hl, p, kvs, e, hq, rr⟩ => by
    cases r1
    refine ⟨p, valV kvs (Sum.inr z), e, DGet.k (k := Sum.inr z) (e2.i _ _ hq), ?_⟩
    have ee := valV_is (z := z) rr
    rw [ee]
    exact q _ S2 H2 (e1.trans e2) rfl
end
end WW

set_option Elab.async false
set_option linter.all false
set_option maxRecDepth 100000
set_option maxHeartbeats 4000000
namespace WW
open PySem PySem.Spec PyProof.Rows L2
/-! ### houses as objects -/
structure HOb where
  ms : List DMd
def HouF (K : PySem.W.Frag) (S : Hp) (fs : List (Str × V)) (ms : List DMd) : Prop := ∃ v1 v2 v3, fs = ([("known", v1), ("modules", v2), ("shapes", v3)] : List (Str × V)) ∧ Enc.rep K S v1 (Dct.mk (knM ms)) ∧ Enc.rep K S v2 (show U MOb from ms.map MOb.mk) ∧ Enc.rep K S v3 (Dct.mk (shS ms))
instance : Enc HOb where
  rep K S v o := ∃ x dx v1 v2 v3, v = .ref x ∧ S x = some (.ins (He.ga K "House") dx [("known", v1), ("modules", v2), ("shapes", v3)]) ∧ Enc.rep K S v1 (Dct.mk (knM o.ms)) ∧ Enc.rep K S v2 (show U MOb from o.ms.map MOb.mk) ∧ Enc.rep K S v3 (Dct.mk (shS o.ms))
  mono e h := by
    obtain ⟨x, dx, v1, v2, v3, z, hx, h1, h2, h3⟩ := h
    exact ⟨x, dx, v1, v2, v3, z, e _ _ hx, Enc.mono e h1, Enc.mono e h2, Enc.mono e h3⟩
instance : OfCls HOb where
  cn := "House"
  fl := ["known", "modules", "shapes"]
  is h := by
    obtain ⟨x, dx, _, _, _, rfl, hx, _⟩ := h
    exact ⟨x, dx, _, rfl, hx, rfl⟩
structure HouC (K : PySem.W.Frag) (C : Addr) : Prop where
  cls : Cls K C
  kn : PySem.W.findIn K (.ref C) "known" = some none
  mo : PySem.W.findIn K (.ref C) "modules" = some none
  sh : PySem.W.findIn K (.ref C) "shapes" = some none
section
variable {K : PySem.W.Frag} {B : Addr → Prop} {ρ : List Slot} {te : TE} {o : HOb}
theorem d_hknown (HC : HouC K (He.ga K "House")) (h : DE K B te ρ o) : DE K B (tFld K te "known") ρ (Dct.mk (knM o.ms)) := fun S0 H0 S H σ E Q q =>
  h S0 H0 S H σ E _ fun v S1 H1 e1 ⟨x, dx, v1, v2, v3, z, hx, h1, h2, h3⟩ => by
    subst z
    exact ⟨x, _, dx, _, v1, rfl, e1.i _ _ hx, HC.cls, HC.kn, rfl, q _ S1 H1 e1 h1⟩
theorem d_hmodules (HC : HouC K (He.ga K "House")) (h : DE K B te ρ o) : DE K B (tFld K te "modules") ρ (α := U MOb) (o.ms.map MOb.mk) := fun S0 H0 S H σ E Q q =>
  h S0 H0 S H σ E _ fun v S1 H1 e1 ⟨x, dx, v1, v2, v3, z, hx, h1, h2, h3⟩ => by
    subst z
    exact ⟨x, _, dx, _, v2, rfl, e1.i _ _ hx, HC.cls, HC.mo, rfl, q _ S1 H1 e1 h2⟩
theorem d_hshapes (HC : HouC K (He.ga K "House")) (h : DE K B te ρ o) : DE K B (tFld K te "shapes") ρ (Dct.mk (shS o.ms)) := fun S0 H0 S H σ E Q q =>
  h S0 H0 S H σ E _ fun v S1 H1 e1 ⟨x, dx, v1, v2, v3, z, hx, h1, h2, h3⟩ => by
    subst z
    exact ⟨x, _, dx, _, v3, rfl, e1.i _ _ hx, HC.cls, HC.sh, rfl, q _ S1 H1 e1 h3⟩
end
def AllGo (ms : List DMd) : Prop := ∀ i m, ms[i]? = some m → NoRing m (shS (ms.take i))
/-- X lets the rings of some modules -/
def HouX (K : PySem.W.Frag) (ms : List DMd) (X : XPH) : Prop := ∀ i m rg, ms[i]? = some m → (∀ j m', j < i → ms[j]? = some m' → NoRing m' (shS (ms.take j))) → IsRing (srt ltL (lkOf m (shS (ms.take i)))) rg → (∀ z ∈ rg, z ∈ srt ltS (plOf m (shS (ms.take i)))) → ∀ S C fs, ringX K rg S C fs → X S C fs
def dpHouI (K : PySem.W.Frag) : List Slot → (Hp → List (Str × V) → Prop) → XPH → Prop := fun ss R X => ∃ ms : List DMd, ss = [.val (α := L MOb) (ms.map MOb.mk)] ∧ KnOk ms ∧ ShsOk ms ∧ (AllGo ms → ∀ S fs, HouF K S fs ms → R S fs) ∧ HouX K ms X
section
variable {P : Program} {w : World} {K : PySem.W.Frag} {mg : Str → Option Value} {base : Heap} {f : Addr} {fd : FuncData}
abbrev s_House___init__ : Stmt := inClass (top 44) 0
abbrev N_House___init__ : List Str := ["self", "modules"]
theorem sc_House___init__ : FnScope N_House___init__ ["self", "modules"] (defScope s_House___init__) := ⟨rfl, rfl, rfl, by decide +kernel, rfl, by decide +kernel, by decide +kernel⟩

theorem ok_Hou_init {C : Addr} {dvs : List V} (F : FunD K "__init__" "House.__init__" (defArgs s_House___init__) (defBody s_House___init__) (defScope s_House___init__) dvs [] f fd) (HC : HouC K C) (m_tuple : mg "tuple" = none)
    (g_known_modules : FnAt P w K mg base (L2.CX P w) 3 "known_modules" ["modules"] (spTXH K dpKnown)) (g_known_shapes : FnAt P w K mg base (L2.CX P w) 3 "known_shapes" ["modules"] (spTXH K (dpKnS K))) :
    FnOk P w K mg base (L2.CX P w) 4 f fd ["self", "modules"] (spInitT K C (dpHouI K)) := by
  refine F.ok sc_House___init__ (fun vs H Q E h => ?_) (fun cdv A outer s H vs Q E hr h => ?_)
  · obtain ⟨S, x, dx, ss, R, X, _, _, _, ha, _, ⟨ms, rfl, _⟩, _⟩ := h
    rw [ha.length]
    rfl
  · obtain ⟨S, x, dx, ss, R, X, si, sx, hx, ha, hp, ⟨ms, rfl, ok1, ok2, hR, hX⟩, px, q⟩ := h
    refine ⟨_, (pss_cons (ps_fld (pv 0) (pe_fnX K g_known_modules (takes_of rfl rfl rfl rfl) hr rfl (pa_cons (pv 1) (pa_nil))) rfl)
 (pss_cons (ps_fld (pv 0) (pe_callTy (call_tupleK K) rfl m_tuple (by decide +kernel) (pa_cons (pv 1) (pa_nil))) rfl)
 (pss_one (ps_fld (pv 0) (pe_fnX K g_known_shapes (takes_of rfl rfl rfl rfl) hr rfl (pa_cons (pv 1) (pa_nil))) rfl)))), ?_⟩
    have E0 := start_en (N := N_House___init__) si (fun p hp => hp.elim) ha
    have E0 : En K noB S H S H _ [.val (V.ref x), .val (α := L MOb) (ms.map MOb.mk)] := E0
    generalize L2.start _ vs = σ0 at E0 ⊢
    have hv : ∀ s ∈ ([.val (V.ref x), .val (α := L MOb) (ms.map MOb.mk)] : List Slot), s.plain = true := by simp [Slot.plain]
    have st0 : Self K C x dx S H [] [.val (V.ref x), .val (α := L MOb) (ms.map MOb.mk)] S H σ0 := ⟨Off.refl si sx, hx, E0⟩
    refine self_fld (P := fun d => d = Dct.mk (knM ms)) HC.cls HC.kn st0 hv rfl si px (by decide) (X' := fun _ _ _ => False) (fun _ _ _ h => h.elim) (dx_call (da_cons (d_var rfl) da_nil) ⟨ms, rfl, ok1, _, rfl, rfl⟩ fun _ _ _ h => h) fun d1 v1 S1 H1 pd s1 r1 st1 => ?_
    subst pd
    refine self_fld (α := U MOb) (P := fun d => d = ms.map MOb.mk) HC.cls HC.mo st1 hv rfl si px (by show 1 < 1000; decide) (X' := fun _ _ _ => False) (fun _ _ _ h => h.elim) (DE.x (d_tuple (d_Lq (d_var rfl)))) fun d2 v2 S2 H2 pd s2 r2 st2 => ?_
    subst pd
    refine self_fld (P := fun d => AllGo ms ∧ d = Dct.mk (shS ms)) HC.cls HC.sh st2 hv rfl si px (by show 2 < 1000; decide) (X' := X) (fun _ _ _ h => h) (dx_call (da_cons (α := List MOb) (d_Lq (d_var rfl)) da_nil) ⟨ms, rfl, ok2, fun hg => ⟨_, ⟨hg, rfl⟩, rfl⟩, hX⟩ fun _ _ _ h => h) fun d3 v3 S3 H3 pd s3 r3 st3 => ?_
    obtain ⟨hg, rfl⟩ := pd
    exact q S3 _ _ st3.off st3.hx (hR hg _ _ ⟨v1, v2, v3, rfl, Enc.mono (s2.trans s3) r1, Enc.mono s3 r2, r3⟩)
end
section
variable {K : PySem.W.Frag} {B : Addr → Prop} {ρ : List Slot} {t : TA} {ms : List DMd}
/-- House(..) in a def that may raise -/
theorem dx_house {X : XPH} {E : XK} (h : DA K B t ρ [.val (α := L MOb) (ms.map MOb.mk)]) (ok1 : KnOk ms) (ok2 : ShsOk ms) (hX : HouX K ms X) : DX K B (tMakeS (He.ga K "House") (spInitT K (He.ga K "House") (dpHouI K)) [] (WE fun cls d _ H => E cls d H) t) ρ (fun o : HOb => AllGo ms ∧ o = HOb.mk ms) (PXH B X E) :=
  dx_makeX (R := fun S fs => AllGo ms ∧ HouF K S fs ms) h (by simp [Slot.plain]) ⟨ms, rfl, ok1, ok2, fun hg S fs h => ⟨hg, h⟩, hX⟩ (fun _ _ _ h => h) fun S fs ⟨hg, v1, v2, v3, e, r1, r2, r3⟩ => ⟨HOb.mk ms, ⟨hg, rfl⟩, fun S' x dx sm hx => ⟨x, dx, v1, v2, v3, rfl, by rw [hx, e], Enc.mono sm r1, Enc.mono sm r2, Enc.mono sm r3⟩⟩
/-- nothing is a ring -/
theorem d_house {W : WX} (h : DA K B t ρ [.val (α := L MOb) (ms.map MOb.mk)]) (ok1 : KnOk ms) (ok2 : ShsOk ms) (hg : AllGo ms) (hX : HouX K ms fun _ _ _ => False) : DE K B (tMakeS (He.ga K "House") (spInitT K (He.ga K "House") (dpHouI K)) [] (WE W) t) ρ (HOb.mk ms) :=
  DN.e (dn_make (R := fun S fs => HouF K S fs ms) h (by simp [Slot.plain]) ⟨ms, rfl, ok1, ok2, fun _ S fs h => h, hX⟩ fun S fs ⟨v1, v2, v3, e, r1, r2, r3⟩ => ⟨HOb.mk ms, rfl, fun S' x dx sm hx => ⟨x, dx, v1, v2, v3, rfl, by rw [hx, e], Enc.mono sm r1, Enc.mono sm r2, Enc.mono sm r3⟩⟩)
end
/-- a module put in the place of the one with its name -/
def putM (ms : List DMd) (m : DMd) : List DMd := ms.map fun o => if o.n = m.n then m else o
section
variable {P : Program} {w : World} {K : PySem.W.Frag} {mg : Str → Option Value} {base : Heap} {f : Addr} {fd : FuncData}
def dpWith (K : PySem.W.Frag) : List Slot → (Slot → Prop) → XPH → Prop := fun ss R X => ∃ (ms : List DMd) (m : DMd), ss = [.val (HOb.mk ms), .val (MOb.mk m)] ∧ m.n ∈ ms.map (·.n) ∧ ms.length ≤ 10 ∧ KnOk (putM ms m) ∧ ShsOk (putM ms m) ∧ (AllGo (putM ms m) → R (.val (HOb.mk (putM ms m)))) ∧ HouX K (putM ms m) X
abbrev s_House_with_module : Stmt := inClass (top 44) 3
abbrev N_House_with_module : List Str := ["self", "module", "one"]
theorem sc_House_with_module : FnScope N_House_with_module ["self", "module"] (defScope s_House_with_module) := ⟨rfl, rfl, rfl, by decide +kernel, rfl, by decide +kernel, by decide +kernel⟩

theorem ok_with {m : Str} (F : FunD K "with_module" "House.with_module" (defArgs s_House_with_module) (defBody s_House_with_module) (defScope s_House_with_module) [] [] f fd) (HC : HouC K (He.ga K "House")) (MC : ModC K (He.ga K "Module")) (T : TyC K (He.ga K "Module")) (m_Module : mg "Module" = some (.ref (He.ga K "Module"))) (m_isinstance : mg "isinstance" = none)
    (gX_House : MkAtX P w K mg base 4 "House" ["self", "modules"] (spInitT K (He.ga K "House") (dpHouI K)) []) :
    FnOk P w K mg base (L2.CX P w) 6 f fd ["self", "module"] (spTXH K (dpWith K)) := by
  refine okTXH F sc_House_with_module (fun ss R X h => ?_) (fun cdv A outer s H E hr => ⟨_, (pss_cons (ps_if (PW.pt (pw_and (pt_val (pe_callB (call_isiK1 K) rfl m_isinstance (by decide +kernel) (pa_cons (pv 1) (pa_cons (pe_glob (v := .ref (He.ga K "Module")) rfl m_Module rfl) (pa_nil))))) (pw_and1 (pt_cmp (pc_din (hu_of hr) (pe_fldK K (pv 1) rfl) (pe_fldK K (pv 0) rfl)))))) (pss_one (ps_ret (pe_mkrX (x := "House") K gX_House (takes_of rfl rfl rfl rfl) hr rfl (pa_cons (pe_lc (own := [("one", 2)]) rfl sc_House_with_module.nd (pi_seqK K (pe_fldK K (pv 0) rfl)) (blkOk_by (N := N_House_with_module) (sc := defScope s_House_with_module) (by decide +kernel)) (fun _ _ _ _ _ => pg_name (i := 2) sc_House_with_module.nd rfl (.inl rfl)) (fun _ _ _ _ _ => pts_nil) (fun _ _ _ _ _ => pe_ifExp (pt_cmpR op_eq (pe_fldK K (pv 2) rfl) (pe_fldK K (pv 1) rfl) (nomark _)) (pv 1) (pv 2))) (pa_nil))))) (pss_nil))
 (pss_one (ps_ret (pe_mkrX (x := "House") K gX_House (takes_of rfl rfl rfl rfl) hr rfl (pa_cons (pe_lst (pa_starK K (pe_fldK K (pv 0) rfl) (pa_cons (pv 1) (pa_nil)))) (pa_nil)))))), fun B ss R X h => ?_⟩)
  · obtain ⟨ms, m, rfl, _⟩ := h
    rfl
  · obtain ⟨ms, m, rfl, hm, hl, ok1, ok2, q, qx⟩ := h
    have b18 : ∀ {n : Nat}, n ≤ 10000 → n ≤ BIG := fun h => Nat.le_trans h (by decide)
    show DS K B _ [.val (HOb.mk ms), .val (MOb.mk m), .no] _
    refine dq_when (c := true) (DT.is (dt_and (dt_B (d_isM MC T (d_var rfl))) fun _ => dt_test (d_inD (z := m.n) (d_mname MC (d_var rfl)) (d_hknown HC (d_var rfl)))) (by
      show (true && ((Dct.mk (knM ms)).get m.n).isSome) = true
      rw [knM_get, decide_eq_true hm]
      rfl)) (fun _ => ?_) (fun h => nomatch h)
    refine ds_retX (P := fun o : HOb => AllGo (putM ms m) ∧ o = HOb.mk (putM ms m)) (dx_house (da_cons (α := L MOb) (DE.is (DO.l (do_map (fun o : MOb => MOb.mk (if o.m.n = m.n then m else o.m)) (di_seq (d_Uq (d_hmodules HC (d_var rfl)))) (by show (ms.map MOb.mk).length ≤ BIG; rw [List.length_map]; exact b18 (Nat.le_trans hl (by decide))) fun o ho => ⟨_, _, dg_name, by simp, ?_⟩)) ?_) da_nil) ok1 ok2 qx) fun o ho => by rw [ho.2]; exact q ho.1
    · refine (d_if (α := MOb) (dt_test (d_eq (d_mname MC (d_var rfl)) (d_mname MC (d_var rfl)) inferInstance inferInstance)) (fun _ => d_var rfl) (fun _ => d_var rfl)).is ?_
      by_cases c : o.m.n = m.n
      · rw [decide_eq_true c, if_pos rfl, if_pos c]
      · rw [decide_eq_false c, if_neg (by decide), if_neg c]
    · show List.map _ (ms.map MOb.mk) = (putM ms m).map MOb.mk
      unfold putM
      rw [List.map_map, List.map_map]
      rfl
end
end WW

set_option Elab.async false
set_option linter.all false
set_option maxRecDepth 100000
set_option maxHeartbeats 4000000
namespace WW
open PySem PySem.Spec PyProof.Rows L2
/-! ### try with named clauses, typed -/
/-- a handled exception, at a, its own dict at d: one field or none -/
structure ExcV (β : Type) where
  a : Addr
  d : Addr
  nm : Str
  x : β
def FldR {β : Type} [Enc β] (K : PySem.W.Frag) (S : Hp) (fs : List (Str × V)) (nm : Str) (x : β) : Prop := ∃ v, fs = [(nm, v)] ∧ Enc.rep K S v x
instance {β : Type} [Enc β] : Enc (ExcV β) where
  rep K S v e := v = .ref e.a ∧ ∃ fs, S e.d = some (.xd fs) ∧ FldR K S fs e.nm e.x
  mono e h := by
    obtain ⟨h1, fs, h2, v, h3, h4⟩ := h
    exact ⟨h1, fs, e _ _ h2, v, h3, Enc.mono e h4⟩
abbrev XSt := List Slot → XPH
def DSW (K : PySem.W.Frag) (B : Addr → Prop) (ts : TS) (ρ : List Slot) (Φ : Post) (X : XSt) (W : WX) : Prop := ∀ S0 H0 S H σ (D : Ends), En K B S0 H0 S H σ ρ → Φ.px S0 H0 →
  (∀ ρ' C fs d σ' S1 H1 S' H', X ρ' S' C fs → Same S S1 → En K B S0 H0 S1 H1 σ' ρ' → Ext B S1 H1 S' H' → H1 d = none → H' d = some (.xd fs) → W (.ref C) (some d) σ' H') →
  (∀ ρ' σ' S' H', Φ.nx ρ' → Same S S' → En K B S0 H0 S' H' σ' ρ' → D.nx σ' H') → (∀ s v S' H', Φ.rt s → Ext B S0 H0 S' H' → SlotOk K B H0 S' H' (some v) s → D.rt v H') →
  (∀ ρ' σ' S' H', Φ.bk ρ' → Same S S' → En K B S0 H0 S' H' σ' ρ' → D.bk σ' H') → (∀ ρ' σ' S' H', Φ.ct ρ' → Same S S' → En K B S0 H0 S' H' σ' ρ' → D.ct σ' H') → ts D σ H
def setNo (o : Option Nat) (r : List Slot) : List Slot := match o with
  | none => r
  | some i => r.set i .no
/-- which clause takes an exception of class C -/
def Pick (K : PySem.W.Frag) (C : Addr) : List (Value × Option Nat × Sui) → Option Nat × Sui → Prop
  | [], _ => False
  | (c, o, ts) :: r, p => ∃ b, PySem.W.exmOne K (.ref C) c = some b ∧ (b = true → p = (o, ts)) ∧ (b = false → Pick K C r p)
section
variable {K : PySem.W.Frag} {B : Addr → Prop} {ρ ρ' : List Slot} {te td : TE} {tr t : TA} {ts tz : TS} {α β : Type} {e_α : Enc α} {e_β : Enc β} {P : α → Prop} {X X' : XPH} {Xs : XSt} {W : WX} {Φ : Post} {n : Nat} {ss : List Slot} {b : β} {z : Str}
theorem DN.xw (h : DN K B te ρ P) : DXW K B te ρ P X W := fun S0 H0 S H σ E Q q _ => h S0 H0 S H σ E Q q
theorem DXW.conv {P' : β → Prop} (h : DXW K B te ρ P X W) (f : ∀ a, P a → ∃ b, P' b ∧ ∀ S v, Enc.rep K S v a → Enc.rep K S v b) : DXW K B te ρ P' X W := fun S0 H0 S H σ E Q q x => h S0 H0 S H σ E Q (fun v a S' H' pa e r => by
  obtain ⟨b, pb, hb⟩ := f a pa
  exact q v b S' H' pb e (hb _ _ r)) x
theorem DXW.imp {P' : α → Prop} (h : DXW K B te ρ P X W) (f : ∀ a, P a → P' a) : DXW K B te ρ P' X W := h.conv fun a pa => ⟨a, f a pa, fun _ _ r => r⟩
theorem dxw_call {dp : List Slot → (Slot → Prop) → XPH → Prop} (h : DA K B tr ρ ss) (hd : dp ss (fun s => ∃ a, P a ∧ s = .val a) X) : DXW K B (tCallS (spTXH K dp) (WE W) tr) ρ P X W := fun S0 H0 S H σ En Q q x =>
  h S0 H0 S H σ En _ fun vs S1 H1 e1 r1 => ⟨B, S1, ss, _, X, e1.i, (fun p hp => by
      have := (En.go e1).bx p hp
      exact ⟨this.1, this.2.1⟩), r1, hd, (fun s v S' H' ⟨a, pa, es⟩ e2 ok => by
      subst es
      exact q v a S' H' pa (e1.trans e2) ok), fun C fs d S' H' hX e2 nd hd' => x C fs d S' H' hX (e1.trans e2) (e1.free En.i nd) hd'⟩
theorem dxw_meth [o : OfCls β] {m : Str} {dp : List Slot → (Slot → Prop) → XPH → Prop} (ho : DE K B te ρ b) (h : DA K B tr ρ ss) (hd : dp (.val b :: ss) (fun s => ∃ a, P a ∧ s = .val a) X) (hm : m ∉ o.fl) : DXW K B (tMethX (He.ga K o.cn) m (spTXH K dp) (WE W) te tr) ρ P X W := fun S0 H0 S H σ En Q q xx =>
  ho S0 H0 S H σ En _ fun v S1 H1 e1 r1 => by
    obtain ⟨x, dx, fs, rfl, hx, hfl⟩ := OfCls.is r1
    refine ⟨x, dx, fs, rfl, e1.i _ _ hx, look_none (by rw [hfl]; exact hm), ?_⟩
    refine h S0 H0 S1 H1 σ (En.go e1) _ fun vs S2 H2 e2 r2 => ⟨B, S2, .val b :: ss, _, X, e2.i, (fun p hp => by
      have := ((En.go e1).go e2).bx p hp
      exact ⟨this.1, this.2.1⟩), .cons (Enc.mono e2.s r1) rfl r2, hd, (fun s v S' H' ⟨a, pa, es⟩ e3 ok => by
      subst es
      exact q v a S' H' pa ((e1.trans e2).trans e3) ok), fun C fs d S' H' hX e3 nd hd' => xx C fs d S' H' hX ((e1.trans e2).trans e3) ((e1.trans e2).free En.i nd) hd'⟩
theorem dsw_drop (h : DXW K B te ρ P X W) (k : ∀ a, P a → Φ.nx ρ) : DSW K B (tDrop te) ρ Φ (fun r S C fs => r = ρ ∧ X S C fs) W := fun S0 H0 S H σ D E px x n r b c =>
  h S0 H0 S H σ E _ (fun v a S1 H1 pa e1 r1 => n ρ σ S1 H1 (k a pa) e1.s (E.go e1)) fun C fs d S' H' hX e nd hd => x ρ C fs d σ S H S' H' ⟨rfl, hX⟩ (Same.refl S) E e nd hd
theorem dsw_asg {n : Nat} (h : DXW K B te ρ P X W) (k : ∀ a, P a → Φ.nx (ρ.set n (.val a))) : DSW K B (tAsg te (gName n)) ρ Φ (fun r S C fs => r = ρ ∧ X S C fs) W := fun S0 H0 S H σ D E px x nx r b c =>
  h S0 H0 S H σ E _ (fun v a S1 H1 pa e1 r1 => (dg_name (n := n) : DG K B (gName n) a ρ _ [n]) S0 H0 S1 H1 σ v (E.go e1) r1 _ fun σ' E' _ _ => nx _ σ' S1 H1 (k a pa) e1.s E') fun C fs d S' H' hX e nd hd => x ρ C fs d σ S H S' H' ⟨rfl, hX⟩ (Same.refl S) E e nd hd
theorem DS.w (h : DS K B ts ρ Φ) : DSW K B ts ρ Φ Xs W := fun S0 H0 S H σ D E px _ => h S0 H0 S H σ D E px
theorem dsw_seq (h : DSW K B ts ρ { Φ with nx := fun r => DSW K B tz r Φ Xs W } Xs W) : DSW K B (tSeq ts tz) ρ Φ Xs W := fun S0 H0 S H σ D E px x n r b c =>
  h S0 H0 S H σ { D with nx := tz D } E px x (fun ρ' σ' S' H' hn s E' => hn S0 H0 S' H' σ' D E' px (fun ρ2 C fs d σ2 S1 H1 S2 H2 hX s1 => x ρ2 C fs d σ2 S1 H1 S2 H2 hX (s.trans s1)) (fun ρ2 σ2 S2 H2 hn2 s2 => n ρ2 σ2 S2 H2 hn2 (s.trans s2)) r
    (fun ρ2 σ2 S2 H2 hn2 s2 => b ρ2 σ2 S2 H2 hn2 (s.trans s2)) (fun ρ2 σ2 S2 H2 hn2 s2 => c ρ2 σ2 S2 H2 hn2 (s.trans s2))) r b c
/-- how a clause goes on -/
def SuiOk (K : PySem.W.Frag) (B : Addr → Prop) (C : Addr) (S : Hp) (fs : List (Str × V)) (ρ : List Slot) (Φ : Post) (p : Option Nat × Sui) : Prop := match p.1 with
  | none => ∀ a d, DS K B (p.2 a (.ref C) (some d)) ρ Φ
  | some i => ∃ (β : Type) (_ : Enc β) (nm : Str) (x : β), FldR K S fs nm x ∧ ∀ a d, DS K B (p.2 a (.ref C) (some d)) (ρ.set i (.val (ExcV.mk a d nm x))) { Φ with nx := fun r => Φ.nx (r.set i .no), bk := fun r => Φ.bk (r.set i .no), ct := fun r => Φ.ct (r.set i .no) }
theorem En.freeze {S0 H0 S H : Hp} {σ : L2.St} {d : Addr} {o : HO} (E : En K B S0 H0 S H σ ρ) (h0 : H0 d = none) (hd : H d = some o) (hx : ∀ (i : Nat) (s : Slot), ρ[i]? = some s → s.isOwn = true → σ[i]? ≠ some (some (V.ref d))) : ∃ S1, Same S S1 ∧ S1 d = some o ∧ En K B S0 H0 S1 H σ ρ := by
  cases q : S d with
  | some u =>
    have := E.i _ _ q
    rw [hd] at this
    cases this
    exact ⟨S, Same.refl S, q, E⟩
  | none =>
    have sm : Same S (upd S d o) := same_new q
    have ex : Ext B S0 H0 (upd S d o) H := E.ext.frz h0 E.i0 hd q
    refine ⟨_, sm, upd_same, E.i0, fun p hp => ?_, ex, E.len, fun j u hj => ?_, E.ne⟩
    · rw [upd_ne (fun z => (E.bx p hp).2.2 (by rw [z]; exact h0))]
      exact E.bx p hp
    · obtain ⟨v, h1, h2⟩ := E.at' j u hj
      refine ⟨v, h1, ?_⟩
      cases u with
      | no => cases v <;> trivial
      | box =>
        cases v with
        | none => cases h2
        | some v => exact h2
      | val a =>
        cases v with
        | none => cases h2
        | some v => exact Enc.mono sm h2
      | obj P =>
        cases v with
        | none => cases h2
        | some v =>
          obtain ⟨p, w, rfl, g0, gs, gh, gr⟩ := h2
          refine ⟨p, w, rfl, g0, ?_, gh, P.mono sm gr⟩
          rw [upd_ne (fun z => hx j _ hj rfl (by rw [h1, z]))]
          exact gs
      | out P =>
        cases v with
        | none => cases h2
        | some v =>
          obtain ⟨p, w, rfl, nb, g0, gs, gh, gr⟩ := h2
          refine ⟨p, w, rfl, nb, g0, ?_, gh, P.mono sm gr⟩
          rw [upd_ne (fun z => g0 (by rw [z]; exact h0))]
          exact gs
theorem ds_try {tb : WX → TS} {l : List (Value × Option Nat × Sui)} (hb : ∀ W, DSW K B (tb W) ρ Φ Xs W) (hs : ∀ ρ' S C fs, Xs ρ' S C fs → ∃ p, Pick K C l p ∧ SuiOk K B C S fs ρ' Φ p) : DS K B (fun D σ H => tb (wNm K D l) D σ H) ρ Φ := fun S0 H0 S H σ D E px n r b c => by
  refine hb _ S0 H0 S H σ D E px (fun ρ' C fs d σ' S1 H1 S' H' hX s1 E1 e nd hd => ?_) n r b c
  obtain ⟨p, pk, so⟩ := hs ρ' S' C fs hX
  have E2 := E1.go e
  have h0 : H0 d = none := E1.ext.free E1.i0 nd
  obtain ⟨S3, s3, hd3, E3⟩ := E2.freeze h0 hd (fun i s hi ho z => by
    obtain ⟨v, g1, g2⟩ := E1.at' i s hi
    rw [z] at g1
    cases g1
    cases s with
    | obj P =>
      obtain ⟨q, w, g3, g4, g5, g6, _⟩ := g2
      cases g3
      rw [nd] at g6
      cases g6
    | _ => cases ho)
  have sm : Same S S3 := (s1.trans e.s).trans s3
  clear hs
  induction l with
  | nil => exact pk.elim
  | cons h l ih =>
    obtain ⟨c0, o, tsu⟩ := h
    obtain ⟨bb, k1, k2, k3⟩ := pk
    refine ⟨bb, k1, fun hb1 a na => ?_, fun hb0 => ih (k3 hb0)⟩
    have e2 := k2 hb1
    subst e2
    cases o with
    | none =>
      exact (so a d) S0 H0 S3 H' σ' D E3 px (fun ρ2 σ2 S2 H2 hn s2 => n ρ2 σ2 S2 H2 hn (sm.trans s2)) r (fun ρ2 σ2 S2 H2 hn s2 => b ρ2 σ2 S2 H2 hn (sm.trans s2)) (fun ρ2 σ2 S2 H2 hn s2 => c ρ2 σ2 S2 H2 hn (sm.trans s2))
    | some i =>
      obtain ⟨β, eβ, nm, x, fr, go⟩ := so
      have E4 : WW.En K B S0 H0 S3 H' (σ'.set i (some (.ref a))) (ρ'.set i (.val (ExcV.mk a d nm x))) := E3.setV (a := ExcV.mk a d nm x) ⟨rfl, fs, hd3, by
        obtain ⟨v, f1, f2⟩ := fr
        exact ⟨v, f1, Enc.mono s3 f2⟩⟩
      exact (go a d) S0 H0 S3 H' _ (nmEnds (some i) D) E4 px (fun ρ2 σ2 S2 H2 hn s2 E5 => n _ _ S2 H2 hn (sm.trans s2) (E5.set (i := i) (o := none) (s := .no) trivial rfl)) r (fun ρ2 σ2 S2 H2 hn s2 E5 => b _ _ S2 H2 hn (sm.trans s2) (E5.set (i := i) (o := none) (s := .no) trivial rfl)) (fun ρ2 σ2 S2 H2 hn s2 E5 => c _ _ S2 H2 hn (sm.trans s2) (E5.set (i := i) (o := none) (s := .no) trivial rfl))
/-- e.f, e the handled exception -/
theorem d_xf {C : Addr} {e : ExcV β} {f : Str} (h : DE K B te ρ e) (hf : e.nm = f) : DE K B (tXf e.a (.ref C) (some e.d) C f te) ρ e.x := fun S0 H0 S H σ E Q q =>
  h S0 H0 S H σ E _ fun v S1 H1 e1 ⟨ev, fs, hd, w, hfs, r⟩ => by
    subst ev
    refine ⟨rfl, rfl, e.d, fs, w, rfl, e1.i _ _ hd, ?_, q w S1 H1 e1 r⟩
    rw [hfs, hf, List.lookup_cons, beq_self_eq_true]
/-- isinstance(e, C') -/
theorem d_xis {C C' : Addr} {e : ExcV β} {r : Bool} (h : DE K B te ρ e) (hk : PySem.W.kitOne K (.ref C) (.ref C') = some r) :
    DE K B (tCB (fun xs H Q => Value.ref C = .ref C ∧ (∀ dd, some e.d = some dd → ∃ fs, H dd = some (.xd fs)) ∧ rIsX K C e.a xs H Q) (tCons te (tCons (tC (.ref C')) tNil))) ρ r := fun S0 H0 S H σ E Q q =>
  h S0 H0 S H σ E _ fun v S1 H1 e1 ⟨ev, fs, hd, w, hfs, _⟩ => by
    subst ev
    exact ⟨rfl, fun dd ed => by cases ed; exact ⟨fs, e1.i _ _ hd⟩, _, _, r, rfl, .own _, hk, q _ S1 H1 e1 rfl⟩
end
end WW

set_option Elab.async false
set_option linter.all false
set_option maxRecDepth 100000
set_option maxHeartbeats 4000000
namespace WW
open PySem PySem.Spec PyProof.Rows L2
/-! ### data in lists; dicts copied -/
/-- plain data, perhaps with texts -/
class DatQ (α : Type) [Enc α] where
  d : α → PyData
  dp : ∀ {K : PySem.W.Frag} {S : Hp} {v : V} {a : α}, Enc.rep K S v a → Dp K S v (d a)
  k : Nat
  dep : ∀ a : α, PyData.depth (d a) ≤ k
  inj : ∀ (a b : α), PyData.eqv (d a) (d b) = true ↔ a = b
  nn : ∀ a : α, PyData.eqv (d a) .none = true ∨ PyData.eqv .none (d a) = true → ∀ {K : PySem.W.Frag} {S : Hp}, Enc.rep K S .non a
def canQ {α : Type} [Enc α] [q : DatQ α] (a : α) : Prop := PyData.canLay0 (q.d a) = true
theorem eqvAll_injQ {δ : Type} {e : Enc δ} (dt : DatQ δ) : ∀ (xs ys : List δ), PyData.eqvAll (xs.map dt.d) (ys.map dt.d) = true ↔ xs = ys
  | [], [] => by simp [PyData.eqvAll]
  | [], y :: q => by simp [PyData.eqvAll]
  | x :: r, [] => by simp [PyData.eqvAll]
  | x :: r, y :: q => by
    rw [List.map_cons, List.map_cons, PyData.eqvAll, Bool.and_eq_true, dt.inj, eqvAll_injQ dt r q]
    simp
theorem canAllQ {δ : Type} {e : Enc δ} (dt : DatQ δ) : ∀ xs : List δ, PyData.canLayAll0 (xs.map dt.d) = true ↔ ∀ x ∈ xs, canQ x
  | [] => by simp [PyData.canLayAll0]
  | x :: r => by
    rw [List.map_cons, PyData.canLayAll0, Bool.and_eq_true, canAllQ dt r]
    simp [canQ]
theorem depAllQ {δ : Type} {e : Enc δ} (dt : DatQ δ) : ∀ xs : List δ, PyData.depthAll (xs.map dt.d) ≤ dt.k
  | [] => by simp [PyData.depthAll]
  | x :: r => by rw [List.map_cons, PyData.depthAll]; exact Nat.max_le.mpr ⟨dt.dep x, depAllQ dt r⟩
theorem dpAllQ {K : PySem.W.Frag} {δ : Type} {e : Enc δ} (dt : DatQ δ) {S : Hp} : ∀ {vs : List V} {xs : List δ}, Paired (Enc.rep K S) vs xs → DpAll K S vs (xs.map dt.d)
  | _, _, .nil => .nil
  | _, _, .cons h r => .cons (dt.dp h) (dpAllQ dt r)
instance qStr : DatQ Str where
  d := .str
  dp h := by cases h; exact .str _
  k := 0
  dep _ := by simp [PyData.depth]
  inj a b := by simp [PyData.eqv]
  nn a h := by simp [PyData.eqv] at h
instance qInt : DatQ Int where
  d := .int
  dp h := by cases h; exact .int _
  k := 0
  dep _ := by simp [PyData.depth]
  inj a b := by simp [PyData.eqv]
  nn a h := by simp [PyData.eqv] at h
instance qBool : DatQ Bool where
  d := .bool
  dp h := by cases h; exact .bl _
  k := 0
  dep _ := by simp [PyData.depth]
  inj a b := by simp [PyData.eqv]
  nn a h := by simp [PyData.eqv] at h
theorem canI (i : Int) : canQ i := by simp [canQ, DatQ.d, PyData.canLay0]
theorem canB (i : Bool) : canQ i := by simp [canQ, DatQ.d, PyData.canLay0]
theorem canS {z : Str} : canQ z ↔ PyData.strOk z = true := by simp [canQ, DatQ.d, PyData.canLay0]
instance qU {δ : Type} [Enc δ] [dt : DatQ δ] : DatQ (U δ) where
  d xs := .tuple (List.map dt.d xs)
  dp h := by
    obtain ⟨_, p, vs, rfl, hh, r⟩ := h
    exact .tup hh (dpAllQ dt r)
  k := dt.k + 1
  dep xs := by rw [PyData.depth]; exact Nat.succ_le_succ (depAllQ dt xs)
  inj a b := by rw [PyData.eqv]; exact eqvAll_injQ dt a b
  nn a h := by simp [PyData.eqv] at h
instance qL {δ : Type} [Enc δ] [dt : DatQ δ] : DatQ (L δ) where
  d xs := .list (List.map dt.d xs)
  dp h := by
    obtain ⟨_, p, vs, rfl, hh, r⟩ := h
    exact .lst (.inl (.inl hh)) (dpAllQ dt r)
  k := dt.k + 1
  dep xs := by rw [PyData.depth]; exact Nat.succ_le_succ (depAllQ dt xs)
  inj a b := by rw [PyData.eqv]; exact eqvAll_injQ dt a b
  nn a h := by simp [PyData.eqv] at h
theorem canU {δ : Type} [Enc δ] [dt : DatQ δ] {xs : List δ} : canQ (α := U δ) xs ↔ ∀ x ∈ xs, canQ x := by
  unfold canQ
  show PyData.canLay0 (.tuple (List.map dt.d xs)) = true ↔ _
  rw [PyData.canLay0]
  exact canAllQ dt xs
theorem canL {δ : Type} [Enc δ] [dt : DatQ δ] {xs : List δ} : canQ (α := L δ) xs ↔ ∀ x ∈ xs, canQ x := by
  unfold canQ
  show PyData.canLay0 (.list (List.map dt.d xs)) = true ↔ _
  rw [PyData.canLay0]
  exact canAllQ dt xs
instance qP {δ ε : Type} [Enc δ] [Enc ε] [dt : DatQ δ] [de : DatQ ε] : DatQ (δ × ε) where
  d p := .tuple [dt.d p.1, de.d p.2]
  dp h := by
    obtain ⟨p, v1, v2, rfl, hh, r1, r2⟩ := h
    exact .tup hh (.cons (dt.dp r1) (.cons (de.dp r2) .nil))
  k := max dt.k de.k + 1
  dep p := by
    simp only [PyData.depth, PyData.depthAll]
    have h1 := dt.dep p.1
    have h2 := de.dep p.2
    omega
  inj a b := by
    rw [PyData.eqv, PyData.eqvAll, PyData.eqvAll, PyData.eqvAll, Bool.and_eq_true, Bool.and_eq_true, dt.inj, de.inj]
    constructor
    · rintro ⟨h1, h2, _⟩
      exact Prod.ext h1 h2
    · rintro rfl
      exact ⟨rfl, rfl, rfl⟩
  nn a h := by simp [PyData.eqv] at h
theorem canP {δ ε : Type} [Enc δ] [Enc ε] [dt : DatQ δ] [de : DatQ ε] {a : δ} {b : ε} : canQ (a, b) ↔ canQ a ∧ canQ b := by
  unfold canQ
  show PyData.canLay0 (.tuple [dt.d a, de.d b]) = true ↔ _
  simp [PyData.canLay0, PyData.canLayAll0]
instance q3 {δ ε ζ : Type} [Enc δ] [Enc ε] [Enc ζ] [dt : DatQ δ] [de : DatQ ε] [dz : DatQ ζ] : DatQ (T3 δ ε ζ) where
  d p := .tuple [dt.d p.a, de.d p.b, dz.d p.c]
  dp h := by
    obtain ⟨p, v1, v2, v3, rfl, hh, r1, r2, r3⟩ := h
    exact .tup hh (.cons (dt.dp r1) (.cons (de.dp r2) (.cons (dz.dp r3) .nil)))
  k := max dt.k (max de.k dz.k) + 1
  dep p := by
    simp only [PyData.depth, PyData.depthAll]
    have h1 := dt.dep p.a
    have h2 := de.dep p.b
    have h3 := dz.dep p.c
    omega
  inj a b := by
    rw [PyData.eqv, PyData.eqvAll, PyData.eqvAll, PyData.eqvAll, PyData.eqvAll, Bool.and_eq_true, Bool.and_eq_true, Bool.and_eq_true, dt.inj, de.inj, dz.inj]
    obtain ⟨a1, a2, a3⟩ := a
    obtain ⟨b1, b2, b3⟩ := b
    constructor
    · rintro ⟨h1, h2, h3, _⟩
      cases h1
      cases h2
      cases h3
      rfl
    · rintro ⟨⟩
      exact ⟨rfl, rfl, rfl, rfl⟩
  nn a h := by simp [PyData.eqv] at h
instance q4 {δ ε ζ η : Type} [Enc δ] [Enc ε] [Enc ζ] [Enc η] [dt : DatQ δ] [de : DatQ ε] [dz : DatQ ζ] [dh : DatQ η] : DatQ (T4 δ ε ζ η) where
  d p := .tuple [dt.d p.a, de.d p.b, dz.d p.c, dh.d p.d]
  dp h := by
    obtain ⟨p, v1, v2, v3, v4, rfl, hh, r1, r2, r3, r4⟩ := h
    exact .tup hh (.cons (dt.dp r1) (.cons (de.dp r2) (.cons (dz.dp r3) (.cons (dh.dp r4) .nil))))
  k := max (max dt.k (max de.k dz.k)) dh.k + 1
  dep p := by
    simp only [PyData.depth, PyData.depthAll]
    have h1 := dt.dep p.a
    have h2 := de.dep p.b
    have h3 := dz.dep p.c
    have h4 := dh.dep p.d
    omega
  inj a b := by
    rw [PyData.eqv, PyData.eqvAll, PyData.eqvAll, PyData.eqvAll, PyData.eqvAll, PyData.eqvAll, Bool.and_eq_true, Bool.and_eq_true, Bool.and_eq_true, Bool.and_eq_true, dt.inj, de.inj, dz.inj, dh.inj]
    obtain ⟨a1, a2, a3, a4⟩ := a
    obtain ⟨b1, b2, b3, b4⟩ := b
    constructor
    · rintro ⟨h1, h2, h3, h4, _⟩
      cases h1
      cases h2
      cases h3
      cases h4
      rfl
    · rintro ⟨⟩
      exact ⟨rfl, rfl, rfl, rfl, rfl⟩
  nn a h := by simp [PyData.eqv] at h
theorem can4 {δ ε ζ η : Type} [Enc δ] [Enc ε] [Enc ζ] [Enc η] [dt : DatQ δ] [de : DatQ ε] [dz : DatQ ζ] [dh : DatQ η] {a : δ} {b : ε} {c : ζ} {d : η} : canQ (T4.mk a b c d) ↔ canQ a ∧ canQ b ∧ canQ c ∧ canQ d := by
  unfold canQ
  show PyData.canLay0 (.tuple [dt.d a, de.d b, dz.d c, dh.d d]) = true ↔ _
  simp [PyData.canLay0, PyData.canLayAll0]
/-- what is never None, perhaps None -/
class DatN (α : Type) [Enc α] [q : DatQ α] : Prop where
  n1 : ∀ a : α, PyData.eqv (q.d a) .none = false
  n2 : ∀ a : α, PyData.eqv .none (q.d a) = false
instance : DatN Str := ⟨fun a => by simp [DatQ.d, PyData.eqv], fun a => by simp [DatQ.d, PyData.eqv]⟩
instance : DatN Int := ⟨fun a => by simp [DatQ.d, PyData.eqv], fun a => by simp [DatQ.d, PyData.eqv]⟩
instance {δ : Type} [Enc δ] [DatQ δ] : DatN (U δ) := ⟨fun a => by simp [DatQ.d, PyData.eqv], fun a => by simp [DatQ.d, PyData.eqv]⟩
instance {δ : Type} [Enc δ] [DatQ δ] : DatN (L δ) := ⟨fun a => by simp [DatQ.d, PyData.eqv], fun a => by simp [DatQ.d, PyData.eqv]⟩
instance {δ ε : Type} [Enc δ] [Enc ε] [DatQ δ] [DatQ ε] : DatN (δ × ε) := ⟨fun a => by simp [DatQ.d, PyData.eqv], fun a => by simp [DatQ.d, PyData.eqv]⟩
def optD {δ : Type} [Enc δ] [dt : DatQ δ] : Option δ → PyData
  | none => .none
  | some a => dt.d a
instance qO {δ : Type} [Enc δ] [dt : DatQ δ] [dn : DatN δ] : DatQ (Option δ) where
  d := optD
  dp {K S v a} h := by
    cases a with
    | none => cases h; exact .non
    | some a => exact dt.dp h
  k := dt.k
  dep a := by
    cases a with
    | none => simp [optD, PyData.depth]
    | some a => exact dt.dep a
  inj a b := by
    cases a with
    | none =>
      cases b with
      | none => simp [optD, PyData.eqv]
      | some b =>
        show PyData.eqv .none (dt.d b) = true ↔ _
        rw [dn.n2]
        simp
    | some a =>
      cases b with
      | none =>
        show PyData.eqv (dt.d a) .none = true ↔ _
        rw [dn.n1]
        simp
      | some b =>
        show PyData.eqv (dt.d a) (dt.d b) = true ↔ _
        rw [dt.inj]
        simp
  nn a h := by
    cases a with
    | none => intros; rfl
    | some a =>
      rcases h with h | h
      · have h : PyData.eqv (dt.d a) .none = true := h
        rw [dn.n1] at h
        cases h
      · have h : PyData.eqv .none (dt.d a) = true := h
        rw [dn.n2] at h
        cases h
theorem canO {δ : Type} [Enc δ] [dt : DatQ δ] [dn : DatN δ] {o : Option δ} : canQ o ↔ ∀ a, o = some a → canQ a := by
  cases o with
  | none => simp [canQ, DatQ.d, optD, PyData.canLay0]
  | some a => simp [canQ, DatQ.d, optD]
theorem eqv_decQ {δ : Type} {e : Enc δ} (dt : DatQ δ) (inst : DecidableEq δ) (x y : δ) : PyData.eqv (dt.d x) (dt.d y) = decide (x = y) := by
  by_cases c : x = y
  · rw [decide_eq_true c, (dt.inj x y).mpr c]
  · rw [decide_eq_false c]
    cases h : PyData.eqv (dt.d x) (dt.d y) with
    | false => rfl
    | true => exact absurd ((dt.inj x y).mp h) c
theorem shaped_q {δ : Type} {e : Enc δ} (dt : DatQ δ) (hk : dt.k ≤ 64) (x : δ) (c : canQ x) : SeqAt.shaped (dt.d x) = true := by
  unfold SeqAt.shaped
  rw [Bool.and_eq_true]
  exact ⟨c, decide_eq_true (Nat.le_trans (dt.dep x) hk)⟩
theorem op_inDK {X : Cx} {j : Nat} (K : PySem.W.Frag) (hr : Room j X.A) (h : X.K = K := by rfl) : OpR X (compareOp .In) (rInD K) := by
  subst h
  exact op_inD (by have := hr.un; omega)
theorem op_notInDK {X : Cx} {j : Nat} (K : PySem.W.Frag) (hr : Room j X.A) (h : X.K = K := by rfl) : OpR X (compareOp .NotIn) (rNotInD K) := by
  subst h
  exact op_notInD (by have := hr.un; omega)
section
variable {K : PySem.W.Frag} {B : Addr → Prop} {ρ : List Slot} {ta tb te : TE} {α : Type} {e_α : Enc α} {a b : α} {xs : List α}
theorem d_eqQ (ha : DE K B ta ρ a) (hb : DE K B tb ρ b) (inst : DecidableEq α) (dt : DatQ α) (hk : dt.k ≤ 64) (ca : canQ a) (cb : canQ b) : DE K B (tOp (rEqD K) ta tb) ρ (decide (a = b)) :=
  d_op ha hb fun x y S H hi r1 r2 Q q => ⟨_, _, dt.dp (Enc.mono hi r1), dt.dp (Enc.mono hi r2), shaped_q dt hk a ca, shaped_q dt hk b cb, by rw [eqv_decQ dt inst]; exact q _ S H (Ext.refl hi) rfl⟩
theorem d_neQ (ha : DE K B ta ρ a) (hb : DE K B tb ρ b) (inst : DecidableEq α) (dt : DatQ α) (hk : dt.k ≤ 64) (ca : canQ a) (cb : canQ b) : DE K B (tOp (rNeD K) ta tb) ρ (!decide (a = b)) :=
  d_op ha hb fun x y S H hi r1 r2 Q q => ⟨_, _, dt.dp (Enc.mono hi r1), dt.dp (Enc.mono hi r2), shaped_q dt hk a ca, shaped_q dt hk b cb, by rw [eqv_decQ dt inst]; exact q _ S H (Ext.refl hi) rfl⟩
theorem any_q (dt : DatQ α) {c : Bool} (hc : c = true ↔ a ∈ xs) : ((xs.map dt.d).any fun z => PyData.eqv z (dt.d a)) = c := by
  have : ((xs.map dt.d).any fun z => PyData.eqv z (dt.d a)) = true ↔ a ∈ xs := by
    rw [List.any_eq_true]
    constructor
    · rintro ⟨z, hz, e⟩
      obtain ⟨x, hx, rfl⟩ := List.mem_map.mp hz
      rw [← (dt.inj x a).mp e]
      exact hx
    · intro h
      exact ⟨_, List.mem_map.mpr ⟨a, h, rfl⟩, (dt.inj a a).mpr rfl⟩
  cases c with
  | true => exact this.mpr (hc.mp rfl)
  | false =>
    cases h : (xs.map dt.d).any fun z => PyData.eqv z (dt.d a) with
    | false => rfl
    | true => exact absurd (hc.mpr (this.mp h)) (by decide)
theorem d_inQ {c : Bool} (ha : DE K B ta ρ a) (hb : DE K B tb ρ (α := L α) xs) (hc : c = true ↔ a ∈ xs) (dt : DatQ α) (hk : dt.k ≤ 63) (ca : canQ a) (cb : ∀ x ∈ xs, canQ x) : DE K B (tOp (rInD K) ta tb) ρ c :=
  d_op ha hb fun x y S H hi r1 r2 Q q => ⟨dt.d a, xs.map dt.d, dt.dp (Enc.mono hi r1), (qL (dt := dt)).dp (Enc.mono (α := L α) hi r2), shaped_q dt (by omega) a ca, shaped_q (qL (dt := dt)) (by show dt.k + 1 ≤ 64; omega) xs (canL.mpr cb), by rw [any_q dt hc]; exact q _ S H (Ext.refl hi) rfl⟩
theorem d_notInQ {c : Bool} (ha : DE K B ta ρ a) (hb : DE K B tb ρ (α := L α) xs) (hc : c = true ↔ a ∈ xs) (dt : DatQ α) (hk : dt.k ≤ 63) (ca : canQ a) (cb : ∀ x ∈ xs, canQ x) : DE K B (tOp (rNotInD K) ta tb) ρ (!c) :=
  d_op ha hb fun x y S H hi r1 r2 Q q => ⟨dt.d a, xs.map dt.d, dt.dp (Enc.mono hi r1), (qL (dt := dt)).dp (Enc.mono (α := L α) hi r2), shaped_q dt (by omega) a ca, shaped_q (qL (dt := dt)) (by show dt.k + 1 ≤ 64; omega) xs (canL.mpr cb), by rw [any_q dt hc]; exact q _ S H (Ext.refl hi) rfl⟩
/-- dict(d): a copy of one's own -/
theorem dob_copy {d : Dct α} (h : DE K B te ρ d) : DOb K B (tCB (fun xs H Q => ∃ (a : Addr) (kvs : List (Key × V)), xs = [.ref a] ∧ Rd H a (.dK kvs) ∧ ∀ p, H p = none → Q (.ref p) (upd H p (.dK kvs))) (tCons te tNil)) ρ (ownD d.kv) := fun S0 H0 S H σ E Q q =>
  h S0 H0 S H σ E _ fun v S1 H1 e1 ⟨hl, p, kvs, ev, hq, r⟩ => by
    subst ev
    exact ⟨p, kvs, rfl, Rd.of (e1.i _ _ hq), fun x hx => q x _ S1 _ (e1.trans (Ext.priv e1.i hx)) (e1.free E.i hx) (e1.i.free hx) upd_same ⟨hl, kvs, rfl, r⟩⟩
end
end WW

set_option Elab.async false
set_option linter.all false
set_option maxRecDepth 100000
set_option maxHeartbeats 4000000
namespace WW
open PySem PySem.Spec PyProof.Rows L2
/-! ### one's own dicts, further -/
section
variable {K : PySem.W.Frag} {B : Addr → Prop} {ρ : List Slot} {tk tv te : TE} {tz : TS} {Φ : Post} {α : Type} {e_α : Enc α} {a : α} {z : Str} {n : Nat}
/-- d[z], d one's own -/
theorem d_getOb {xs : List (Str × α)} (h : ρ[n]? = some (.obj (ownD xs))) (hk : DE K B tk ρ z) (hx : (Dct.mk xs).get z = some a) : DE K B (tDGet (tVar n) tk) ρ a := fun S0 H0 S H σ E Q q => by
  obtain ⟨p, o, h1, _⟩ := E.obj h
  refine ⟨_, h1, hk S0 H0 S H σ E _ fun w S2 H2 e2 r2 => ?_⟩
  cases r2
  obtain ⟨p', o', h1', h0, hs, hh, hl, kvs, rfl, r⟩ := (E.go e2).obj h
  rw [h1] at h1'
  cases h1'
  obtain ⟨y, q1, q2⟩ := valV_kv r hx
  refine ⟨p, y, rfl, ?_, q y S2 H2 e2 q2⟩
  rw [← q1]
  exact DGet.k (k := Sum.inr z) hh
def repD {α : Type} (xs : List (Str × α)) (z : Str) (a : α) : List (Str × α) := xs.map fun p => if p.1 = z then (p.1, a) else p
theorem repD_keys {α : Type} {xs : List (Str × α)} {z : Str} {a : α} : (repD xs z a).map (·.1) = xs.map (·.1) := by
  unfold repD
  rw [List.map_map]
  exact List.map_congr_left fun p _ => by
    show (if p.1 = z then (p.1, a) else p).1 = p.1
    split <;> rfl
theorem kv_rep {S : Hp} {v : V} (hv : Enc.rep K S v a) : ∀ {kvs : List (Key × V)} {xs : List (Str × α)}, Paired (KvR K S) kvs xs → Paired (KvR K S) (kvs.map fun kv => if kv.1 = Sum.inr z then (kv.1, v) else kv) (repD xs z a)
  | _, _, .nil => .nil
  | p :: r, x :: t, .cons h1 h2 => by
    refine .cons ?_ (kv_rep hv h2)
    dsimp only
    by_cases c : x.1 = z
    · rw [if_pos (by rw [h1.1, c]), if_pos c]
      exact ⟨h1.1, hv⟩
    · rw [if_neg (by rw [h1.1]; exact fun e => c (by injection e)), if_neg c]
      exact h1
/-- d[z] = a, z there, d one's own -/
theorem ds_dputR {xs : List (Str × α)} (hn : ρ[n]? = some (.obj (ownD xs))) (hv : DE K B tv ρ a) (hk : DE K B tk ρ z) (hz : z ∈ xs.map (·.1)) (k : Φ.nx (ρ.set n (.obj (ownD (repD xs z a))))) : DS K B (sDPut (tVar n) tk tv) ρ Φ := fun S0 H0 S H σ D E px nx r b c => by
  refine hv S0 H0 S H σ E _ fun v S1 H1 e1 r1 => ?_
  obtain ⟨p, o, g1, h0, hs, hh, pr⟩ := (E.go e1).obj hn
  refine ⟨_, g1, ?_⟩
  refine hk S0 H0 S1 H1 σ (E.go e1) _ fun w S2 H2 e2 r2 => ?_
  cases r2
  have E2 := (E.go e1).go e2
  obtain ⟨p', o', g1', h0', hs', hh', hl', kvs, rfl, rr⟩ := E2.obj hn
  rw [g1] at g1'
  cases g1'
  refine ⟨p, _, rfl, DPut.k (k := Sum.inr z) hh' (by rw [rr.length]; exact Nat.lt_of_le_of_lt hl' (by decide)), ?_⟩
  have an : (kvs.any fun kv => decide (kv.1 = (Sum.inr z : Key))) = true := by
    rw [List.any_eq_true]
    obtain ⟨x, hx, ex⟩ := List.mem_map.mp hz
    have hk : (Sum.inr z : Key) ∈ kvs.map (·.1) := by
      rw [kv_keys rr, ← ex]
      exact List.mem_map.mpr ⟨x, hx, rfl⟩
    obtain ⟨kv, h1, h2⟩ := List.mem_map.mp hk
    exact ⟨kv, h1, decide_eq_true h2⟩
  have pe : putK kvs (Sum.inr z) v = kvs.map (fun kv => if kv.1 = Sum.inr z then (kv.1, v) else kv) := by
    unfold putK
    rw [if_pos an]
  rw [pe]
  refine nx _ σ S2 _ k (e1.s.trans e2.s) (E2.chgOb hn g1 ⟨?_, _, rfl, kv_rep (Enc.mono e2.s r1) rr⟩)
  unfold repD
  rw [List.length_map]
  exact hl'
end
end WW

set_option Elab.async false
set_option linter.all false
set_option maxRecDepth 100000
set_option maxHeartbeats 4000000
namespace WW
open PySem PySem.Spec PyProof.Rows L2
def odd0 : List AV := [.str "", .str "abcdef", .str "A", .str "a1", .non, .int 3, .lst [.str "a"], .str "a.b", .str " a"]
theorem odd0_bad : ∀ v ∈ odd0, v.sm = true ∧ isName v = false := fun v hv => by
  have : (odd0.all fun v => v.sm && !isName v) = true := by decide +kernel
  have := all_get this hv
  simpa using this
def odd7 : List AV := [.str "", .str "abcdef", .str "Up", .non, .int 3, .lst [.str "a"], .str "a.b"]
theorem odd7_bad : ∀ v ∈ odd7, v.sm = true ∧ isName v = false := fun v hv => by
  have : (odd7.all fun v => v.sm && !isName v) = true := by decide +kernel
  have := all_get this hv
  simpa using this
def oddR (ys : List AV) (t : Nat) (tn : List AV) : List AV := (odd7.map fun w => AV.lst (ys.take t ++ [w] ++ ys.drop t)) ++ [.non, .int 3, .str "a", .bl true, if (!ys.isEmpty) = true then AV.lst (ys ++ ys.take 1) else .non] ++ (if (!tn.isEmpty) = true then [AV.lst (ys ++ tn)] else [])
theorem oddR_bad {ys tn : List AV} {tk : List Str} {t : Nat} (hy : ∀ y ∈ ys, y.sm = true) (hl : ys.length ≤ 18) (ht : tn.length ≤ 1) (htn : ∀ x ∈ tn, x.sm = true ∧ x.txt ∈ tk) : ∀ v ∈ oddR ys t tn, v.sm = true ∧ freshB v tk = false := by
  intro v hv
  unfold oddR at hv
  rcases List.mem_append.mp hv with hv | hv
  · rcases List.mem_append.mp hv with hv | hv
    · obtain ⟨w, hw, rfl⟩ := List.mem_map.mp hv
      obtain ⟨w1, w2⟩ := odd7_bad w hw
      refine ⟨lst_sm ?_ fun x hx => ?_, fr_name (x := w) (List.mem_append_left _ (List.mem_append_right _ (List.mem_singleton.mpr rfl))) w2⟩
      · simp only [List.length_append, List.length_take, List.length_drop, List.length_cons, List.length_nil]; omega
      · simp only [List.mem_append, List.mem_singleton] at hx
        rcases hx with (hx | rfl) | hx
        · exact hy _ (List.mem_of_mem_take hx)
        · exact w1
        · exact hy _ (List.mem_of_mem_drop hx)
    · simp only [List.mem_cons, List.not_mem_nil, or_false] at hv
      rcases hv with rfl | rfl | rfl | rfl | rfl
      · exact ⟨non_sm, fr_not rfl⟩
      · exact ⟨int_sm, fr_not rfl⟩
      · exact ⟨str_sm (by decide +kernel), fr_not rfl⟩
      · exact ⟨bl_sm, fr_not rfl⟩
      · split
        · rename_i he
          refine ⟨lst_sm (by simp only [List.length_append, List.length_take]; omega) fun x hx => ?_, fr_twice ?_⟩
          · rcases List.mem_append.mp hx with hx | hx
            · exact hy _ hx
            · exact hy _ (List.mem_of_mem_take hx)
          · cases ys with
            | nil => cases he
            | cons y r =>
              intro nd
              rw [List.map_append] at nd
              exact (List.nodup_append.mp nd).2.2 y.txt List.mem_cons_self y.txt (List.mem_singleton.mpr rfl) rfl
        · exact ⟨non_sm, fr_not rfl⟩
  · split at hv
    · rename_i he
      rw [List.mem_singleton.mp hv]
      refine ⟨lst_sm (by simp only [List.length_append]; omega) fun x hx => ?_, ?_⟩
      · rcases List.mem_append.mp hx with hx | hx
        · exact hy _ hx
        · exact (htn _ hx).1
      · cases tn with
        | nil => cases he
        | cons x r => exact fr_taken (x := x) (List.mem_append_right _ List.mem_cons_self) (htn x List.mem_cons_self).2
    · cases hv
theorem oddR_len {ys tn : List AV} {t : Nat} : 0 < (oddR ys t tn).length ∧ (oddR ys t tn).length < 1000 := by
  unfold oddR
  simp only [List.length_append, List.length_map, List.length_cons, List.length_nil]
  have : (if (!tn.isEmpty) = true then [AV.lst (ys ++ tn)] else []).length ≤ 1 := by split <;> simp
  have h7 : odd7.length = 7 := rfl
  omega
/-- what is asked of a list of names at k -/
structure RowAt (m : DMd) (k : Nat) (zs tk : List Str) : Prop where
  at' : atI (six m) (k : Int) = some (strsA zs)
  len : zs.length ≤ 18
  sm : ∀ x ∈ zs.map AV.str, x.sm = true
  bad : ∀ w : AV, w.sm = true → freshB w tk = false → BadAt m k w
  tk : 1 < k → ∀ z ∈ m.i, z ∈ tk
theorem Good.row {m : DMd} {ks : List DMd} (g : Good m ks) {k : Nat} (h0 : 0 < k) (h4 : k < 4) : ∃ zs tk, RowAt m k zs tk := by
  have l := g.lens
  obtain ⟨a1, a2, a3⟩ := g.items_sm
  match k, h0, h4 with
  | 1, _, _ => exact ⟨m.i, [], rfl, by omega, a1, fun w => bad1 g, fun h => absurd h (by decide)⟩
  | 2, _, _ => exact ⟨m.o, m.i, rfl, by omega, a2, fun w => bad2 g, fun _ z hz => hz⟩
  | 3, _, _ => exact ⟨m.s, m.i ++ m.o, rfl, by omega, a3, fun w => bad3 g, fun _ z hz => List.mem_append_left _ hz⟩
end WW

set_option Elab.async false
set_option linter.all false
set_option maxRecDepth 100000
set_option maxHeartbeats 4000000
namespace WW
open PySem PySem.Spec PyProof.Rows L2
/-! ### what is heard of each -/
theorem heard_bad {m : DMd} {k : Nat} {v : AV} (h : BadAt m k v) : heardM ((six m).set k v) = W6.getD k "" := by
  unfold heardM
  rw [h.2]
  rfl
theorem both_bad {m : DMd} {ks : List DMd} (g : Good m ks) {j k : Nat} {v : AV} (h : j < k) (h4 : k < 4) : heardM (((six m).set k v).set j .non) = W6.getD j "" := by
  have e : wrongMod (m6L (((six m).set k v).set j .non)) = some (W6.getD j "") := by
    rcases (by omega : (j = 0 ∧ k = 1) ∨ (j = 0 ∧ k = 2) ∨ (j = 0 ∧ k = 3) ∨ (j = 1 ∧ k = 2) ∨ (j = 1 ∧ k = 3) ∨ (j = 2 ∧ k = 3)) with ⟨rfl, rfl⟩ | ⟨rfl, rfl⟩ | ⟨rfl, rfl⟩ | ⟨rfl, rfl⟩ | ⟨rfl, rfl⟩ | ⟨rfl, rfl⟩
    · exact wm0 (x := m6L (((six m).set 1 v).set 0 .non)) rfl
    · exact wm0 (x := m6L (((six m).set 2 v).set 0 .non)) rfl
    · exact wm0 (x := m6L (((six m).set 3 v).set 0 .non)) rfl
    · exact wm1 (x := m6L (((six m).set 2 v).set 1 .non)) g.f0 (fr_not rfl)
    · exact wm1 (x := m6L (((six m).set 3 v).set 1 .non)) g.f0 (fr_not rfl)
    · exact wm2 (x := m6L (((six m).set 3 v).set 2 .non)) g.f0 g.f1 (fr_not rfl)
  unfold heardM
  rw [e]
  rfl
/-! calls that are None -/
def hasDot (z : Str) : Bool := decide (46 ∈ z.cps.toList)
theorem alln_dot : ∀ z ∈ ALLN, hasDot z = false := by decide +kernel
theorem dotted_dot (a b : Str) : hasDot (dotted a b) = true := by
  unfold hasDot dotted
  refine decide_eq_true ?_
  show (46 : Nat) ∈ ((a.cps ++ (Str.ofString ".").cps) ++ b.cps).toList
  rw [Array.toList_append, Array.toList_append]
  refine List.mem_append_left _ (List.mem_append_right _ ?_)
  decide +kernel
theorem hasDot_app (a b : Str) : hasDot (a ++ b) = (hasDot a || hasDot b) := by
  unfold hasDot
  show decide ((46 : Nat) ∈ (a.cps ++ b.cps).toList) = _
  rw [Array.toList_append, Bool.eq_iff_iff]
  simp [List.mem_append]
theorem beg_dot {m : DMd} {ks : List DMd} (ok : MOk m ks) (hk : KsOk ks) {z : Str} (h : z ∈ begM m ks ∨ z ∈ goeM m ks) (ns : List Str) : (hasDot z = true → thereB (.str z) ns [] = false) ∧ (hasDot z = false → (z ∈ begM m ks → z ∈ m.i ++ m.s) ∧ (z ∈ goeM m ks → z ∈ m.s ++ m.o)) := by
  have inM : ∀ t ∈ m.c, findM ks t.2 ∈ ks := fun t ht => (get_find (ok.cl t ht)).2.1
  have two : ∀ t ∈ m.c, ∀ y ∈ ALLN, thereB (.str (dotted t.1 y)) ns [] = false := fun t ht y hy => by
    have hm : t.1 ∈ m.labels := List.mem_map.mpr ⟨t, ht, rfl⟩
    obtain ⟨e1, e2, e3⟩ := dot_end t.1 (ok.al _ (List.mem_append_right _ hm)) y hy
    exact th_lab e2 (fun z => nomatch z)
  have nd : ∀ z ∈ m.all, hasDot z = false := fun z hz => alln_dot z (ok.al z hz)
  have b1 : ∀ z ∈ m.i ++ m.s, z ∈ m.all := fun z hz => by
    rcases List.mem_append.mp hz with hz | hz
    · exact List.mem_append_left _ (List.mem_append_left _ (List.mem_append_left _ hz))
    · exact List.mem_append_left _ (List.mem_append_right _ hz)
  have b2 : ∀ z ∈ m.s ++ m.o, z ∈ m.all := fun z hz => by
    rcases List.mem_append.mp hz with hz | hz
    · exact List.mem_append_left _ (List.mem_append_right _ hz)
    · exact List.mem_append_left _ (List.mem_append_left _ (List.mem_append_right _ hz))
  have bg : z ∈ begM m ks → z ∈ m.i ++ m.s ∨ (hasDot z = true ∧ thereB (.str z) ns [] = false) := fun h => by
    unfold begM at h
    rcases List.mem_append.mp h with h | h
    · exact .inl h
    · obtain ⟨t, ht, hz⟩ := List.mem_flatMap.mp h
      obtain ⟨y, hy, rfl⟩ := List.mem_map.mp hz
      exact .inr ⟨dotted_dot _ _, two t ht y ((hk.all _ (inM t ht)).2.1 y (List.mem_append_left _ (List.mem_append_left _ (List.mem_append_right _ hy))))⟩
  have gg : z ∈ goeM m ks → z ∈ m.s ++ m.o ∨ (hasDot z = true ∧ thereB (.str z) ns [] = false) := fun h => by
    unfold goeM at h
    rcases List.mem_append.mp h with h | h
    · exact .inl h
    · obtain ⟨t, ht, hz⟩ := List.mem_flatMap.mp h
      obtain ⟨y, hy, rfl⟩ := List.mem_map.mp hz
      exact .inr ⟨dotted_dot _ _, two t ht y ((hk.all _ (inM t ht)).2.1 y (List.mem_append_left _ (List.mem_append_left _ (List.mem_append_left _ hy))))⟩
  refine ⟨fun hd => ?_, fun hd => ⟨fun hb => ?_, fun hb => ?_⟩⟩
  · rcases h with h | h
    · rcases bg h with q | q
      · rw [nd z (b1 z q)] at hd; cases hd
      · exact q.2
    · rcases gg h with q | q
      · rw [nd z (b2 z q)] at hd; cases hd
      · exact q.2
  · rcases bg hb with q | q
    · exact q
    · rw [hd] at q; cases q.1
  · rcases gg hb with q | q
    · exact q
    · rw [hd] at q; cases q.1
def lkDot (x : AV) : Bool := hasDot ((x.items.getD 0 .non).txt ++ (x.items.getD 1 .non).txt)
theorem none_calls {m : DMd} {ks : List DMd} (g : Good m ks) : heardM ((six m).take 5 ++ [.non]) = if (!((linksA m.l).items.filter lkDot).isEmpty) = true then "links" else "calls" := by
  let x : M6 := m6L ((six m).take 5 ++ [.non])
  have el : x.linksB = (linksA m.l).items.all fun k => linkB k (m.i ++ m.s) (m.s ++ m.o) [] := by
    show (true && (linksA m.l).items.all fun k => linkB k ((strsA m.i).names ++ (strsA m.s).names) ((strsA m.s).names ++ (strsA m.o).names) []) = _
    rw [names_strsA, names_strsA, names_strsA, Bool.true_and]
  have each : ∀ k ∈ (linksA m.l).items, linkB k (m.i ++ m.s) (m.s ++ m.o) [] = !lkDot k := fun k hk => by
    obtain ⟨t, ht, rfl⟩ := List.mem_map.mp (show k ∈ m.l.map (fun t => AV.tup [.str t.a, .str t.b, .int t.c, .int t.d]) from hk)
    have o := g.f.lk t ht
    obtain ⟨a1, a2⟩ := beg_dot g.f.ok g.k (.inl o.a) (m.i ++ m.s)
    obtain ⟨b1, b2⟩ := beg_dot g.f.ok g.k (.inr o.b) (m.s ++ m.o)
    obtain ⟨ai, ao, as, al⟩ := g.all_in
    have al1 : ∀ z ∈ m.i ++ m.s, z ∈ ALLN := fun z hz => by rcases List.mem_append.mp hz with hz | hz; exact ai z hz; exact as z hz
    have al2 : ∀ z ∈ m.s ++ m.o, z ∈ ALLN := fun z hz => by rcases List.mem_append.mp hz with hz | hz; exact as z hz; exact ao z hz
    have th : ∀ {z : Str} {ns : List Str}, z ∈ ALLN → z ∈ ns → thereB (.str z) ns [] = true := fun {z ns} h1 h2 => by
      obtain ⟨e1, e2⟩ := alln_end z h1
      show ((true && endB z) && (if decide ((Txt.partition z ".").2.1 = dot) = true then decide ((Txt.partition z ".").1 ∈ []) else decide (z ∈ ns))) = true
      rw [e1, e2, if_neg (by decide), decide_eq_true h2]
      rfl
    have ed : lkDot (.tup [.str t.a, .str t.b, .int t.c, .int t.d]) = (hasDot t.a || hasDot t.b) := hasDot_app t.a t.b
    rw [ed]
    show ((true && true) && ((thereB (.str t.a) (m.i ++ m.s) [] && thereB (.str t.b) (m.s ++ m.o) []) && (decide (0 ≤ t.c) && decide (0 ≤ t.d)))) = _
    rw [decide_eq_true o.c0, decide_eq_true o.d0]
    cases ha : hasDot t.a with
    | true => rw [a1 ha]; rfl
    | false =>
      have q1 := (a2 ha).1 o.a
      rw [th (al1 _ q1) q1]
      cases hb : hasDot t.b with
      | true => rw [b1 hb]; rfl
      | false =>
        have q2 := (b2 hb).2 o.b
        rw [th (al2 _ q2) q2]
        rfl
  have h0 : isName x.n = true := g.f0
  have h1 : freshB x.i [] = true := g.f1
  have h2 : freshB x.o x.i.names = true := g.f2
  have h3 : freshB x.s (x.i.names ++ x.o.names) = true := g.f3
  show (wrongMod x).getD "let" = _
  by_cases c : (linksA m.l).items.filter lkDot = []
  · have h4 : x.linksB = true := by
      rw [el, List.all_eq_true]
      intro k hk
      rw [each k hk]
      have := List.filter_eq_nil_iff.mp c k hk
      simpa using this
    rw [wm5 h0 h1 h2 h3 h4 (.inl rfl), c]
    rfl
  · have h4 : x.linksB = false := by
      cases hh : x.linksB with
      | false => rfl
      | true =>
        refine absurd ?_ c
        rw [el, List.all_eq_true] at hh
        rw [List.filter_eq_nil_iff]
        intro k hk
        have := hh k hk
        rw [each k hk] at this
        simpa using this
    rw [wm4 h0 h1 h2 h3 h4]
    have : (!((linksA m.l).items.filter lkDot).isEmpty) = true := by
      cases hh : (linksA m.l).items.filter lkDot with
      | nil => exact absurd hh c
      | cons _ _ => rfl
    rw [if_pos this]
    rfl
theorem six_get {m : DMd} : ∀ x ∈ W6, ∃ v, m.dc.get x = some v := fun x hx => by
  have : ∀ x ∈ W6, x = "name" ∨ x = "inlets" ∨ x = "outlets" ∨ x = "stations" ∨ x = "links" ∨ x = "calls" := by decide +kernel
  rcases this x hx with rfl | rfl | rfl | rfl | rfl | rfl <;> exact ⟨_, rfl⟩
theorem six_map {m : DMd} : (W6.map fun x => (m.dc.get x).getD .non) = six m := rfl
theorem Good.of {n : Int} {ms : List DMd} (h : HouseOk n ms) {i : Nat} {m : DMd} (hm : ms[i]? = some m) : Good m (ms.take i) := by
  obtain ⟨h1, h2, _⟩ := h.all i m hm
  refine ⟨h1, (h.pre i ?_).ks.1, List.mem_of_getElem? h2, fun d hd => ?_⟩
  · exact Nat.le_of_lt (List.getElem?_eq_some_iff.mp hm).1
  · obtain ⟨j, hj, rfl⟩ := List.getElem_of_mem hd
    have e : (ms.take i)[j]? = some ((ms.take i)[j]) := List.getElem?_eq_getElem hj
    exact List.mem_of_getElem? (h.all j _ (take_at e).1).2.1
end WW

set_option Elab.async false
set_option linter.all false
set_option maxRecDepth 100000
set_option maxHeartbeats 4000000
namespace WW
open PySem PySem.Spec PyProof.Rows L2
/-! ### the law's own words about houses -/
def MdOk (m : DMd) : Prop := ModOf (m6L (six m)) m
structure MsOk (ms : List DMd) : Prop where
  md : ∀ m ∈ ms, MdOk m
  kn : KnOk ms
  sh : ShsOk ms
/-- some ring with which a house can be refused -/
def Rung (ms : List DMd) (rg : List Str) : Prop := ∃ i m, ms[i]? = some m ∧ (∀ j m', j < i → ms[j]? = some m' → NoRing m' (shS (ms.take j))) ∧ IsRing (srt ltL (lkOf m (shS (ms.take i)))) rg ∧ ∀ z ∈ rg, z ∈ srt ltS (plOf m (shS (ms.take i)))
theorem houX {K : PySem.W.Frag} {ms : List DMd} {X : XPH} (h : ∀ rg, Rung ms rg → ∀ S C fs, ringX K rg S C fs → X S C fs) : HouX K ms X := fun i m rg h1 h2 h3 h4 => h rg ⟨i, m, h1, h2, h3, h4⟩
def withL (ms : List DMd) (i : Nat) (t : Lk) : List DMd := ms.take i ++ [{ ms.getD i noM with l := (ms.getD i noM).l ++ [t] }] ++ ms.drop (i + 1)
section
variable {P : Program} {w : World} {K : PySem.W.Frag} {mg : Str → Option Value} {base : Heap} {f : Addr} {fd : FuncData}
abbrev dpMade : List Slot → (Slot → Prop) → Prop := dp1 MdOk fun m => MOb.mk m
abbrev s_l_made : Stmt := top 56
abbrev N_l_made : List Str := ["_law_module_here", "_law_some", "_law_word"]
theorem sc_l_made : FnScope N_l_made ["_law_module_here"] (defScope s_l_made) := ⟨rfl, rfl, rfl, by decide +kernel, rfl, by decide +kernel, by decide +kernel⟩

theorem ok_made (F : FnP K "_law_made" s_l_made f fd) (gX_Module : MkAtX P w K mg base 5 "Module" ["self", "name", "inlets", "outlets", "stations", "links", "calls"] (spInitMod K (He.ga K "Module") (He.ga K "InvalidModule")) []) : FnOk P w K mg base CX0 7 f fd ["_law_module_here"] (spT K dpMade) := by
  refine okT F sc_l_made (fun ss R h => ?_) (fun cdv A outer s H E hr => ⟨_, (pss_cons (ps_setLc (i := 1) (own := [("_law_word", 2)]) rfl sc_l_made.nd rfl rfl (sw_true rfl rfl rfl (by decide +kernel)) (pi_seqK K (pe_tup (pa_cons (pe_str) (pa_cons (pe_str) (pa_cons (pe_str) (pa_cons (pe_str) (pa_cons (pe_str) (pa_cons (pe_str) (pa_nil))))))))) (blkOk_by (N := N_l_made) (sc := defScope s_l_made) (by decide +kernel)) (fun _ _ _ _ _ => pg_name (i := 2) sc_l_made.nd rfl (.inl rfl)) (fun _ _ _ _ _ => pts_nil) (fun _ _ _ _ _ => pe_dget (hu_of hr) (pv 0) (pv 2) (fun _ _ => rfl)))
 (pss_one (ps_ret (pe_mkrX (x := "Module") K gX_Module takes_no hr rfl (pa_cons (pe_ix (ix_sqK K) (pv 1) (pe_int) (fun _ _ => rfl)) (pa_cons (pe_ix (ix_sqK K) (pv 1) (pe_int) (fun _ _ => rfl)) (pa_cons (pe_ix (ix_sqK K) (pv 1) (pe_int) (fun _ _ => rfl)) (pa_cons (pe_ix (ix_sqK K) (pv 1) (pe_int) (fun _ _ => rfl)) (pa_cons (pe_ix (ix_sqK K) (pv 1) (pe_int) (fun _ _ => rfl)) (pa_cons (pe_ix (ix_sqK K) (pv 1) (pe_int) (fun _ _ => rfl)) (pa_nil))))))))))), fun B ss R h => ?_⟩)
  · obtain ⟨m, rfl, _⟩ := h
    rfl
  · obtain ⟨m, rfl, hm, q⟩ := h
    show DS K B _ [.val m, .no, .no] _
    refine dq_asgI (δ := L AV) (six m) (DE.is (DO.l (do_map (fun x => (m.dc.get x).getD .non) (di_seq (xs := W6) (d_Uq (d_tupU (dl_cons d_str (dl_cons d_str (dl_cons d_str (dl_cons d_str (dl_cons d_str (dl_cons d_str dl_nil)))))) (by decide)))) (by decide) fun x hx => ⟨_, _, dg_name, by simp, d_getD (d := m.dc) (d_dc (d_var rfl)) (d_var rfl) (by obtain ⟨v, hv⟩ := six_get (m := m) x hx; rw [hv]; rfl)⟩)) six_map) ?_
    show DS K B _ [.val m, .val (α := L AV) (six m), .no] _
    refine ds_ret (a := MOb.mk m) (d_mkMod (g := m6L (six m)) (da_cons (a := AV.str m.n) (d_ix (d_Lq (d_var rfl)) d_int rfl) (da_cons (a := strsA m.i) (d_ix (d_Lq (d_var rfl)) d_int rfl) (da_cons (a := strsA m.o) (d_ix (d_Lq (d_var rfl)) d_int rfl) (da_cons (a := strsA m.s) (d_ix (d_Lq (d_var rfl)) d_int rfl) (da_cons (a := linksA m.l) (d_ix (d_Lq (d_var rfl)) d_int rfl) (da_cons (a := callsA m.c) (d_ix (d_Lq (d_var rfl)) d_int rfl) da_nil)))))) hm) q
def dpBuilt (K : PySem.W.Frag) : List Slot → (Slot → Prop) → XPH → Prop := fun ss R X => ∃ ms : List DMd, ss = [.val (α := L DMd) ms] ∧ MsOk ms ∧ (AllGo ms → R (.val (HOb.mk ms))) ∧ ∀ rg, Rung ms rg → ∀ S C fs, ringX K rg S C fs → X S C fs
abbrev s_l_built : Stmt := top 57
abbrev N_l_built : List Str := ["_law_some", "_law_module_here"]
theorem sc_l_built : FnScope N_l_built ["_law_some"] (defScope s_l_built) := ⟨rfl, rfl, rfl, by decide +kernel, rfl, by decide +kernel, by decide +kernel⟩

theorem ok_built (F : FnP K "_law_built" s_l_built f fd) (g_l_made : FnAt P w K mg base CX0 7 "_law_made" ["_law_module_here"] (spT K dpMade)) (gX_House : MkAtX P w K mg base 4 "House" ["self", "modules"] (spInitT K (He.ga K "House") (dpHouI K)) []) : FnOk P w K mg base (L2.CX P w) 8 f fd ["_law_some"] (spTXH K (dpBuilt K)) := by
  refine okTXH F sc_l_built (fun ss R X h => ?_) (fun cdv A outer s H E hr => ⟨_, (pss_one (ps_ret (pe_mkrX (x := "House") K gX_House (takes_of rfl rfl rfl rfl) hr rfl (pa_cons (pe_lc (own := [("_law_module_here", 1)]) rfl sc_l_built.nd (pi_seqK K (pv 0)) (blkOk_by (N := N_l_built) (sc := defScope s_l_built) (by decide +kernel)) (fun _ _ _ _ _ => pg_name (i := 1) sc_l_built.nd rfl (.inl rfl)) (fun _ _ _ _ _ => pts_nil) (fun _ _ _ _ _ => pe_fn g_l_made hr rfl (pa_cons (pv 1) (pa_nil)))) (pa_nil))))), fun B ss R X h => ?_⟩)
  · obtain ⟨ms, rfl, _⟩ := h
    rfl
  · obtain ⟨ms, rfl, ok, q, qx⟩ := h
    have ml := ok.kn.len
    show DS K B _ [.val (α := L DMd) ms, .no] _
    refine ds_retX (P := fun o : HOb => AllGo ms ∧ o = HOb.mk ms) (dx_house (da_cons (α := L MOb) (DO.l (do_map MOb.mk (di_seq (d_Lq (d_var rfl))) (Nat.le_trans ml (by decide)) fun m hm => ⟨_, _, dg_name, by simp, d_call1 (d_var rfl) (ok.md m hm)⟩)) da_nil) ok.kn ok.sh (houX qx)) fun o ho => by rw [ho.2]; exact q ho.1
def dpHeard : List Slot → (Slot → Prop) → Prop := fun ss R => ∃ ms : List DMd, ss = [.val (α := L DMd) ms] ∧ MsOk ms ∧ (AllGo ms → R (.val (α := Option (U Str)) none)) ∧ ∀ rg, Rung ms rg → R (.val (α := Option (U Str)) (some rg))
abbrev s_l_heard : Stmt := top 59
abbrev N_l_heard : List Str := ["_law_some", "_law_found", "e"]
theorem sc_l_heard : FnScope N_l_heard ["_law_some"] (defScope s_l_heard) := ⟨rfl, rfl, rfl, by decide +kernel, rfl, by decide +kernel, by decide +kernel⟩

theorem ok_heard (F : FnP K "_law_heard" s_l_heard f fd) (m_isinstance : mg "isinstance" = none) (m_NeverGoes : mg "NeverGoes" = some (.ref (He.ga K "NeverGoes"))) (m_WaitError : mg "WaitError" = some (.ref (He.ga K "WaitError"))) (m_InvalidHouse : mg "InvalidHouse" = some (.ref (He.ga K "InvalidHouse")))
    (x_NeverGoes : ExcC K (He.ga K "NeverGoes")) (xf_NeverGoes : XfC K (He.ga K "NeverGoes")) (nf_NeverGoes_ring : PySem.W.findIn K (.ref (He.ga K "NeverGoes")) "ring" = some none)
    (k1 : PySem.W.kitOne K (.ref (He.ga K "NeverGoes")) (.ref (He.ga K "WaitError")) = some true) (k2 : PySem.W.kitOne K (.ref (He.ga K "NeverGoes")) (.ref (He.ga K "InvalidHouse")) = some false) (k3 : PySem.W.exmOne K (.ref (He.ga K "NeverGoes")) (.ref (He.ga K "NeverGoes")) = some true)
    (g_l_built : FnAt P w K mg base (L2.CX P w) 8 "_law_built" ["_law_some"] (spTXH K (dpBuilt K))) : FnOk P w K mg base CX0 9 f fd ["_law_some"] (spT K dpHeard) := by
  refine okT F sc_l_heard (fun ss R h => ?_) (fun cdv A outer s H E hr => ⟨_, (pss_cons (ps_set (i := 1) sc_l_heard.nd rfl (.inl rfl) (pe_non))
 (pss_cons (ps_try_nm rfl rfl sc_l_heard.nd (fun W pn xe tk po => pss_one (ps_expr (pe_fnX K g_l_built tk hr rfl (pa_cons (pv 0) (pa_nil))))) (.cons ⟨rfl, by decide, .inl m_NeverGoes⟩ (NmOk.as (i := 2) rfl rfl) (fun a oe cls d pn hz hf => pss_one (ps_set (i := 1) sc_l_heard.nd rfl (.inl rfl) (pe_ifExp (PW.pt (pw_and (pt_val (pe_callB (call_isX K x_NeverGoes hz hf) rfl m_isinstance (by decide +kernel) (pa_cons (pv 2) (pa_cons (pe_glob (v := .ref (He.ga K "WaitError")) rfl m_WaitError rfl) (pa_nil))))) (pw_and1 (pt_not (pt_val (pe_callB (call_isX K x_NeverGoes hz hf) rfl m_isinstance (by decide +kernel) (pa_cons (pv 2) (pa_cons (pe_glob (v := .ref (He.ga K "InvalidHouse")) rfl m_InvalidHouse rfl) (pa_nil))))))))) (pe_xf xf_NeverGoes nf_NeverGoes_ring hz hf (pv 2)) (pe_str)))) (.nil)))
 (pss_one (ps_ret (pv 1))))), fun B ss R h => ?_⟩)
  · obtain ⟨x, rfl, _⟩ := h
    rfl
  · obtain ⟨ms, rfl, ok, q, qr⟩ := h
    show DS K B _ [.val (α := L DMd) ms, .no, .no] _
    refine dq_asgI (δ := Option (U Str)) none (d_none (e_α := inferInstance)) ?_
    show DS K B _ [.val (α := L DMd) ms, .val (α := Option (U Str)) none, .no] _
    refine ds_seq (ds_try (Xs := fun r S C fs => r = [.val (α := L DMd) ms, .val (α := Option (U Str)) none, .no] ∧ ∃ rg, Rung ms rg ∧ ringX K rg S C fs) (fun W => dsw_drop (P := fun o : HOb => AllGo ms ∧ o = HOb.mk ms) (dxw_call (da_cons (α := L DMd) (a := ms) (d_var rfl) da_nil) ⟨ms, rfl, ok, fun hg => ⟨_, ⟨hg, rfl⟩, rfl⟩, fun rg h S C fs hx => ⟨rg, h, hx⟩⟩) fun o ho => ds_ret (d_var rfl) (q ho.1)) fun ρ' S C fs hX => ?_)
    · obtain ⟨rfl, rg, hr, rfl, v, hfs, r⟩ := hX
      refine ⟨_, ⟨true, k3, fun _ => rfl, fun h => nomatch h⟩, U Str, inferInstance, "ring", rg, ⟨v, hfs, r⟩, fun a d => ?_⟩
      refine ds_asg (α := Option (U Str)) (a := some rg) (DE.is (d_if (a1 := some rg) (a2 := none) (c := true) (DT.is (dt_and (dt_B (d_xis (β := U Str) (e := ExcV.mk a d "ring" rg) (d_var rfl) k1)) fun _ => dt_not (dt_B (d_xis (β := U Str) (e := ExcV.mk a d "ring" rg) (d_var rfl) k2))) rfl) (fun _ => d_some (α := U Str) (a := rg) (d_xf (β := U Str) (e := ExcV.mk a d "ring" rg) (d_var rfl) rfl)) (fun h => nomatch h)) rfl) ?_
      exact ds_ret (d_var rfl) (qr rg hr)
end
end WW

set_option Elab.async false
set_option linter.all false
set_option maxRecDepth 100000
set_option maxHeartbeats 4000000
namespace WW
open PySem PySem.Spec PyProof.Rows L2
section
variable {K : PySem.W.Frag} {B : Addr → Prop} {ρ : List Slot} {ta : TE} {α β γ δ : Type} {e_α : Enc α} {e_β : Enc β} {e_γ : Enc γ} {e_δ : Enc δ}
theorem d_q4 {p : T4 α β γ δ} {i : Int} {ε : Type} {e_ε : Enc ε} {x : ε} (h : DE K B ta ρ p) (f : ∀ S v1 v2 v3 v4, Enc.rep K S v1 p.a → Enc.rep K S v2 p.b → Enc.rep K S v3 p.c → Enc.rep K S v4 p.d → ∃ v, atI [v1, v2, v3, v4] i = some v ∧ Enc.rep K S v x) : DE K B (tOp (rIxQ K) ta (tC (.int i))) ρ x := fun S0 H0 S H σ E Q q =>
  h S0 H0 S H σ E _ fun v S1 H1 e1 ⟨p, v1, v2, v3, v4, ev, hq, h1, h2, h3, h4⟩ => by
    subst ev
    obtain ⟨v, g1, g2⟩ := f S1 v1 v2 v3 v4 h1 h2 h3 h4
    exact ⟨p, _, i, v, rfl, rfl, .inr (Evl.ex_t e1.i hq), g1, q v S1 H1 e1 g2⟩
theorem d_q4a {p : T4 α β γ δ} (h : DE K B ta ρ p) : DE K B (tOp (rIxQ K) ta (tC (.int 0))) ρ p.a := d_q4 h fun S v1 v2 v3 v4 h1 _ _ _ => ⟨v1, rfl, h1⟩
theorem d_q4b {p : T4 α β γ δ} (h : DE K B ta ρ p) : DE K B (tOp (rIxQ K) ta (tC (.int 1))) ρ p.b := d_q4 h fun S v1 v2 v3 v4 _ h1 _ _ => ⟨v2, rfl, h1⟩
theorem d_q4c {p : T4 α β γ δ} (h : DE K B ta ρ p) : DE K B (tOp (rIxQ K) ta (tC (.int 2))) ρ p.c := d_q4 h fun S v1 v2 v3 v4 _ _ h1 _ => ⟨v3, rfl, h1⟩
theorem d_q4d {p : T4 α β γ δ} (h : DE K B ta ρ p) : DE K B (tOp (rIxQ K) ta (tC (.int 3))) ρ p.d := d_q4 h fun S v1 v2 v3 v4 _ _ _ h1 => ⟨v4, rfl, h1⟩
end
section
variable {P : Program} {w : World} {K : PySem.W.Frag} {mg : Str → Option Value} {base : Heap} {f : Addr} {fd : FuncData}
def dpPut : List Slot → (Slot → Prop) → Prop := fun ss R => ∃ (ms : List DMd) (m : DMd), ss = [.val (HOb.mk ms), .val (MOb.mk m)] ∧ m.n ∈ ms.map (·.n) ∧ ms.length ≤ 10 ∧ KnOk (putM ms m) ∧ ShsOk (putM ms m) ∧ (AllGo (putM ms m) → R (.val (α := Option (U Str)) none)) ∧ ∀ rg, Rung (putM ms m) rg → R (.val (α := Option (U Str)) (some rg))
abbrev s_l_put : Stmt := top 60
abbrev N_l_put : List Str := ["_law_house_here", "_law_module_here", "_law_found", "e"]
theorem sc_l_put : FnScope N_l_put ["_law_house_here", "_law_module_here"] (defScope s_l_put) := ⟨rfl, rfl, rfl, by decide +kernel, rfl, by decide +kernel, by decide +kernel⟩

theorem ok_put (F : FnP K "_law_put" s_l_put f fd) (c_House : Cls K (He.ga K "House")) (m_NeverGoes : mg "NeverGoes" = some (.ref (He.ga K "NeverGoes")))
    (xf_NeverGoes : XfC K (He.ga K "NeverGoes")) (nf_NeverGoes_ring : PySem.W.findIn K (.ref (He.ga K "NeverGoes")) "ring" = some none) (k3 : PySem.W.exmOne K (.ref (He.ga K "NeverGoes")) (.ref (He.ga K "NeverGoes")) = some true)
    (g_House_with_module : MthAt P w K mg base (L2.CX P w) 6 (He.ga K "House") "with_module" ["self", "module"] (spTXH K (dpWith K))) : FnOk P w K mg base CX0 7 f fd ["_law_house_here", "_law_module_here"] (spT K dpPut) := by
  refine okT F sc_l_put (fun ss R h => ?_) (fun cdv A outer s H E hr => ⟨_, (pss_cons (ps_set (i := 2) sc_l_put.nd rfl (.inl rfl) (pe_non))
 (pss_cons (ps_try_nm rfl rfl sc_l_put.nd (fun W pn xe tk po => pss_one (ps_expr (pe_mthX K c_House g_House_with_module tk hr (pv 0) (pa_cons (pv 1) (pa_nil))))) (.cons ⟨rfl, by decide, .inl m_NeverGoes⟩ (NmOk.as (i := 3) rfl rfl) (fun a oe cls d pn hz hf => pss_one (ps_set (i := 2) sc_l_put.nd rfl (.inl rfl) (pe_xf xf_NeverGoes nf_NeverGoes_ring hz hf (pv 3)))) (.nil)))
 (pss_one (ps_ret (pv 2))))), fun B ss R h => ?_⟩)
  · obtain ⟨ms, m, rfl, _⟩ := h
    rfl
  · obtain ⟨ms, m, rfl, hm, hl, ok1, ok2, q, qr⟩ := h
    refine dq_asgI (δ := Option (U Str)) none (d_none (e_α := inferInstance)) ?_
    show DS K B _ [.val (HOb.mk ms), .val (MOb.mk m), .val (α := Option (U Str)) none, .no] _
    refine ds_seq (ds_try (Xs := fun r S C fs => r = [.val (HOb.mk ms), .val (MOb.mk m), .val (α := Option (U Str)) none, .no] ∧ ∃ rg, Rung (putM ms m) rg ∧ ringX K rg S C fs) (fun W => dsw_drop (P := fun o : HOb => AllGo (putM ms m)) (dxw_meth (b := HOb.mk ms) (d_var rfl) (da_cons (a := MOb.mk m) (d_var rfl) da_nil) ⟨ms, m, rfl, hm, hl, ok1, ok2, fun hg => ⟨_, hg, rfl⟩, houX fun rg h S C fs hx => ⟨rg, h, hx⟩⟩ (by show _ ∉ (["known", "modules", "shapes"] : List Str); decide +kernel)) fun o ho => ds_ret (d_var rfl) (q ho)) fun ρ' S C fs hX => ?_)
    · obtain ⟨rfl, rg, hr, rfl, v, hfs, r⟩ := hX
      refine ⟨_, ⟨true, k3, fun _ => rfl, fun h => nomatch h⟩, U Str, inferInstance, "ring", rg, ⟨v, hfs, r⟩, fun a d => ?_⟩
      refine ds_asg (α := Option (U Str)) (a := some rg) (d_some (α := U Str) (a := rg) (d_xf (β := U Str) (e := ExcV.mk a d "ring" rg) (d_var rfl) rfl)) ?_
      exact ds_ret (d_var rfl) (qr rg hr)
def dpWithL : List Slot → (Slot → Prop) → Prop := fun ss R => ∃ (ms : List DMd) (i : Nat) (t : Lk), ss = [.val (α := L DMd) ms, .val (i : Int), .val t] ∧ i < ms.length ∧ ms.length ≤ 10 ∧ (ms.getD i noM).l.length ≤ 100 ∧ R (.val (α := L DMd) (withL ms i t))
abbrev s_l_with : Stmt := top 62
abbrev N_l_with : List Str := ["_law_some", "_law_at", "_law_link", "_law_other"]
theorem sc_l_with : FnScope N_l_with ["_law_some", "_law_at", "_law_link"] (defScope s_l_with) := ⟨rfl, rfl, rfl, by decide +kernel, rfl, by decide +kernel, by decide +kernel⟩

theorem ok_withL (F : FnP K "_law_with" s_l_with f fd) (m_dict : mg "dict" = none) : FnOk P w K mg base CX0 1 f fd ["_law_some", "_law_at", "_law_link"] (spT K dpWithL) := by
  refine okT F sc_l_with (fun ss R h => ?_) (fun cdv A outer s H E hr => ⟨_, (pss_cons (ps_set (i := 3) sc_l_with.nd rfl (.inl rfl) (pe_callTy call_dictD rfl m_dict (by decide +kernel) (pa_cons (pe_ix (ix_sqK K) (pv 0) (pv 1) (fun _ _ => rfl)) (pa_nil))))
 (pss_cons (ps_dput (hu_of hr) (pv 3) (pe_str) (pe_op op_cat (pe_dget (hu_of hr) (pv 3) (pe_str) (fun _ _ => rfl)) (pe_lst (pa_cons (pv 2) (pa_nil)))) rfl)
 (pss_one (ps_ret (pe_op op_cat (pe_op op_cat (pe_slice (sl_sqK K) (pv 0) (po_none) (po_some (pv 1))) (pe_lst (pa_cons (pv 3) (pa_nil)))) (pe_slice (sl_sqK K) (pv 0) (po_some (pe_op op_add (pv 1) (pe_int))) (po_none))))))), fun B ss R h => ?_⟩)
  · obtain ⟨ms, i, t, rfl, _⟩ := h
    rfl
  · obtain ⟨ms, i, t, rfl, hi, hl, ll, q⟩ := h
    have b18 : ∀ {n : Nat}, n ≤ 10000 → n ≤ BIG := fun h => Nat.le_trans h (by decide)
    have gi : ms[i]? = some (ms.getD i noM) := by rw [List.getD_eq_getElem?_getD, List.getElem?_eq_getElem hi]; rfl
    have ex : withL ms i t = ms.take i ++ [{ ms.getD i noM with l := (ms.getD i noM).l ++ [t] }] ++ ms.drop (i + 1) := rfl
    generalize ms.getD i noM = m at ll gi ex
    rw [ex] at q
    show DS K B _ [.val (α := L DMd) ms, .val (i : Int), .val t, .no] _
    refine ds_seq (ds_asgOb (P := ownD m.dc.kv) (dob_copy (d := m.dc) (d_dc (d_ix (d_Lq (d_var rfl)) (d_var rfl) (atI_nat gi)))) ?_)
    show DS K B _ [.val (α := L DMd) ms, .val (i : Int), .val t, .obj (ownD m.dc.kv)] _
    refine ds_seq (ds_dputR (n := 3) (xs := m.dc.kv) (a := linksA (m.l ++ [t])) rfl (d_av (α := L Lk) (DO.l (do_cat (d_va (α := L Lk) (d_getOb (n := 3) (a := linksA m.l) rfl d_str rfl)) (DO.l (do_lst (dl_cons (d_var rfl) dl_nil) (by show 1 ≤ BIG; decide))) (b18 (by show m.l.length + 1 ≤ 10000; omega))))) d_str (by show ("links" : Str) ∈ (["name", "inlets", "outlets", "stations", "calls", "links"] : List Str); decide +kernel) ?_)
    have er : repD m.dc.kv "links" (linksA (m.l ++ [t])) = (DMd.dc { m with l := m.l ++ [t] }).kv := rfl
    rw [er]
    show DS K B _ [.val (α := L DMd) ms, .val (i : Int), .val t, .obj (ownD (DMd.dc { m with l := m.l ++ [t] }).kv)] _
    refine ds_frzD (n := 3) rfl ?_
    show DS K B _ [.val (α := L DMd) ms, .val (i : Int), .val t, .val (DMd.dc { m with l := m.l ++ [t] })] _
    refine ds_ret (α := L DMd) (DO.l (do_cat (DO.l (do_cat (DE.is (DO.l (do_slice (d_var rfl) dp_none (dp_some (d_var rfl)))) cutA_take) (DO.l (do_lst (dl_cons (d_ofdc (m := { m with l := m.l ++ [t] }) (d_var rfl)) dl_nil) (by show 1 ≤ BIG; decide))) ?_)) (DE.is (DO.l (do_slice (d_var rfl) (dp_some (d_add (d_var rfl) d_int)) dp_none)) (cutA_drop (t := i + 1))) ?_)) q
    · rw [List.length_take]
      exact b18 (by show _ + 1 ≤ 10000; omega)
    · rw [List.length_append, List.length_take, List.length_drop]
      exact b18 (by show _ + 1 + _ ≤ 10000; omega)
end
end WW

set_option Elab.async false
set_option linter.all false
set_option maxRecDepth 100000
set_option maxHeartbeats 4000000
namespace WW
open PySem PySem.Spec PyProof.Rows L2
/-! ### what the law sees flat -/
def idxM (ms : List DMd) (z : Str) : Nat := (ms.map (·.n)).idxOf z
def flatL (ms : List DMd) : Nat → Nat → List Str × List Lk
  | 0, _ => ([], [])
  | f + 1, i => match ms[i]? with
    | none => ([], [])
    | some m => (m.i ++ m.o ++ m.s ++ m.c.flatMap fun t => (flatL ms f (idxM ms t.2)).1.map (dotted t.1), m.l ++ m.c.flatMap fun t => (flatL ms f (idxM ms t.2)).2.map (ledL t.1))
structure SzL (p : List Str × List Lk) : Prop where
  a : p.1.length ≤ 1000
  b : ∀ z ∈ p.1, z.length ≤ 1000
  c : p.2.length ≤ 1000
  d : ∀ t ∈ p.2, t.a.length ≤ 1000 ∧ t.b.length ≤ 1000
def FSz (m : DMd) : Prop := m.i.length + m.o.length + m.s.length ≤ 1000 ∧ m.l.length ≤ 1000 ∧ m.c.length ≤ 18
def FlatPre (ms : List DMd) : Nat → Nat → Prop
  | 0, i => ∃ m, ms[i]? = some m ∧ FSz m ∧ m.c = []
  | k + 1, i => ∃ m, ms[i]? = some m ∧ FSz m ∧ ∀ t ∈ m.c, t.1.length ≤ 5 ∧ t.2 ∈ ms.map (·.n) ∧ SzL (flatL ms (k + 1) (idxM ms t.2)) ∧ FlatPre ms k (idxM ms t.2)
theorem FlatPre.get {ms : List DMd} : ∀ {k i : Nat}, FlatPre ms k i → ∃ m, ms[i]? = some m ∧ FSz m ∧ ∀ t ∈ m.c, t.1.length ≤ 5 ∧ t.2 ∈ ms.map (·.n) ∧ ∃ k', k = k' + 1 ∧ SzL (flatL ms k (idxM ms t.2)) ∧ FlatPre ms k' (idxM ms t.2)
  | 0, i, ⟨m, h1, h2, h3⟩ => ⟨m, h1, h2, fun t ht => by rw [h3] at ht; cases ht⟩
  | k + 1, i, ⟨m, h1, h2, h3⟩ => ⟨m, h1, h2, fun t ht => by
    obtain ⟨q1, q2, q3, q4⟩ := h3 t ht
    exact ⟨q1, q2, k, rfl, q3, q4⟩⟩
section
variable {P : Program} {w : World} {K : PySem.W.Frag} {mg : Str → Option Value} {base : Heap} {f : Addr} {fd : FuncData}
def dpFlat (k : Nat) : List Slot → (Slot → Prop) → Prop := fun ss R => ∃ (ms : List DMd) (i : Nat), ss = [.val (α := L DMd) ms, .val (i : Int)] ∧ ms.length ≤ 10 ∧ FlatPre ms k i ∧ R (.val (α := L Str × L Lk) (flatL ms (k + 1) i))
abbrev s_l_flat : Stmt := top 58
abbrev N_l_flat : List Str := ["_law_some", "_law_at", "_law_module_here", "_law_known", "_law_places", "_law_links_here", "_law_label", "_law_name", "_law_inner", "_law_inner_links", "_law_one", "_law_place", "_law_two", "_law_marks", "_law_lasts"]
theorem sc_l_flat : FnScope N_l_flat ["_law_some", "_law_at"] (defScope s_l_flat) := ⟨rfl, rfl, rfl, by decide +kernel, rfl, by decide +kernel, by decide +kernel⟩

theorem step_flat {n : Nat} {sp : Sp} (F : FnP K "_law_flat" s_l_flat f fd) (m_list : mg "list" = none)
    (g_l_flat : FnAt P w K mg base CX0 n "_law_flat" ["_law_some", "_law_at"] sp) (hsp : ∀ k, n = k + 1 → sp = spT K (dpFlat k)) : FnOk P w K mg base CX0 (n + 1) f fd ["_law_some", "_law_at"] (spT K (dpFlat n)) := by
  refine okT F sc_l_flat (fun ss R h => ?_) (fun cdv A outer s H E hr => ?_)
  · obtain ⟨ms, i, rfl, _⟩ := h
    rfl
  · have hk : n ≤ n := Nat.le_refl n
    refine ⟨_, (pss_cons (ps_par (i := 2) (j := 3) rfl sc_l_flat.nd rfl rfl (by decide) rfl rfl (pa_cons (pe_ix (ix_sqK K) (pv 0) (pv 1) (fun _ _ => rfl)) (pa_cons (pe_lc (own := [("_law_one", 10)]) rfl sc_l_flat.nd (pi_seqK K (pv 0)) (blkOk_by (N := N_l_flat) (sc := defScope s_l_flat) (by decide +kernel)) (fun _ _ _ _ _ => pg_name (i := 10) sc_l_flat.nd rfl (.inl rfl)) (fun _ _ _ _ _ => pts_nil) (fun _ _ _ _ _ => pe_dget (hu_of hr) (pv 10) (pe_str) (fun _ _ => rfl))) (pa_nil))) rfl)
 (pss_cons (ps_set (i := 4) sc_l_flat.nd rfl (.inl rfl) (pe_op op_cat (pe_op op_cat (pe_dget (hu_of hr) (pv 2) (pe_str) (fun _ _ => rfl)) (pe_dget (hu_of hr) (pv 2) (pe_str) (fun _ _ => rfl))) (pe_dget (hu_of hr) (pv 2) (pe_str) (fun _ _ => rfl))))
 (pss_cons (ps_set (i := 5) sc_l_flat.nd rfl (.inl rfl) (pe_callTy (call_listK K) rfl m_list (by decide +kernel) (pa_cons (pe_dget (hu_of hr) (pv 2) (pe_str) (fun _ _ => rfl)) (pa_nil))))
 (pss_cons (ps_for PassesOwn.never rfl (pi_seqK K (pe_dget (hu_of hr) (pv 2) (pe_str) (fun _ _ => rfl))) (pg_tupK (n := 2) K rfl (pgs_cons (pg_name (i := 6) sc_l_flat.nd rfl (.inr rfl)) (pgs_cons (pg_name (i := 7) sc_l_flat.nd rfl (.inl rfl)) (pgs_nil)))) (pss_cons (ps_asg (pe_fn g_l_flat hr rfl (pa_cons (pv 0) (pa_cons (pe_bmK K PySem.F.plainAttrs_list PySem.F.slot_list_index PySem.F.type_list_index (mt_indexK K) (pv 3) (pa_cons (pv 7) (pa_nil))) (pa_nil))) hk) (pg_tupK (n := 2) K rfl (pgs_cons (pg_name (i := 8) sc_l_flat.nd rfl (.inl rfl)) (pgs_cons (pg_name (i := 9) sc_l_flat.nd rfl (.inl rfl)) (pgs_nil)))))
 (pss_cons (ps_set (i := 4) sc_l_flat.nd rfl (.inl rfl) (pe_op op_cat (pv 4) (pe_lc (own := [("_law_place", 11)]) rfl sc_l_flat.nd (pi_seqK K (pv 8)) (blkOk_by (N := N_l_flat) (sc := defScope s_l_flat) (by decide +kernel)) (fun _ _ _ _ _ => pg_name (i := 11) sc_l_flat.nd rfl (.inl rfl)) (fun _ _ _ _ _ => pts_nil) (fun _ _ _ _ _ => pe_op op_add_str (pe_op op_add_str (pv 6) (pe_str)) (pv 11)))))
 (pss_one (ps_expr (pe_bmK K PySem.F.plainAttrs_list PySem.F.slot_list_extend PySem.F.type_list_extend mt_extend (pv 5) (pa_cons (pe_lc (own := [("_law_one", 10), ("_law_two", 12), ("_law_marks", 13), ("_law_lasts", 14)]) rfl sc_l_flat.nd (pi_seqK K (pv 9)) (blkOk_by (N := N_l_flat) (sc := defScope s_l_flat) (by decide +kernel)) (fun _ _ _ _ _ => pg_tupK (n := 4) K rfl (pgs_cons (pg_name (i := 10) sc_l_flat.nd rfl (.inl rfl)) (pgs_cons (pg_name (i := 12) sc_l_flat.nd rfl (.inl rfl)) (pgs_cons (pg_name (i := 13) sc_l_flat.nd rfl (.inl rfl)) (pgs_cons (pg_name (i := 14) sc_l_flat.nd rfl (.inl rfl)) (pgs_nil)))))) (fun _ _ _ _ _ => pts_nil) (fun _ _ _ _ _ => pe_tup (pa_cons (pe_op op_add_str (pe_op op_add_str (pv 6) (pe_str)) (pv 10)) (pa_cons (pe_op op_add_str (pe_op op_add_str (pv 6) (pe_str)) (pv 12)) (pa_cons (pv 13) (pa_cons (pv 14) (pa_nil))))))) (pa_nil))))))))
 (pss_one (ps_ret (pe_tup (pa_cons (pv 4) (pa_cons (pv 5) (pa_nil)))))))))), fun B ss R h => ?_⟩
    obtain ⟨ms, i, rfl, ml, pre, q⟩ := h
    have b18 : ∀ {n : Nat}, n ≤ 100000 → n ≤ BIG := fun h => Nat.le_trans h (by decide)
    obtain ⟨m, gi, ⟨z1, z2, z3⟩, hc⟩ := pre.get
    show DS K B _ [.val (α := L DMd) ms, .val (i : Int), .no, .no, .no, .no, .no, .no, .no, .no, .no, .no, .no, .no, .no] _
    refine ds_seq (ds_par (α := DMd) (β := L Str) (a := m) (b := ms.map (·.n)) (d_ix (d_Lq (d_var rfl)) (d_var rfl) (atI_nat gi)) (DO.l (do_map (fun m : DMd => m.n) (di_seq (d_Lq (d_var rfl))) (b18 (by omega)) fun m hm => ⟨_, _, dg_name, by simp, d_va (α := Str) (d_getD (d := m.dc) (a := AV.str m.n) (d_dc (d_var rfl)) d_str rfl)⟩)) ?_)
    show DS K B _ [.val (α := L DMd) ms, .val (i : Int), .val m, .val (α := L Str) (ms.map (·.n)), .no, .no, .no, .no, .no, .no, .no, .no, .no, .no, .no] _
    refine dq_asgI (δ := L Str) (m.i ++ m.o ++ m.s) (DO.l (do_cat (DO.l (do_cat (d_va (α := L Str) (d_getD (d := m.dc) (a := strsA m.i) (d_dc (d_var rfl)) d_str rfl)) (d_va (α := L Str) (d_getD (d := m.dc) (a := strsA m.o) (d_dc (d_var rfl)) d_str rfl)) (b18 (by omega)))) (d_va (α := L Str) (d_getD (d := m.dc) (a := strsA m.s) (d_dc (d_var rfl)) d_str rfl)) (b18 (by rw [List.length_append]; omega)))) ?_
    refine dq_asgO (xs := m.l) (do_list (d_Lq (d_va (α := L Lk) (d_getD (d := m.dc) (a := linksA m.l) (d_dc (d_var rfl)) d_str rfl)))) ?_
    show DS K B _ [.val (α := L DMd) ms, .val (i : Int), .val m, .val (α := L Str) (ms.map (·.n)), .val (α := L Str) (m.i ++ m.o ++ m.s), .own m.l, .no, .no, .no, .no, .no, .no, .no, .no, .no] _
    let g1 : Str × Str → List Str := fun t => (flatL ms n (idxM ms t.2)).1.map (dotted t.1)
    let g2 : Str × Str → List Lk := fun t => (flatL ms n (idxM ms t.2)).2.map (ledL t.1)
    have ef : flatL ms (n + 1) i = (m.i ++ m.o ++ m.s ++ m.c.flatMap g1, m.l ++ m.c.flatMap g2) := by
      rw [flatL, gi]
    rw [ef] at q
    have sz : ∀ t ∈ m.c, (g1 t).length ≤ 1000 ∧ (g2 t).length ≤ 1000 := fun t ht => by
      obtain ⟨_, _, k', rfl, s, _⟩ := hc t ht
      exact ⟨by show (List.map _ _).length ≤ 1000; rw [List.length_map]; exact s.a, by show (List.map _ _).length ≤ 1000; rw [List.length_map]; exact s.c⟩
    have pl : ∀ j, ((m.c.take j).flatMap g1).length ≤ 18000 ∧ ((m.c.take j).flatMap g2).length ≤ 18000 := fun j => by
      have h1 := flat_len g1 1000 (l := m.c.take j) fun t ht => (sz t (List.mem_of_mem_take ht)).1
      have h2 := flat_len g2 1000 (l := m.c.take j) fun t ht => (sz t (List.mem_of_mem_take ht)).2
      have : (m.c.take j).length ≤ 18 := by rw [List.length_take]; omega
      constructor <;> omega
    refine dq_for (xs := m.c) (di_seq (d_Lq (d_va (α := L (Str × Str)) (d_getD (d := m.dc) (a := callsA m.c) (d_dc (d_var rfl)) d_str rfl)))) (fun j r => ∃ s6 s7 s8 s9 s10 s11 s12 s13 s14 : Slot, r = [.val (α := L DMd) ms, .val (i : Int), .val m, .val (α := L Str) (ms.map (·.n)), .val (α := L Str) (m.i ++ m.o ++ m.s ++ (m.c.take j).flatMap g1), .own (m.l ++ (m.c.take j).flatMap g2), s6, s7, s8, s9, s10, s11, s12, s13, s14]) ⟨.no, .no, .no, .no, .no, .no, .no, .no, .no, by simp⟩ (fun j t r ht hI => ?_) fun r hI => ?_
    · obtain ⟨s6, s7, s8, s9, s10, s11, s12, s13, s14, rfl⟩ := hI
      have tm := List.mem_of_getElem? ht
      obtain ⟨tl, tn, k', rfl, s, pre'⟩ := hc t tm
      have e1 : (m.c.take (j + 1)).flatMap g1 = (m.c.take j).flatMap g1 ++ g1 t := by rw [List.take_add_one, ht, List.flatMap_append]; simp
      have e2 : (m.c.take (j + 1)).flatMap g2 = (m.c.take j).flatMap g2 ++ g2 t := by rw [List.take_add_one, ht, List.flatMap_append]; simp
      obtain ⟨l1, l2⟩ := pl j
      obtain ⟨i1, i2⟩ := idx_mem tn
      have sp' := hsp k' rfl
      subst sp'
      have eg1 : g1 t = (flatL ms (k' + 1) (idxM ms t.2)).1.map (dotted t.1) := rfl
      have eg2 : g2 t = (flatL ms (k' + 1) (idxM ms t.2)).2.map (ledL t.1) := rfl
      generalize hfl : flatL ms (k' + 1) (idxM ms t.2) = fl at s eg1 eg2
      obtain ⟨ip, il⟩ := fl
      have sa : ip.length ≤ 1000 := s.a
      have sb : ∀ z ∈ ip, z.length ≤ 1000 := s.b
      have sc : il.length ≤ 1000 := s.c
      have sd : ∀ t ∈ il, t.a.length ≤ 1000 ∧ t.b.length ≤ 1000 := s.d
      have eg1 : g1 t = ip.map (dotted t.1) := eg1
      have eg2 : g2 t = il.map (ledL t.1) := eg2
      rw [e1, e2, eg1, eg2]
      generalize (m.c.take j).flatMap g1 = A1 at l1
      generalize (m.c.take j).flatMap g2 = A2 at l2
      refine ⟨_, _, DG.pair dg_name dg_name, ?_⟩
      show DS K B _ [.val (α := L DMd) ms, .val (i : Int), .val m, .val (α := L Str) (ms.map (·.n)), .val (α := L Str) (m.i ++ m.o ++ m.s ++ A1), .own (m.l ++ A2), .val t.1, .val t.2, s8, s9, s10, s11, s12, s13, s14] _
      refine dq_asgG (α := L Str × L Lk) (a := (ip, il)) (d_call (da_cons (d_var rfl) (da_cons (a := ((idxM ms t.2 : Nat) : Int)) (d_indexS (d_var rfl) (d_var rfl) i1 i2) da_nil)) ⟨ms, idxM ms t.2, rfl, ml, pre', by rw [hfl]; exact rfl⟩) (DG.pair dg_name dg_name) ?_
      show DS K B _ [.val (α := L DMd) ms, .val (i : Int), .val m, .val (α := L Str) (ms.map (·.n)), .val (α := L Str) (m.i ++ m.o ++ m.s ++ A1), .own (m.l ++ A2), .val t.1, .val t.2, .val (α := L Str) ip, .val (α := L Lk) il, s10, s11, s12, s13, s14] _
      have dd : ∀ {ρ : List Slot} {ta tb : TE} {a b : Str}, DE K B ta ρ a → DE K B tb ρ b → a.length ≤ 5 → b.length ≤ 1000 → DE K B (tOp (fun x y H Q => ∃ i j, x = .str i ∧ y = .str j ∧ i.length + j.length ≤ sizeLine ∧ Q (.str (i ++ j)) H) (tOp (fun x y H Q => ∃ i j, x = .str i ∧ y = .str j ∧ i.length + j.length ≤ sizeLine ∧ Q (.str (i ++ j)) H) ta (tC (.str "."))) tb) ρ (dotted a b) := fun h1 h2 l1 l2 => d_addS (d_addS h1 d_str (b18 (by show _ + 1 ≤ 100000; omega))) h2 (b18 (by rw [str_app_len]; show _ + 1 + _ ≤ 100000; omega))
      refine dq_asgI (δ := L Str) (m.i ++ m.o ++ m.s ++ A1 ++ ip.map (dotted t.1)) (DO.l (do_cat (d_var rfl) (DO.l (do_map (dotted t.1) (di_seq (d_Lq (d_var rfl))) (b18 (by omega)) fun z hz => ⟨_, _, dg_name, by simp, dd (d_var rfl) (d_var rfl) tl (sb z hz)⟩)) (b18 (by rw [List.length_map, List.length_append, List.length_append, List.length_append]; omega)))) ?_
      refine ds_extend (n := 5) (xs := m.l ++ A2) (ys := il.map (ledL t.1)) rfl (DO.l (do_map (ledL t.1) (di_seq (d_Lq (d_var rfl))) (b18 (by omega)) fun k hk => ⟨_, _, DG.quad dg_name dg_name dg_name dg_name, by simp, d_quad (dd (d_var rfl) (d_var rfl) tl (sd k hk).1) (dd (d_var rfl) (d_var rfl) tl (sd k hk).2) (d_var rfl) (d_var rfl)⟩)) (b18 (by rw [List.length_map, List.length_append]; omega)) ⟨.val t.1, .val t.2, .val (α := L Str) ip, .val (α := L Lk) il, s10, s11, s12, s13, s14, by simp only [List.append_assoc]; rfl⟩
    · obtain ⟨s6, s7, s8, s9, s10, s11, s12, s13, s14, rfl⟩ := hI
      rw [List.take_length]
      refine ds_frz (n := 5) rfl (ds_ret (α := L Str × L Lk) (d_pair (d_var rfl) (d_var rfl)) q)
theorem ok_nev {k : Nat} {ps : List Str} : FnOk P w K mg base CX0 k f fd ps (fun _ _ _ _ => False) := ⟨fun _ _ _ _ h => h.elim, fun _ _ _ _ _ _ _ _ _ _ _ _ _ h => h.elim⟩
theorem ok_flat (F : FnP K "_law_flat" s_l_flat f fd) (b : Binds K fd ["_law_some", "_law_at"] []) (kp : PySem.W.keepIn K (.ref (He.ga K "_law_flat")) = true) (hf : f = He.ga K "_law_flat") (hg : mg "_law_flat" = some (.ref (He.ga K "_law_flat"))) (m_list : mg "list" = none) :
    ∀ n, FnOk P w K mg base CX0 (n + 1) f fd ["_law_some", "_law_at"] (spT K (dpFlat n))
  | 0 => step_flat (sp := fun _ _ _ _ => False) F m_list ⟨⟨fd, ok_nev, b⟩, kp, hg⟩ fun k z => absurd z (Nat.succ_ne_zero k).symm
  | n + 1 => step_flat (sp := spT K (dpFlat n)) F m_list ⟨⟨fd, hf ▸ ok_flat F b kp hf hg m_list n, b⟩, kp, hg⟩ fun k z => by
    cases z
    rfl
end
end WW

set_option Elab.async false
set_option linter.all false
set_option maxRecDepth 100000
set_option maxHeartbeats 4000000
namespace WW
open PySem PySem.Spec PyProof.Rows L2
/-! ### the law's look at a ring; what is reached -/
theorem ch_at {E : Str → Str → Prop} : ∀ {l : List Str} {x : Str}, ch E x l → ∀ (j : Nat) (a b : Str), (x :: l)[j]? = some a → l[j]? = some b → E a b
  | [], x, _, j, a, b, _, h => by simp at h
  | y :: r, x, h, 0, a, b, h1, h2 => by
    cases h1
    cases h2
    exact h.1
  | y :: r, x, h, j + 1, a, b, h1, h2 => ch_at h.2 j a b (by simpa using h1) (by simpa using h2)
theorem Cyc.at' {E : Str → Str → Prop} {l : List Str} (h : Cyc E l) (j : Nat) (hj : j < l.length) : ∃ a b, atI l ((j : Int) - 1) = some a ∧ l[j]? = some b ∧ E a b := by
  obtain ⟨x, r, rfl, c⟩ := h
  cases j with
  | zero =>
    have e1 : (x :: r)[r.length]? = some ((x :: r).getD r.length x) := by rw [List.getD_eq_getElem?_getD, List.getElem?_eq_getElem (by simp)]; rfl
    refine ⟨(x :: r).getD r.length x, x, ?_, rfl, ?_⟩
    · unfold atI ixN
      rw [if_neg (by decide), if_pos (by simp; omega)]
      show (x :: r)[((0 : Int) - 1 + (((x :: r).length : Nat) : Int)).toNat]? = _
      rw [show ((0 : Int) - 1 + (((x :: r).length : Nat) : Int)).toNat = r.length by simp; omega]
      exact e1
    · refine ch_at c r.length _ _ ?_ (by simp)
      rw [show x :: (r ++ [x]) = (x :: r) ++ [x] from rfl, List.getElem?_append_left (by simp)]
      exact e1
  | succ k =>
    have kl : k < r.length := by simpa using hj
    have e1 : (x :: r)[k]? = some ((x :: r).getD k x) := by rw [List.getD_eq_getElem?_getD, List.getElem?_eq_getElem (by simp; omega)]; rfl
    have e2 : r[k]? = some (r.getD k x) := by rw [List.getD_eq_getElem?_getD, List.getElem?_eq_getElem kl]; rfl
    refine ⟨(x :: r).getD k x, r.getD k x, ?_, ?_, ch_at c k _ _ ?_ ?_⟩
    · rw [show ((k + 1 : Nat) : Int) - 1 = (k : Int) by omega]
      exact atI_nat e1
    · simpa using e2
    · rw [show x :: (r ++ [x]) = (x :: r) ++ [x] from rfl, List.getElem?_append_left (by simp; omega)]
      exact e1
    · rw [List.getElem?_append_left kl]
      exact e2
theorem srt_srtd {α : Type} {lt : α → α → Bool} (T : TotB lt) (ts : List α) : SrtO.Srtd lt (srt lt ts) := by
  have := List.pairwise_mergeSort (le := fun x y => !lt y x) (fun a b c h1 h2 => by
    have h1 : (!lt b a) = true := h1
    have h2 : (!lt c b) = true := h2
    show (!lt c a) = true
    rw [Bool.not_eq_true'] at h1 h2 ⊢
    exact T.swo.tr a b c h1 h2) (fun a b => by
    show (!lt b a || !lt a b) = true
    cases h : lt b a with
    | false => rfl
    | true => rw [T.asym h]; rfl) ts
  exact List.Pairwise.imp (fun h => by simpa using h) this
theorem srt_first {x : Str} {r : List Str} (h : ∀ y ∈ x :: r, ltS y x = false) : (srt ltS (x :: r))[0]? = some x := by
  have pm : (srt ltS (x :: r)).Perm (x :: r) := List.mergeSort_perm _ _
  cases e : srt ltS (x :: r) with
  | nil => rw [e] at pm; exact absurd pm.length_eq (by simp)
  | cons y s =>
    have hy := h y (pm.subset (by rw [e]; exact List.mem_cons_self))
    have hx : x ∈ srt ltS (x :: r) := pm.symm.subset List.mem_cons_self
    rw [e] at hx
    rcases List.mem_cons.mp hx with hx | hx
    · rw [hx]; rfl
    · have sd : List.Pairwise (fun a b => ltS b a = false) (srt ltS (x :: r)) := srt_srtd totS _
      rw [e] at sd
      have := (List.pairwise_cons.mp sd).1 x hx
      rcases totS.tri x y with h | h | h
      · rw [h]; rfl
      · rw [h] at this; cases this
      · rw [h] at hy; cases hy
section
variable {P : Program} {w : World} {K : PySem.W.Frag} {mg : Str → Option Value} {base : Heap} {f : Addr} {fd : FuncData}
def LksC (ls : List Lk) : Prop := ls.length ≤ 10000 ∧ ∀ t ∈ ls, canQ t.a ∧ canQ t.b
def dpIsRing : List Slot → (Slot → Prop) → Prop := fun ss R => ∃ (ls : List Lk) (cy : List Str), ss = [.val (α := L Lk) ls, .val (α := U Str) cy] ∧ IsRing ls cy ∧ LksC ls ∧ cy.length < 64 ∧ (∀ z ∈ cy, canQ z) ∧ R (.val true)
abbrev s_l_is_ring : Stmt := top 61
abbrev N_l_is_ring : List Str := ["_law_links_here", "_law_ring", "_law_pairs", "_law_one", "_law_two", "_law_marks", "_law_lasts", "_law_at", "_law_place"]
theorem sc_l_is_ring : FnScope N_l_is_ring ["_law_links_here", "_law_ring"] (defScope s_l_is_ring) := ⟨rfl, rfl, rfl, by decide +kernel, rfl, by decide +kernel, by decide +kernel⟩

theorem ok_is_ring (F : FnP K "_law_is_ring" s_l_is_ring f fd) (m_isinstance : mg "isinstance" = none) (m_tuple : mg "tuple" = none) (m_len : mg "len" = none) (m_set : mg "set" = none) (m_str : mg "str" = none) (m_sorted : mg "sorted" = none) (m_range : mg "range" = none) : FnOk P w K mg base CX0 1 f fd ["_law_links_here", "_law_ring"] (spT K dpIsRing) := by
  refine okT F sc_l_is_ring (fun ss R h => ?_) (fun cdv A outer s H E hr => ⟨_, (pss_cons (ps_if (PW.pt (pw_or (pt_not (pt_val (pe_callB (call_isiK1 K) rfl m_isinstance (by decide +kernel) (pa_cons (pv 1) (pa_cons (pe_bltn (v := .ty "tuple") (u := .type "tuple") rfl m_tuple (by decide +kernel) rfl) (pa_nil)))))) (pw_or (pt_cmpR op_eq (pe_callB (call_lenK K) rfl m_len (by decide +kernel) (pa_cons (pv 1) (pa_nil))) (pe_int) (nomark _)) (pw_or1 (pt_cmpR op_ne (pe_lenSetT K rfl rfl m_len rfl m_set (pe_lc (own := [("_law_place", 8)]) rfl sc_l_is_ring.nd (pi_seqK K (pv 1)) (blkOk_by (N := N_l_is_ring) (sc := defScope s_l_is_ring) (by decide +kernel)) (fun _ _ _ _ _ => pg_name (i := 8) sc_l_is_ring.nd rfl (.inl rfl)) (fun _ _ _ _ _ => pts_nil) (fun _ _ _ _ _ => pe_callTy SkE.call_str_str rfl m_str (by decide +kernel) (pa_cons (pv 8) (pa_nil))))) (pe_callB (call_lenK K) rfl m_len (by decide +kernel) (pa_cons (pv 1) (pa_nil))) (nomark _)))))) (pss_one (ps_ret (pe_bl))) (pss_nil))
 (pss_cons (ps_if (pt_cmpR op_ne (pe_ix (ix_sqK K) (pe_callB (cr_sortedSK K) rfl m_sorted (by decide +kernel) (pa_cons (pe_lc (own := [("_law_place", 8)]) rfl sc_l_is_ring.nd (pi_seqK K (pv 1)) (blkOk_by (N := N_l_is_ring) (sc := defScope s_l_is_ring) (by decide +kernel)) (fun _ _ _ _ _ => pg_name (i := 8) sc_l_is_ring.nd rfl (.inl rfl)) (fun _ _ _ _ _ => pts_nil) (fun _ _ _ _ _ => pe_callTy SkE.call_str_str rfl m_str (by decide +kernel) (pa_cons (pv 8) (pa_nil)))) (pa_nil))) (pe_int) (fun _ _ => rfl)) (pe_ix (ix_sqK K) (pv 1) (pe_int) (fun _ _ => rfl)) (nomark _)) (pss_one (ps_ret (pe_bl))) (pss_nil))
 (pss_cons (ps_set (i := 2) sc_l_is_ring.nd rfl (.inr rfl) (pe_lc (own := [("_law_one", 3), ("_law_two", 4), ("_law_marks", 5), ("_law_lasts", 6)]) rfl sc_l_is_ring.nd (pi_seqK K (pv 0)) (blkOk_by (N := N_l_is_ring) (sc := defScope s_l_is_ring) (by decide +kernel)) (fun _ _ _ _ _ => pg_tupK (n := 4) K rfl (pgs_cons (pg_name (i := 3) sc_l_is_ring.nd rfl (.inl rfl)) (pgs_cons (pg_name (i := 4) sc_l_is_ring.nd rfl (.inl rfl)) (pgs_cons (pg_name (i := 5) sc_l_is_ring.nd rfl (.inl rfl)) (pgs_cons (pg_name (i := 6) sc_l_is_ring.nd rfl (.inl rfl)) (pgs_nil)))))) (fun _ _ _ _ _ => pts_one (pt_cmpR op_eq (pv 5) (pe_int) (nomark _))) (fun _ _ _ _ _ => pe_tup (pa_cons (pv 3) (pa_cons (pv 4) (pa_nil))))))
 (pss_one (ps_ret (pe_cmpR (op_eqE K hr) (pe_lc (own := [("_law_at", 7)]) rfl sc_l_is_ring.nd (pi_range1 rfl m_range (pa_cons (pe_callB (call_lenK K) rfl m_len (by decide +kernel) (pa_cons (pv 1) (pa_nil))) (pa_nil))) (blkOk_by (N := N_l_is_ring) (sc := defScope s_l_is_ring) (by decide +kernel)) (fun _ _ _ _ _ => pg_name (i := 7) sc_l_is_ring.nd rfl (.inl rfl)) (fun _ _ _ _ _ => pts_one (pt_cmpR (op_notInDK K hr) (pe_tup (pa_cons (pe_ix (ix_sqK K) (pv 1) (pe_op op_sub (pv 7) (pe_int)) (fun _ _ => rfl)) (pa_cons (pe_ix (ix_sqK K) (pv 1) (pv 7) (fun _ _ => rfl)) (pa_nil)))) (pv 2) rfl)) (fun _ _ _ _ _ => pv 7)) (pe_lst (pa_nil)) (nomark _))))))), fun B ss R h => ?_⟩)
  · obtain ⟨ls, cy, rfl, _⟩ := h
    rfl
  · obtain ⟨ls, cy, rfl, ir, ⟨ll, lc⟩, rl, rc, q⟩ := h
    have b18 : ∀ {n : Nat}, n ≤ 100000 → n ≤ BIG := fun h => Nat.le_trans h (by decide)
    obtain ⟨x, r, ecy, cyc0⟩ := id ir.cyc
    have r0 : 0 < cy.length := by rw [ecy]; exact Nat.succ_pos _
    show DS K B _ [.val (α := L Lk) ls, .val (α := U Str) cy, .no, .no, .no, .no, .no, .no, .no] _
    have stz : ∀ {i : Nat}, DE K B (tLc (iSeq K (tVar 1)) (gName 8) tYes (tCB (fun xs H Q => ∃ a, xs = [V.str a] ∧ Q (.str a) H) (tCons (tVar 8) tNil)) [8]) [.val (α := L Lk) ls, .val (α := U Str) cy, .no, .no, .no, .no, .no, .no, .no] (α := L Str) cy := DE.is (DO.l (do_map (fun p : Str => p) (di_seq (d_Uq (d_var rfl))) (b18 (by omega)) fun p hp => ⟨_, _, dg_name, by simp, d_strT (d_var rfl)⟩)) (List.map_id' _)
    refine dq_when (c := false) (DT.is (dt_or (dt_not (dt_B (d_isi (r := true) (d_var (α := U Str) rfl) inferInstance (by decide +kernel : L2.kitB "tuple" "tuple" = some true)))) fun _ => dt_or (dt_test (d_eq (d_len (d_Uq (d_var rfl))) d_int inferInstance inferInstance)) fun _ => dt_test (d_ne (d_lenSet (d_Lq (stz (i := 0))) (by omega)) (d_len (d_Uq (d_var rfl))) inferInstance inferInstance)) ?_) (fun h => nomatch h) fun _ => ?_
    · rw [unl_all.mpr ir.nd, decide_eq_true rfl, decide_eq_false (by omega)]
      rfl
    refine dq_when (c := false) (DT.is (dt_test (d_ne (d_ix (xs := srt ltS cy) (x := x) (DO.q (d_sortS (stz (i := 0)) rl)) d_int (atI_nat (j := 0) (by rw [ecy]; exact srt_first fun y hy => ir.least y (by rw [ecy]; exact hy) x (by rw [ecy]; rfl)))) (d_ix (x := x) (d_Uq (d_var rfl)) d_int (atI_nat (j := 0) (by rw [ecy]; rfl))) inferInstance inferInstance)) (by rw [decide_eq_true rfl]; rfl)) (fun h => nomatch h) fun _ => ?_
    let ps : List (Str × Str) := (ls.filter fun t => decide (t.c = 0)).map fun t => (t.a, t.b)
    have psz : ∀ a b, Zero ls a b → (a, b) ∈ ps := fun a b ⟨t, ht, t0, ea, eb⟩ => List.mem_map.mpr ⟨t, List.mem_filter.mpr ⟨ht, decide_eq_true t0⟩, by rw [ea, eb]⟩
    have psc : ∀ p ∈ ps, canQ p := fun p hp => by
      obtain ⟨t, ht, rfl⟩ := List.mem_map.mp hp
      exact canP.mpr (lc t (List.mem_filter.mp ht).1)
    refine dq_asgI (δ := L (Str × Str)) ps (DO.l (do_lc (fun t : Lk => decide (t.c = 0)) (fun t : Lk => (t.a, t.b)) (di_seq (d_Lq (d_var rfl))) (b18 (by omega)) fun t ht => ⟨_, _, DG.quad dg_name dg_name dg_name dg_name, by simp, dt_test (d_eq (d_var rfl) d_int inferInstance inferInstance), fun _ => d_pair (d_var rfl) (d_var rfl)⟩)) ?_
    generalize ps = ps at psz psc
    show DS K B _ [.val (α := L Lk) ls, .val (α := U Str) cy, .val (α := L (Str × Str)) ps, .no, .no, .no, .no, .no, .no] _
    refine ds_retE q (d_eqE (xs := ((rg 0 (cy.length : Int)).filter fun _ => false).map fun j : Int => j) (DO.l (do_lc (fun _ : Int => false) (fun j : Int => j) (di_rng1 (d_len (d_Uq (d_var rfl))) (by omega) (by omega)) (b18 (by rw [rg_len]; omega)) fun j hj => ⟨_, _, dg_name, by simp, ?_, fun _ => d_var rfl⟩))) ?_
    · have hj := rg_mem.mp hj
      obtain ⟨k, rfl⟩ : ∃ k : Nat, j = k := ⟨j.toNat, by omega⟩
      obtain ⟨a, b, e1, e2, e3⟩ := ir.cyc.at' k (by omega)
      have ca := rc a (by
        have := e1
        unfold atI at this
        cases h : ixN cy.length ((k : Int) - 1) with
        | none => rw [h] at this; cases this
        | some n => rw [h] at this; exact List.mem_of_getElem? this)
      have cb := rc b (List.mem_of_getElem? e2)
      exact DT.is (dt_test (d_notInQ (c := true) (a := (a, b)) (xs := ps) (d_pair (d_ix (d_Uq (d_var rfl)) (d_sub (d_var rfl) d_int) e1) (d_ix (d_Uq (d_var rfl)) (d_var rfl) (atI_nat e2))) (d_var rfl) ⟨fun _ => psz a b e3, fun _ => rfl⟩ inferInstance (by decide) (canP.mpr ⟨ca, cb⟩) psc)) rfl
    · have : (rg 0 (cy.length : Int)).filter (fun _ => false) = [] := List.filter_eq_nil_iff.mpr fun _ _ h => nomatch h
      rw [this]
      rfl
end
end WW

set_option Elab.async false
set_option linter.all false
set_option maxRecDepth 100000
set_option maxHeartbeats 4000000
namespace WW
open PySem PySem.Spec PyProof.Rows L2
/-! ### what is reached by links without marks -/
inductive Reach (ls : List Lk) (p : Str) : Str → Prop
  | here : Reach ls p p
  | on {a b : Str} : Reach ls p a → Zero ls a b → Reach ls p b
structure ReachI (ls : List Lk) (p : Str) (zs : List Str) (i : Nat) : Prop where
  nd : zs.Nodup
  pm : p ∈ zs
  re : ∀ z ∈ zs, Reach ls p z
  sub : ∀ z ∈ zs, z = p ∨ z ∈ ls.map (·.b)
  at' : i ≤ zs.length
  cl : ∀ j a, j < i → zs[j]? = some a → ∀ b, Zero ls a b → b ∈ zs
theorem ReachI.len {ls : List Lk} {p : Str} {zs : List Str} {i : Nat} (h : ReachI ls p zs i) : zs.length ≤ ls.length + 1 := by
  have := nd_len (w := zs) (l := p :: ls.map (·.b)) h.nd fun z hz => by
    rcases h.sub z hz with e | e
    · rw [e]; exact List.mem_cons_self
    · exact List.mem_cons_of_mem _ e
  rw [List.length_cons, List.length_map] at this
  exact this
def moreL (ls : List Lk) (zs : List Str) (a : Str) : List Lk := ls.filter fun t => (decide (t.a = a) && decide (t.c = 0)) && !decide (t.b ∈ zs)
section
variable {P : Program} {w : World} {K : PySem.W.Frag} {mg : Str → Option Value} {base : Heap} {f : Addr} {fd : FuncData}
def dpReached : List Slot → (Slot → Prop) → Prop := fun ss R => ∃ (ls : List Lk) (p : Str), ss = [.val (α := L Lk) ls, .val p] ∧ ls.length ≤ 10000 ∧ ∀ zs : List Str, (∀ z, z ∈ zs ↔ Reach ls p z) → R (.val (α := L Str) zs)
abbrev s_l_reached : Stmt := top 63
abbrev N_l_reached : List Str := ["_law_links_here", "_law_place", "_law_found", "_law_at", "_law_more", "_law_link"]
theorem sc_l_reached : FnScope N_l_reached ["_law_links_here", "_law_place"] (defScope s_l_reached) := ⟨rfl, rfl, rfl, by decide +kernel, rfl, by decide +kernel, by decide +kernel⟩

theorem ok_reached (F : FnP K "_law_reached" s_l_reached f fd) (m_len : mg "len" = none) (m_int : mg "int" = none) : FnOk P w K mg base CX0 1 f fd ["_law_links_here", "_law_place"] (spT K dpReached) := by
  refine okT F sc_l_reached (fun ss R h => ?_) (fun cdv A outer s H E hr => ⟨_, (pss_cons (ps_asg (pe_tup (pa_cons (pe_lst (pa_cons (pv 1) (pa_nil))) (pa_cons (pe_int) (pa_nil)))) (pg_tupK (n := 2) K rfl (pgs_cons (pg_name (i := 2) sc_l_reached.nd rfl (.inr rfl)) (pgs_cons (pg_name (i := 3) sc_l_reached.nd rfl (.inr rfl)) (pgs_nil)))))
 (pss_cons (ps_while PassesOwn.never (pt_cmpR op_lt (pv 3) (pe_callB (call_lenK K) rfl m_len (by decide +kernel) (pa_cons (pv 2) (pa_nil))) (nomark _)) (pss_cons (ps_setLc (i := 4) (own := [("_law_link", 5)]) rfl sc_l_reached.nd rfl rfl (sw_true rfl rfl rfl (by decide +kernel)) (pi_seqK K (pv 0)) (blkOk_by (N := N_l_reached) (sc := defScope s_l_reached) (by decide +kernel)) (fun _ _ _ _ _ => pg_name (i := 5) sc_l_reached.nd rfl (.inl rfl)) (fun _ _ _ _ _ => pts_one (PW.pt (pw_and (pt_cmpR op_eq (pe_ix (ix_sqK K) (pv 5) (pe_int) (fun _ _ => rfl)) (pe_ix (ix_sqK K) (pv 2) (pv 3) (fun _ _ => rfl)) (nomark _)) (pw_and (pt_cmpR op_eq (pe_ix (ix_sqK K) (pv 5) (pe_int) (fun _ _ => rfl)) (pe_int) (nomark _)) (pw_and1 (pt_cmpR (op_notInK K) (pe_ix (ix_sqK K) (pv 5) (pe_int) (fun _ _ => rfl)) (pv 2) rfl)))))) (fun _ _ _ _ _ => pv 5))
 (pss_cons (ps_set (i := 2) sc_l_reached.nd rfl (.inr rfl) (pe_op op_cat (pv 2) (pe_lc (own := [("_law_link", 5)]) rfl sc_l_reached.nd (pi_seqK K (pe_slice (sl_sqK K) (pv 4) (po_none) (po_some (pe_int)))) (blkOk_by (N := N_l_reached) (sc := defScope s_l_reached) (by decide +kernel)) (fun _ _ _ _ _ => pg_name (i := 5) sc_l_reached.nd rfl (.inl rfl)) (fun _ _ _ _ _ => pts_nil) (fun _ _ _ _ _ => pe_ix (ix_sqK K) (pv 5) (pe_int) (fun _ _ => rfl)))))
 (pss_one (ps_set (i := 3) sc_l_reached.nd rfl (.inr rfl) (pe_op op_add (pv 3) (pe_callTy call_int1 rfl m_int (by decide +kernel) (pa_cons (pe_cmpR (op_eqE K hr) (pv 4) (pe_lst (pa_nil)) (nomark _)) (pa_nil)))))))))
 (pss_one (ps_ret (pv 2))))), fun B ss R h => ?_⟩)
  · obtain ⟨ls, p, rfl, _⟩ := h
    rfl
  · obtain ⟨ls, p, rfl, ll, q⟩ := h
    have b18 : ∀ {n : Nat}, n ≤ 100000 → n ≤ BIG := fun h => Nat.le_trans h (by decide)
    show DS K B _ [.val (α := L Lk) ls, .val p, .no, .no, .no, .no] _
    refine dq_asgG (α := L Str × Int) (a := ([p], 0)) (d_pair (DO.l (do_lst (dl_cons (d_var rfl) dl_nil) (by show 1 ≤ BIG; decide))) d_int) (DG.pair dg_name dg_name) ?_
    show DS K B _ [.val (α := L Lk) ls, .val p, .val (α := L Str) [p], .val (0 : Int), .no, .no] _
    refine ds_seq (ds_while (fun m r => ∃ (zs : List Str) (i : Nat) (s4 s5 : Slot), r = [.val (α := L Lk) ls, .val p, .val (α := L Str) zs, .val (i : Int), s4, s5] ∧ ReachI ls p zs i ∧ m = 2 * (ls.length + 1) - (zs.length + i)) (2 * (ls.length + 1) - 1) ⟨[p], 0, .no, .no, rfl, ⟨by simp, List.mem_cons_self, fun z hz => by rw [List.mem_singleton.mp hz]; exact .here, fun z hz => .inl (List.mem_singleton.mp hz), Nat.zero_le _, fun j a hj => absurd hj (Nat.not_lt_zero _)⟩, rfl⟩ fun m r hI => ?_)
    obtain ⟨zs, i, s4, s5, rfl, I, hm⟩ := hI
    have zl := I.len
    refine ⟨decide ((i : Int) < zs.length), dt_test (d_lt (d_var rfl) (d_len (d_Lq (d_var rfl)))), fun c => ?_, fun c => ?_⟩
    · have c := of_decide_eq_true c
      have il : i < zs.length := by omega
      obtain ⟨a, ha⟩ : ∃ a, zs[i]? = some a := ⟨_, List.getElem?_eq_getElem il⟩
      have am := List.mem_of_getElem? ha
      refine dq_asgI (δ := L Lk) (moreL ls zs a) (DE.is (DO.l (do_lc (fun t : Lk => (decide (t.a = a) && decide (t.c = 0)) && !decide (t.b ∈ zs)) (fun t : Lk => t) (di_seq (d_Lq (d_var rfl))) (b18 (by omega)) fun t ht => ⟨_, _, dg_name, by simp, (dt_and (dt_test (d_eq (d_q4a (d_var rfl)) (d_ix (d_Lq (d_var rfl)) (d_var rfl) (atI_nat ha)) inferInstance inferInstance)) fun _ => dt_and (dt_test (d_eq (d_q4c (d_var rfl)) d_int inferInstance inferInstance)) fun _ => dt_test (d_notInS (d_q4b (d_var rfl)) (d_Lq (d_var rfl)))).is (by rw [Bool.and_assoc]), fun _ => d_var rfl⟩)) (List.map_id' _)) ?_
      show DS K B _ [.val (α := L Lk) ls, .val p, .val (α := L Str) zs, .val (i : Int), .val (α := L Lk) (moreL ls zs a), s5] _
      have hmem : ∀ t ∈ moreL ls zs a, t ∈ ls ∧ Zero ls a t.b ∧ t.b ∉ zs := fun t ht => by
        obtain ⟨h1, h2⟩ := List.mem_filter.mp ht
        simp only [Bool.and_eq_true, decide_eq_true_eq, Bool.not_eq_true', decide_eq_false_iff_not] at h2
        exact ⟨h1, ⟨t, h1, h2.1.2, h2.1.1, rfl⟩, h2.2⟩
      have hno : moreL ls zs a = [] → ∀ b, Zero ls a b → b ∈ zs := fun e b ⟨t, ht, t0, ea, eb⟩ => by
        by_cases c : b ∈ zs
        · exact c
        · have : t ∈ moreL ls zs a := List.mem_filter.mpr ⟨ht, by rw [ea, eb, decide_eq_true rfl, decide_eq_true t0, decide_eq_false c]; rfl⟩
          rw [e] at this
          cases this
      have ml : (moreL ls zs a).length ≤ ls.length := List.length_filter_le _ _
      generalize moreL ls zs a = mo at hmem hno ml
      refine dq_asgI (δ := L Str) (zs ++ (mo.take 1).map (·.b)) (DO.l (do_cat (d_var rfl) (DO.l (do_map (fun t : Lk => t.b) (di_seq (d_Lq (DE.is (DO.l (do_slice (d_var rfl) dp_none (dp_some d_int))) (cutA_take (t := 1))))) (b18 (by rw [List.length_take]; omega)) fun t ht => ⟨_, _, dg_name, by simp, d_q4b (d_var rfl)⟩)) (b18 (by rw [List.length_map, List.length_take]; omega)))) ?_
      refine ds_asg (a := (i : Int) + (if mo.isEmpty = true then (1 : Int) else 0)) (d_add (d_var rfl) (d_intB (d_eqE (d_var rfl)))) ?_
      cases mo with
      | nil =>
        have e : (zs ++ ([] : List Lk).map (·.b)) = zs := List.append_nil _
        refine ⟨2 * (ls.length + 1) - (zs.length + (i + 1)), by omega, zs, i + 1, .val (α := L Lk) [], s5, ?_, ⟨I.nd, I.pm, I.re, I.sub, il, fun j b hj hb y hy => ?_⟩, rfl⟩
        · show [Slot.val (α := L Lk) ls, .val p, .val (α := L Str) (zs ++ ([] : List Lk).map (·.b)), .val ((i : Int) + 1), .val (α := L Lk) [], s5] = _
          rw [e]
          rfl
        · rcases Nat.lt_or_ge j i with h | h
          · exact I.cl j b h hb y hy
          · have : j = i := by omega
            subst this
            rw [ha] at hb
            cases hb
            exact hno rfl y hy
      | cons t mo =>
        obtain ⟨t1, t2, t3⟩ := hmem t List.mem_cons_self
        have I2 : ReachI ls p (zs ++ [t.b]) i := by
          refine ⟨List.nodup_append.mpr ⟨I.nd, by simp, fun x hx y hy e => t3 (by rw [List.mem_singleton.mp hy] at e; rw [← e]; exact hx)⟩, List.mem_append_left _ I.pm, fun z hz => ?_, fun z hz => ?_, by rw [List.length_append]; omega, fun j b hj hb y hy => ?_⟩
          · rcases List.mem_append.mp hz with h | h
            · exact I.re z h
            · rw [List.mem_singleton.mp h]
              exact .on (I.re a am) t2
          · rcases List.mem_append.mp hz with h | h
            · exact I.sub z h
            · rw [List.mem_singleton.mp h]
              exact .inr (List.mem_map.mpr ⟨t, t1, rfl⟩)
          · rw [List.getElem?_append_left (by omega)] at hb
            exact List.mem_append_left _ (I.cl j b hj hb y hy)
        have l2 := I2.len
        rw [List.length_append, List.length_singleton] at l2
        exact ⟨2 * (ls.length + 1) - ((zs ++ [t.b]).length + i), by rw [List.length_append, List.length_singleton]; omega, zs ++ [t.b], i, .val (α := L Lk) (t :: mo), s5, by
          show [Slot.val (α := L Lk) ls, .val p, .val (α := L Str) (zs ++ [t.b]), .val ((i : Int) + 0), .val (α := L Lk) (t :: mo), s5] = _
          rw [Int.add_zero], I2, rfl⟩
    · have c := of_decide_eq_false c
      have ia : i = zs.length := by have := I.at'; omega
      refine ds_ret (d_var rfl) (q zs fun z => ⟨I.re z, fun h => ?_⟩)
      induction h with
      | here => exact I.pm
      | on h1 h2 ih =>
        obtain ⟨j, hj⟩ := List.getElem?_of_mem ih
        exact I.cl j _ (by rw [ia]; exact (List.getElem?_eq_some_iff.mp hj).1) hj _ h2
end
end WW

set_option Elab.async false
set_option linter.all false
set_option maxRecDepth 100000
set_option maxHeartbeats 4000000
namespace WW
open PySem PySem.Spec PyProof.Rows L2
/-! ### drawn houses, also with links more: all right -/
def noDot (z : Str) : Prop := ∀ c ∈ z.cps.toList, c ≠ 46
theorem alln_nodot : ∀ z ∈ ALLN, noDot z := by
  unfold noDot
  decide +kernel
def hd' (z : Str) : Str := ⟨(z.cps.toList.takeWhile fun c => decide (c ≠ 46)).toArray⟩
theorem dot_cps (a b : Str) : (dotted a b).cps.toList = a.cps.toList ++ 46 :: b.cps.toList := by
  show ((a ++ ".") ++ b : Str).cps.toList = _
  have e1 : ((a ++ ".") ++ b : Str).cps = (a.cps ++ (⟨#[46]⟩ : Str).cps) ++ b.cps := rfl
  rw [e1]
  simp
theorem hd_dot {a : Str} (h : noDot a) (b : Str) : hd' (dotted a b) = a := by
  unfold hd'
  rw [dot_cps, List.takeWhile_append_of_pos (by intro c hc; exact decide_eq_true (h c hc)), List.takeWhile_cons]
  simp
theorem hd_plain {a : Str} (h : noDot a) : hd' a = a := by
  unfold hd'
  have : a.cps.toList.takeWhile (fun c => decide (c ≠ 46)) = a.cps.toList := by
    have e := List.takeWhile_append_of_pos (p := fun c => decide (c ≠ 46)) (l₁ := a.cps.toList) (l₂ := []) (by intro c hc; exact decide_eq_true (h c hc))
    rw [List.append_nil] at e
    rw [e]
    simp
  rw [this]
theorem dot_inj {a x y : Str} (h : dotted a x = dotted a y) : x = y := by
  have := congrArg (fun z : Str => z.cps.toList) h
  simp only [dot_cps] at this
  have := List.append_cancel_left this
  injection this with _ h2
  cases x
  cases y
  simp only [Array.toList_inj] at h2
  rw [h2]
theorem dot_ne {a b z : Str} (h : noDot z) : dotted a b ≠ z := fun e => by
  have : (46 : Nat) ∈ z.cps.toList := by rw [← e, dot_cps]; simp
  exact h 46 this rfl
theorem dot_part : ∀ a ∈ ALLN, ∀ b ∈ ALLN, (Txt.partition (dotted a b) ".").2.2 = b := by decide +kernel
theorem get_mem {α : Type} : ∀ {xs : List (Str × α)} {z : Str} {a : α}, (xs.map (·.1)).Nodup → (z, a) ∈ xs → (Dct.mk xs).get z = some a
  | (y, b) :: r, z, a, nd, h => by
    show (Option.map _ (List.find? _ _)) = _
    rw [List.find?_cons]
    rw [List.map_cons, List.nodup_cons] at nd
    rcases List.mem_cons.mp h with h | h
    · cases h
      rw [decide_eq_true rfl]
      rfl
    · have : y ≠ z := fun e => nd.1 (by rw [e]; exact List.mem_map.mpr ⟨_, h, rfl⟩)
      rw [decide_eq_false this]
      exact get_mem nd.2 h
structure LkW (m : DMd) (ks : List DMd) (t : Lk) : Prop where
  a : t.a ∈ begM m ks
  b : t.b ∈ goeM m ks
  c0 : 0 ≤ t.c
  d0 : 0 ≤ t.d
theorem LkOk.w {m : DMd} {ks : List DMd} {t : Lk} (h : LkOk m ks t) : LkW m ks t := ⟨h.a, h.b, h.c0, h.d0⟩
structure HW (n : Int) (bs ms : List DMd) : Prop where
  ho : HouseOk n bs
  len : ms.length = bs.length
  at' : ∀ (i : Nat) (b m : DMd), bs[i]? = some b → ms[i]? = some m → m = { b with l := m.l } ∧ m.l.length ≤ 20 ∧ ∀ t ∈ m.l, LkW b (bs.take i) t
theorem HW.refl {n : Int} {bs : List DMd} (h : HouseOk n bs) : HW n bs bs := ⟨h, rfl, fun i b m h1 h2 => by
  rw [h1] at h2
  cases h2
  have g := (h.all i b h1).1
  exact ⟨rfl, Nat.le_trans g.ll (by decide), fun t ht => (g.lk t ht).w⟩⟩
section
variable {n : Int} {bs ms : List DMd}
theorem HW.base (h : HW n bs ms) {i : Nat} {m : DMd} (hm : ms[i]? = some m) : ∃ b, bs[i]? = some b := by
  have := (List.getElem?_eq_some_iff.mp hm).1
  exact ⟨_, List.getElem?_eq_getElem (by rw [← h.len]; exact this)⟩
theorem HW.l3 (h : HW n bs ms) : ms.length ≤ 3 := by rw [h.len]; exact h.ho.ks.2
theorem HW.names (h : HW n bs ms) (i : Nat) : (ms.take i).map (·.n) = (bs.take i).map (·.n) := by
  refine List.ext_getElem? fun j => ?_
  rw [List.getElem?_map, List.getElem?_map, List.getElem?_take, List.getElem?_take]
  split
  · cases hm : ms[j]? with
    | none =>
      rw [List.getElem?_eq_none (by rw [← h.len]; exact List.getElem?_eq_none_iff.mp hm)]
    | some m =>
      obtain ⟨b, hb⟩ := h.base hm
      rw [hb, (h.at' j b m hb hm).1]
      rfl
  · rfl
theorem HW.nd (h : HW n bs ms) (i : Nat) : ((ms.take i).map (·.n)).Nodup := by
  rw [h.names]
  exact (h.ho.ks.1.nd).sublist ((List.take_sublist i bs).map _)
theorem HW.put (h : HW n bs ms) {i : Nat} {b : DMd} {t : Lk} (hb : bs[i]? = some b) (hl : (ms.getD i noM).l.length ≤ 19) (ht : LkW b (bs.take i) t) : HW n bs (withL ms i t) := by
  have il : i < ms.length := by rw [h.len]; exact (List.getElem?_eq_some_iff.mp hb).1
  have tl : (ms.take i).length = i := by rw [List.length_take]; omega
  refine ⟨h.ho, ?_, fun j b' m' hb' hm' => ?_⟩
  · unfold withL
    rw [List.length_append, List.length_append, tl, List.length_drop, List.length_singleton, ← h.len]
    omega
  · unfold withL at hm'
    rcases Nat.lt_trichotomy j i with c | c | c
    · rw [List.append_assoc, List.getElem?_append_left (by omega), List.getElem?_take, if_pos c] at hm'
      exact h.at' j b' m' hb' hm'
    · subst c
      rw [List.append_assoc, List.getElem?_append_right (by omega), tl, Nat.sub_self] at hm'
      have hm' : some ({ ms.getD j noM with l := (ms.getD j noM).l ++ [t] } : DMd) = some m' := hm'
      rw [hb] at hb'
      cases hb'
      have gm : ms[j]? = some (ms.getD j noM) := by rw [List.getD_eq_getElem?_getD, List.getElem?_eq_getElem il]; rfl
      obtain ⟨e1, e2, e3⟩ := h.at' j b _ hb gm
      cases hm'
      refine ⟨?_, by show (_ ++ [t]).length ≤ 20; rw [List.length_append, List.length_singleton]; omega, fun u hu => ?_⟩
      · rw [e1]
      · rcases List.mem_append.mp hu with hu | hu
        · exact e3 u hu
        · rw [List.mem_singleton.mp hu]
          exact ht
    · rw [List.getElem?_append_right (by rw [List.length_append, tl, List.length_singleton]; omega), List.length_append, tl, List.length_singleton, List.getElem?_drop] at hm'
      rw [show i + 1 + (j - (i + 1)) = j by omega] at hm'
      exact h.at' j b' m' hb' hm'
theorem withL_at {i : Nat} {t : Lk} {m : DMd} (hm : ms[i]? = some m) : (withL ms i t)[i]? = some { m with l := m.l ++ [t] } := by
  have il := (List.getElem?_eq_some_iff.mp hm).1
  have tl : (ms.take i).length = i := by rw [List.length_take]; omega
  unfold withL
  rw [List.append_assoc, List.getElem?_append_right (by omega), tl, Nat.sub_self, List.getD_eq_getElem?_getD, hm]
  rfl
theorem withL_off {i j : Nat} {t : Lk} (il : i < ms.length) (h : j ≠ i) : (withL ms i t)[j]? = ms[j]? := by
  have tl : (ms.take i).length = i := by rw [List.length_take]; omega
  unfold withL
  rcases Nat.lt_or_ge j i with c | c
  · rw [List.append_assoc, List.getElem?_append_left (by omega), List.getElem?_take, if_pos c]
  · rw [List.getElem?_append_right (by rw [List.length_append, tl, List.length_singleton]; omega), List.length_append, tl, List.length_singleton, List.getElem?_drop]
    rw [show i + 1 + (j - (i + 1)) = j by omega]
/-- the module that a call names -/
structure Cal (bs ms : List DMd) (i : Nat) (z : Str) (j : Nat) (b m : DMd) : Prop where
  lt : j < i
  hb : bs[j]? = some b
  hm : ms[j]? = some m
  n : m.n = z
  fd : findM (bs.take i) z = b
  lk : lookM (knM (ms.take i)) z = m
  kn : (Dct.mk (knM (ms.take i))).get z = some (MOb.mk m)
  sh : (Dct.mk (shS (ms.take i))).get z = some (shapeM m (shS (ms.take j)))
theorem shS_mem : ∀ {i j : Nat} {m : DMd}, j < i → ms[j]? = some m → (m.n, shapeM m (shS (ms.take j))) ∈ shS (ms.take i)
  | i + 1, j, m, hj, hm => by
    rw [List.take_add_one]
    cases h : ms[i]? with
    | none =>
      have := List.getElem?_eq_none_iff.mp h
      have := (List.getElem?_eq_some_iff.mp hm).1
      rw [Option.toList_none, List.append_nil]
      exact shS_mem (i := i) (by omega) hm
    | some u =>
      rw [Option.toList_some, shS_snoc]
      rcases Nat.lt_or_ge j i with c | c
      · exact List.mem_append_left _ (shS_mem c hm)
      · have : j = i := by omega
        subst this
        rw [h] at hm
        cases hm
        exact List.mem_append_right _ (List.mem_singleton.mpr rfl)
theorem HW.cal (h : HW n bs ms) {i : Nat} {z : Str} (hz : z ∈ (bs.take i).map (·.n)) : ∃ j b m, Cal bs ms i z j b m := by
  rw [← h.names] at hz
  obtain ⟨m, hm, rfl⟩ := List.mem_map.mp hz
  obtain ⟨j, hj⟩ := List.getElem?_of_mem hm
  obtain ⟨g, jl⟩ := take_at hj
  obtain ⟨b, hb⟩ := h.base g
  have e := (h.at' j b m hb g).1
  have en : m.n = b.n := by rw [e]
  have bt : b ∈ bs.take i := List.mem_of_getElem? (i := j) (by rw [List.getElem?_take, if_pos jl]; exact hb)
  have nb : ((bs.take i).map (·.n)).Nodup := by rw [← h.names]; exact h.nd i
  have kn : (Dct.mk (knM (ms.take i))).get m.n = some (MOb.mk m) := get_mem (by unfold knM; rw [List.map_map]; exact h.nd i) (List.mem_map.mpr ⟨m, hm, rfl⟩)
  refine ⟨j, b, m, jl, hb, g, rfl, ?_, ?_, kn, ?_⟩
  · unfold findM KN.dct
    rw [get_mem (a := b) (by rw [List.map_map]; exact nb) (List.mem_map.mpr ⟨b, bt, by rw [en]⟩)]
    rfl
  · unfold lookM
    rw [kn]
    rfl
  · exact get_mem (by rw [shS_keys]; exact h.nd i) (shS_mem jl g)
end
end WW

set_option Elab.async false
set_option linter.all false
set_option maxRecDepth 100000
set_option maxHeartbeats 4000000
namespace WW
open PySem PySem.Spec PyProof.Rows L2
theorem beg_cases {b : DMd} {ks : List DMd} {z : Str} (h : z ∈ begM b ks) : (z ∈ b.i ++ b.s) ∨ ∃ t ∈ b.c, ∃ y ∈ (findM ks t.2).o, z = dotted t.1 y := by
  unfold begM at h
  rcases List.mem_append.mp h with h | h
  · exact .inl h
  · obtain ⟨t, ht, hz⟩ := List.mem_flatMap.mp h
    obtain ⟨y, hy, rfl⟩ := List.mem_map.mp hz
    exact .inr ⟨t, ht, y, hy, rfl⟩
theorem goe_cases {b : DMd} {ks : List DMd} {z : Str} (h : z ∈ goeM b ks) : (z ∈ b.s ++ b.o) ∨ ∃ t ∈ b.c, ∃ y ∈ (findM ks t.2).i, z = dotted t.1 y := by
  unfold goeM at h
  rcases List.mem_append.mp h with h | h
  · exact .inl h
  · obtain ⟨t, ht, hz⟩ := List.mem_flatMap.mp h
    obtain ⟨y, hy, rfl⟩ := List.mem_map.mp hz
    exact .inr ⟨t, ht, y, hy, rfl⟩
theorem all_of {b : DMd} {z : Str} (h : z ∈ b.i ++ b.s ∨ z ∈ b.s ++ b.o) : z ∈ b.all := by
  unfold DMd.all
  rcases h with h | h
  · rcases List.mem_append.mp h with h | h
    · exact List.mem_append_left _ (List.mem_append_left _ (List.mem_append_left _ h))
    · exact List.mem_append_left _ (List.mem_append_right _ h)
  · rcases List.mem_append.mp h with h | h
    · exact List.mem_append_left _ (List.mem_append_right _ h)
    · exact List.mem_append_left _ (List.mem_append_left _ (List.mem_append_right _ h))
section
variable {n : Int} {bs ms : List DMd} {i : Nat} {b m : DMd} {ks : List DMd}
theorem w_links (g : Good b ks) {l : List Lk} (hw : ∀ t ∈ l, LkW b ks t) {ls : List Str} (hl : ∀ y ∈ b.labels, y ∈ ls) : (linksA l).items.all (fun k => linkB k (b.i ++ b.s) (b.s ++ b.o) ls) = true := by
  have e : (linksA l).items = l.map fun t => AV.tup [.str t.a, .str t.b, .int t.c, .int t.d] := rfl
  rw [e, List.all_map, List.all_eq_true]
  intro t ht
  have o := hw t ht
  have h1 := (there_of g.f.ok g.k (z := t.a) (ns := b.i ++ b.s) hl).1 o.a fun _ h => h
  have h2 := (there_of g.f.ok g.k (z := t.b) (ns := b.s ++ b.o) hl).2 o.b fun _ h => h
  show ((true && true) && ((thereB (.str t.a) (b.i ++ b.s) ls && thereB (.str t.b) (b.s ++ b.o) ls) && (decide (0 ≤ t.c) && decide (0 ≤ t.d)))) = true
  rw [h1, h2, decide_eq_true o.c0, decide_eq_true o.d0]
  rfl
theorem w_sm (g : Good b ks) {l : List Lk} (hw : ∀ t ∈ l, LkW b ks t) (ll : l.length ≤ 20) : (linksA l).sm = true := by
  have e : linksA l = .lst (l.map fun t => AV.tup [.str t.a, .str t.b, .int t.c, .int t.d]) := rfl
  rw [e, AV.sm, Bool.and_eq_true, List.length_map, AV.sms_iff]
  refine ⟨decide_eq_true (by omega), fun x hx => ?_⟩
  obtain ⟨t, ht, rfl⟩ := List.mem_map.mp hx
  have o := hw t ht
  have l1 := (ends_of g.f.ok g.k (.inl o.a)).2.2.1
  have l2 := (ends_of g.f.ok g.k (.inr o.b)).2.2.1
  have h1 : decide (t.a.length ≤ 1000) = true := decide_eq_true (by omega)
  have h2 : decide (t.b.length ≤ 1000) = true := decide_eq_true (by omega)
  simp [AV.sm, AV.sms, h1, h2]
theorem w_md (g : Good b ks) {l : List Lk} (hw : ∀ t ∈ l, LkW b ks t) (ll : l.length ≤ 20) : MdOk { b with l := l } := by
  have ok := g.six_ok
  refine ⟨rfl, rfl, rfl, rfl, rfl, rfl, ⟨?_, ?_, ?_, ?_, w_sm g hw ll, ?_⟩, wm_none g.f0 g.f1 g.f2 g.f3 ?_ ?_ g.f6⟩
  · exact ok.sm (.str b.n) (by simp [six])
  · exact ok.sm (strsA b.i) (by simp [six])
  · exact ok.sm (strsA b.o) (by simp [six])
  · exact ok.sm (strsA b.s) (by simp [six])
  · exact ok.sm (callsA b.c) (by simp [six])
  · show (true && (linksA l).items.all fun k => linkB k ((strsA b.i).names ++ (strsA b.s).names) ((strsA b.s).names ++ (strsA b.o).names) (labelsOf (callsA b.c))) = true
    rw [names_strsA, names_strsA, names_strsA, g.lab, w_links g hw fun _ h => h]
    rfl
  · exact g.f5
theorem HW.md (h : HW n bs ms) (hb : bs[i]? = some b) (hm : ms[i]? = some m) : MdOk m := by
  obtain ⟨e, ll, hw⟩ := h.at' i b m hb hm
  rw [e]
  exact w_md (Good.of h.ho hb) hw ll
/-- ends at labels: what stands there -/
theorem HW.ends (h : HW n bs ms) (hb : bs[i]? = some b) (hm : ms[i]? = some m) : EndPre m (knM (ms.take i)) ∧ endsOk m (knM (ms.take i)) = true := by
  obtain ⟨e, ll, hw⟩ := h.at' i b m hb hm
  have g := Good.of h.ho hb
  have al := g.f.ok.al
  have cl := g.f.ok.cl
  have nl := g.parts.2.2.2.1
  have ec : m.c = b.c := by rw [e]
  have elb : m.labels = b.labels := by unfold DMd.labels; rw [ec]
  have lab : ∀ t ∈ b.c, t.1 ∈ ALLN := fun t ht => al _ (List.mem_append_right _ (List.mem_map.mpr ⟨t, ht, rfl⟩))
  have ky : ((calledD m (knM (ms.take i))).map (·.1)).Nodup := by
    unfold calledD
    rw [List.map_map, ec]
    exact nl
  have cget : ∀ t ∈ b.c, (Dct.mk (calledD m (knM (ms.take i)))).get t.1 = some (MOb.mk (lookM (knM (ms.take i)) t.2)) := fun t ht =>
    get_mem ky (List.mem_map.mpr ⟨t, by rw [ec]; exact ht, rfl⟩)
  have clk : ∀ t ∈ b.c, lookM (calledD m (knM (ms.take i))) t.1 = lookM (knM (ms.take i)) t.2 := fun t ht => by
    conv => lhs; unfold lookM
    rw [cget t ht]
    rfl
  have kl := h.ho.ks.1
  have inA : ∀ t ∈ b.c, ∃ j u v, Cal bs ms i t.2 j u v := fun t ht => h.cal (cl t ht)
  have alu : ∀ {j : Nat} {u : DMd}, bs[j]? = some u → ∀ y, y ∈ u.i ∨ y ∈ u.o → y ∈ ALLN := fun hu y hy => (Good.of h.ho hu).f.ok.al y (by
    unfold DMd.all
    rcases hy with hy | hy
    · exact List.mem_append_left _ (List.mem_append_left _ (List.mem_append_left _ hy))
    · exact List.mem_append_left _ (List.mem_append_left _ (List.mem_append_right _ hy)))
  have small : ∀ t ∈ b.c, ∀ y ∈ ALLN, (dotted t.1 y).length ≤ 1000 := fun t ht y hy => Nat.le_trans (dotted_len t.1 (lab t ht) y hy) (by decide)
  have one : ∀ z, z ∈ b.all → z.length ≤ 1000 ∧ decide ((Txt.partition z ".").2.1 = dot) = false := fun z hz => ⟨Nat.le_trans (alln_len z (al z hz)) (by decide), (alln_end z (al z hz)).2⟩
  constructor
  · refine ⟨by rw [elb]; exact nl, by rw [ec]; have := all_lens g.f.ok.ln; omega, fun t ht => ?_, fun t ht z hz => ?_⟩
    · rw [ec] at ht
      obtain ⟨j, u, v, c⟩ := inA t ht
      rw [c.kn, c.lk]
    · have o := hw t ht
      have two : ∀ t ∈ b.c, ∀ y, y ∈ ALLN → (dotted t.1 y).length ≤ 1000 ∧ (decide ((Txt.partition (dotted t.1 y) ".").2.1 = dot) = true → (Dct.mk (calledD m (knM (ms.take i)))).get (Txt.partition (dotted t.1 y) ".").1 = some (MOb.mk (lookM (calledD m (knM (ms.take i))) (Txt.partition (dotted t.1 y) ".").1))) := fun t ht y hy => by
        refine ⟨small t ht y hy, fun _ => ?_⟩
        rw [(dot_end t.1 (lab t ht) y hy).2.2, cget t ht, clk t ht]
      have pl : ∀ z, z ∈ b.all → z.length ≤ 1000 ∧ (decide ((Txt.partition z ".").2.1 = dot) = true → (Dct.mk (calledD m (knM (ms.take i)))).get (Txt.partition z ".").1 = some (MOb.mk (lookM (calledD m (knM (ms.take i))) (Txt.partition z ".").1))) := fun z hz => ⟨(one z hz).1, fun c => by rw [(one z hz).2] at c; cases c⟩
      rcases hz with rfl | rfl
      · rcases beg_cases o.a with q | ⟨t', ht', y, hy, e'⟩
        · exact pl _ (all_of (.inl q))
        · rw [e']
          obtain ⟨j, u, v, c⟩ := inA t' ht'
          rw [c.fd] at hy
          exact two t' ht' y (alu c.hb y (.inr hy))
      · rcases goe_cases o.b with q | ⟨t', ht', y, hy, e'⟩
        · exact pl _ (all_of (.inr q))
        · rw [e']
          obtain ⟨j, u, v, c⟩ := inA t' ht'
          rw [c.fd] at hy
          exact two t' ht' y (alu c.hb y (.inl hy))
  · unfold endsOk
    rw [List.all_eq_true]
    intro t ht
    have o := hw t ht
    rw [Bool.and_eq_true]
    have fin : ∀ (sel : DMd → List Str) (z : Str), (z ∈ b.all ∨ ∃ t ∈ b.c, ∃ y ∈ ALLN, y ∈ sel (lookM (knM (ms.take i)) t.2) ∧ z = dotted t.1 y) → endOk (calledD m (knM (ms.take i))) sel z = true := fun sel z hz => by
      unfold endOk
      rcases hz with hz | ⟨t', ht', y, hy, hs, rfl⟩
      · rw [(one z hz).2]
        rfl
      · rw [(dot_end t'.1 (lab t' ht') y hy).2.1, (dot_end t'.1 (lab t' ht') y hy).2.2, dot_part t'.1 (lab t' ht') y hy, clk t' ht', decide_eq_true hs]
        rfl
    constructor
    · refine fin DMd.o t.a ?_
      rcases beg_cases o.a with q | ⟨t', ht', y, hy, e'⟩
      · exact .inl (all_of (.inl q))
      · obtain ⟨j, u, v, c⟩ := inA t' ht'
        rw [c.fd] at hy
        refine .inr ⟨t', ht', y, alu c.hb y (.inr hy), ?_, e'⟩
        rw [c.lk, (h.at' j u v c.hb c.hm).1]
        exact hy
    · refine fin DMd.i t.b ?_
      rcases goe_cases o.b with q | ⟨t', ht', y, hy, e'⟩
      · exact .inl (all_of (.inr q))
      · obtain ⟨j, u, v, c⟩ := inA t' ht'
        rw [c.fd] at hy
        refine .inr ⟨t', ht', y, alu c.hb y (.inl hy), ?_, e'⟩
        rw [c.lk, (h.at' j u v c.hb c.hm).1]
        exact hy
theorem HW.knOk (h : HW n bs ms) : KnOk ms := by
  refine ⟨fun i m hm => ?_, Nat.le_trans h.l3 (by decide)⟩
  obtain ⟨b, hb⟩ := h.base hm
  obtain ⟨e1, e2⟩ := h.ends hb hm
  refine ⟨e1, e2, ?_, fun t ht => ?_⟩
  · have nd := h.nd (i + 1)
    rw [List.take_add_one, hm, Option.toList_some, List.map_append] at nd
    exact fun hin => (List.nodup_append.mp nd).2.2 _ hin _ (List.mem_singleton.mpr rfl) rfl
  · rw [h.names]
    have ec : m.c = b.c := by rw [(h.at' i b m hb hm).1]
    rw [ec] at ht
    exact (Good.of h.ho hb).f.ok.cl t ht
end
end WW

set_option Elab.async false
set_option linter.all false
set_option maxRecDepth 100000
set_option maxHeartbeats 4000000
namespace WW
open PySem PySem.Spec PyProof.Rows L2
/-! ### sizes; what is no ring -/
theorem dot_len (a b : Str) : (dotted a b).length = a.length + 1 + b.length := by
  show ((a ++ ".") ++ b : Str).length = _
  rw [str_app_len, str_app_len]
  rfl
section
variable {n : Int} {bs ms : List DMd} {i : Nat} {b m : DMd} {ks : List DMd}
def shp (ms : List DMd) (i : Nat) (m : DMd) : Shp := shapeM m (shS (ms.take i))
theorem Cal.of {z : Str} {j : Nat} {u v : DMd} (c : Cal bs ms i z j u v) : shOf (shS (ms.take i)) z = shp ms j v := by
  unfold shOf
  rw [c.sh]
  rfl
theorem HW.calls (h : HW n bs ms) (hm : ms[i]? = some m) : ∀ t ∈ m.c, t.1 ∈ ALLN ∧ ∃ j u v, Cal bs ms i t.2 j u v := fun t ht => by
  obtain ⟨b, hb⟩ := h.base hm
  have ec : m.c = b.c := by rw [(h.at' i b m hb hm).1]
  rw [ec] at ht
  have g := Good.of h.ho hb
  exact ⟨g.f.ok.al _ (List.mem_append_right _ (List.mem_map.mpr ⟨t, ht, rfl⟩)), h.cal (g.f.ok.cl t ht)⟩
theorem nodup_key : ∀ {l : List (Str × Str)} {t u : Str × Str}, (l.map (·.1)).Nodup → t ∈ l → u ∈ l → t.1 = u.1 → t = u
  | x :: r, t, u, nd, ht, hu, e => by
    rw [List.map_cons, List.nodup_cons] at nd
    rcases List.mem_cons.mp ht with rfl | ht2
    · rcases List.mem_cons.mp hu with rfl | hu2
      · rfl
      · exact absurd (List.mem_map.mpr ⟨u, hu2, e.symm⟩) nd.1
    · rcases List.mem_cons.mp hu with rfl | hu2
      · exact absurd (List.mem_map.mpr ⟨t, ht2, e⟩) nd.1
      · exact nodup_key nd.2 ht2 hu2 e
theorem HW.labs (h : HW n bs ms) (hm : ms[i]? = some m) {t u : Str × Str} (ht : t ∈ m.c) (hu : u ∈ m.c) (e : t.1 = u.1) : t = u := by
  obtain ⟨b, hb⟩ := h.base hm
  have ec : m.c = b.c := by rw [(h.at' i b m hb hm).1]
  rw [ec] at ht hu
  exact nodup_key (Good.of h.ho hb).parts.2.2.2.1 ht hu e
theorem HW.own (h : HW n bs ms) (hm : ms[i]? = some m) : (∀ z ∈ m.i ++ m.o ++ m.s, z ∈ ALLN) ∧ m.i.length ≤ 2 ∧ m.o.length ≤ 2 ∧ m.s.length ≤ 2 ∧ m.c.length ≤ 2 := by
  obtain ⟨b, hb⟩ := h.base hm
  have e := (h.at' i b m hb hm).1
  rw [e]
  refine ⟨fun z hz => (Good.of h.ho hb).f.ok.al z (List.mem_append_left _ hz), (h.ho.all i b hb).2.2.2⟩
theorem HW.lkAl (h : HW n bs ms) (hm : ms[i]? = some m) {t : Lk} (ht : t ∈ m.l) : (t.a ∈ m.i ++ m.s ∨ ∃ u ∈ m.c, ∃ y ∈ ALLN, t.a = dotted u.1 y) ∧ (t.b ∈ m.s ++ m.o ∨ ∃ u ∈ m.c, ∃ j b v, Cal bs ms i u.2 j b v ∧ ∃ y ∈ v.i, y ∈ ALLN ∧ t.b = dotted u.1 y) := by
  obtain ⟨b, hb⟩ := h.base hm
  obtain ⟨e, _, hw⟩ := h.at' i b m hb hm
  have o := hw t ht
  have ec : m.c = b.c := by rw [e]
  have e1 : m.i = b.i := by rw [e]
  have e2 : m.o = b.o := by rw [e]
  have e3 : m.s = b.s := by rw [e]
  have alu : ∀ {j : Nat} {u : DMd}, bs[j]? = some u → ∀ y, y ∈ u.i ∨ y ∈ u.o → y ∈ ALLN := fun hu y hy => (Good.of h.ho hu).f.ok.al y (by
    unfold DMd.all
    rcases hy with hy | hy
    · exact List.mem_append_left _ (List.mem_append_left _ (List.mem_append_left _ hy))
    · exact List.mem_append_left _ (List.mem_append_left _ (List.mem_append_right _ hy)))
  constructor
  · rcases beg_cases o.a with q | ⟨u, hu, y, hy, e'⟩
    · exact .inl (by rw [e1, e3]; exact q)
    · obtain ⟨j, x, v, c⟩ := (h.calls hm u (by rw [ec]; exact hu)).2
      rw [c.fd] at hy
      exact .inr ⟨u, by rw [ec]; exact hu, y, alu c.hb y (.inr hy), e'⟩
  · rcases goe_cases o.b with q | ⟨u, hu, y, hy, e'⟩
    · exact .inl (by rw [e2, e3]; exact q)
    · obtain ⟨j, x, v, c⟩ := (h.calls hm u (by rw [ec]; exact hu)).2
      rw [c.fd] at hy
      refine .inr ⟨u, by rw [ec]; exact hu, j, x, v, c, y, ?_, alu c.hb y (.inl hy), e'⟩
      rw [(h.at' j x v c.hb c.hm).1]
      exact hy
structure SzS (i : Nat) (p : Shp) : Prop where
  a : List.length p.1 ≤ 6 * 3 ^ i
  b : ∀ z ∈ (show List Str from p.1), z.length ≤ 11 + 6 * i ∧ canQ z
  c : List.length p.2 ≤ 20 * 3 ^ i
  d : ∀ t ∈ (show List LkT from p.2), t.a.length ≤ 11 + 6 * i ∧ t.b.length ≤ 11 + 6 * i ∧ canQ t.a ∧ canQ t.b
theorem alln_ok : ∀ z ∈ ALLN, PyData.strOk z = true := by decide +kernel
theorem can_dot {a b : Str} (ha : canQ a) (hb : canQ b) : canQ (dotted a b) := by
  rw [canS] at *
  unfold PyData.strOk at *
  rw [Array.all_eq_true'] at *
  intro c hc
  rw [← Array.mem_toList_iff, dot_cps] at hc
  rcases List.mem_append.mp hc with hc | hc
  · exact ha c (Array.mem_toList_iff.mp hc)
  · rcases List.mem_cons.mp hc with hc | hc
    · rw [hc]; decide
    · exact hb c (Array.mem_toList_iff.mp hc)
theorem can_al {z : Str} (h : z ∈ ALLN) : canQ z := canS.mpr (alln_ok z h)
theorem HW.szs (h : HW n bs ms) : ∀ (k i : Nat) (m : DMd), i ≤ k → ms[i]? = some m → SzS i (shp ms i m) := fun k => by
  induction k with
  | zero =>
    intro i m hi hm
    have i0 : i = 0 := by omega
    subst i0
    have c0 : m.c = [] := by
      cases hc : m.c with
      | nil => rfl
      | cons t r =>
        obtain ⟨_, j, u, v, c⟩ := h.calls hm t (by rw [hc]; exact List.mem_cons_self)
        exact absurd c.lt (Nat.not_lt_zero _)
    obtain ⟨al, h1, h2, h3, h4⟩ := h.own hm
    obtain ⟨b, hb⟩ := h.base hm
    obtain ⟨_, ll, _⟩ := h.at' 0 b m hb hm
    have e1 : plOf m (shS (ms.take 0)) = m.i ++ m.o ++ m.s := by unfold plOf; rw [c0]; simp
    have e2 : lkOf m (shS (ms.take 0)) = m.l := by unfold lkOf; rw [c0]; simp
    refine ⟨?_, fun z hz => ?_, ?_, fun t ht => ?_⟩
    · show (srt ltS _).length ≤ _
      rw [srt_len, e1, List.length_append, List.length_append]
      omega
    · have hz := (List.mergeSort_perm _ _).subset (show z ∈ srt ltS (plOf m (shS (ms.take 0))) from hz)
      rw [e1] at hz
      exact ⟨by have := alln_len z (al z hz); omega, can_al (al z hz)⟩
    · show (srt ltL _).length ≤ _
      rw [srt_len, e2]
      omega
    · have ht := (List.mergeSort_perm _ _).subset (show t ∈ srt ltL (lkOf m (shS (ms.take 0))) from ht)
      rw [e2] at ht
      obtain ⟨q1, q2⟩ := h.lkAl hm ht
      rw [c0] at q1 q2
      have a1 : t.a ∈ ALLN := by
        rcases q1 with q | ⟨u, hu, _⟩
        · exact al _ (by rcases List.mem_append.mp q with q | q <;> simp [q])
        · cases hu
      have a2 : t.b ∈ ALLN := by
        rcases q2 with q | ⟨u, hu, _⟩
        · exact al _ (by rcases List.mem_append.mp q with q | q <;> simp [q])
        · cases hu
      exact ⟨by have := alln_len _ a1; omega, by have := alln_len _ a2; omega, can_al a1, can_al a2⟩
  | succ k ih =>
    intro i m hi hm
    rcases Nat.lt_or_ge i (k + 1) with c | c
    · exact ih i m (by omega) hm
    have ei : i = k + 1 := by omega
    subst ei
    obtain ⟨al, h1, h2, h3, h4⟩ := h.own hm
    obtain ⟨b, hb⟩ := h.base hm
    obtain ⟨_, ll, _⟩ := h.at' _ b m hb hm
    have sub : ∀ t ∈ m.c, SzS k (shOf (shS (ms.take (k + 1))) t.2) := fun t ht => by
      obtain ⟨_, j, u, v, c⟩ := h.calls hm t ht
      rw [c.of]
      have := ih j v (by have := c.lt; omega) c.hm
      have pw : 3 ^ j ≤ 3 ^ k := Nat.pow_le_pow_right (by decide) (by have := c.lt; omega)
      have jk : j ≤ k := by have := c.lt; omega
      exact ⟨Nat.le_trans this.a (by omega), fun z hz => ⟨by have := (this.b z hz).1; omega, (this.b z hz).2⟩, Nat.le_trans this.c (by omega), fun t ht => by
        obtain ⟨q1, q2, q3⟩ := this.d t ht
        exact ⟨by omega, by omega, q3⟩⟩
    have p1 : 1 ≤ 3 ^ k := Nat.one_le_pow _ _ (by decide)
    have ps : 3 ^ (k + 1) = 3 * 3 ^ k := by rw [Nat.pow_succ]; omega
    have lab : ∀ t ∈ m.c, t.1 ∈ ALLN := fun t ht => (h.calls hm t ht).1
    refine ⟨?_, fun z hz => ?_, ?_, fun t ht => ?_⟩
    · show (srt ltS _).length ≤ _
      have f := flat_len (fun t : Str × Str => List.map (dotted t.1) (shOf (shS (ms.take (k + 1))) t.2).1) (6 * 3 ^ k) (l := m.c) fun t ht => by
        exact Nat.le_trans (Nat.le_of_eq (List.length_map (as := (show List Str from (shOf (shS (ms.take (k + 1))) t.2).1)) ..)) (sub t ht).a
      rw [srt_len]
      unfold plOf
      rw [List.length_append, List.length_append, List.length_append, ps]
      have : m.c.length * (6 * 3 ^ k) ≤ 2 * (6 * 3 ^ k) := Nat.mul_le_mul_right _ h4
      omega
    · have hz := (List.mergeSort_perm _ _).subset (show z ∈ srt ltS (plOf m (shS (ms.take (k + 1)))) from hz)
      unfold plOf at hz
      rcases List.mem_append.mp hz with hz | hz
      · exact ⟨by have := alln_len z (al z hz); omega, can_al (al z hz)⟩
      · obtain ⟨t, ht, hz⟩ := List.mem_flatMap.mp hz
        obtain ⟨y, hy, rfl⟩ := List.mem_map.mp hz
        obtain ⟨q1, q2⟩ := (sub t ht).b y hy
        exact ⟨by rw [dot_len]; have := alln_len _ (lab t ht); omega, can_dot (can_al (lab t ht)) q2⟩
    · show (srt ltL _).length ≤ _
      have f := flat_len (fun t : Str × Str => List.map (ledL t.1) (shOf (shS (ms.take (k + 1))) t.2).2) (20 * 3 ^ k) (l := m.c) fun t ht => by
        exact Nat.le_trans (Nat.le_of_eq (List.length_map (as := (show List LkT from (shOf (shS (ms.take (k + 1))) t.2).2)) ..)) (sub t ht).c
      rw [srt_len]
      unfold lkOf
      rw [List.length_append, ps]
      have : m.c.length * (20 * 3 ^ k) ≤ 2 * (20 * 3 ^ k) := Nat.mul_le_mul_right _ h4
      omega
    · have ht := (List.mergeSort_perm _ _).subset (show t ∈ srt ltL (lkOf m (shS (ms.take (k + 1)))) from ht)
      unfold lkOf at ht
      rcases List.mem_append.mp ht with ht | ht
      · obtain ⟨q1, q2⟩ := h.lkAl hm ht
        have a1 : t.a.length ≤ 11 ∧ canQ t.a := by
          rcases q1 with q | ⟨u, hu, y, hy, e⟩
          · have := al t.a (by rcases List.mem_append.mp q with q | q <;> simp [q])
            exact ⟨by have := alln_len _ this; omega, can_al this⟩
          · rw [e]
            exact ⟨dotted_len _ (lab u hu) y hy, can_dot (can_al (lab u hu)) (can_al hy)⟩
        have a2 : t.b.length ≤ 11 ∧ canQ t.b := by
          rcases q2 with q | ⟨u, hu, _, _, _, _, y, _, hy, e⟩
          · have := al t.b (by rcases List.mem_append.mp q with q | q <;> simp [q])
            exact ⟨by have := alln_len _ this; omega, can_al this⟩
          · rw [e]
            exact ⟨dotted_len _ (lab u hu) y hy, can_dot (can_al (lab u hu)) (can_al hy)⟩
        exact ⟨by omega, by omega, a1.2, a2.2⟩
      · obtain ⟨u, hu, ht⟩ := List.mem_flatMap.mp ht
        obtain ⟨k', hk, rfl⟩ := List.mem_map.mp ht
        obtain ⟨q1, q2, q3, q4⟩ := (sub u hu).d k' hk
        have l5 := alln_len _ (lab u hu)
        exact ⟨by show (dotted u.1 k'.a).length ≤ _; rw [dot_len]; omega, by show (dotted u.1 k'.b).length ≤ _; rw [dot_len]; omega, can_dot (can_al (lab u hu)) q3, can_dot (can_al (lab u hu)) q4⟩
theorem HW.sz (h : HW n bs ms) (hm : ms[i]? = some m) : SzS i (shp ms i m) := h.szs i i m (Nat.le_refl _) hm
theorem pow3 {i : Nat} (h : i < 3) : 3 ^ i ≤ 9 := by
  have : i = 0 ∨ i = 1 ∨ i = 2 := by omega
  rcases this with rfl | rfl | rfl <;> decide
theorem HW.shOk (h : HW n bs ms) : ShsOk ms := by
  refine ⟨fun i m hm => ?_, by have := h.nd ms.length; rw [List.take_length] at this; exact this, Nat.le_trans h.l3 (by decide)⟩
  have l3 := h.l3
  have il := (List.getElem?_eq_some_iff.mp hm).1
  have p9 := pow3 (i := i) (by omega)
  have sz := h.sz hm
  have cs := h.calls hm
  have sub : ∀ t ∈ m.c, ∃ j, j < 3 ∧ SzS j (shOf (shS (ms.take i)) t.2) := fun t ht => by
    obtain ⟨_, j, u, v, c⟩ := cs t ht
    rw [c.of]
    exact ⟨j, by have := c.lt; omega, h.sz c.hm⟩
  refine ⟨fun t ht => ?_, fun t ht => alln_len _ (cs t ht).1, fun t ht => ?_, fun t ht => ?_, ?_, ?_⟩
  · obtain ⟨_, j, u, v, c⟩ := cs t ht
    rw [c.of, c.sh]
    rfl
  · obtain ⟨j, hj, s⟩ := sub t ht
    have := pow3 hj
    exact ⟨Nat.le_trans s.a (by omega), fun z hz => Nat.le_trans (s.b z hz).1 (by omega)⟩
  · obtain ⟨j, hj, s⟩ := sub t ht
    have := pow3 hj
    exact ⟨Nat.le_trans s.c (by omega), fun z hz => ⟨Nat.le_trans (s.d z hz).1 (by omega), Nat.le_trans (s.d z hz).2.1 (by omega)⟩⟩
  · have := sz.a
    have e : List.length (shp ms i m).1 = (plOf m (shS (ms.take i))).length := srt_len
    omega
  · have := sz.c
    have e : List.length (shp ms i m).2 = (lkOf m (shS (ms.take i))).length := srt_len
    omega
theorem HW.msOk (h : HW n bs ms) : MsOk ms := ⟨fun m hm => by
  obtain ⟨i, hi⟩ := List.getElem?_of_mem hm
  obtain ⟨b, hb⟩ := h.base hi
  exact h.md hb hi, h.knOk, h.shOk⟩
end
end WW

set_option Elab.async false
set_option linter.all false
set_option maxRecDepth 100000
set_option maxHeartbeats 4000000
namespace WW
open PySem PySem.Spec PyProof.Rows L2
/-! ### which houses have rings -/
theorem zero_srt {l : List Lk} {a p : Str} : Zero (srt ltL l) a p ↔ Zero l a p := by
  have pm := List.mergeSort_perm l fun x y => !ltL y x
  exact ⟨fun ⟨t, h, r⟩ => ⟨t, pm.subset h, r⟩, fun ⟨t, h, r⟩ => ⟨t, pm.symm.subset h, r⟩⟩
theorem mem_srtS {l : List Str} {z : Str} : z ∈ srt ltS l ↔ z ∈ l := by
  have pm := List.mergeSort_perm l fun x y => !ltS y x
  exact ⟨fun h => pm.subset h, fun h => pm.symm.subset h⟩
theorem min_of {C : Str → Prop} (f : Str → Nat) : ∀ (k : Nat) (p : Str), C p → f p ≤ k → ∃ p0, C p0 ∧ ∀ q, C q → f p0 ≤ f q
  | 0, p, hp, hk => ⟨p, hp, fun q _ => by omega⟩
  | k + 1, p, hp, hk => by
    by_cases c : ∃ q, C q ∧ f q < f p
    · obtain ⟨q, hq, hl⟩ := c
      exact min_of f k q hq (by omega)
    · exact ⟨p, hp, fun q hq => Nat.le_of_not_lt fun hl => c ⟨q, hq, hl⟩⟩
def rk (b : DMd) (z : Str) : Nat := (endsM b).idxOf (hd' z)
theorem Reach.head {ls : List Lk} {a p z : Str} (h : Zero ls a p) (r : Reach ls p z) : Reach ls a z := by
  induction r with
  | here => exact .on .here h
  | on _ h2 ih => exact .on ih h2
section
variable {n : Int} {bs ms : List DMd} {i : Nat} {b m : DMd}
abbrev plA (ms : List DMd) (i : Nat) (m : DMd) : List Str := plOf m (shS (ms.take i))
abbrev lkA (ms : List DMd) (i : Nat) (m : DMd) : List Lk := lkOf m (shS (ms.take i))
/-- a link without marks: one's own, or one led along -/
theorem HW.zero (h : HW n bs ms) (hm : ms[i]? = some m) {a p : Str} (z : Zero (lkA ms i m) a p) : (∃ t ∈ m.l, t.c = 0 ∧ t.a = a ∧ t.b = p) ∨ ∃ u ∈ m.c, ∃ j x v, Cal bs ms i u.2 j x v ∧ ∃ a' p', a = dotted u.1 a' ∧ p = dotted u.1 p' ∧ Zero (lkA ms j v) a' p' := by
  obtain ⟨t, ht, t0, ta, tb⟩ := z
  rcases List.mem_append.mp ht with ht | ht
  · exact .inl ⟨t, ht, t0, ta, tb⟩
  · obtain ⟨u, hu, ht⟩ := List.mem_flatMap.mp ht
    obtain ⟨k, hk, rfl⟩ := List.mem_map.mp ht
    obtain ⟨_, j, x, v, c⟩ := h.calls hm u hu
    rw [c.of] at hk
    exact .inr ⟨u, hu, j, x, v, c, k.a, k.b, ta.symm, tb.symm, zero_srt.mp ⟨k, hk, t0, rfl, rfl⟩⟩
theorem HW.zeroL (h : HW n bs ms) (hm : ms[i]? = some m) {u : Str × Str} (hu : u ∈ m.c) {j : Nat} {x v : DMd} (c : Cal bs ms i u.2 j x v) {a p : Str} (z : Zero (lkA ms j v) a p) : Zero (lkA ms i m) (dotted u.1 a) (dotted u.1 p) := by
  obtain ⟨t, ht, t0, rfl, rfl⟩ := zero_srt.mpr z
  refine ⟨ledL u.1 t, List.mem_append_right _ (List.mem_flatMap.mpr ⟨u, hu, List.mem_map.mpr ⟨t, ?_, rfl⟩⟩), t0, rfl, rfl⟩
  rw [c.of]
  exact ht
/-- places: one's own, or such of a call -/
theorem HW.plC (h : HW n bs ms) (hm : ms[i]? = some m) {z : Str} (hz : z ∈ plA ms i m) : z ∈ m.i ++ m.o ++ m.s ∨ ∃ u ∈ m.c, ∃ j x v, Cal bs ms i u.2 j x v ∧ ∃ y ∈ plA ms j v, z = dotted u.1 y := by
  rcases List.mem_append.mp hz with hz | hz
  · exact .inl hz
  · obtain ⟨u, hu, hz⟩ := List.mem_flatMap.mp hz
    obtain ⟨y, hy, rfl⟩ := List.mem_map.mp hz
    obtain ⟨_, j, x, v, c⟩ := h.calls hm u hu
    rw [c.of] at hy
    exact .inr ⟨u, hu, j, x, v, c, y, mem_srtS.mp hy, rfl⟩
theorem HW.plL (h : HW n bs ms) (hm : ms[i]? = some m) {u : Str × Str} (hu : u ∈ m.c) {j : Nat} {x v : DMd} (c : Cal bs ms i u.2 j x v) {y : Str} (hy : y ∈ plA ms j v) : dotted u.1 y ∈ plA ms i m := by
  refine List.mem_append_right _ (List.mem_flatMap.mpr ⟨u, hu, List.mem_map.mpr ⟨y, ?_, rfl⟩⟩)
  rw [c.of]
  exact mem_srtS.mpr hy
theorem Cal.uniq {z : Str} {j j' : Nat} {x v x' v' : DMd} (h : HW n bs ms) (c : Cal bs ms i z j x v) (c' : Cal bs ms i z j' x' v') : j = j' ∧ v = v' := by
  have nd := h.nd i
  have e1 : ((ms.take i).map (·.n))[j]? = some z := by rw [List.getElem?_map, List.getElem?_take, if_pos c.lt, c.hm]; exact congrArg some c.n
  have e2 : ((ms.take i).map (·.n))[j']? = some z := by rw [List.getElem?_map, List.getElem?_take, if_pos c'.lt, c'.hm]; exact congrArg some c'.n
  have l1 := (List.getElem?_eq_some_iff.mp e1).1
  have ej : j = j' := (List.getElem?_inj l1 nd).mp (by rw [e1, e2])
  subst ej
  have := c.hm
  rw [c'.hm] at this
  cases this
  exact ⟨rfl, rfl⟩
/-- places without end: nothing, where zero links rise -/
theorem HW.closed_no (h : HW n bs ms) (hb : bs[i]? = some b) (hm : ms[i]? = some m) (low : ∀ j u, j < i → ms[j]? = some u → NoRing u (shS (ms.take j))) {C : Str → Prop}
    (hC : ∀ p, C p → p ∈ plA ms i m ∧ ∃ a, C a ∧ Zero (lkA ms i m) a p) (on : ∀ t ∈ m.l, t.c = 0 → C t.a → C t.b → rk b t.a < rk b t.b) : ∀ p, ¬ C p := fun p hp => by
  obtain ⟨p0, hp0, hmin⟩ := min_of (rk b) (rk b p) p hp (Nat.le_refl _)
  obtain ⟨_, a, ha, z⟩ := hC p0 hp0
  rcases h.zero hm z with ⟨t, ht, t0, rfl, rfl⟩ | ⟨u, hu, j, x, v, c, a', p', rfl, rfl, _⟩
  · have := on t ht t0 ha hp0
    have := hmin t.a ha
    omega
  · have lu := alln_nodot _ (h.calls hm u hu).1
    have rku : ∀ y, rk b (dotted u.1 y) = rk b (dotted u.1 p') := fun y => by unfold rk; rw [hd_dot lu, hd_dot lu]
    refine absurd ((low j v c.lt c.hm).max (fun y => C (dotted u.1 y)) (fun y hy => ?_) p' hp0) (by simp)
    obtain ⟨q1, a2, ha2, z2⟩ := hC _ hy
    constructor
    · rcases h.plC hm q1 with q | ⟨u2, hu2, j2, x2, v2, c2, y2, hy2, e⟩
      · exact absurd rfl (dot_ne (alln_nodot _ ((h.own hm).1 _ q)))
      · have el : u.1 = u2.1 := by
          have := congrArg hd' e
          rw [hd_dot lu, hd_dot (alln_nodot _ (h.calls hm u2 hu2).1)] at this
          exact this
        have eu := h.labs hm hu hu2 el
        subst eu
        obtain ⟨rfl, rfl⟩ := c.uniq h c2
        rw [dot_inj e]
        exact mem_srtS.mpr hy2
    · rcases h.zero hm z2 with ⟨t, ht, t0, e1, e2⟩ | ⟨u2, hu2, j2, x2, v2, c2, a3, p3, e1, e2, z3⟩
      · have := on t ht t0 (by rw [e1]; exact ha2) (by rw [e2]; exact hy)
        have := hmin t.a (by rw [e1]; exact ha2)
        rw [e2, rku y] at *
        omega
      · have el : u.1 = u2.1 := by
          have := congrArg hd' e2
          rw [hd_dot lu, hd_dot (alln_nodot _ (h.calls hm u2 hu2).1)] at this
          exact this
        have eu := h.labs hm hu hu2 el
        subst eu
        obtain ⟨rfl, rfl⟩ := c.uniq h c2
        rw [dot_inj e2]
        exact ⟨a3, by rw [← e1]; exact ha2, zero_srt.mpr z3⟩
theorem noring_iff {ms : List DMd} {i : Nat} {m : DMd} : NoRing m (shS (ms.take i)) ↔ ∀ C : Str → Prop, (∀ p, C p → p ∈ plA ms i m ∧ ∃ a, C a ∧ Zero (lkA ms i m) a p) → ∀ p, ¬ C p := by
  constructor
  · intro h C hC p hp
    exact absurd (h.max C (fun q hq => by
      obtain ⟨q1, a, q2, q3⟩ := hC q hq
      exact ⟨mem_srtS.mpr q1, a, q2, zero_srt.mpr q3⟩) p hp) (by simp)
  · intro h
    exact ⟨fun p hp => (by cases hp), fun p hp => (by cases hp), fun C hC p hp => absurd hp (h C (fun q hq => by
      obtain ⟨q1, a, q2, q3⟩ := hC q hq
      exact ⟨mem_srtS.mp q1, a, q2, zero_srt.mp q3⟩) p)⟩
theorem HW.noring (h : HW n bs ms) (hb : bs[i]? = some b) (hm : ms[i]? = some m) (low : ∀ j u, j < i → ms[j]? = some u → NoRing u (shS (ms.take j))) (on : ∀ t ∈ m.l, t.c = 0 → rk b t.a < rk b t.b) : NoRing m (shS (ms.take i)) :=
  noring_iff.mpr fun C hC => h.closed_no hb hm low hC fun t ht t0 _ _ => on t ht t0
/-- zero links end at places -/
theorem HW.zeroIn (h : HW n bs ms) : ∀ (k i : Nat) (m : DMd) {a p : Str}, i ≤ k → ms[i]? = some m → Zero (lkA ms i m) a p → p ∈ plA ms i m := fun k => by
  induction k with
  | zero =>
    intro i m a p hi hm z
    rcases h.zero hm z with ⟨t, ht, t0, rfl, rfl⟩ | ⟨u, hu, j, x, v, c, _⟩
    · rcases (h.lkAl hm ht).2 with q | ⟨u, hu, j, b, v, c, _⟩
      · exact List.mem_append_left _ (by rcases List.mem_append.mp q with q | q <;> simp [q])
      · have := c.lt; omega
    · have := c.lt; omega
  | succ k ih =>
    intro i m a p hi hm z
    rcases h.zero hm z with ⟨t, ht, t0, rfl, rfl⟩ | ⟨u, hu, j, x, v, c, a', p', rfl, rfl, z'⟩
    · rcases (h.lkAl hm ht).2 with q | ⟨u, hu, j, b, v, c, y, hy, _, e⟩
      · exact List.mem_append_left _ (by rcases List.mem_append.mp q with q | q <;> simp [q])
      · rw [e]
        exact h.plL hm hu c (List.mem_append_left _ (by simp [hy]))
    · exact h.plL hm hu c (ih j v (by have := c.lt; omega) c.hm z')
theorem HW.zin (h : HW n bs ms) (hm : ms[i]? = some m) {a p : Str} (z : Zero (lkA ms i m) a p) : p ∈ plA ms i m := h.zeroIn i i m (Nat.le_refl _) hm z
theorem ring_no {ls : List Lk} {rg : List Str} (r : IsRing ls rg) : ∀ p ∈ rg, ∃ a ∈ rg, Zero ls a p := fun p hp => by
  obtain ⟨j, hj⟩ := List.getElem?_of_mem hp
  obtain ⟨a, q, e1, e2, e3⟩ := r.cyc.at' j (List.getElem?_eq_some_iff.mp hj).1
  rw [hj] at e2
  cases e2
  refine ⟨a, ?_, e3⟩
  unfold atI at e1
  cases hx : ixN rg.length ((j : Int) - 1) with
  | none => rw [hx] at e1; cases e1
  | some k => rw [hx] at e1; exact List.mem_of_getElem? e1
theorem HW.rung_no (h : HW n bs ms) (hg : AllGo ms) {rg : List Str} : ¬ Rung ms rg := fun ⟨i, m, hm, _, r, sub⟩ => by
  obtain ⟨x, r', e, _⟩ := r.cyc
  refine noring_iff.mp (hg i m hm) (fun z => z ∈ rg) (fun p hp => ⟨mem_srtS.mp (sub p hp), ?_⟩) x (by rw [e]; exact List.mem_cons_self)
  obtain ⟨a, ha, z⟩ := ring_no r p hp
  exact ⟨a, ha, zero_srt.mp z⟩
/-- the first module with a ring -/
theorem HW.rung_at (h : HW n bs ms) (hm : ms[i]? = some m) (no : ¬ NoRing m (shS (ms.take i))) (low : ∀ j u, j < i → ms[j]? = some u → NoRing u (shS (ms.take j))) {rg : List Str} (r : Rung ms rg) : IsRing (srt ltL (lkA ms i m)) rg ∧ ∀ z ∈ rg, z ∈ plA ms i m := by
  obtain ⟨j, u, hu, lo, r, sub⟩ := r
  have : j = i := by
    rcases Nat.lt_trichotomy j i with c | c | c
    · exfalso
      obtain ⟨x, r', e, _⟩ := r.cyc
      refine noring_iff.mp (low j u c hu) (fun z => z ∈ rg) (fun p hp => ⟨mem_srtS.mp (sub p hp), ?_⟩) x (by rw [e]; exact List.mem_cons_self)
      obtain ⟨a, ha, z⟩ := ring_no r p hp
      exact ⟨a, ha, zero_srt.mp z⟩
    · exact c
    · exact absurd (lo i m c hm) no
  subst this
  rw [hm] at hu
  cases hu
  exact ⟨r, fun z hz => mem_srtS.mp (sub z hz)⟩
end
end WW

set_option Elab.async false
set_option linter.all false
set_option maxRecDepth 100000
set_option maxHeartbeats 4000000
namespace WW
open PySem PySem.Spec PyProof.Rows L2
/-! ### a link more; what the law sees -/
section
variable {n : Int} {bs ms : List DMd} {i : Nat} {b m : DMd}
/-- the drawn house has no ring -/
theorem HouseOk.rise {n : Int} (h : HouseOk n bs) {i : Nat} {b : DMd} (hb : bs[i]? = some b) : ∀ t ∈ b.l, t.c = 0 → rk b t.a < rk b t.b := fun t ht t0 => by
  have g := Good.of h hb
  have o := g.f.lk t ht
  have r := o.on t0
  have hh : ∀ z, z ∈ begM b (bs.take i) ∨ z ∈ goeM b (bs.take i) → hd' z = hdS z := fun z hz => by
    have one : ∀ z, z ∈ b.all → hd' z = hdS z := fun z hz => by
      have := g.f.ok.al z hz
      rw [hd_plain (alln_nodot z this)]
      unfold hdS
      rw [split1 z this]
      rfl
    have two : ∀ t ∈ b.c, ∀ y ∈ ALLN, hd' (dotted t.1 y) = hdS (dotted t.1 y) := fun t ht y hy => by
      have ha := g.f.ok.al _ (List.mem_append_right _ (List.mem_map.mpr ⟨t, ht, rfl⟩))
      rw [hd_dot (alln_nodot _ ha)]
      unfold hdS
      rw [split2 _ ha y hy]
      rfl
    have inM : ∀ t ∈ b.c, findM (bs.take i) t.2 ∈ bs.take i := fun t ht => (get_find (g.f.ok.cl t ht)).2.1
    rcases hz with hz | hz
    · rcases beg_cases hz with q | ⟨t, ht, y, hy, rfl⟩
      · exact one z (all_of (.inl q))
      · exact two t ht y ((g.k.all _ (inM t ht)).2.1 y (List.mem_append_left _ (List.mem_append_left _ (List.mem_append_right _ hy))))
    · rcases goe_cases hz with q | ⟨t, ht, y, hy, rfl⟩
      · exact one z (all_of (.inr q))
      · exact two t ht y ((g.k.all _ (inM t ht)).2.1 y (List.mem_append_left _ (List.mem_append_left _ (List.mem_append_left _ hy))))
  unfold rk
  rw [hh _ (.inl o.a), hh _ (.inr o.b)]
  exact r
/-- all go where all zero links rise -/
theorem HW.allGo (h : HW n bs ms) (on : ∀ (i : Nat) (b m : DMd), bs[i]? = some b → ms[i]? = some m → ∀ t ∈ m.l, t.c = 0 → rk b t.a < rk b t.b) : AllGo ms := by
  have : ∀ k i m, i < k → ms[i]? = some m → NoRing m (shS (ms.take i)) := fun k => by
    induction k with
    | zero => intro i m hi; exact absurd hi (Nat.not_lt_zero _)
    | succ k ih =>
      intro i m hi hm
      obtain ⟨b, hb⟩ := h.base hm
      exact h.noring hb hm (fun j u hj hu => ih j u (by omega) hu) (on i b m hb hm)
  exact fun i m hm => this (i + 1) i m (Nat.lt_succ_self _) hm
theorem HouseOk.go {n : Int} (h : HouseOk n bs) : AllGo bs := (HW.refl h).allGo fun i b m hb hm => by
  rw [hb] at hm
  cases hm
  exact h.rise hb
/-- no ring by a link more: nothing leads back -/
theorem HW.more_no (h : HW n bs ms) (hb : bs[i]? = some b) (hm : ms[i]? = some m) (low : ∀ j u, j < i → ms[j]? = some u → NoRing u (shS (ms.take j))) {l : List Lk} {t : Lk} (el : m.l = l ++ [t]) (on : ∀ t ∈ l, t.c = 0 → rk b t.a < rk b t.b) (no : ¬ Reach (lkA ms i m) t.b t.a) : NoRing m (shS (ms.take i)) := by
  refine noring_iff.mpr fun C hC p hp => ?_
  have mem : ∀ u ∈ m.l, u ∈ l ∨ u = t := fun u hu => by
    rw [el] at hu
    rcases List.mem_append.mp hu with hu | hu
    · exact .inl hu
    · exact .inr (List.mem_singleton.mp hu)
  by_cases cf : C t.a
  · refine h.closed_no hb hm low (C := fun q => C q ∧ Reach (lkA ms i m) q t.a) (fun q hq => ?_) (fun u hu u0 c1 c2 => ?_) t.a ⟨cf, .here⟩
    · obtain ⟨q1, a, q2, q3⟩ := hC q hq.1
      exact ⟨q1, a, ⟨q2, Reach.head q3 hq.2⟩, q3⟩
    · rcases mem u hu with hu | rfl
      · exact on u hu u0
      · exact absurd c2.2 no
  · refine h.closed_no hb hm low hC (fun u hu u0 c1 c2 => ?_) p hp
    rcases mem u hu with hu | rfl
    · exact on u hu u0
    · exact absurd c1 cf
/-- a ring by a link more: it leads back -/
theorem HW.more_yes (h : HW n bs ms) (hm : ms[i]? = some m) {t : Lk} (ht : t ∈ m.l) (t0 : t.c = 0) (re : Reach (lkA ms i m) t.b t.a) : ¬ NoRing m (shS (ms.take i)) := fun nr => by
  have z : Zero (lkA ms i m) t.a t.b := ⟨t, List.mem_append_left _ ht, t0, rfl, rfl⟩
  refine noring_iff.mp nr (fun q => Reach (lkA ms i m) t.b q ∧ Reach (lkA ms i m) q t.a) (fun q hq => ?_) t.b ⟨.here, re⟩
  obtain ⟨h1, h2⟩ := hq
  cases h1 with
  | here => exact ⟨h.zin hm z, t.a, ⟨re, .here⟩, z⟩
  | on h3 h4 => exact ⟨h.zin hm h4, _, ⟨h3, Reach.head h4 h2⟩, h4⟩
theorem ch_le {E : Str → Str → Prop} (f : Str → Nat) (hE : ∀ p q, E p q → f p ≤ f q) : ∀ {l : List Str} {x z : Str}, ch E x (l ++ [z]) → f x ≤ f z
  | [], x, z, h => hE _ _ h.1
  | y :: r, x, z, h => Nat.le_trans (hE _ _ h.1) (ch_le f hE h.2)
/-- the only ring, where one link alone does not rise, and leads from a place to itself -/
theorem HW.ring_self (h : HW n bs ms) (hb : bs[i]? = some b) (hm : ms[i]? = some m) (low : ∀ j u, j < i → ms[j]? = some u → NoRing u (shS (ms.take j))) {l : List Lk} {t : Lk} (el : m.l = l ++ [t]) (on : ∀ t ∈ l, t.c = 0 → rk b t.a < rk b t.b) {st : Str} (hs : st ∈ ALLN) (ta : t.a = st) (tb : t.b = st)
    {rg : List Str} (r : IsRing (srt ltL (lkA ms i m)) rg) (sub : ∀ z ∈ rg, z ∈ plA ms i m) : rg = [st] := by
  have mem : ∀ u ∈ m.l, u ∈ l ∨ u = t := fun u hu => by
    rw [el] at hu
    rcases List.mem_append.mp hu with hu | hu
    · exact .inl hu
    · exact .inr (List.mem_singleton.mp hu)
  have sin : st ∈ rg := by
    obtain ⟨x, r', e, _⟩ := r.cyc
    by_cases c : st ∈ rg
    · exact c
    · exfalso
      refine h.closed_no hb hm low (C := fun z => z ∈ rg) (fun p hp => ⟨sub p hp, ?_⟩) (fun u hu u0 c1 c2 => ?_) x (by rw [e]; exact List.mem_cons_self)
      · obtain ⟨a, ha, z⟩ := ring_no r p hp
        exact ⟨a, ha, zero_srt.mp z⟩
      · rcases mem u hu with hu | rfl
        · exact on u hu u0
        · exact absurd (ta ▸ c1) c
  have mono : ∀ p q, Zero (srt ltL (lkA ms i m)) p q → rk b p ≤ rk b q := fun p q z => by
    rcases h.zero hm (zero_srt.mp z) with ⟨u, hu, u0, rfl, rfl⟩ | ⟨u, hu, j, x, v, c, a', p', rfl, rfl, _⟩
    · rcases mem u hu with hu | rfl
      · exact Nat.le_of_lt (on u hu u0)
      · rw [ta, tb]
        exact Nat.le_refl _
    · have lu := alln_nodot _ (h.calls hm u hu).1
      unfold rk
      rw [hd_dot lu, hd_dot lu]
      exact Nat.le_refl _
  obtain ⟨a1, b1, e1⟩ := List.append_of_mem sin
  have cy := r.cyc
  rw [e1] at cy
  have cy := cy.rot
  have nd := r.nd
  rw [e1] at nd
  obtain ⟨x, r', e2, hc⟩ := cy
  rw [List.cons_append] at e2
  injection e2 with e3 e4
  subst e3
  subst e4
  have nil : b1 ++ a1 = [] := by
    cases hq : b1 ++ a1 with
    | nil => rfl
    | cons y r2 =>
      rw [hq] at hc
      have hc : Zero (srt ltL (lkA ms i m)) st y ∧ ch (Zero (srt ltL (lkA ms i m))) y (r2 ++ [st]) := hc
      have ys : y ≠ st := fun e => by
        have yi : y ∈ b1 ++ a1 := by rw [hq]; exact List.mem_cons_self
        rw [e] at yi
        rw [List.nodup_append, List.nodup_cons] at nd
        rcases List.mem_append.mp yi with q | q
        · exact nd.2.1.1 q
        · exact nd.2.2 st q st List.mem_cons_self rfl
      have le := ch_le (rk b) mono hc.2
      rcases h.zero hm (zero_srt.mp hc.1) with ⟨u, hu, u0, ua, ub⟩ | ⟨u, hu, j, x, v, c, a', p', e', _⟩
      · rcases mem u hu with hu | rfl
        · have := on u hu u0
          rw [ua, ub] at this
          omega
        · exact absurd (ub.symm.trans tb) ys
      · exact absurd e'.symm (dot_ne (alln_nodot st hs))
  obtain ⟨q1, q2⟩ := List.append_eq_nil_iff.mp nil
  rw [e1, q1, q2]
  rfl
/-! ### the same, seen flat -/
theorem HW.idx (h : HW n bs ms) {z : Str} {j : Nat} {x v : DMd} (c : Cal bs ms i z j x v) : idxM ms z = j := by
  have nd := h.nd ms.length
  rw [List.take_length] at nd
  have e1 : (ms.map (·.n))[j]? = some z := by rw [List.getElem?_map, c.hm]; exact congrArg some c.n
  have mz : z ∈ ms.map (·.n) := List.mem_of_getElem? e1
  have e2 := (idx_mem mz).1
  unfold idxM
  exact ((List.getElem?_inj (List.getElem?_eq_some_iff.mp e1).1 nd).mp (by rw [e1, e2])).symm
theorem HW.flat (h : HW n bs ms) : ∀ (k i : Nat) (m : DMd), i ≤ k → ms[i]? = some m → (∀ z, z ∈ (flatL ms (k + 1) i).1 ↔ z ∈ plA ms i m) ∧ (∀ t, t ∈ (flatL ms (k + 1) i).2 ↔ t ∈ lkA ms i m) ∧ (flatL ms (k + 1) i).1.length = (plA ms i m).length ∧ (flatL ms (k + 1) i).2.length = (lkA ms i m).length := fun k => by
  induction k with
  | zero =>
    intro i m hi hm
    have c0 : m.c = [] := by
      cases hc : m.c with
      | nil => rfl
      | cons t r =>
        obtain ⟨_, j, u, v, c⟩ := h.calls hm t (by rw [hc]; exact List.mem_cons_self)
        have := c.lt
        omega
    rw [flatL, hm]
    dsimp only
    unfold plA lkA plOf lkOf
    rw [c0]
    simp
  | succ k ih =>
    intro i m hi hm
    rw [flatL, hm]
    dsimp only
    have sub : ∀ t ∈ m.c, ∃ j x v, Cal bs ms i t.2 j x v ∧ (∀ z, z ∈ (flatL ms (k + 1) (idxM ms t.2)).1 ↔ z ∈ plA ms j v) ∧ (∀ u, u ∈ (flatL ms (k + 1) (idxM ms t.2)).2 ↔ u ∈ lkA ms j v) ∧ (flatL ms (k + 1) (idxM ms t.2)).1.length = (plA ms j v).length ∧ (flatL ms (k + 1) (idxM ms t.2)).2.length = (lkA ms j v).length := fun t ht => by
      obtain ⟨_, j, x, v, c⟩ := h.calls hm t ht
      rw [h.idx c]
      exact ⟨j, x, v, c, ih j v (by have := c.lt; omega) c.hm⟩
    have fl : ∀ {α : Type} (g g' : Str × Str → List α) (l : List (Str × Str)), (∀ t ∈ l, (g t).length = (g' t).length) → (l.flatMap g).length = (l.flatMap g').length := by
      intro α g g' l
      induction l with
      | nil => intro _; rfl
      | cons x r ih2 =>
        intro hh
        rw [List.flatMap_cons, List.flatMap_cons, List.length_append, List.length_append, hh x List.mem_cons_self, ih2 fun t ht => hh t (List.mem_cons_of_mem _ ht)]
    refine ⟨fun z => ?_, fun t => ?_, ?_, ?_⟩
    · unfold plA plOf
      rw [List.mem_append, List.mem_append (t := List.flatMap _ _)]
      refine or_congr Iff.rfl ?_
      rw [List.mem_flatMap, List.mem_flatMap]
      refine exists_congr fun t => and_congr_right fun ht => ?_
      obtain ⟨j, x, v, c, q1, _⟩ := sub t ht
      rw [c.of]
      show z ∈ List.map _ _ ↔ z ∈ List.map (dotted t.1) (srt ltS (plA ms j v))
      rw [List.mem_map, List.mem_map]
      refine exists_congr fun y => and_congr_left fun _ => ?_
      rw [q1]
      exact mem_srtS.symm
    · unfold lkA lkOf
      rw [List.mem_append, List.mem_append (t := List.flatMap _ _)]
      refine or_congr Iff.rfl ?_
      rw [List.mem_flatMap, List.mem_flatMap]
      refine exists_congr fun u => and_congr_right fun hu => ?_
      obtain ⟨j, x, v, c, _, q2, _⟩ := sub u hu
      rw [c.of]
      show t ∈ List.map _ _ ↔ t ∈ List.map (ledL u.1) (srt ltL (lkA ms j v))
      rw [List.mem_map, List.mem_map]
      refine exists_congr fun y => and_congr_left fun _ => ?_
      rw [q2]
      exact ((List.mergeSort_perm (lkA ms j v) fun x y => !ltL y x).mem_iff).symm
    · unfold plA plOf
      rw [List.length_append (as := m.i ++ m.o ++ m.s), List.length_append (as := m.i ++ m.o ++ m.s)]
      congr 1
      refine fl _ _ _ fun t ht => ?_
      obtain ⟨j, x, v, c, _, _, q3, _⟩ := sub t ht
      rw [c.of]
      show (List.map (dotted t.1) (flatL ms (k + 1) (idxM ms t.2)).1).length = (List.map (dotted t.1) (srt ltS (plA ms j v))).length
      rw [List.length_map, List.length_map, q3, srt_len]
    · unfold lkA lkOf
      rw [List.length_append (as := m.l), List.length_append (as := m.l)]
      congr 1
      refine fl _ _ _ fun t ht => ?_
      obtain ⟨j, x, v, c, _, _, _, q4⟩ := sub t ht
      rw [c.of]
      show (List.map (ledL t.1) (flatL ms (k + 1) (idxM ms t.2)).2).length = (List.map (ledL t.1) (srt ltL (lkA ms j v))).length
      rw [List.length_map, List.length_map, q4, srt_len]
theorem HW.zflat (h : HW n bs ms) {k : Nat} (hk : i ≤ k) (hm : ms[i]? = some m) {a p : Str} : Zero (flatL ms (k + 1) i).2 a p ↔ Zero (lkA ms i m) a p := by
  have q := (h.flat k i m hk hm).2.1
  exact ⟨fun ⟨t, ht, r⟩ => ⟨t, (q t).mp ht, r⟩, fun ⟨t, ht, r⟩ => ⟨t, (q t).mpr ht, r⟩⟩
theorem HW.szl (h : HW n bs ms) {k : Nat} (hk : i ≤ k) (hm : ms[i]? = some m) : SzL (flatL ms (k + 1) i) ∧ (flatL ms (k + 1) i).1.length < 64 ∧ LksC (flatL ms (k + 1) i).2 ∧ ∀ z ∈ (flatL ms (k + 1) i).1, canQ z := by
  obtain ⟨q1, q2, q3, q4⟩ := h.flat k i m hk hm
  have s := h.sz hm
  have il := (List.getElem?_eq_some_iff.mp hm).1
  have l3 := h.l3
  have p9 := pow3 (i := i) (by omega)
  have e1 : List.length (shp ms i m).1 = (plA ms i m).length := srt_len
  have e2 : List.length (shp ms i m).2 = (lkA ms i m).length := srt_len
  have sa := s.a
  have sc := s.c
  rw [e1] at sa
  rw [e2] at sc
  have sb : ∀ z ∈ (flatL ms (k + 1) i).1, z.length ≤ 11 + 6 * i ∧ canQ z := fun z hz => s.b z (mem_srtS.mpr ((q1 z).mp hz))
  have sd : ∀ t ∈ (flatL ms (k + 1) i).2, t.a.length ≤ 11 + 6 * i ∧ t.b.length ≤ 11 + 6 * i ∧ canQ t.a ∧ canQ t.b := fun t ht => s.d t ((List.mergeSort_perm (lkA ms i m) fun x y => !ltL y x).symm.subset ((q2 t).mp ht))
  refine ⟨⟨by omega, fun z hz => Nat.le_trans (sb z hz).1 (by omega), by omega, fun t ht => ⟨Nat.le_trans (sd t ht).1 (by omega), Nat.le_trans (sd t ht).2.1 (by omega)⟩⟩, by omega, ⟨by omega, fun t ht => (sd t ht).2.2⟩, fun z hz => (sb z hz).2⟩
theorem HW.fpre (h : HW n bs ms) : ∀ (k i : Nat) (m : DMd), i ≤ k → ms[i]? = some m → FlatPre ms k i := fun k => by
  induction k with
  | zero =>
    intro i m hi hm
    obtain ⟨b, hb⟩ := h.base hm
    obtain ⟨_, h1, h2, h3, h4⟩ := h.own hm
    obtain ⟨_, ll, _⟩ := h.at' i b m hb hm
    refine ⟨m, hm, ⟨by omega, by omega, by omega⟩, ?_⟩
    cases hc : m.c with
    | nil => rfl
    | cons t r =>
      obtain ⟨_, j, u, v, c⟩ := h.calls hm t (by rw [hc]; exact List.mem_cons_self)
      have := c.lt
      omega
  | succ k ih =>
    intro i m hi hm
    obtain ⟨b, hb⟩ := h.base hm
    obtain ⟨_, h1, h2, h3, h4⟩ := h.own hm
    obtain ⟨_, ll, _⟩ := h.at' i b m hb hm
    refine ⟨m, hm, ⟨by omega, by omega, by omega⟩, fun t ht => ?_⟩
    obtain ⟨ha, j, u, v, c⟩ := h.calls hm t ht
    have jk : j ≤ k := by have := c.lt; omega
    refine ⟨alln_len _ ha, ?_, ?_, ?_⟩
    · have := List.mem_of_getElem? c.hm
      exact List.mem_map.mpr ⟨v, this, c.n⟩
    · rw [h.idx c]
      exact (h.szl jk c.hm).1
    · rw [h.idx c]
      exact ih j v jk c.hm
end
end WW

set_option Elab.async false
set_option linter.all false
set_option maxRecDepth 100000
set_option maxHeartbeats 4000000
namespace WW
open PySem PySem.Spec PyProof.Rows L2
section
variable {K : PySem.W.Frag} {B : Addr → Prop} {ρ : List Slot} {ta tb tc : TE} {Φ : Post} {α β γ : Type} {e_α : Enc α} {e_β : Enc β} {e_γ : Enc γ}
theorem ds_par3N {n m l : Nat} {P : α → Prop} {P' : β → Prop} {P'' : γ → Prop} (h1 : DN K B ta ρ P) (h2 : DN K B tb ρ P') (h3 : DN K B tc ρ P'') (k : ∀ a b c, P a → P' b → P'' c → Φ.nx (((ρ.set n (.val a)).set m (.val b)).set l (.val c))) : DS K B (tPar3 n m l (tCons ta (tCons tb (tCons tc tNil)))) ρ Φ := fun S0 H0 S H σ D E px nx r b c =>
  h1 S0 H0 S H σ E _ fun v x S1 H1 px e1 r1 => h2 S0 H0 S1 H1 σ (E.go e1) _ fun w y S2 H2 py e2 r2 => h3 S0 H0 S2 H2 σ (E.go (e1.trans e2)) _ fun u z S3 H3 pz e3 r3 =>
    ⟨v, w, u, rfl, nx _ _ S3 H3 (k x y z px py pz) ((e1.s.trans e2.s).trans e3.s) (((((E.go (e1.trans e2)).go e3).setV (Enc.mono (e2.s.trans e3.s) r1)).setV (Enc.mono e3.s r2)).setV r3)⟩
end
section
variable {P : Program} {w : World} {K : PySem.W.Frag} {mg : Str → Option Value} {base : Heap} {f : Addr} {fd : FuncData}
def dpBegV : List Slot → (Slot → Prop) → Prop := fun ss R => ∃ (m : DMd) (ks : List DMd), ss = [.val m, .val (KN.mk ks)] ∧ MOk m ks ∧ KsOk ks ∧ R (.val (α := L Str) (begM m ks))
def dpGoeV : List Slot → (Slot → Prop) → Prop := fun ss R => ∃ (m : DMd) (ks : List DMd), ss = [.val m, .val (KN.mk ks)] ∧ MOk m ks ∧ KsOk ks ∧ R (.val (α := L Str) (goeM m ks))
theorem ok_beginsV (F : FnP K "_law_begins" s_l_begins f fd) : FnOk P w K mg base CX0 1 f fd ["_law_module_here", "_law_known"] (spT K dpBegV) := by
  refine okT F sc_l_begins (fun ss R h => ?_) (fun cdv A outer s H E hr => ⟨_, (pss_cons (ps_set (i := 2) sc_l_begins.nd rfl (.inl rfl) (pe_op op_cat (pe_dget (hu_of hr) (pv 0) (pe_str) (fun _ _ => rfl)) (pe_dget (hu_of hr) (pv 0) (pe_str) (fun _ _ => rfl))))
 (pss_cons (ps_for PassesOwn.never rfl (pi_seqK K (pe_dget (hu_of hr) (pv 0) (pe_str) (fun _ _ => rfl))) (pg_tupK (n := 2) K rfl (pgs_cons (pg_name (i := 3) sc_l_begins.nd rfl (.inr rfl)) (pgs_cons (pg_name (i := 4) sc_l_begins.nd rfl (.inl rfl)) (pgs_nil)))) (pss_one (ps_set (i := 2) sc_l_begins.nd rfl (.inl rfl) (pe_op op_cat (pv 2) (pe_lc (own := [("_law_outlet", 5)]) rfl sc_l_begins.nd (pi_seqK K (pe_dget (hu_of hr) (pe_dget (hu_of hr) (pv 1) (pv 4) (fun _ _ => rfl)) (pe_str) (fun _ _ => rfl))) (blkOk_by (N := N_l_begins) (sc := defScope s_l_begins) (by decide +kernel)) (fun _ _ _ _ _ => pg_name (i := 5) sc_l_begins.nd rfl (.inl rfl)) (fun _ _ _ _ _ => pts_nil) (fun _ _ _ _ _ => pe_op op_add_str (pe_op op_add_str (pv 3) (pe_str)) (pv 5)))))))
 (pss_one (ps_ret (pv 2))))), fun B ss R h => ?_⟩)
  · obtain ⟨m, ks, rfl, _⟩ := h
    rfl
  · obtain ⟨m, ks, rfl, ok, hk, q⟩ := h
    have al := all_lens ok.ln
    show DS K B _ [.val m, .val (KN.mk ks), .no, .no, .no, .no] _
    have b18 : ∀ {n : Nat}, n ≤ 1000 → n ≤ BIG := fun h => Nat.le_trans h (by decide)
    refine dq_asgI (δ := L Str) (m.i ++ m.s) (DO.l (do_cat (d_va (α := L Str) (d_getD (d := m.dc) (d_dc (d_var rfl)) d_str (a := strsA m.i) rfl)) (d_va (α := L Str) (d_getD (d := m.dc) (d_dc (d_var rfl)) d_str (a := strsA m.s) rfl)) (b18 (by omega)))) ?_
    show DS K B _ [.val m, .val (KN.mk ks), .val (α := L Str) (m.i ++ m.s), .no, .no, .no] _
    let g : Str × Str → List Str := fun t => (findM ks t.2).o.map fun z => dotted t.1 z
    have fl : ∀ t ∈ m.c, (findM ks t.2).o.length ≤ 18 := fun t ht => by
      have := all_lens (hk.all _ (get_find (ok.cl t ht)).2.1).1
      omega
    refine dq_for (xs := m.c) (di_seq (d_Lq (d_va (α := L (Str × Str)) (d_getD (d := m.dc) (d_dc (d_var rfl)) d_str (a := callsA m.c) rfl)))) (fun i r => ∃ s3 s4 s5 : Slot, r = [.val m, .val (KN.mk ks), .val (α := L Str) (m.i ++ m.s ++ (m.c.take i).flatMap g), s3, s4, s5]) ⟨.no, .no, .no, by simp⟩ (fun i t r ht hI => ?_) fun r hI => ?_
    · obtain ⟨s3, s4, s5, rfl⟩ := hI
      have tm := List.mem_of_getElem? ht
      obtain ⟨g1, g2, g3⟩ := get_find (ok.cl t tm)
      have la : t.1 ∈ ALLN := ok.al _ (List.mem_append_right _ (List.mem_map.mpr ⟨t, tm, rfl⟩))
      have ll := alln_len _ la
      refine ⟨_, _, DG.pair dg_name dg_name, ?_⟩
      show DS K B _ [.val m, .val (KN.mk ks), .val (α := L Str) (m.i ++ m.s ++ (m.c.take i).flatMap g), .val t.1, .val t.2, s5] _
      refine ds_asg (α := L Str) (a := m.i ++ m.s ++ (m.c.take i).flatMap g ++ g t) (DO.l (do_cat (d_var rfl) (DO.l (do_map (fun z => dotted t.1 z) (di_seq (d_Lq (d_va (α := L Str) (d_getD (d := (findM ks t.2).dc) (d_dc (d_known (d_var rfl) (d_var rfl) (ok.cl t tm))) d_str (a := strsA (findM ks t.2).o) rfl)))) (b18 (by have := fl t tm; omega)) fun z hz => ⟨_, _, dg_name, by simp, d_addS (d_addS (d_var rfl) d_str ?_) (d_var rfl) ?_⟩)) ?_)) ⟨.val t.1, .val t.2, s5, ?_⟩
      · exact b18 (by show t.1.length + 1 ≤ 1000; omega)
      · have zl := alln_len z ((hk.all _ g2).2.1 z (List.mem_append_left _ (List.mem_append_left _ (List.mem_append_right _ hz))))
        have e : (t.1 ++ Str.ofString ".").length = t.1.length + 1 := by
          show (t.1.cps ++ (Str.ofString ".").cps).size = _
          rw [Array.size_append]
          rfl
        rw [e]
        exact b18 (by omega)
      · have h1 := flat_len g 18 (l := m.c.take i) fun x hx => by
          show ((findM ks x.2).o.map _).length ≤ 18
          rw [List.length_map]
          exact fl x (List.mem_of_mem_take hx)
        have h2 : (g t).length ≤ 18 := by
          show ((findM ks t.2).o.map _).length ≤ 18
          rw [List.length_map]
          exact fl t tm
        have h3 : (m.c.take i).length ≤ 18 := by rw [List.length_take]; omega
        simp only [List.length_append, List.length_map]
        refine b18 ?_
        have : (m.c.take i).length * 18 ≤ 18 * 18 := Nat.mul_le_mul_right _ h3
        omega
      · rw [List.take_add_one, ht, List.flatMap_append, ← List.append_assoc]
        simp [g]
    · obtain ⟨s3, s4, s5, rfl⟩ := hI
      rw [List.take_length]
      exact ds_ret (d_var rfl) q
theorem ok_goesV (F : FnP K "_law_goes" s_l_goes f fd) : FnOk P w K mg base CX0 1 f fd ["_law_module_here", "_law_known"] (spT K dpGoeV) := by
  refine okT F sc_l_goes (fun ss R h => ?_) (fun cdv A outer s H E hr => ⟨_, (pss_cons (ps_set (i := 2) sc_l_goes.nd rfl (.inl rfl) (pe_op op_cat (pe_dget (hu_of hr) (pv 0) (pe_str) (fun _ _ => rfl)) (pe_dget (hu_of hr) (pv 0) (pe_str) (fun _ _ => rfl))))
 (pss_cons (ps_for PassesOwn.never rfl (pi_seqK K (pe_dget (hu_of hr) (pv 0) (pe_str) (fun _ _ => rfl))) (pg_tupK (n := 2) K rfl (pgs_cons (pg_name (i := 3) sc_l_goes.nd rfl (.inr rfl)) (pgs_cons (pg_name (i := 4) sc_l_goes.nd rfl (.inl rfl)) (pgs_nil)))) (pss_one (ps_set (i := 2) sc_l_goes.nd rfl (.inl rfl) (pe_op op_cat (pv 2) (pe_lc (own := [("_law_inlet", 5)]) rfl sc_l_goes.nd (pi_seqK K (pe_dget (hu_of hr) (pe_dget (hu_of hr) (pv 1) (pv 4) (fun _ _ => rfl)) (pe_str) (fun _ _ => rfl))) (blkOk_by (N := N_l_goes) (sc := defScope s_l_goes) (by decide +kernel)) (fun _ _ _ _ _ => pg_name (i := 5) sc_l_goes.nd rfl (.inl rfl)) (fun _ _ _ _ _ => pts_nil) (fun _ _ _ _ _ => pe_op op_add_str (pe_op op_add_str (pv 3) (pe_str)) (pv 5)))))))
 (pss_one (ps_ret (pv 2))))), fun B ss R h => ?_⟩)
  · obtain ⟨m, ks, rfl, _⟩ := h
    rfl
  · obtain ⟨m, ks, rfl, ok, hk, q⟩ := h
    have al := all_lens ok.ln
    show DS K B _ [.val m, .val (KN.mk ks), .no, .no, .no, .no] _
    have b18 : ∀ {n : Nat}, n ≤ 1000 → n ≤ BIG := fun h => Nat.le_trans h (by decide)
    refine dq_asgI (δ := L Str) (m.s ++ m.o) (DO.l (do_cat (d_va (α := L Str) (d_getD (d := m.dc) (d_dc (d_var rfl)) d_str (a := strsA m.s) rfl)) (d_va (α := L Str) (d_getD (d := m.dc) (d_dc (d_var rfl)) d_str (a := strsA m.o) rfl)) (b18 (by omega)))) ?_
    show DS K B _ [.val m, .val (KN.mk ks), .val (α := L Str) (m.s ++ m.o), .no, .no, .no] _
    let g : Str × Str → List Str := fun t => (findM ks t.2).i.map fun z => dotted t.1 z
    have fl : ∀ t ∈ m.c, (findM ks t.2).i.length ≤ 18 := fun t ht => by
      have := all_lens (hk.all _ (get_find (ok.cl t ht)).2.1).1
      omega
    refine dq_for (xs := m.c) (di_seq (d_Lq (d_va (α := L (Str × Str)) (d_getD (d := m.dc) (d_dc (d_var rfl)) d_str (a := callsA m.c) rfl)))) (fun i r => ∃ s3 s4 s5 : Slot, r = [.val m, .val (KN.mk ks), .val (α := L Str) (m.s ++ m.o ++ (m.c.take i).flatMap g), s3, s4, s5]) ⟨.no, .no, .no, by simp⟩ (fun i t r ht hI => ?_) fun r hI => ?_
    · obtain ⟨s3, s4, s5, rfl⟩ := hI
      have tm := List.mem_of_getElem? ht
      obtain ⟨g1, g2, g3⟩ := get_find (ok.cl t tm)
      have la : t.1 ∈ ALLN := ok.al _ (List.mem_append_right _ (List.mem_map.mpr ⟨t, tm, rfl⟩))
      have ll := alln_len _ la
      refine ⟨_, _, DG.pair dg_name dg_name, ?_⟩
      show DS K B _ [.val m, .val (KN.mk ks), .val (α := L Str) (m.s ++ m.o ++ (m.c.take i).flatMap g), .val t.1, .val t.2, s5] _
      refine ds_asg (α := L Str) (a := m.s ++ m.o ++ (m.c.take i).flatMap g ++ g t) (DO.l (do_cat (d_var rfl) (DO.l (do_map (fun z => dotted t.1 z) (di_seq (d_Lq (d_va (α := L Str) (d_getD (d := (findM ks t.2).dc) (d_dc (d_known (d_var rfl) (d_var rfl) (ok.cl t tm))) d_str (a := strsA (findM ks t.2).i) rfl)))) (b18 (by have := fl t tm; omega)) fun z hz => ⟨_, _, dg_name, by simp, d_addS (d_addS (d_var rfl) d_str ?_) (d_var rfl) ?_⟩)) ?_)) ⟨.val t.1, .val t.2, s5, ?_⟩
      · exact b18 (by show t.1.length + 1 ≤ 1000; omega)
      · have zl := alln_len z ((hk.all _ g2).2.1 z (List.mem_append_left _ (List.mem_append_left _ (List.mem_append_left _ hz))))
        have e : (t.1 ++ Str.ofString ".").length = t.1.length + 1 := by
          show (t.1.cps ++ (Str.ofString ".").cps).size = _
          rw [Array.size_append]
          rfl
        rw [e]
        exact b18 (by omega)
      · have h1 := flat_len g 18 (l := m.c.take i) fun x hx => by
          show ((findM ks x.2).i.map _).length ≤ 18
          rw [List.length_map]
          exact fl x (List.mem_of_mem_take hx)
        have h2 : (g t).length ≤ 18 := by
          show ((findM ks t.2).i.map _).length ≤ 18
          rw [List.length_map]
          exact fl t tm
        have h3 : (m.c.take i).length ≤ 18 := by rw [List.length_take]; omega
        simp only [List.length_append, List.length_map]
        refine b18 ?_
        have : (m.c.take i).length * 18 ≤ 18 * 18 := Nat.mul_le_mul_right _ h3
        omega
      · rw [List.take_add_one, ht, List.flatMap_append, ← List.append_assoc]
        simp [g]
    · obtain ⟨s3, s4, s5, rfl⟩ := hI
      rw [List.take_length]
      exact ds_ret (d_var rfl) q
end
end WW

set_option Elab.async false
set_option linter.all false
set_option maxRecDepth 100000
set_option maxHeartbeats 4000000
namespace WW
open PySem PySem.Spec PyProof.Rows L2
/-! ### the house of the law by hand -/
abbrev zCi : Str := "c.in"
abbrev zCp : Str := "c.p"
abbrev zCo : Str := "c.out"
abbrev zR : Str := "r"
abbrev zA : Str := "a"
abbrev zC : Str := "c"
abbrev zI : Str := "in"
abbrev zO : Str := "out"
abbrev zP : Str := "p"
def mI : DMd := ⟨"a", ["in"], ["out"], ["p"], [], [⟨"in", "p", 0, 1⟩, ⟨"p", "out", 0, 1⟩]⟩
def mO : DMd := ⟨"b", [], [], ["r"], [("c", "a")], [⟨"r", "c.in", 0, 0⟩, ⟨"c.out", "r", 0, 2⟩]⟩
def RW4 : List Str := ["c.in", "c.p", "c.out", "r"]
theorem sh0 : shS ([mI, mO].take 0) = [] := rfl
theorem sh1 : shS ([mI, mO].take 1) = [(zA, shapeM mI [])] := rfl
theorem pl0 : plOf mI [] = [zI, zO, zP] := rfl
theorem lk0 : lkOf mI [] = mI.l := rfl
theorem of1 : shOf (shS ([mI, mO].take 1)) zA = shapeM mI [] := by
  rw [sh1]
  unfold shOf Dct.get
  rw [List.find?_cons, decide_eq_true (show (((zA : Str), shapeM mI []) : Str × Shp).1 = zA from rfl)]
  rfl
theorem pl1 {z : Str} : z ∈ plOf mO (shS ([mI, mO].take 1)) ↔ z ∈ RW4 := by
  have e : plOf mO (shS ([mI, mO].take 1)) = [zR] ++ List.map (dotted zC) (srt ltS (plOf mI [])) := by
    show ([zR] : List Str) ++ (List.map (dotted zC) (shOf (shS ([mI, mO].take 1)) zA).1 ++ []) = _
    rw [List.append_nil, of1]
    rfl
  rw [e, List.mem_append, List.mem_map]
  have : (∃ a ∈ srt ltS (plOf mI []), dotted zC a = z) ↔ z ∈ ([zI, zO, zP] : List Str).map (dotted zC) := by
    rw [List.mem_map]
    exact exists_congr fun a => and_congr_left fun _ => by rw [mem_srtS, pl0]
  rw [this]
  have e2 : ([zI, zO, zP] : List Str).map (dotted zC) = [zCi, zCo, zCp] := by decide +kernel
  rw [e2]
  unfold RW4
  simp only [List.mem_cons, List.not_mem_nil, or_false]
  constructor
  · rintro (h | h | h | h) <;> simp [h]
  · rintro (h | h | h | h) <;> simp [h]
def nxt (a p : Str) : Prop := (a = zR ∧ p = zCi) ∨ (a = zCo ∧ p = zR) ∨ (a = zCi ∧ p = zCp) ∨ (a = zCp ∧ p = zCo)
theorem zero1 {a p : Str} : Zero (lkOf mO (shS ([mI, mO].take 1))) a p ↔ nxt a p := by
  have e : lkOf mO (shS ([mI, mO].take 1)) = mO.l ++ List.map (ledL zC) (srt ltL (lkOf mI [])) := by
    show mO.l ++ (List.map (ledL zC) (shOf (shS ([mI, mO].take 1)) zA).2 ++ []) = _
    rw [List.append_nil, of1]
    rfl
  have d1 : dotted zC zI = zCi := by decide +kernel
  have d2 : dotted zC zP = zCp := by decide +kernel
  have d3 : dotted zC zO = zCo := by decide +kernel
  unfold Zero nxt
  rw [e]
  constructor
  · rintro ⟨t, ht, t0, rfl, rfl⟩
    rcases List.mem_append.mp ht with ht | ht
    · have ht : t ∈ [T4.mk (zR : Str) (zCi : Str) (0 : Int) (0 : Int), T4.mk zCo zR 0 2] := ht
      simp only [List.mem_cons, List.not_mem_nil, or_false] at ht
      rcases ht with rfl | rfl
      · exact .inl ⟨rfl, rfl⟩
      · exact .inr (.inl ⟨rfl, rfl⟩)
    · obtain ⟨u, hu, rfl⟩ := List.mem_map.mp ht
      have hu := (List.mergeSort_perm _ _).subset hu
      rw [lk0] at hu
      have hu : u ∈ [T4.mk (zI : Str) (zP : Str) (0 : Int) (1 : Int), T4.mk zP zO 0 1] := hu
      simp only [List.mem_cons, List.not_mem_nil, or_false] at hu
      rcases hu with rfl | rfl
      · exact .inr (.inr (.inl ⟨d1, d2⟩))
      · exact .inr (.inr (.inr ⟨d2, d3⟩))
  · have mm : ∀ u ∈ mI.l, ledL zC u ∈ List.map (ledL zC) (srt ltL (lkOf mI [])) := fun u hu => List.mem_map.mpr ⟨u, (List.mergeSort_perm mI.l fun x y => !ltL y x).symm.subset hu, rfl⟩
    rintro (⟨rfl, rfl⟩ | ⟨rfl, rfl⟩ | ⟨rfl, rfl⟩ | ⟨rfl, rfl⟩)
    · exact ⟨⟨zR, zCi, 0, 0⟩, List.mem_append_left _ List.mem_cons_self, rfl, rfl, rfl⟩
    · exact ⟨⟨zCo, zR, 0, 2⟩, List.mem_append_left _ (List.mem_cons_of_mem _ List.mem_cons_self), rfl, rfl, rfl⟩
    · exact ⟨_, List.mem_append_right _ (mm ⟨zI, zP, 0, 1⟩ List.mem_cons_self), rfl, d1, d2⟩
    · exact ⟨_, List.mem_append_right _ (mm ⟨zP, zO, 0, 1⟩ (List.mem_cons_of_mem _ List.mem_cons_self)), rfl, d2, d3⟩
theorem hand_no : ¬ AllGo [mI, mO] := fun h => by
  refine noring_iff.mp (h 1 mO rfl) (fun z => z ∈ RW4) (fun p hp => ⟨pl1.mpr hp, ?_⟩) zR (by decide +kernel)
  have hp : p ∈ ([zCi, zCp, zCo, zR] : List Str) := hp
  simp only [List.mem_cons, List.not_mem_nil, or_false] at hp
  rcases hp with rfl | rfl | rfl | rfl
  · exact ⟨zR, by decide +kernel, zero1.mpr (.inl ⟨rfl, rfl⟩)⟩
  · exact ⟨zCi, by decide +kernel, zero1.mpr (.inr (.inr (.inl ⟨rfl, rfl⟩)))⟩
  · exact ⟨zCp, by decide +kernel, zero1.mpr (.inr (.inr (.inr ⟨rfl, rfl⟩)))⟩
  · exact ⟨zCo, by decide +kernel, zero1.mpr (.inr (.inl ⟨rfl, rfl⟩))⟩
theorem hand0 : NoRing mI (shS ([mI, mO].take 0)) := noring_iff.mpr fun C hC p hp => by
  have z : ∀ a p, Zero (lkOf mI (shS ([mI, mO].take 0))) a p → (a = zI ∧ p = zP) ∨ (a = zP ∧ p = zO) := fun a p ⟨t, ht, t0, ta, tb⟩ => by
    have ht : t ∈ [T4.mk (zI : Str) (zP : Str) (0 : Int) (1 : Int), T4.mk zP zO 0 1] := ht
    simp only [List.mem_cons, List.not_mem_nil, or_false] at ht
    rcases ht with rfl | rfl
    · exact .inl ⟨ta.symm, tb.symm⟩
    · exact .inr ⟨ta.symm, tb.symm⟩
  have n1 : (zI : Str) ≠ zP := by decide +kernel
  have n2 : (zI : Str) ≠ zO := by decide +kernel
  have nin : ¬ C zI := fun h => by
    obtain ⟨_, a, _, h2⟩ := hC _ h
    rcases z _ _ h2 with ⟨_, e⟩ | ⟨_, e⟩
    · exact n1 e
    · exact n2 e
  have np : ¬ C zP := fun h => by
    obtain ⟨_, a, h1, h2⟩ := hC _ h
    rcases z _ _ h2 with ⟨e, _⟩ | ⟨_, e⟩
    · rw [e] at h1; exact nin h1
    · exact absurd e (by decide +kernel)
  obtain ⟨_, a, h1, h2⟩ := hC _ hp
  rcases z _ _ h2 with ⟨e, _⟩ | ⟨e, _⟩
  · rw [e] at h1; exact nin h1
  · rw [e] at h1; exact np h1
theorem hand_ring {rg : List Str} (h : Rung [mI, mO] rg) : rg = RW4 := by
  obtain ⟨i, m, hm, lo, r, sub⟩ := h
  have i1 : i = 1 ∧ m = mO := by
    rcases i with _ | _ | i
    · exfalso
      have hm : mI = m := by simpa using hm
      subst hm
      obtain ⟨x, r', e, _⟩ := r.cyc
      refine noring_iff.mp hand0 (fun z => z ∈ rg) (fun p hp => ⟨mem_srtS.mp (sub p hp), ?_⟩) x (by rw [e]; exact List.mem_cons_self)
      obtain ⟨a, ha, z⟩ := ring_no r p hp
      exact ⟨a, ha, zero_srt.mp z⟩
    · exact ⟨rfl, by simpa using hm.symm⟩
    · simp at hm
  obtain ⟨rfl, rfl⟩ := i1
  have z : ∀ a p, Zero (srt ltL (lkOf mO (shS ([mI, mO].take 1)))) a p → nxt a p := fun a p hz => zero1.mp (zero_srt.mp hz)
  have pre := ring_no r
  have d : ∀ a ∈ RW4, ∀ b ∈ RW4, a = b ↔ RW4.idxOf a = RW4.idxOf b := by decide +kernel
  -- all four are in
  have s1 : ∀ p ∈ rg, nxt p p ∨ ∃ a ∈ rg, nxt a p := fun p hp => by
    obtain ⟨a, ha, hz⟩ := pre p hp
    exact .inr ⟨a, ha, z _ _ hz⟩
  have f1 : zCi ∈ rg → zR ∈ rg := fun h => by
    obtain ⟨a, ha, hz⟩ := pre _ h
    rcases z _ _ hz with ⟨e, _⟩ | ⟨_, e⟩ | ⟨_, e⟩ | ⟨_, e⟩
    · rw [← e]; exact ha
    all_goals exact absurd e (by decide +kernel)
  have f2 : zR ∈ rg → zCo ∈ rg := fun h => by
    obtain ⟨a, ha, hz⟩ := pre _ h
    rcases z _ _ hz with ⟨_, e⟩ | ⟨e, _⟩ | ⟨_, e⟩ | ⟨_, e⟩
    · exact absurd e (by decide +kernel)
    · rw [← e]; exact ha
    all_goals exact absurd e (by decide +kernel)
  have f3 : zCp ∈ rg → zCi ∈ rg := fun h => by
    obtain ⟨a, ha, hz⟩ := pre _ h
    rcases z _ _ hz with ⟨_, e⟩ | ⟨_, e⟩ | ⟨e, _⟩ | ⟨_, e⟩
    · exact absurd e (by decide +kernel)
    · exact absurd e (by decide +kernel)
    · rw [← e]; exact ha
    · exact absurd e (by decide +kernel)
  have f4 : zCo ∈ rg → zCp ∈ rg := fun h => by
    obtain ⟨a, ha, hz⟩ := pre _ h
    rcases z _ _ hz with ⟨_, e⟩ | ⟨_, e⟩ | ⟨_, e⟩ | ⟨e, _⟩
    · exact absurd e (by decide +kernel)
    · exact absurd e (by decide +kernel)
    · exact absurd e (by decide +kernel)
    · rw [← e]; exact ha
  obtain ⟨x, r', e, hc⟩ := r.cyc
  have xr : x ∈ rg := by rw [e]; exact List.mem_cons_self
  have x4 : x = zCi ∨ x = zCp ∨ x = zCo ∨ x = zR := by
    obtain ⟨a, ha, hz⟩ := pre _ xr
    rcases z _ _ hz with ⟨_, e⟩ | ⟨_, e⟩ | ⟨_, e⟩ | ⟨_, e⟩ <;> simp [e]
  have cin : zCi ∈ rg := by
    rcases x4 with h | h | h | h <;> rw [h] at xr
    · exact xr
    · exact f3 xr
    · exact f3 (f4 xr)
    · exact f3 (f4 (f2 xr))
  have ls := r.least zCi cin x (by rw [e]; rfl)
  have ex : x = zCi := by
    rcases x4 with h | h | h | h
    · exact h
    all_goals
      rw [h] at ls
      exact absurd ls (by decide +kernel)
  subst ex
  have nd := r.nd
  rw [e, List.nodup_cons] at nd
  have go : ∀ {a p : Str}, nxt a p → (a = zCi → p = zCp) ∧ (a = zCp → p = zCo) ∧ (a = zCo → p = zR) ∧ (a = zR → p = zCi) := fun {a p} h => by
    rcases h with ⟨rfl, rfl⟩ | ⟨rfl, rfl⟩ | ⟨rfl, rfl⟩ | ⟨rfl, rfl⟩
    · exact ⟨fun h => absurd h (by decide +kernel), fun h => absurd h (by decide +kernel), fun h => absurd h (by decide +kernel), fun _ => rfl⟩
    · exact ⟨fun h => absurd h (by decide +kernel), fun h => absurd h (by decide +kernel), fun _ => rfl, fun h => absurd h (by decide +kernel)⟩
    · exact ⟨fun _ => rfl, fun h => absurd h (by decide +kernel), fun h => absurd h (by decide +kernel), fun h => absurd h (by decide +kernel)⟩
    · exact ⟨fun h => absurd h (by decide +kernel), fun _ => rfl, fun h => absurd h (by decide +kernel), fun h => absurd h (by decide +kernel)⟩
  rw [e]
  match r', hc, nd with
  | [], hc, _ => exact absurd ((go (z _ _ hc.1)).1 rfl) (by decide +kernel)
  | [y], hc, _ =>
    have e1 := (go (z _ _ hc.1)).1 rfl
    subst e1
    exact absurd ((go (z _ _ hc.2.1)).2.1 rfl) (by decide +kernel)
  | [y, w], hc, _ =>
    have e1 := (go (z _ _ hc.1)).1 rfl
    subst e1
    have e2 := (go (z _ _ hc.2.1)).2.1 rfl
    subst e2
    exact absurd ((go (z _ _ hc.2.2.1)).2.2.1 rfl) (by decide +kernel)
  | [y, w, v], hc, _ =>
    have e1 := (go (z _ _ hc.1)).1 rfl
    subst e1
    have e2 := (go (z _ _ hc.2.1)).2.1 rfl
    subst e2
    have e3 := (go (z _ _ hc.2.2.1)).2.2.1 rfl
    subst e3
    rfl
  | y :: w :: v :: u :: r2, hc, nd =>
    have e1 := (go (z _ _ hc.1)).1 rfl
    subst e1
    have e2 := (go (z _ _ hc.2.1)).2.1 rfl
    subst e2
    have e3 := (go (z _ _ hc.2.2.1)).2.2.1 rfl
    subst e3
    have e4 := (go (z _ _ hc.2.2.2.1)).2.2.2 rfl
    subst e4
    exact absurd (by simp) nd.1
theorem hand_ok : MsOk [mI, mO] := by
  have nl : ∀ m ∈ [mI, mO], (six m).all AV.sm = true ∧ wrongMod (m6L (six m)) = none := by
    intro m hm
    rcases List.mem_cons.mp hm with rfl | hm
    · exact ⟨by decide +kernel, by decide +kernel⟩
    · rw [List.mem_singleton.mp hm]
      exact ⟨by decide +kernel, by decide +kernel⟩
  refine ⟨fun m hm => ?_, ⟨fun i m hm => ?_, by decide⟩, ⟨fun i m hm => ?_, by decide +kernel, by decide⟩⟩
  · obtain ⟨h1, h2⟩ := nl m hm
    rw [List.all_eq_true] at h1
    exact ⟨rfl, rfl, rfl, rfl, rfl, rfl, ⟨h1 (.str m.n) (by simp [six]), h1 (strsA m.i) (by simp [six]), h1 (strsA m.o) (by simp [six]), h1 (strsA m.s) (by simp [six]), h1 (linksA m.l) (by simp [six]), h1 (callsA m.c) (by simp [six])⟩, h2⟩
  · rcases i with _ | _ | i
    · have hm : mI = m := by simpa using hm
      subst hm
      have tt : ∀ t ∈ mI.l, t = ⟨zI, zP, 0, 1⟩ ∨ t = ⟨zP, zO, 0, 1⟩ := fun t ht => by
        have ht : t ∈ [T4.mk zI zP (0 : Int) (1 : Int), T4.mk zP zO 0 1] := ht
        simpa only [List.mem_cons, List.not_mem_nil, or_false] using ht
      refine ⟨⟨by decide +kernel, by decide, (fun t ht => by cases ht), fun t ht z hz => ?_⟩, by decide +kernel, by decide +kernel, by decide +kernel⟩
      have pl : ∀ z ∈ [zI, zO, zP], z.length ≤ 1000 ∧ decide ((Txt.partition z ".").2.1 = dot) = false := by decide +kernel
      have zin : z ∈ [zI, zO, zP] := by
        rcases tt t ht with rfl | rfl <;> rcases hz with rfl | rfl <;> simp
      exact ⟨(pl z zin).1, fun h => by rw [(pl z zin).2] at h; cases h⟩
    · have hm : mO = m := by simpa using hm
      subst hm
      have tt : ∀ t ∈ mO.l, t = ⟨zR, zCi, 0, 0⟩ ∨ t = ⟨zCo, zR, 0, 2⟩ := fun t ht => by
        have ht : t ∈ [T4.mk zR zCi (0 : Int) (0 : Int), T4.mk zCo zR 0 2] := ht
        simpa only [List.mem_cons, List.not_mem_nil, or_false] using ht
      refine ⟨⟨by decide +kernel, by decide, fun t ht => ?_, fun t ht z hz => ?_⟩, by decide +kernel, by decide +kernel, by decide +kernel⟩
      · have ht : t ∈ [(zC, zA)] := ht
        rw [List.mem_singleton.mp ht]
        have e : (Dct.mk (knM ([mI, mO].take 1))).get zA = some (MOb.mk mI) := get_mem (by decide +kernel) List.mem_cons_self
        show (Dct.mk (knM ([mI, mO].take 1))).get zA = some (MOb.mk (lookM (knM ([mI, mO].take 1)) zA))
        unfold lookM
        rw [e]
        rfl
      · have pl : ∀ z ∈ [zR], z.length ≤ 1000 ∧ decide ((Txt.partition z ".").2.1 = dot) = false := by decide +kernel
        have pc : ∀ z ∈ [zCi, zCo], z.length ≤ 1000 ∧ (Txt.partition z ".").1 = zC := by decide +kernel
        have zin : z ∈ [zR] ∨ z ∈ [zCi, zCo] := by
          rcases tt t ht with rfl | rfl <;> rcases hz with rfl | rfl <;> simp
        rcases zin with zin | zin
        · exact ⟨(pl z zin).1, fun h => by rw [(pl z zin).2] at h; cases h⟩
        · refine ⟨(pc z zin).1, fun h => ?_⟩
          rw [(pc z zin).2]
          have e : (Dct.mk (calledD mO (knM ([mI, mO].take 1)))).get zC = some (MOb.mk (lookM (knM ([mI, mO].take 1)) zA)) := get_mem (by decide +kernel) List.mem_cons_self
          conv => rhs; unfold lookM
          rw [e]
          rfl
    · simp at hm
  · rcases i with _ | _ | i
    · have hm : mI = m := by simpa using hm
      subst hm
      exact ⟨(fun t ht => by cases ht), (fun t ht => by cases ht), (fun t ht => by cases ht), (fun t ht => by cases ht), by decide, by decide⟩
    · have hm : mO = m := by simpa using hm
      subst hm
      have g1 : (Dct.mk (shS ([mI, mO].take 1))).get zA = some (shapeM mI []) := get_mem (by decide +kernel) (by rw [sh1]; exact List.mem_cons_self)
      have one : ∀ t ∈ mO.c, t = (zC, zA) := fun t ht => List.mem_singleton.mp ht
      have l1 : (srt ltS (plOf mI [])).length = 3 := by rw [srt_len, pl0]; rfl
      have l2 : (srt ltL (lkOf mI [])).length = 2 := by rw [srt_len, lk0]; rfl
      refine ⟨fun t ht => ?_, fun t ht => ?_, fun t ht => ?_, fun t ht => ?_, ?_, ?_⟩
      · rw [one t ht]
        show (Dct.mk (shS ([mI, mO].take 1))).get zA = some (shOf (shS ([mI, mO].take 1)) zA)
        rw [of1, g1]
      · rw [one t ht]
        decide +kernel
      · rw [one t ht]
        show List.length (shOf (shS ([mI, mO].take 1)) zA).1 ≤ 1000 ∧ _
        rw [of1]
        refine ⟨by show (srt ltS (plOf mI [])).length ≤ 1000; omega, fun z hz => ?_⟩
        have hz : z ∈ plOf mI [] := mem_srtS.mp hz
        rw [pl0] at hz
        exact (by decide +kernel : ∀ z ∈ [zI, zO, zP], z.length ≤ 1000) z hz
      · rw [one t ht]
        show List.length (shOf (shS ([mI, mO].take 1)) zA).2 ≤ 1000 ∧ _
        rw [of1]
        refine ⟨by show (srt ltL (lkOf mI [])).length ≤ 1000; omega, fun k hk => ?_⟩
        have hk : k ∈ lkOf mI [] := (List.mergeSort_perm _ _).subset hk
        rw [lk0] at hk
        have hk : k ∈ [T4.mk zI zP (0 : Int) (1 : Int), T4.mk zP zO 0 1] := hk
        simp only [List.mem_cons, List.not_mem_nil, or_false] at hk
        rcases hk with rfl | rfl
        · exact ⟨by decide +kernel, by decide +kernel⟩
        · exact ⟨by decide +kernel, by decide +kernel⟩
      · show ((["r"] : List Str) ++ (List.map (dotted zC) (show List Str from (shOf (shS ([mI, mO].take 1)) zA).1) ++ [])).length < 64
        rw [of1]
        show ((["r"] : List Str) ++ (List.map (dotted zC) (srt ltS (plOf mI [])) ++ [])).length < 64
        rw [List.append_nil, List.length_append, List.length_map, l1]
        decide
      · show (mO.l ++ (List.map (ledL zC) (show List LkT from (shOf (shS ([mI, mO].take 1)) zA).2) ++ [])).length ≤ 1000
        rw [of1]
        show (mO.l ++ (List.map (ledL zC) (srt ltL (lkOf mI [])) ++ [])).length ≤ 1000
        rw [List.append_nil, List.length_append, List.length_map, l2]
        decide
    · simp at hm
end WW

set_option Elab.async false
set_option linter.all false
set_option maxRecDepth 100000
set_option maxHeartbeats 4000000
namespace WW
open PySem PySem.Spec PyProof.Rows L2
section
variable {K : PySem.W.Frag} {B : Addr → Prop} {ρ : List Slot} {te : TE}
theorem d_calls0 : DE K B (tLst tNil) ρ (callsA []) := d_av (α := L (Str × Str)) (DO.l (do_nil (Str × Str)))
end
section
variable {P : Program} {w : World} {K : PySem.W.Frag} {mg : Str → Option Value} {base : Heap} {f : Addr} {fd : FuncData}
abbrev s_l_is_written_right : Stmt := top 64
abbrev N_l_is_written_right : List Str := ["_law_inner", "_law_outer"]
theorem sc_l_is_written_right : FnScope N_l_is_written_right [] (defScope s_l_is_written_right) := ⟨rfl, rfl, rfl, by decide +kernel, rfl, by decide +kernel, by decide +kernel⟩

theorem ok_hand (F : FnP K "_law_is_written_right" s_l_is_written_right f fd) (g_l_heard : FnAt P w K mg base CX0 9 "_law_heard" ["_law_some"] (spT K dpHeard)) : FnOk P w K mg base CX0 10 f fd [] (spT K (dp0 true)) := by
  refine okT F sc_l_is_written_right (fun ss R h => ?_) (fun cdv A outer s H E hr => ⟨_, (pss_cons (ps_set (i := 0) sc_l_is_written_right.nd rfl (.inl rfl) (pe_disp (pps_cons (pe_str) (pe_str) (pps_cons (pe_str) (pe_lst (pa_cons (pe_str) (pa_nil))) (pps_cons (pe_str) (pe_lst (pa_cons (pe_str) (pa_nil))) (pps_cons (pe_str) (pe_lst (pa_cons (pe_str) (pa_nil))) (pps_cons (pe_str) (pe_lst (pa_nil)) (pps_nil)))))) (by rfl) (by rfl) (fun z => by cases z) (by decide)))
 (pss_cons (ps_dput (hu_of hr) (pv 0) (pe_str) (pe_lst (pa_cons (pe_tup (pa_cons (pe_str) (pa_cons (pe_str) (pa_cons (pe_int) (pa_cons (pe_int) (pa_nil)))))) (pa_cons (pe_tup (pa_cons (pe_str) (pa_cons (pe_str) (pa_cons (pe_int) (pa_cons (pe_int) (pa_nil)))))) (pa_nil)))) rfl)
 (pss_cons (ps_set (i := 1) sc_l_is_written_right.nd rfl (.inl rfl) (pe_disp (pps_cons (pe_str) (pe_str) (pps_cons (pe_str) (pe_lst (pa_nil)) (pps_cons (pe_str) (pe_lst (pa_nil)) (pps_cons (pe_str) (pe_lst (pa_cons (pe_str) (pa_nil))) (pps_cons (pe_str) (pe_lst (pa_cons (pe_tup (pa_cons (pe_str) (pa_cons (pe_str) (pa_nil)))) (pa_nil))) (pps_nil)))))) (by rfl) (by rfl) (fun z => by cases z) (by decide)))
 (pss_cons (ps_dput (hu_of hr) (pv 1) (pe_str) (pe_lst (pa_cons (pe_tup (pa_cons (pe_str) (pa_cons (pe_str) (pa_cons (pe_int) (pa_cons (pe_int) (pa_nil)))))) (pa_cons (pe_tup (pa_cons (pe_str) (pa_cons (pe_str) (pa_cons (pe_int) (pa_cons (pe_int) (pa_nil)))))) (pa_nil)))) rfl)
 (pss_one (ps_ret (pe_cmpR (op_eqDK K hr) (pe_fn g_l_heard hr rfl (pa_cons (pe_lst (pa_cons (pv 0) (pa_cons (pv 1) (pa_nil)))) (pa_nil))) (pe_tup (pa_cons (pe_str) (pa_cons (pe_str) (pa_cons (pe_str) (pa_cons (pe_str) (pa_nil)))))) (nomark _)))))))), fun B ss R h => ?_⟩)
  · obtain ⟨rfl, _⟩ := h
    rfl
  · obtain ⟨rfl, q⟩ := h
    have b18 : ∀ {n : Nat}, n ≤ 10000 → n ≤ BIG := fun h => Nat.le_trans h (by decide)
    show DS K B _ [.no, .no] _
    have one : ∀ {ρ : List Slot} {z : Str}, DE K B (tLst (tCons (tC (.str z)) tNil)) ρ (strsA [z]) := d_avL (DO.l (do_lst (dl_cons d_str dl_nil) (by show 1 ≤ BIG; decide)))
    have nil : ∀ {ρ : List Slot}, DE K B (tLst tNil) ρ (strsA []) := d_avL (DO.l (do_nil Str))
    refine ds_seq (ds_asgOb (P := ownD mI.base) (do_disp (dps_cons d_str (d_avS d_str) (dps_cons d_str one (dps_cons d_str one (dps_cons d_str one (dps_cons d_str d_calls0 dps_nil))))) (by show (["name", "inlets", "outlets", "stations", "calls"] : List Str).Nodup; decide +kernel) (by show 5 ≤ 15; decide)) ?_)
    refine ds_seq (ds_dput (n := 0) (xs := mI.base) (a := linksA mI.l) rfl (d_av (α := L Lk) (DO.l (do_lst (dl_cons (d_quad d_str d_str d_int d_int) (dl_cons (d_quad d_str d_str d_int d_int) dl_nil)) (by show 2 ≤ BIG; decide)))) d_str (by show ("links" : Str) ∉ (["name", "inlets", "outlets", "stations", "calls"] : List Str); decide +kernel) (by show 5 < 1000; decide) ?_)
    show DS K B _ [.obj (ownD mI.dc.kv), .no] _
    refine ds_seq (ds_asgOb (P := ownD mO.base) (do_disp (dps_cons d_str (d_avS d_str) (dps_cons d_str nil (dps_cons d_str nil (dps_cons d_str one (dps_cons d_str (d_av (α := L (Str × Str)) (DO.l (do_lst (dl_cons (d_pair d_str d_str) dl_nil) (by show 1 ≤ BIG; decide)))) dps_nil))))) (by show (["name", "inlets", "outlets", "stations", "calls"] : List Str).Nodup; decide +kernel) (by show 5 ≤ 15; decide)) ?_)
    refine ds_seq (ds_dput (n := 1) (xs := mO.base) (a := linksA mO.l) rfl (d_av (α := L Lk) (DO.l (do_lst (dl_cons (d_quad d_str d_str d_int d_int) (dl_cons (d_quad d_str d_str d_int d_int) dl_nil)) (by show 2 ≤ BIG; decide)))) d_str (by show ("links" : Str) ∉ (["name", "inlets", "outlets", "stations", "calls"] : List Str); decide +kernel) (by show 5 < 1000; decide) ?_)
    show DS K B _ [.obj (ownD mI.dc.kv), .obj (ownD mO.dc.kv)] _
    refine ds_frzD (n := 0) rfl (ds_frzD (n := 1) rfl ?_)
    show DS K B _ [.val mI.dc, .val mO.dc] _
    have cr : canQ (α := Option (U Str)) (some RW4) := canO.mpr fun a ha => by
      cases ha
      exact canU.mpr fun z hz => canS.mpr ((by decide +kernel : ∀ z ∈ RW4, PyData.strOk z = true) z hz)
    refine ds_retE q (d_eqQ (α := Option (U Str)) (a := some RW4) (b := some RW4) (DN.e (dn_call (P := fun o => o = some RW4) (da_cons (α := L DMd) (a := [mI, mO]) (DO.l (do_lst (dl_cons (d_ofdc (m := mI) (d_var rfl)) (dl_cons (d_ofdc (m := mO) (d_var rfl)) dl_nil)) (by show 2 ≤ BIG; decide))) da_nil) ⟨[mI, mO], rfl, hand_ok, fun h => absurd h hand_no, fun rg h => ⟨some rg, by rw [hand_ring h], rfl⟩⟩)) (d_some (α := U Str) (a := RW4) (d_tupU (dl_cons d_str (dl_cons d_str (dl_cons d_str (dl_cons d_str dl_nil)))) (by show 4 ≤ BIG; decide))) (inferInstanceAs (DecidableEq (Option (List Str)))) inferInstance (by decide) cr cr) ?_
    exact @decide_eq_true _ (_) rfl
end
end WW

set_option Elab.async false
set_option linter.all false
set_option maxRecDepth 100000
set_option maxHeartbeats 4000000
namespace WW
open PySem PySem.Spec PyProof.Rows L2
/-! ### what the law asks, plain -/
section
variable {n : Int} {bs ms : List DMd} {i : Nat} {b m : DMd}
theorem HW.go_of (h : HW n bs ms) (on : ∀ (i : Nat) (b m : DMd), bs[i]? = some b → ms[i]? = some m → (∀ j u, j < i → ms[j]? = some u → NoRing u (shS (ms.take j))) → NoRing m (shS (ms.take i))) : AllGo ms := by
  have : ∀ k i m, i < k → ms[i]? = some m → NoRing m (shS (ms.take i)) := fun k => by
    induction k with
    | zero => intro i m hi; exact absurd hi (Nat.not_lt_zero _)
    | succ k ih =>
      intro i m hi hm
      obtain ⟨b, hb⟩ := h.base hm
      exact on i b m hb hm fun j u hj hu => ih j u (by omega) hu
  exact fun i m hm => this (i + 1) i m (Nat.lt_succ_self _) hm
theorem HouseOk.find (h : HouseOk n bs) (hb : bs[i]? = some b) : begM b bs = begM b (bs.take i) ∧ goeM b bs = goeM b (bs.take i) := by
  have e : ∀ t ∈ b.c, findM bs t.2 = findM (bs.take i) t.2 := fun t ht => by
    obtain ⟨_, j, u, v, c⟩ := (HW.refl h).calls hb t ht
    have nd := h.ks.1.nd
    have eu : u = v := by
      have := c.hb
      rw [c.hm] at this
      exact (Option.some.inj this).symm
    have : findM bs t.2 = u := by
      unfold findM KN.dct
      rw [get_mem (a := u) (by rw [List.map_map]; exact nd) (List.mem_map.mpr ⟨u, List.mem_of_getElem? c.hb, by rw [← c.n, eu]⟩)]
      rfl
    rw [this, c.fd]
  have fl : ∀ (g g' : Str × Str → List Str), (∀ t ∈ b.c, g t = g' t) → b.c.flatMap g = b.c.flatMap g' := fun g g' hh => by
    rw [List.flatMap_def, List.flatMap_def, List.map_congr_left hh]
  unfold begM goeM
  constructor
  · rw [fl _ _ fun t ht => by rw [e t ht]]
  · rw [fl _ _ fun t ht => by rw [e t ht]]
theorem HouseOk.mok (h : HouseOk n bs) (hb : bs[i]? = some b) : MOk b bs := by
  have ok := (h.all i b hb).1.ok
  exact ⟨ok.nd, ok.al, ok.ln, ok.s1, ok.o1, ok.nl, fun t ht => by
    obtain ⟨d, hd, e⟩ := List.mem_map.mp (ok.cl t ht)
    exact List.mem_map.mpr ⟨d, List.mem_of_mem_take hd, e⟩⟩
theorem getD_at {l : List DMd} {i : Nat} {m : DMd} (h : l[i]? = some m) : l.getD i noM = m := by
  rw [List.getD_eq_getElem?_getD, h]
  rfl
/-- one link more in a drawn house -/
theorem HouseOk.more (h : HouseOk n bs) (hb : bs[i]? = some b) {t : Lk} (ht : LkW b (bs.take i) t) : HW n bs (withL bs i t) := by
  refine (HW.refl h).put hb ?_ ht
  rw [getD_at hb]
  exact Nat.le_trans (h.all i b hb).1.ll (by decide)
theorem more_low (h : HouseOk n bs) (hb : bs[i]? = some b) {t : Lk} (ht : LkW b (bs.take i) t) : ∀ j u, j < i → (withL bs i t)[j]? = some u → NoRing u (shS ((withL bs i t).take j)) := fun j => by
  have hw := h.more hb ht
  have il := (List.getElem?_eq_some_iff.mp hb).1
  have : ∀ k j u, j < k → j < i → (withL bs i t)[j]? = some u → NoRing u (shS ((withL bs i t).take j)) := fun k => by
    induction k with
    | zero => intro j u hj; exact absurd hj (Nat.not_lt_zero _)
    | succ k ih =>
      intro j u hj hi hu
      have hu' := hu
      rw [withL_off il (by omega)] at hu'
      exact hw.noring hu' hu (fun j' u' hj' hu2 => ih j' u' (by omega) (by omega) hu2) (h.rise hu')
  exact fun u hj hu => this (j + 1) j u (Nat.lt_succ_self _) hj hu
theorem more_go (h : HouseOk n bs) (hb : bs[i]? = some b) {t : Lk} (ht : LkW b (bs.take i) t) (no : t.c = 0 → ¬ Reach (lkA (withL bs i t) i { b with l := b.l ++ [t] }) t.b t.a) : AllGo (withL bs i t) := by
  have hw := h.more hb ht
  have il := (List.getElem?_eq_some_iff.mp hb).1
  refine hw.go_of fun j b' m' hb' hm' low => ?_
  by_cases c : j = i
  · subst c
    rw [hb] at hb'
    cases hb'
    have e := withL_at (t := t) hb
    rw [hm'] at e
    cases e
    by_cases t0 : t.c = 0
    · exact hw.more_no hb hm' low rfl (h.rise hb) (no t0)
    · refine hw.noring hb hm' low fun u hu u0 => ?_
      rcases List.mem_append.mp hu with hu | hu
      · exact h.rise hb u hu u0
      · rw [List.mem_singleton.mp hu] at u0
        exact absurd u0 t0
  · have e := hm'
    rw [withL_off il c, hb'] at e
    cases e
    exact hw.noring hb' hm' low (h.rise hb')
end
end WW

set_option Elab.async false
set_option linter.all false
set_option maxRecDepth 100000
set_option maxHeartbeats 4000000
namespace WW
open PySem PySem.Spec PyProof.Rows L2
def spLaw (K : PySem.W.Frag) : Sp := fun vs H Q _ => ∃ (a : Addr) (ns : List Int), vs = [.ref a] ∧ SqL K H a (ns.map V.int) ∧ ns.length ≤ 63 ∧ ∀ H', Q (.bl true) H'
theorem imp_law {K : PySem.W.Frag} (vs : List V) (H : Hp) (Q : VK) (E : XK) (h : spLaw K vs H Q E) : spT K (dp1 (fun x : Scr => x.ns.length ≤ 63) fun _ => true) vs H Q E := by
  obtain ⟨a, ns, rfl, hs, hl, q⟩ := h
  refine ⟨fun _ => False, H, [.val (Scr.mk ns)], fun s => s = .val true, Same.refl H, fun p hp => hp.elim, .cons ⟨a, rfl, hs⟩ rfl .nil, ⟨⟨ns⟩, rfl, hl, rfl⟩, fun s v S' H' hs e ok => ?_⟩
  cases hs
  cases (show v = .bl true from ok)
  exact q H'
theorem ch_imp {E E' : Str → Str → Prop} (h : ∀ a b, E a b → E' a b) : ∀ {l : List Str} {x : Str}, ch E x l → ch E' x l
  | [], _, _ => trivial
  | _ :: _, _, c => ⟨h _ _ c.1, ch_imp h c.2⟩
theorem IsRing.conv {l l' : List Lk} {rg : List Str} (h : ∀ a b, Zero l a b → Zero l' a b) (r : IsRing l rg) : IsRing l' rg := by
  obtain ⟨x, r', e, c⟩ := r.cyc
  exact ⟨⟨x, r', e, ch_imp h c⟩, r.nd, r.least⟩
theorem Reach.conv {l l' : List Lk} {p z : Str} (h : ∀ a b, Zero l a b → Zero l' a b) (r : Reach l p z) : Reach l' p z := by
  induction r with
  | here => exact .here
  | on _ h2 ih => exact .on ih (h _ _ h2)
theorem st_lk {b : DMd} {ks : List DMd} {st : Str} (h : st ∈ b.s) : LkW b ks ⟨st, st, 0, 0⟩ := ⟨List.mem_append_left _ (List.mem_append_right _ h), List.mem_append_left _ (List.mem_append_left _ h), Int.le_refl _, Int.le_refl _⟩
section
variable {K : PySem.W.Frag} {B : Addr → Prop} {ρ : List Slot} {ta tb : TE} {n : Int} {bs ms : List DMd} {i : Nat} {m : DMd}
/-- no ring is heard -/
theorem d_heard0 (h : DE K B ta ρ (α := L DMd) ms) (hw : HW n bs ms) (hg : AllGo ms) : DE K B (tCall (spT K dpHeard) [] E0 (tCons ta tNil)) ρ (α := Option (U Str)) none :=
  DN.e (dn_call (P := fun o => o = none) (da_cons h da_nil) ⟨ms, rfl, hw.msOk, fun _ => ⟨none, rfl, rfl⟩, fun rg hr => absurd hr (hw.rung_no hg)⟩)
theorem d_heard1 {st : Str} (h : DE K B ta ρ (α := L DMd) ms) (hw : HW n bs ms) (no : ¬ AllGo ms) (hr : ∀ rg, Rung ms rg → rg = [st]) : DE K B (tCall (spT K dpHeard) [] E0 (tCons ta tNil)) ρ (α := Option (U Str)) (some [st]) :=
  DN.e (dn_call (α := Option (U Str)) (P := fun o => o = some [st]) (da_cons h da_nil) ⟨ms, rfl, hw.msOk, fun hg => absurd hg no, fun rg h => ⟨some rg, by rw [hr rg h]; exact rfl, rfl⟩⟩)
theorem can1 {st : Str} (h : st ∈ ALLN) : canQ (α := Option (U Str)) (some [st]) := canO.mpr fun a ha => by
  cases ha
  exact canU.mpr fun z hz => by rw [List.mem_singleton.mp hz]; exact can_al h
theorem d_neRing {st : Str} (hs : st ∈ ALLN) (h1 : DE K B ta ρ (α := Option (U Str)) (some [st])) (h2 : DE K B tb ρ st) : DE K B (tOp (rNeD K) ta (tTup (tCons tb tNil))) ρ false :=
  (d_neQ h1 (d_some (α := U Str) (a := [st]) (d_tupU (dl_cons h2 dl_nil) (by show 1 ≤ BIG; decide))) (inferInstanceAs (DecidableEq (Option (List Str)))) inferInstance (by decide) (can1 hs) (can1 hs)).is (by rw [@decide_eq_true _ (_) rfl]; rfl)
end
section
variable {P : Program} {w : World} {K : PySem.W.Frag} {mg : Str → Option Value} {base : Heap} {f : Addr} {fd : FuncData}
abbrev s_law : Stmt := top 65
abbrev N_law : List Str := ["_law_script", "_law_k", "_law_box_here", "_law_some", "_law_at", "_law_module_here", "_law_station", "_law_rung", "_law_elder", "_law_known", "_law_begins_here", "_law_goes_here", "_law_turn", "_law_first", "_law_then", "_law_lasts", "_law_other", "_law_links_here", "_law_wide", "_law_ring", "_law_one"]
theorem sc_law : FnScope N_law ["_law_script"] (defScope s_law) := ⟨rfl, rfl, rfl, by decide +kernel, rfl, by decide +kernel, by decide +kernel⟩

theorem ok_law (F : FnP K "law" s_law f fd) (m_range : mg "range" = none) (m_max : mg "max" = none) (m_min : mg "min" = none) (m_len : mg "len" = none) (m_enumerate : mg "enumerate" = none) (m_dict : mg "dict" = none)
    (g_l_box : FnAt P w K mg base CX0 1 "_law_box" ["_law_script", "_law_k", "_law_own"] (spBox3 K)) (g_l_take : FnAt P w K mg base CX0 1 "_law_take" ["_law_box_here", "_law_many"] (spT K dpTake)) (g_l_pick : FnAt P w K mg base CX0 2 "_law_pick" ["_law_box_here", "_law_items"] (spT K (dpPick Str)))
    (g_l_house : FnAt P w K mg base CX0 5 "_law_house" ["_law_box_here", "_law_many"] (spT K (dpb1 (fun n : Int => 0 ≤ n ∧ n ≤ 3) (fun n (ms : L DMd) => HouseOk n ms))))
    (g_l_heard : FnAt P w K mg base CX0 9 "_law_heard" ["_law_some"] (spT K dpHeard)) (g_l_is_written_right : FnAt P w K mg base CX0 10 "_law_is_written_right" [] (spT K (dp0 true)))
    (g_l_begins : FnAt P w K mg base CX0 1 "_law_begins" ["_law_module_here", "_law_known"] (spT K dpBegV)) (g_l_goes : FnAt P w K mg base CX0 1 "_law_goes" ["_law_module_here", "_law_known"] (spT K dpGoeV))
    (g_l_with : FnAt P w K mg base CX0 1 "_law_with" ["_law_some", "_law_at", "_law_link"] (spT K dpWithL)) (g_l_flat : FnAt P w K mg base CX0 2 "_law_flat" ["_law_some", "_law_at"] (spT K (dpFlat 1))) (g_l_reached : FnAt P w K mg base CX0 1 "_law_reached" ["_law_links_here", "_law_place"] (spT K dpReached))
    (g_l_is_ring : FnAt P w K mg base CX0 1 "_law_is_ring" ["_law_links_here", "_law_ring"] (spT K dpIsRing)) (g_l_put : FnAt P w K mg base CX0 7 "_law_put" ["_law_house_here", "_law_module_here"] (spT K dpPut))
    (g_l_built : FnAt P w K mg base (L2.CX P w) 8 "_law_built" ["_law_some"] (spTXH K (dpBuilt K))) (g_l_made : FnAt P w K mg base CX0 7 "_law_made" ["_law_module_here"] (spT K dpMade)) : FnOk P w K mg base CX0 11 f fd ["_law_script"] (spT K (dp1 (fun x : Scr => x.ns.length ≤ 63) fun _ => true)) := by
  refine okT F sc_law (fun ss R h => ?_) (fun cdv A outer s H E hr => ⟨_, (pss_cons (ps_for PassesOwn.never rfl (pi_range1 rfl m_range (pa_cons (pe_callB (call_max2 rfl) rfl m_max (by decide +kernel) (pa_cons (pe_int) (pa_cons (pe_callB (call_min2 rfl) rfl m_min (by decide +kernel) (pa_cons (pe_int) (pa_cons (pe_callB (call_lenK K) rfl m_len (by decide +kernel) (pa_cons (pv 0) (pa_nil))) (pa_nil)))) (pa_nil)))) (pa_nil))) (pg_name (i := 1) sc_law.nd rfl (.inl rfl)) (pss_cons (ps_set (i := 2) sc_law.nd rfl (.inl rfl) (pe_fn g_l_box hr rfl (pa_cons (pv 0) (pa_cons (pv 1) (pa_cons (pe_int) (pa_nil))))))
 (pss_cons (ps_set (i := 3) sc_law.nd rfl (.inl rfl) (pe_fn g_l_house hr rfl (pa_cons (pv 2) (pa_cons (pe_int) (pa_nil)))))
 (pss_cons (ps_if (PW.pt (pw_or (pt_cmpR op_notN (pe_fn g_l_heard hr rfl (pa_cons (pv 3) (pa_nil))) (pe_non) (nomark _)) (pw_or1 (pt_not (pt_val (pe_fn0 g_l_is_written_right hr rfl)))))) (pss_one (ps_ret (pe_bl))) (pss_nil))
 (pss_cons (ps_for PassesOwn.never rfl (pi_enum rfl m_enumerate (pa_cons (pv 3) (pa_nil))) (pg_tupK (n := 2) K rfl (pgs_cons (pg_name (i := 4) sc_law.nd rfl (.inl rfl)) (pgs_cons (pg_name (i := 5) sc_law.nd rfl (.inl rfl)) (pgs_nil)))) (pss_cons (ps_set (i := 9) sc_law.nd rfl (.inl rfl) (pe_callTy (call_dictP rfl) rfl m_dict (by decide +kernel) (pa_cons (pe_lc (own := [("_law_one", 20)]) rfl sc_law.nd (pi_seqK K (pv 3)) (blkOk_by (N := N_law) (sc := defScope s_law) (by decide +kernel)) (fun _ _ _ _ _ => pg_name (i := 20) sc_law.nd rfl (.inl rfl)) (fun _ _ _ _ _ => pts_nil) (fun _ _ _ _ _ => pe_tup (pa_cons (pe_dget (hu_of hr) (pv 20) (pe_str) (fun _ _ => rfl)) (pa_cons (pv 20) (pa_nil))))) (pa_nil))))
 (pss_cons (ps_par (i := 10) (j := 11) rfl sc_law.nd rfl rfl (by decide) rfl rfl (pa_cons (pe_fn g_l_begins hr rfl (pa_cons (pv 5) (pa_cons (pv 9) (pa_nil)))) (pa_cons (pe_fn g_l_goes hr rfl (pa_cons (pv 5) (pa_cons (pv 9) (pa_nil)))) (pa_nil))) rfl)
 (pss_one (ps_for PassesOwn.never rfl (pi_range1 rfl m_range (pa_cons (pe_int) (pa_nil))) (pg_name (i := 12) sc_law.nd rfl (.inl rfl)) (pss_cons (ps_par3 (i := 13) (j := 14) (l := 15) rfl sc_law.nd rfl rfl rfl (by decide) (by decide) (by decide) rfl rfl rfl (pa_cons (pe_fn g_l_pick hr rfl (pa_cons (pv 2) (pa_cons (pv 10) (pa_nil)))) (pa_cons (pe_fn g_l_pick hr rfl (pa_cons (pv 2) (pa_cons (pv 11) (pa_nil)))) (pa_cons (pe_fn g_l_take hr rfl (pa_cons (pv 2) (pa_cons (pe_int) (pa_nil)))) (pa_nil)))) rfl)
 (pss_cons (ps_set (i := 16) sc_law.nd rfl (.inl rfl) (pe_fn g_l_with hr rfl (pa_cons (pv 3) (pa_cons (pv 4) (pa_cons (pe_tup (pa_cons (pv 13) (pa_cons (pv 14) (pa_cons (pe_int) (pa_cons (pv 15) (pa_nil)))))) (pa_nil))))))
 (pss_cons (ps_set (i := 17) sc_law.nd rfl (.inl rfl) (pe_ix (ix_sqK K) (pe_fn g_l_flat hr rfl (pa_cons (pv 16) (pa_cons (pv 4) (pa_nil)))) (pe_int) (fun _ _ => rfl)))
 (pss_cons (ps_set (i := 18) sc_law.nd rfl (.inl rfl) (pe_fn g_l_reached hr rfl (pa_cons (pv 17) (pa_cons (pv 14) (pa_nil)))))
 (pss_cons (ps_set (i := 19) sc_law.nd rfl (.inl rfl) (pe_fn g_l_heard hr rfl (pa_cons (pv 16) (pa_nil))))
 (pss_cons (ps_if (pt_cmpR op_ne (pe_cmpR op_notN (pv 19) (pe_non) (nomark _)) (pe_or (pe_cmpR (op_inK K) (pv 13) (pv 18) rfl) (pe_one (pe_cmpR op_eq (pv 13) (pv 14) (nomark _)))) (nomark _)) (pss_one (ps_ret (pe_bl))) (pss_nil))
 (pss_cons (ps_if (PW.pt (pw_and (pt_cmpR op_notN (pv 19) (pe_non) (nomark _)) (pw_and1 (pt_not (pt_val (pe_fn g_l_is_ring hr rfl (pa_cons (pv 17) (pa_cons (pv 19) (pa_nil))))))))) (pss_one (ps_ret (pe_bl))) (pss_nil))
 (pss_one (ps_if (pt_cmpR op_notN (pe_fn g_l_heard hr rfl (pa_cons (pe_fn g_l_with hr rfl (pa_cons (pv 3) (pa_cons (pv 4) (pa_cons (pe_tup (pa_cons (pv 13) (pa_cons (pv 14) (pa_cons (pe_int) (pa_cons (pv 15) (pa_nil)))))) (pa_nil))))) (pa_nil))) (pe_non) (nomark _)) (pss_one (ps_ret (pe_bl))) (pss_nil)))))))))))))))
 (pss_cons (ps_set (i := 6) sc_law.nd rfl (.inl rfl) (pe_ix (ix_sqK K) (pe_dget (hu_of hr) (pe_ix (ix_sqK K) (pv 3) (pe_int) (fun _ _ => rfl)) (pe_str) (fun _ _ => rfl)) (pe_int) (fun _ _ => rfl)))
 (pss_cons (ps_set (i := 7) sc_law.nd rfl (.inl rfl) (pe_fn g_l_with hr rfl (pa_cons (pv 3) (pa_cons (pe_int) (pa_cons (pe_tup (pa_cons (pv 6) (pa_cons (pv 6) (pa_cons (pe_int) (pa_cons (pe_int) (pa_nil)))))) (pa_nil))))))
 (pss_cons (ps_if (pt_cmpR (op_neDK K hr) (pe_fn g_l_heard hr rfl (pa_cons (pv 7) (pa_nil))) (pe_tup (pa_cons (pv 6) (pa_nil))) (nomark _)) (pss_one (ps_ret (pe_bl))) (pss_nil))
 (pss_cons (ps_set (i := 8) sc_law.nd rfl (.inl rfl) (pe_ix (ix_sqK K) (pe_dget (hu_of hr) (pe_ix (ix_sqK K) (pv 3) (pe_int) (fun _ _ => rfl)) (pe_str) (fun _ _ => rfl)) (pe_int) (fun _ _ => rfl)))
 (pss_cons (ps_if (pt_cmpR (op_neDK K hr) (pe_fn g_l_heard hr rfl (pa_cons (pe_fn g_l_with hr rfl (pa_cons (pv 7) (pa_cons (pe_int) (pa_cons (pe_tup (pa_cons (pv 8) (pa_cons (pv 8) (pa_cons (pe_int) (pa_cons (pe_int) (pa_nil)))))) (pa_nil))))) (pa_nil))) (pe_tup (pa_cons (pv 8) (pa_nil))) (nomark _)) (pss_one (ps_ret (pe_bl))) (pss_nil))
 (pss_one (ps_if (pt_cmpR (op_neDK K hr) (pe_fn g_l_put hr rfl (pa_cons (pe_fnX K g_l_built takes_no hr rfl (pa_cons (pv 3) (pa_nil))) (pa_cons (pe_fn g_l_made hr rfl (pa_cons (pe_ix (ix_sqK K) (pv 7) (pe_int) (fun _ _ => rfl)) (pa_nil))) (pa_nil)))) (pe_tup (pa_cons (pv 6) (pa_nil))) (nomark _)) (pss_one (ps_ret (pe_bl))) (pss_nil)))))))))))))
 (pss_one (ps_ret (pe_bl)))), fun B ss R h => ?_⟩)
  · obtain ⟨x, rfl, _⟩ := h
    rfl
  · obtain ⟨scr, rfl, hl, q⟩ := h
    have sb : scr.ns.length ≤ BIG := Nat.le_trans hl (by decide)
    have b18 : ∀ {n : Nat}, n ≤ 100000 → n ≤ BIG := fun h => Nat.le_trans h (by decide)
    show DS K B _ [.val scr, .no, .no, .no, .no, .no, .no, .no, .no, .no, .no, .no, .no, .no, .no, .no, .no, .no, .no, .no, .no] _
    refine dq_forW [.val scr, .no, .no, .no, .no, .no, .no, .no, .no, .no, .no, .no, .no, .no, .no, .no, .no, .no, .no, .no, .no] (di_rng1 (d_max2 d_int (d_min2 d_int (d_len (d_scr (d_var rfl) sb)))) (by omega) (by omega)) (Wk.refl _) (fun k hk => ⟨_, _, dg_name, ?_⟩) ?_
    · have hk := rg_mem.mp hk
      refine dq_boxG (d_box3 (x := scr) (k := k) (o := 14) (d_var rfl) (d_var rfl) d_int hk.1 (by omega) (by decide)) (by simp [Slot.isOwn]) rfl fun p => ?_
      generalize (fun q => q = p ∨ B q) = B'
      refine dq_asgN (dn_callb1 rfl d_int ⟨by decide, by decide⟩) fun (bs : List DMd) ho => ?_
      have ho : HouseOk 2 bs := ho
      have bl : bs.length = 2 := by have := ho.len; omega
      have h0 := HW.refl ho
      have g0 := ho.go
      show DS K B' _ [.val scr, .val k, .box, .val (α := L DMd) bs, .no, .no, .no, .no, .no, .no, .no, .no, .no, .no, .no, .no, .no, .no, .no, .no, .no] _
      refine dq_when (c := false) (DT.is (dt_or (dt_test (d_notN (α := U Str) (o := none) (d_heard0 (d_var rfl) h0 g0) inferInstance)) fun _ => dt_not (dt_B d_call0)) rfl) (fun h => nomatch h) fun _ => ?_
      refine dq_forW [.val scr, .val k, .box, .val (α := L DMd) bs, .no, .no, .no, .no, .no, .no, .no, .no, .no, .no, .no, .no, .no, .no, .no, .no, .no] (xs := enumL bs) (di_enum (d_var rfl)) (Wk.refl _) (fun x hx => ⟨_, _, DG.pair dg_name dg_name, ?_⟩) ?_
      · obtain ⟨i, hi⟩ := List.getElem?_of_mem hx
        obtain ⟨m, hm, rfl⟩ := enumL_at.mp hi
        have il : i < 2 := by have := (List.getElem?_eq_some_iff.mp hm).1; omega
        have mok := ho.mok hm
        have ks := ho.ks.1
        obtain ⟨bL, gL, b0, gg0⟩ := beg_len mok ks
        obtain ⟨eb, eg⟩ := ho.find hm
        show DS K B' _ [.val scr, .val k, .box, .val (α := L DMd) bs, .val (i : Int), .val m, .no, .no, .no, .no, .no, .no, .no, .no, .no, .no, .no, .no, .no, .no, .no] _
        refine dq_asgI (δ := KN) ⟨bs⟩ (d_kn (d_dict (xs := bs.map fun m => (m.n, m)) (DO.l (do_map (fun m : DMd => (m.n, m)) (di_seq (d_Lq (d_var rfl))) (b18 (by omega)) fun m hm => ⟨_, _, dg_name, by simp, d_pair (d_va (α := Str) (d_getD (d := m.dc) (a := AV.str m.n) (d_dc (d_var rfl)) d_str rfl)) (d_var rfl)⟩)) (by rw [List.map_map]; exact ks.nd) (by rw [List.length_map]; omega))) ?_
        refine ds_seq (ds_par (α := L Str) (β := L Str) (a := begM m bs) (b := goeM m bs) (d_call (da_cons (d_var rfl) (da_cons (d_var rfl) da_nil)) ⟨m, bs, rfl, mok, ks, rfl⟩) (d_call (da_cons (d_var rfl) (da_cons (d_var rfl) da_nil)) ⟨m, bs, rfl, mok, ks, rfl⟩) ?_)
        show DS K B' _ [.val scr, .val k, .box, .val (α := L DMd) bs, .val (i : Int), .val m, .no, .no, .no, .val (KN.mk bs), .val (α := L Str) (begM m bs), .val (α := L Str) (goeM m bs), .no, .no, .no, .no, .no, .no, .no, .no, .no] _
        refine ds_forW [.val scr, .val k, .box, .val (α := L DMd) bs, .val (i : Int), .val m, .no, .no, .no, .val (KN.mk bs), .val (α := L Str) (begM m bs), .val (α := L Str) (goeM m bs), .no, .no, .no, .no, .no, .no, .no, .no, .no] (di_rng1 d_int (by omega) (by omega)) (Wk.refl _) (fun y hy => ⟨_, _, dg_name, ?_⟩) (fun r hr => hr.trans (by (repeat' first | exact Wk.nil | exact Wk.refl _ | apply Wk.keep | apply Wk.drop)))
        refine ds_seq (ds_par3N (dn_callb1 rfl (d_var rfl) ⟨b0, by omega⟩) (dn_callb1 rfl (d_var rfl) ⟨gg0, by omega⟩) (dn_callb1 rfl d_int ⟨by decide, by decide⟩) fun a b c ha hb hc => ?_)
        have ha : a ∈ begM m bs := ha
        have hb : b ∈ goeM m bs := hb
        have hc : 0 ≤ c ∧ c < 4 := hc
        show DS K B' _ [.val scr, .val k, .box, .val (α := L DMd) bs, .val (i : Int), .val m, .no, .no, .no, .val (KN.mk bs), .val (α := L Str) (begM m bs), .val (α := L Str) (goeM m bs), .val y, .val a, .val b, .val c, .no, .no, .no, .no, .no] _
        have lw : ∀ d : Int, 0 ≤ d → LkW m (bs.take i) ⟨a, b, d, c⟩ := fun d hd => ⟨by rw [← eb]; exact ha, by rw [← eg]; exact hb, hd, hc.1⟩
        have ml : (bs.getD i noM).l.length ≤ 100 := by rw [getD_at hm]; exact Nat.le_trans (ho.all i m hm).1.ll (by decide)
        have wl : ∀ {ρ : List Slot} {d : Int} {t1 t2 t3 t4 t5 : TE}, DE K B' t1 ρ (α := L DMd) bs → DE K B' t2 ρ (i : Int) → DE K B' t3 ρ a → DE K B' t4 ρ b → DE K B' t5 ρ c → DE K B' (tCall (spT K dpWithL) [] E0 (tCons t1 (tCons t2 (tCons (tTup (tCons t3 (tCons t4 (tCons (tC (.int d)) (tCons t5 tNil))))) tNil)))) ρ (α := L DMd) (withL bs i ⟨a, b, d, c⟩) := fun h1 h2 h3 h4 h5 =>
          d_call (da_cons h1 (da_cons h2 (da_cons (d_quad h3 h4 d_int h5) da_nil))) ⟨bs, i, _, rfl, by omega, by omega, ml, rfl⟩
        refine dq_asgI (δ := L DMd) (withL bs i ⟨a, b, 0, c⟩) (wl (d_var rfl) (d_var rfl) (d_var rfl) (d_var rfl) (d_var rfl)) ?_
        have hw := ho.more hm (lw 0 (Int.le_refl _))
        have hm' := withL_at (t := ⟨a, b, 0, c⟩) hm
        have low := more_low ho hm (lw 0 (Int.le_refl _))
        have go := more_go ho hm (lw 0 (Int.le_refl _))
        have yes : Reach (lkA (withL bs i ⟨a, b, 0, c⟩) i { m with l := m.l ++ [⟨a, b, 0, c⟩] }) b a → ¬ NoRing _ (shS ((withL bs i ⟨a, b, 0, c⟩).take i)) := hw.more_yes hm' (t := ⟨a, b, 0, c⟩) (List.mem_append_right _ (List.mem_singleton.mpr rfl)) rfl
        have zf : ∀ a' p', Zero (flatL (withL bs i ⟨a, b, 0, c⟩) 2 i).2 a' p' ↔ Zero (lkA (withL bs i ⟨a, b, 0, c⟩) i { m with l := m.l ++ [⟨a, b, 0, c⟩] }) a' p' := fun a' p' => hw.zflat (k := 1) (by omega) hm'
        obtain ⟨sz, f64, fc, fcan⟩ := hw.szl (k := 1) (by omega) hm'
        have fpre := hw.fpre 1 i _ (by omega) hm'
        have mOk := hw.msOk
        have rAt := fun no => @HW.rung_at _ _ _ _ _ hw hm' no low
        have rNo := fun hg => @HW.rung_no _ _ _ hw hg
        have pls := (hw.flat 1 i _ (by omega) hm').1
        have wlen : (withL bs i ⟨a, b, 0, c⟩).length ≤ 10 := by have := hw.l3; omega
        show DS K B' _ [.val scr, .val k, .box, .val (α := L DMd) bs, .val (i : Int), .val m, .no, .no, .no, .val (KN.mk bs), .val (α := L Str) (begM m bs), .val (α := L Str) (goeM m bs), .val y, .val a, .val b, .val c, .val (α := L DMd) (withL bs i ⟨a, b, 0, c⟩), .no, .no, .no, .no] _
        clear hw
        generalize withL bs i ⟨a, b, 0, c⟩ = ms at *
        generalize ({ m with l := m.l ++ [⟨a, b, 0, c⟩] } : DMd) = m' at *
        refine dq_asgI (δ := L Lk) (flatL ms 2 i).2 (d_snd (α := L Str) (β := L Lk) (p := flatL ms 2 i) (d_call (da_cons (d_var rfl) (da_cons (d_var rfl) da_nil)) ⟨ms, i, rfl, wlen, fpre, rfl⟩)) ?_
        refine dq_asgN (α := L Str) (P := fun zs : L Str => ∀ z, z ∈ (show List Str from zs) ↔ Reach (flatL ms 2 i).2 b z) (dn_call (da_cons (d_var rfl) (da_cons (d_var rfl) da_nil)) ⟨(flatL ms 2 i).2, b, rfl, fc.1, fun zs hz => ⟨zs, hz, rfl⟩⟩) fun (zs : List Str) hzs => ?_
        have hzs : ∀ z, z ∈ zs ↔ Reach (flatL ms 2 i).2 b z := hzs
        have hre : a ∈ zs ↔ Reach (lkA ms i m') b a := by
          rw [hzs]
          exact ⟨Reach.conv fun a' p' => (zf a' p').mp, Reach.conv fun a' p' => (zf a' p').mpr⟩
        show DS K B' _ [.val scr, .val k, .box, .val (α := L DMd) bs, .val (i : Int), .val m, .no, .no, .no, .val (KN.mk bs), .val (α := L Str) (begM m bs), .val (α := L Str) (goeM m bs), .val y, .val a, .val b, .val c, .val (α := L DMd) ms, .val (α := L Lk) (flatL ms 2 i).2, .val (α := L Str) zs, .no, .no] _
        refine dq_asgN (α := Option (U Str)) (P := fun o => (o = none ∧ a ∉ zs) ∨ ∃ cy : List Str, o = some cy ∧ a ∈ zs ∧ IsRing (flatL ms 2 i).2 cy ∧ cy.length < 64 ∧ ∀ z ∈ cy, canQ z) (dn_call (da_cons (d_var rfl) da_nil) ⟨ms, rfl, mOk, fun hg => ⟨none, .inl ⟨rfl, fun hin => yes (hre.mp hin) (hg i m' hm')⟩, rfl⟩, fun cy hr => ?_⟩) fun o hO => ?_
        · have hin : a ∈ zs := by
            by_cases hh : a ∈ zs
            · exact hh
            · exact absurd hr (rNo (go fun _ hr2 => hh (hre.mpr hr2)))
          obtain ⟨r1, r2⟩ := rAt (yes (hre.mp hin)) hr
          refine ⟨some cy, .inr ⟨cy, rfl, hin, r1.conv fun a' p' hz => (zf a' p').mpr (zero_srt.mp hz), ?_, fun z hz => fcan z ((pls z).mpr (r2 z hz))⟩, rfl⟩
          have f64 : (flatL ms 2 i).1.length < 64 := f64
          have := nd_len (w := cy) (l := (flatL ms 2 i).1) r1.nd fun z hz => (pls z).mpr (r2 z hz)
          omega
        show DS K B' _ [.val scr, .val k, .box, .val (α := L DMd) bs, .val (i : Int), .val m, .no, .no, .no, .val (KN.mk bs), .val (α := L Str) (begM m bs), .val (α := L Str) (goeM m bs), .val y, .val a, .val b, .val c, .val (α := L DMd) ms, .val (α := L Lk) (flatL ms 2 i).2, .val (α := L Str) zs, .val o, .no] _
        have h1 := ho.more hm (lw 1 (by decide))
        have g1 : AllGo (withL bs i ⟨a, b, 1, c⟩) := more_go ho hm (lw 1 (by decide)) fun hz => absurd (show (1 : Int) = 0 from hz) (by decide)
        have hb0 : b ∈ zs := (hzs b).mpr .here
        have fst : DE K B' (tOrV (tOp (rIn K false) (tVar 13) (tVar 18)) (tOp rEq (tVar 13) (tVar 14))) [.val scr, .val k, .box, .val (α := L DMd) bs, .val (i : Int), .val m, .no, .no, .no, .val (KN.mk bs), .val (α := L Str) (begM m bs), .val (α := L Str) (goeM m bs), .val y, .val a, .val b, .val c, .val (α := L DMd) ms, .val (α := L Lk) (flatL ms 2 i).2, .val (α := L Str) zs, .val o, .no] (decide (a ∈ zs)) := by
          refine DE.is (d_orV (c := decide (a = b)) (d_inS (d_var rfl) (d_Lq (d_var rfl))) fun _ => d_eq (d_var rfl) (d_var rfl) inferInstance inferInstance) ?_
          by_cases hh : a ∈ zs
          · rw [decide_eq_true hh]; rfl
          · have : a ≠ b := fun e => hh (by rw [e]; exact hb0)
            rw [decide_eq_false hh, decide_eq_false this]; rfl
        rcases hO with ⟨rfl, hn⟩ | ⟨cy, rfl, hin, ir, c64, cc⟩
        · refine dq_when (c := false) (DT.is (dt_test (d_ne (d_notN (α := U Str) (o := none) (d_var rfl) inferInstance) fst inferInstance inferInstance)) (by rw [decide_eq_false hn]; rfl)) (fun h => nomatch h) fun _ => ?_
          refine dq_when (c := false) (DT.is (dt_andF (dt_test ((d_notN (α := U Str) (o := none) (d_var rfl) inferInstance).is rfl))) rfl) (fun h => nomatch h) fun _ => ?_
          exact ds_if (c := false) (DT.is (dt_test (d_notN (α := U Str) (o := none) (d_heard0 (wl (d_var rfl) (d_var rfl) (d_var rfl) (d_var rfl) (d_var rfl)) h1 g1) inferInstance)) rfl) (fun h => nomatch h) fun _ => ds_next (by (repeat' first | exact Wk.nil | exact Wk.refl _ | apply Wk.keep | apply Wk.drop))
        · refine dq_when (c := false) (DT.is (dt_test (d_ne (d_notN (α := U Str) (o := some cy) (d_var rfl) inferInstance) fst inferInstance inferInstance)) (by rw [decide_eq_true hin]; rfl)) (fun h => nomatch h) fun _ => ?_
          refine dq_when (c := false) (DT.is (dt_and (c := false) (dt_test (d_notN (α := U Str) (o := some cy) (d_var rfl) inferInstance)) fun _ => (dt_not (dt_B (d_call (a := true) (da_cons (α := L Lk) (a := (flatL ms 2 i).2) (d_var rfl) (da_cons (α := U Str) (a := cy) (d_get rfl) da_nil)) ⟨(flatL ms 2 i).2, cy, rfl, ir, fc, c64, cc, rfl⟩))).is rfl) rfl) (fun h => nomatch h) fun _ => ?_
          exact ds_if (c := false) (DT.is (dt_test (d_notN (α := U Str) (o := none) (d_heard0 (wl (d_var rfl) (d_var rfl) (d_var rfl) (d_var rfl) (d_var rfl)) h1 g1) inferInstance)) rfl) (fun h => nomatch h) fun _ => ds_next (by (repeat' first | exact Wk.nil | exact Wk.refl _ | apply Wk.keep | apply Wk.drop))
      · obtain ⟨m0, hm0⟩ : ∃ m0, bs[0]? = some m0 := ⟨_, List.getElem?_eq_getElem (by omega)⟩
        obtain ⟨m1, hm1⟩ : ∃ m1, bs[1]? = some m1 := ⟨_, List.getElem?_eq_getElem (by omega)⟩
        obtain ⟨st, hst⟩ : ∃ st, m1.s[0]? = some st := ⟨_, List.getElem?_eq_getElem (ho.mok hm1).s1⟩
        obtain ⟨el, hel⟩ : ∃ el, m0.s[0]? = some el := ⟨_, List.getElem?_eq_getElem (ho.mok hm0).s1⟩
        have sm := List.mem_of_getElem? hst
        have em := List.mem_of_getElem? hel
        have sa : st ∈ ALLN := (h0.own hm1).1 st (List.mem_append_right _ sm)
        have ea : el ∈ ALLN := (h0.own hm0).1 el (List.mem_append_right _ em)
        have ll : ∀ (i : Nat) (m : DMd), bs[i]? = some m → m.l.length ≤ 8 := fun i m h => (ho.all i m h).1.ll
        -- the module that calls
        have h1 := ho.more hm1 (st_lk sm)
        have e1 := withL_at (t := ⟨st, st, 0, 0⟩) hm1
        have low1 := more_low ho hm1 (st_lk sm)
        have no1 := h1.more_yes e1 (t := ⟨st, st, 0, 0⟩) (List.mem_append_right _ (List.mem_singleton.mpr rfl)) rfl .here
        have ng1 : ¬ AllGo (withL bs 1 ⟨st, st, 0, 0⟩) := fun hg => no1 (hg 1 _ e1)
        have r1 : ∀ cy, Rung (withL bs 1 ⟨st, st, 0, 0⟩) cy → cy = [st] := fun cy hr => by
          obtain ⟨q1, q2⟩ := h1.rung_at e1 no1 low1 hr
          exact h1.ring_self hm1 e1 low1 rfl (ho.rise hm1) sa rfl rfl q1 q2
        -- the elder one, too
        have z0 : (withL bs 1 ⟨st, st, 0, 0⟩)[0]? = some m0 := by rw [withL_off (by omega) (by decide)]; exact hm0
        have h2 : HW 2 bs (withL (withL bs 1 ⟨st, st, 0, 0⟩) 0 ⟨el, el, 0, 0⟩) := h1.put hm0 (by rw [getD_at z0]; have := ll 0 m0 hm0; omega) (st_lk em)
        have e2 := withL_at (t := ⟨el, el, 0, 0⟩) z0
        have low2 : ∀ j u, j < 0 → (withL (withL bs 1 ⟨st, st, 0, 0⟩) 0 ⟨el, el, 0, 0⟩)[j]? = some u → NoRing u (shS ((withL (withL bs 1 ⟨st, st, 0, 0⟩) 0 ⟨el, el, 0, 0⟩).take j)) := fun j u hj => absurd hj (Nat.not_lt_zero _)
        have no2 := h2.more_yes e2 (t := ⟨el, el, 0, 0⟩) (List.mem_append_right _ (List.mem_singleton.mpr rfl)) rfl .here
        have ng2 : ¬ AllGo (withL (withL bs 1 ⟨st, st, 0, 0⟩) 0 ⟨el, el, 0, 0⟩) := fun hg => no2 (hg 0 _ e2)
        have r2 : ∀ cy, Rung (withL (withL bs 1 ⟨st, st, 0, 0⟩) 0 ⟨el, el, 0, 0⟩) cy → cy = [el] := fun cy hr => by
          obtain ⟨q1, q2⟩ := h2.rung_at e2 no2 low2 hr
          exact h2.ring_self hm0 e2 low2 rfl (ho.rise hm0) ea rfl rfl q1 q2
        -- put in
        have ep : putM bs { m1 with l := m1.l ++ [⟨st, st, 0, 0⟩] } = withL bs 1 ⟨st, st, 0, 0⟩ := by
          have nd := ho.ks.1.nd
          refine List.ext_getElem? fun j => ?_
          unfold putM
          rw [List.getElem?_map]
          by_cases c : j = 1
          · subst c
            rw [e1, hm1]
            show some (if m1.n = m1.n then _ else m1) = _
            rw [if_pos rfl]
          · rw [withL_off (by omega) c]
            cases hj : bs[j]? with
            | none => rfl
            | some u =>
              show some (if u.n = m1.n then _ else u) = _
              rw [if_neg]
              intro en
              have q1 : (bs.map (·.n))[j]? = some u.n := by rw [List.getElem?_map, hj]; rfl
              have q2 : (bs.map (·.n))[1]? = some u.n := by rw [List.getElem?_map, hm1, en]; rfl
              exact c ((List.getElem?_inj (List.getElem?_eq_some_iff.mp q1).1 nd).mp (by rw [q1, q2]))
        show DS K B' _ [.val scr, .val k, .box, .val (α := L DMd) bs, .no, .no, .no, .no, .no, .no, .no, .no, .no, .no, .no, .no, .no, .no, .no, .no, .no] _
        refine dq_asgI (δ := Str) st (d_ix (d_Lq (d_va (α := L Str) (d_getD (d := m1.dc) (a := strsA m1.s) (d_dc (d_ix (d_Lq (d_var rfl)) d_int (atI_nat (j := 1) hm1))) d_str rfl))) d_int (atI_nat (j := 0) hst)) ?_
        refine dq_asgI (δ := L DMd) (withL bs 1 ⟨st, st, 0, 0⟩) (d_call (da_cons (d_var rfl) (da_cons (a := ((1 : Nat) : Int)) d_int (da_cons (a := (⟨st, st, 0, 0⟩ : Lk)) (d_quad (d_var rfl) (d_var rfl) d_int d_int) da_nil))) ⟨bs, 1, _, rfl, by omega, by omega, by rw [getD_at hm1]; have := ll 1 m1 hm1; omega, rfl⟩) ?_
        show DS K B' _ [.val scr, .val k, .box, .val (α := L DMd) bs, .no, .no, .val st, .val (α := L DMd) (withL bs 1 ⟨st, st, 0, 0⟩), .no, .no, .no, .no, .no, .no, .no, .no, .no, .no, .no, .no, .no] _
        refine dq_when (c := false) (DT.is (dt_test (d_neRing sa (d_heard1 (d_var rfl) h1 ng1 r1) (d_var rfl))) rfl) (fun h => nomatch h) fun _ => ?_
        refine dq_asgI (δ := Str) el (d_ix (d_Lq (d_va (α := L Str) (d_getD (d := m0.dc) (a := strsA m0.s) (d_dc (d_ix (d_Lq (d_var rfl)) d_int (atI_nat (j := 0) hm0))) d_str rfl))) d_int (atI_nat (j := 0) hel)) ?_
        show DS K B' _ [.val scr, .val k, .box, .val (α := L DMd) bs, .no, .no, .val st, .val (α := L DMd) (withL bs 1 ⟨st, st, 0, 0⟩), .val el, .no, .no, .no, .no, .no, .no, .no, .no, .no, .no, .no, .no] _
        refine dq_when (c := false) (DT.is (dt_test (d_neRing ea (d_heard1 (d_call (da_cons (d_var rfl) (da_cons (a := ((0 : Nat) : Int)) d_int (da_cons (a := (⟨el, el, 0, 0⟩ : Lk)) (d_quad (d_var rfl) (d_var rfl) d_int d_int) da_nil))) ⟨withL bs 1 ⟨st, st, 0, 0⟩, 0, _, rfl, by have := h1.len; omega, by have := h1.l3; omega, by rw [getD_at z0]; have := ll 0 m0 hm0; omega, rfl⟩) h2 ng2 r2) (d_var rfl))) rfl) (fun h => nomatch h) fun _ => ?_
        have ne1 : m1.n ∈ bs.map (·.n) := List.mem_map.mpr ⟨m1, List.mem_of_getElem? hm1, rfl⟩
        have mdo : MdOk { m1 with l := m1.l ++ [⟨st, st, 0, 0⟩] } := h1.md hm1 e1
        refine ds_if (c := false) (DT.is (dt_test (d_neRing sa (DN.e (dn_call (α := Option (U Str)) (P := fun o => o = some [st]) (da_cons (a := HOb.mk bs) (DN.e (dn_callX (da_cons (α := L DMd) (a := bs) (d_var rfl) da_nil) ⟨bs, rfl, h0.msOk, fun _ => ⟨_, rfl, rfl⟩, fun cy hr => absurd hr (h0.rung_no g0)⟩)) (da_cons (a := MOb.mk { m1 with l := m1.l ++ [⟨st, st, 0, 0⟩] }) (d_call1 (d_ix (d_Lq (d_var rfl)) d_int (atI_nat (j := 1) e1)) mdo) da_nil)) ⟨bs, _, rfl, ne1, by omega, by rw [ep]; exact h1.knOk, by rw [ep]; exact h1.shOk, (by rw [ep]; exact fun hg => absurd hg ng1), (by rw [ep]; exact fun cy hr => ⟨some cy, by rw [r1 cy hr]; exact rfl, rfl⟩)⟩)) (d_var rfl))) rfl) (fun h => nomatch h) fun _ => ds_next (by (repeat' first | exact Wk.nil | exact Wk.refl _ | apply Wk.keep | apply Wk.drop))
    · exact ds_ret d_bl q
end
end WW

set_option Elab.async false
set_option linter.all false
set_option maxRecDepth 100000
set_option maxHeartbeats 0
namespace WW
open PySem PySem.Spec PyProof.Rows L2
def d_l_take : He5.DefA := ⟨fun K => He.fAd K ("_law_take", none), "_law_take", "_law_take", defArgs s_l_take, defBody s_l_take, defScope s_l_take, [], []⟩
def d_l_pick : He5.DefA := ⟨fun K => He.fAd K ("_law_pick", none), "_law_pick", "_law_pick", defArgs s_l_pick, defBody s_l_pick, defScope s_l_pick, [], []⟩
def d_l_box : He5.DefA := ⟨fun K => He.fAd K ("_law_box", none), "_law_box", "_law_box", defArgs s_l_box, defBody s_l_box, defScope s_l_box, [], []⟩
def d_l_mixed : He5.DefA := ⟨fun K => He.fAd K ("_law_mixed", none), "_law_mixed", "_law_mixed", defArgs s_l_mixed, defBody s_l_mixed, defScope s_l_mixed, [], []⟩
def d_l_names : He5.DefA := ⟨fun K => He.fAd K ("_law_names", none), "_law_names", "_law_names", defArgs s_l_names, defBody s_l_names, defScope s_l_names, [], []⟩
def d_l_begins : He5.DefA := ⟨fun K => He.fAd K ("_law_begins", none), "_law_begins", "_law_begins", defArgs s_l_begins, defBody s_l_begins, defScope s_l_begins, [], []⟩
def d_l_goes : He5.DefA := ⟨fun K => He.fAd K ("_law_goes", none), "_law_goes", "_law_goes", defArgs s_l_goes, defBody s_l_goes, defScope s_l_goes, [], []⟩
def d_l_links : He5.DefA := ⟨fun K => He.fAd K ("_law_links", none), "_law_links", "_law_links", defArgs s_l_links, defBody s_l_links, defScope s_l_links, [], []⟩
def d_l_module : He5.DefA := ⟨fun K => He.fAd K ("_law_module", none), "_law_module", "_law_module", defArgs s_l_module, defBody s_l_module, defScope s_l_module, [], []⟩
def d_l_house : He5.DefA := ⟨fun K => He.fAd K ("_law_house", none), "_law_house", "_law_house", defArgs s_l_house, defBody s_l_house, defScope s_l_house, [], []⟩
def d_is_integer : He5.DefA := ⟨fun K => He.fAd K ("is_integer", none), "is_integer", "is_integer", defArgs s_is_integer, defBody s_is_integer, defScope s_is_integer, [], []⟩
def d_is_number : He5.DefA := ⟨fun K => He.fAd K ("is_number", none), "is_number", "is_number", defArgs s_is_number, defBody s_is_number, defScope s_is_number, [], []⟩
def d_is_sequence : He5.DefA := ⟨fun K => He.fAd K ("is_sequence", none), "is_sequence", "is_sequence", defArgs s_is_sequence, defBody s_is_sequence, defScope s_is_sequence, [], []⟩
def d_is_name : He5.DefA := ⟨fun K => He.fAd K ("is_name", none), "is_name", "is_name", defArgs s_is_name, defBody s_is_name, defScope s_is_name, [], []⟩
def d_is_end : He5.DefA := ⟨fun K => He.fAd K ("is_end", none), "is_end", "is_end", defArgs s_is_end, defBody s_is_end, defScope s_is_end, [], []⟩
def d_are_fresh : He5.DefA := ⟨fun K => He.fAd K ("are_fresh", none), "are_fresh", "are_fresh", defArgs s_are_fresh, defBody s_are_fresh, defScope s_are_fresh, [], []⟩
def d_is_pair : He5.DefA := ⟨fun K => He.fAd K ("is_pair", none), "is_pair", "is_pair", defArgs s_is_pair, defBody s_is_pair, defScope s_is_pair, [], []⟩
def d_labels_in : He5.DefA := ⟨fun K => He.fAd K ("labels_in", none), "labels_in", "labels_in", defArgs s_labels_in, defBody s_labels_in, defScope s_labels_in, [], []⟩
def d_is_there : He5.DefA := ⟨fun K => He.fAd K ("is_there", none), "is_there", "is_there", defArgs s_is_there, defBody s_is_there, defScope s_is_there, [], []⟩
def d_is_link : He5.DefA := ⟨fun K => He.fAd K ("is_link", none), "is_link", "is_link", defArgs s_is_link, defBody s_is_link, defScope s_is_link, [], []⟩
def d_Module___init__ : He5.DefA := ⟨fun K => He.fAd K ("Module", some "__init__"), "__init__", "Module.__init__", defArgs s_Module___init__, defBody s_Module___init__, defScope s_Module___init__, [.adr (He.dflAt ("Module", some "__init__") 0)], []⟩
def d_led_end : He5.DefA := ⟨fun K => He.fAd K ("led_end", none), "led_end", "led_end", defArgs s_led_end, defBody s_led_end, defScope s_led_end, [], []⟩
def d_shape_of : He5.DefA := ⟨fun K => He.fAd K ("shape_of", none), "shape_of", "shape_of", defArgs s_shape_of, defBody s_shape_of, defScope s_shape_of, [], []⟩
def d_loose_places : He5.DefA := ⟨fun K => He.fAd K ("loose_places", none), "loose_places", "loose_places", defArgs s_loose_places, defBody s_loose_places, defScope s_loose_places, [], []⟩
def d_turned_about : He5.DefA := ⟨fun K => He.fAd K ("turned_about", none), "turned_about", "turned_about", defArgs s_turned_about, defBody s_turned_about, defScope s_turned_about, [], []⟩
def d_ring_of : He5.DefA := ⟨fun K => He.fAd K ("ring_of", none), "ring_of", "ring_of", defArgs s_ring_of, defBody s_ring_of, defScope s_ring_of, [], []⟩
def d_known_shapes : He5.DefA := ⟨fun K => He.fAd K ("known_shapes", none), "known_shapes", "known_shapes", defArgs s_known_shapes, defBody s_known_shapes, defScope s_known_shapes, [], []⟩
def d_ends_are_there : He5.DefA := ⟨fun K => He.fAd K ("ends_are_there", none), "ends_are_there", "ends_are_there", defArgs s_ends_are_there, defBody s_ends_are_there, defScope s_ends_are_there, [], []⟩
def d_known_modules : He5.DefA := ⟨fun K => He.fAd K ("known_modules", none), "known_modules", "known_modules", defArgs s_known_modules, defBody s_known_modules, defScope s_known_modules, [], []⟩
def d_House___init__ : He5.DefA := ⟨fun K => He.fAd K ("House", some "__init__"), "__init__", "House.__init__", defArgs s_House___init__, defBody s_House___init__, defScope s_House___init__, [], []⟩
def d_House_with_module : He5.DefA := ⟨fun K => He.fAd K ("House", some "with_module"), "with_module", "House.with_module", defArgs s_House_with_module, defBody s_House_with_module, defScope s_House_with_module, [], []⟩
def d_l_made : He5.DefA := ⟨fun K => He.fAd K ("_law_made", none), "_law_made", "_law_made", defArgs s_l_made, defBody s_l_made, defScope s_l_made, [], []⟩
def d_l_built : He5.DefA := ⟨fun K => He.fAd K ("_law_built", none), "_law_built", "_law_built", defArgs s_l_built, defBody s_l_built, defScope s_l_built, [], []⟩
def d_l_heard : He5.DefA := ⟨fun K => He.fAd K ("_law_heard", none), "_law_heard", "_law_heard", defArgs s_l_heard, defBody s_l_heard, defScope s_l_heard, [], []⟩
def d_l_put : He5.DefA := ⟨fun K => He.fAd K ("_law_put", none), "_law_put", "_law_put", defArgs s_l_put, defBody s_l_put, defScope s_l_put, [], []⟩
def d_l_with : He5.DefA := ⟨fun K => He.fAd K ("_law_with", none), "_law_with", "_law_with", defArgs s_l_with, defBody s_l_with, defScope s_l_with, [], []⟩
def d_l_flat : He5.DefA := ⟨fun K => He.fAd K ("_law_flat", none), "_law_flat", "_law_flat", defArgs s_l_flat, defBody s_l_flat, defScope s_l_flat, [], []⟩
def d_l_is_ring : He5.DefA := ⟨fun K => He.fAd K ("_law_is_ring", none), "_law_is_ring", "_law_is_ring", defArgs s_l_is_ring, defBody s_l_is_ring, defScope s_l_is_ring, [], []⟩
def d_l_reached : He5.DefA := ⟨fun K => He.fAd K ("_law_reached", none), "_law_reached", "_law_reached", defArgs s_l_reached, defBody s_l_reached, defScope s_l_reached, [], []⟩
def d_l_is_written_right : He5.DefA := ⟨fun K => He.fAd K ("_law_is_written_right", none), "_law_is_written_right", "_law_is_written_right", defArgs s_l_is_written_right, defBody s_l_is_written_right, defScope s_l_is_written_right, [], []⟩
def d_law : He5.DefA := ⟨fun K => He.fAd K ("law", none), "law", "law", defArgs s_law, defBody s_law, defScope s_law, [], []⟩
def steps : Nat := 9000
def fn : List He5.DefA := ([d_l_take, d_l_pick, d_l_box, d_l_mixed, d_l_names, d_l_begins, d_l_goes, d_l_links, d_l_module, d_l_house, d_is_integer, d_is_number] : List He5.DefA) ++ ([d_is_sequence, d_is_name, d_is_end, d_are_fresh, d_is_pair, d_labels_in, d_is_there, d_is_link, d_Module___init__, d_led_end, d_shape_of, d_loose_places] : List He5.DefA) ++ ([d_turned_about, d_ring_of, d_known_shapes, d_ends_are_there, d_known_modules, d_House___init__, d_House_with_module, d_l_made, d_l_built, d_l_heard, d_l_put, d_l_with] : List He5.DefA) ++ ([d_l_flat, d_l_is_ring, d_l_reached, d_l_is_written_right, d_law] : List He5.DefA)
def fa : List He.Fa := ([.glo "_law_take", .glo "_law_pick", .glo "_law_box", .glo "_law_mixed", .glo "_law_names", .glo "_law_begins", .glo "_law_goes", .glo "_law_links", .glo "_law_module", .glo "_law_house", .glo "is_integer", .glo "is_number"] : List He.Fa) ++ ([.glo "is_sequence", .glo "is_name", .glo "is_end", .glo "are_fresh", .glo "is_pair", .glo "labels_in", .glo "is_there", .glo "is_link", .glo "led_end", .glo "shape_of", .glo "loose_places", .glo "turned_about"] : List He.Fa) ++ ([.glo "ring_of", .glo "known_shapes", .glo "ends_are_there", .glo "known_modules", .meth "House" "with_module", .glo "_law_made", .glo "_law_built", .glo "_law_heard", .glo "_law_put", .glo "_law_with", .glo "_law_flat", .glo "_law_is_ring"] : List He.Fa) ++ ([.glo "_law_reached", .glo "_law_is_written_right", .glo "law", .free "int", .free "len", .free "isinstance", .free "bool", .free "list", .free "tuple", .free "any", .free "all", .free "range"] : List He.Fa) ++ ([.free "abs", .free "super", .free "str", .free "max", .free "min", .free "set", .free "dict", .free "enumerate", .free "sorted", .cls "Module", .noat "Module" "name", .noat "Module" "inlets"] : List He.Fa) ++ ([.noat "Module" "outlets", .noat "Module" "stations", .noat "Module" "links", .noat "Module" "calls", .mkr "Module", .glo "Module", .cls "House", .noat "House" "known", .noat "House" "modules", .noat "House" "shapes", .mkr "House", .glo "House"] : List He.Fa) ++ ([.glo "InvalidModule", .glo "InvalidHouse", .glo "NeverGoes", .glo "WaitError", .str "SMALL" "abcdefghijklmnopqrstuvwxyz"] : List He.Fa)
def loose : List Str := (["WaitError", "InvalidModule", "InvalidHouse", "InvalidText", "NeverGoes", "NoPlace", "led_end", "shape_of", "loose_places", "turned_about", "ring_of", "SMALL"] : List Str) ++ (["DIGITS", "is_integer", "is_number", "is_sequence", "is_name", "number_in", "MOST_DIGITS", "ORDER", "is_end", "names_line", "module_lines", "link_in"] : List Str) ++ (["is_line", "may_follow", "Told", "told_modules", "read_modules", "read_module", "are_fresh", "is_pair", "labels_in", "is_there", "is_link", "Module"] : List Str) ++ (["ends_are_there", "known_modules", "known_shapes", "House", "_law_box", "_law_take", "_law_pick", "_law_mixed", "_law_names", "_law_module", "_law_begins", "_law_goes"] : List Str) ++ (["_law_links", "_law_house", "_law_made", "_law_built", "_law_flat", "_law_heard", "_law_put", "_law_is_ring", "_law_with", "_law_reached", "_law_is_written_right"] : List Str)
abbrev st_InvalidModule : Stmt := inClass (top 2) 0
abbrev st_InvalidHouse : Stmt := inClass (top 3) 0
abbrev st_NeverGoes : Stmt := inClass (top 5) 0
def cs : List Str := ["InvalidModule", "InvalidHouse", "NeverGoes"]
def vsS : List SupV := [some ("InvalidModule.__init__", defArgs st_InvalidModule, .stmts (defBody st_InvalidModule), defScope st_InvalidModule, mainGlobals, builtinsNs), some ("InvalidHouse.__init__", defArgs st_InvalidHouse, .stmts (defBody st_InvalidHouse), defScope st_InvalidHouse, mainGlobals, builtinsNs), some ("NeverGoes.__init__", defArgs st_NeverGoes, .stmts (defBody st_NeverGoes), defScope st_NeverGoes, mainGlobals, builtinsNs)]
abbrev R : PySem.W.OpenRow := PySem.W.OpenLaw.row PySem.Challenge.rw_waitworks_k14_rings_that_never_go
def fileS : Str := R.prog.main.file
def exK (K : PySem.W.Frag) : Bool := supB K fileS (He.ga K "InvalidModule") && (excCB K (He.ga K "InvalidModule") && (He.eqO (PySem.W.findIn K (.ref (He.ga K "InvalidModule")) "word") (some none) && (supB K fileS (He.ga K "InvalidHouse") && (excCB K (He.ga K "InvalidHouse") && (He.eqO (PySem.W.findIn K (.ref (He.ga K "InvalidHouse")) "at") (some none) && (supB K fileS (He.ga K "NeverGoes") && (excCB K (He.ga K "NeverGoes") && (He.eqO (PySem.W.findIn K (.ref (He.ga K "NeverGoes")) "ring") (some none) && (tyB K (He.ga K "Module") && (decide (PySem.W.kitOne K (.ref (He.ga K "NeverGoes")) (.ref (He.ga K "WaitError")) = some true) && (decide (PySem.W.kitOne K (.ref (He.ga K "NeverGoes")) (.ref (He.ga K "InvalidHouse")) = some false) && (decide (PySem.W.exmOne K (.ref (He.ga K "NeverGoes")) (.ref (He.ga K "NeverGoes")) = some true)))))))))))))
abbrev hk : PySem.W.Hook := hookS 10 fa fn exK cs vsS
def ob (s : PySem.W.SharedT) : (He.AlD × Bool) × List SupV := obsS 10 fa fn exK cs (HandSHeadRun.getT s)
theorem ob_eq (s : PySem.W.SharedT) : ob s = hk.obs s.abs := obsS_eq (HandSHeadRun.getT_eq s)
theorem run (w : World) : HandSHeadRun.RunEq R (PySem.W.view R.prog [65]) hk ob steps loose w := by
  intro os
  kernel_rfl
/-- every parameter is written, defaults stand behind -/
theorem binds_Module___init__ {K : PySem.W.Frag} {f : Addr} {fd : FuncData} {v0 : V} (F : FunD K "__init__" "Module.__init__" (defArgs s_Module___init__) (defBody s_Module___init__) (defScope s_Module___init__) [v0] [] f fd) : Binds K fd ["self", "name", "inlets", "outlets", "stations", "links", "calls"] [] := by
  obtain ⟨ds, v, b⟩ := F.binds1 (ps := ["self", "name", "inlets", "outlets", "stations", "links", "calls"]) 7 1 (List.cons_ne_nil _ _) rfl fun T kV doc pm an cdv ct us its hu hi => by
    match us, hu, its, hi with
    | [u0, u1, u2, u3, u4, u5, u6], _, [i0], _ => exact ⟨_, rfl, rfl⟩
  cases v
  exact b
theorem facts {P : Program} {w : World} {K : PySem.W.Frag} {h : Heap} {mg : Str → Option Value} {f : Addr} (X : K.In h) (G : h.Ns mainGlobals mg) (hfa : mg ("law" : Str) = some (.ref f)) (c : SaysS fa fn exK cs vsS K) (hP1 : (P.main.file : Str) = fileS) (hP2 : (P.main.scope.names.lookup ("super" : Str)).isSome = false) :
    ∃ fd : FuncData, (∀ (s : Shared) (v : Value), BindsTo s fd ⟨[v], []⟩ [("_law_script", v)]) ∧ ∀ base : Heap, K.In base → base.Ns mainGlobals mg → FnOk P w K mg base CX0 11 f fd ["_law_script"] (spLaw K) := by
  obtain ⟨⟨c, cx⟩, cv⟩ := c
  obtain ⟨x_sup_InvalidModule, cx⟩ := He.ba cx
  obtain ⟨x_exc_InvalidModule, cx⟩ := He.ba cx
  obtain ⟨x_nf_InvalidModule_word, cx⟩ := He.ba cx
  obtain ⟨x_sup_InvalidHouse, cx⟩ := He.ba cx
  obtain ⟨x_exc_InvalidHouse, cx⟩ := He.ba cx
  obtain ⟨x_nf_InvalidHouse_at, cx⟩ := He.ba cx
  obtain ⟨x_sup_NeverGoes, cx⟩ := He.ba cx
  obtain ⟨x_exc_NeverGoes, cx⟩ := He.ba cx
  obtain ⟨x_nf_NeverGoes_ring, cx⟩ := He.ba cx
  obtain ⟨x_ty_Module, cx⟩ := He.ba cx
  obtain ⟨x_k1, cx⟩ := He.ba cx
  obtain ⟨x_k2, cx⟩ := He.ba cx
  have x_k3 := cx
  have m_int := He.free_ok X G (c.fact 39 (f := .free "int") rfl)
  have m_len := He.free_ok X G (c.fact 40 (f := .free "len") rfl)
  have m_isinstance := He.free_ok X G (c.fact 41 (f := .free "isinstance") rfl)
  have m_bool := He.free_ok X G (c.fact 42 (f := .free "bool") rfl)
  have m_list := He.free_ok X G (c.fact 43 (f := .free "list") rfl)
  have m_tuple := He.free_ok X G (c.fact 44 (f := .free "tuple") rfl)
  have m_any := He.free_ok X G (c.fact 45 (f := .free "any") rfl)
  have m_all := He.free_ok X G (c.fact 46 (f := .free "all") rfl)
  have m_range := He.free_ok X G (c.fact 47 (f := .free "range") rfl)
  have m_abs := He.free_ok X G (c.fact 48 (f := .free "abs") rfl)
  have m_super := He.free_ok X G (c.fact 49 (f := .free "super") rfl)
  have m_str := He.free_ok X G (c.fact 50 (f := .free "str") rfl)
  have m_max := He.free_ok X G (c.fact 51 (f := .free "max") rfl)
  have m_min := He.free_ok X G (c.fact 52 (f := .free "min") rfl)
  have m_set := He.free_ok X G (c.fact 53 (f := .free "set") rfl)
  have m_dict := He.free_ok X G (c.fact 54 (f := .free "dict") rfl)
  have m_enumerate := He.free_ok X G (c.fact 55 (f := .free "enumerate") rfl)
  have m_sorted := He.free_ok X G (c.fact 56 (f := .free "sorted") rfl)
  have m_Module := He.glo_ok X G (c.fact 65 (f := .glo "Module") rfl)
  have m_House := He.glo_ok X G (c.fact 71 (f := .glo "House") rfl)
  have m_InvalidModule := He.glo_ok X G (c.fact 72 (f := .glo "InvalidModule") rfl)
  have m_InvalidHouse := He.glo_ok X G (c.fact 73 (f := .glo "InvalidHouse") rfl)
  have m_NeverGoes := He.glo_ok X G (c.fact 74 (f := .glo "NeverGoes") rfl)
  have m_WaitError := He.glo_ok X G (c.fact 75 (f := .glo "WaitError") rfl)
  have v_SMALL : ∃ u, mg "SMALL" = some u ∧ RelV (.str "abcdefghijklmnopqrstuvwxyz") u := by obtain ⟨t, e⟩ := He.str_ok X G (c.fact 76 (f := .str "SMALL" "abcdefghijklmnopqrstuvwxyz") rfl); exact ⟨_, e, t, rfl⟩
  have c_Module := He.cls_ok (c.fact 57 (f := .cls "Module") rfl)
  have na_Module_name := He.noat_ok (c.fact 58 (f := .noat "Module" "name") rfl)
  have na_Module_inlets := He.noat_ok (c.fact 59 (f := .noat "Module" "inlets") rfl)
  have na_Module_outlets := He.noat_ok (c.fact 60 (f := .noat "Module" "outlets") rfl)
  have na_Module_stations := He.noat_ok (c.fact 61 (f := .noat "Module" "stations") rfl)
  have na_Module_links := He.noat_ok (c.fact 62 (f := .noat "Module" "links") rfl)
  have na_Module_calls := He.noat_ok (c.fact 63 (f := .noat "Module" "calls") rfl)
  have v_Module : ∃ u, mg "Module" = some u ∧ RelV (.ref (He.ga K "Module")) u := ⟨_, m_Module, rfl⟩
  have c_House := He.cls_ok (c.fact 66 (f := .cls "House") rfl)
  have na_House_known := He.noat_ok (c.fact 67 (f := .noat "House" "known") rfl)
  have na_House_modules := He.noat_ok (c.fact 68 (f := .noat "House" "modules") rfl)
  have na_House_shapes := He.noat_ok (c.fact 69 (f := .noat "House" "shapes") rfl)
  have v_House : ∃ u, mg "House" = some u ∧ RelV (.ref (He.ga K "House")) u := ⟨_, m_House, rfl⟩
  have cv_InvalidModule : supO K (He.ga K "InvalidModule") = some (("InvalidModule.__init__" : Str), defArgs st_InvalidModule, .stmts (defBody st_InvalidModule), defScope st_InvalidModule, mainGlobals, builtinsNs) := (List.cons.inj cv).1
  have sc_InvalidModule := supB_ok (P := P) (by rw [hP1]; exact x_sup_InvalidModule) cv_InvalidModule hP2
  have xc_InvalidModule := excCB_ok x_exc_InvalidModule
  have nf_InvalidModule_word := He.eqO_ok x_nf_InvalidModule_word
  have S_InvalidModule : SupAt P K mg "InvalidModule" "word" := ⟨⟨_, _, _, _, _, _, _, _, _, _, _, _, _, _, _, _, _, _, sc_InvalidModule, ⟨rfl, rfl, rfl, rfl, rfl, rfl, rfl, by decide +kernel, ⟨_, rfl, rfl⟩, by decide, by decide⟩, fun _ => rfl, fun _ _ _ _ _ _ _ _ us hl => match us, hl with | [_, _], _ => rfl⟩, nf_InvalidModule_word, m_InvalidModule, m_super⟩
  have cv_InvalidHouse : supO K (He.ga K "InvalidHouse") = some (("InvalidHouse.__init__" : Str), defArgs st_InvalidHouse, .stmts (defBody st_InvalidHouse), defScope st_InvalidHouse, mainGlobals, builtinsNs) := (List.cons.inj (List.cons.inj cv).2).1
  have sc_InvalidHouse := supB_ok (P := P) (by rw [hP1]; exact x_sup_InvalidHouse) cv_InvalidHouse hP2
  have xc_InvalidHouse := excCB_ok x_exc_InvalidHouse
  have nf_InvalidHouse_at := He.eqO_ok x_nf_InvalidHouse_at
  have S_InvalidHouse : SupAt P K mg "InvalidHouse" "at" := ⟨⟨_, _, _, _, _, _, _, _, _, _, _, _, _, _, _, _, _, _, sc_InvalidHouse, ⟨rfl, rfl, rfl, rfl, rfl, rfl, rfl, by decide +kernel, ⟨_, rfl, rfl⟩, by decide, by decide⟩, fun _ => rfl, fun _ _ _ _ _ _ _ _ us hl => match us, hl with | [_, _], _ => rfl⟩, nf_InvalidHouse_at, m_InvalidHouse, m_super⟩
  have cv_NeverGoes : supO K (He.ga K "NeverGoes") = some (("NeverGoes.__init__" : Str), defArgs st_NeverGoes, .stmts (defBody st_NeverGoes), defScope st_NeverGoes, mainGlobals, builtinsNs) := (List.cons.inj (List.cons.inj (List.cons.inj cv).2).2).1
  have sc_NeverGoes := supB_ok (P := P) (by rw [hP1]; exact x_sup_NeverGoes) cv_NeverGoes hP2
  have xc_NeverGoes := excCB_ok x_exc_NeverGoes
  have nf_NeverGoes_ring := He.eqO_ok x_nf_NeverGoes_ring
  have S_NeverGoes : SupAt P K mg "NeverGoes" "ring" := ⟨⟨_, _, _, _, _, _, _, _, _, _, _, _, _, _, _, _, _, _, sc_NeverGoes, ⟨rfl, rfl, rfl, rfl, rfl, rfl, rfl, by decide +kernel, ⟨_, rfl, rfl⟩, by decide, by decide⟩, fun _ => rfl, fun _ _ _ _ _ _ _ _ us hl => match us, hl with | [_, _], _ => rfl⟩, nf_NeverGoes_ring, m_NeverGoes, m_super⟩
  have f_k1 := of_decide_eq_true x_k1
  have f_k2 := of_decide_eq_true x_k2
  have f_k3 := of_decide_eq_true x_k3
  obtain ⟨fd_l_take, F_l_take⟩ := c.def_ 0 (d := d_l_take) rfl
  obtain ⟨fd_l_pick, F_l_pick⟩ := c.def_ 1 (d := d_l_pick) rfl
  obtain ⟨fd_l_box, F_l_box⟩ := c.def_ 2 (d := d_l_box) rfl
  obtain ⟨fd_l_mixed, F_l_mixed⟩ := c.def_ 3 (d := d_l_mixed) rfl
  obtain ⟨fd_l_names, F_l_names⟩ := c.def_ 4 (d := d_l_names) rfl
  obtain ⟨fd_l_begins, F_l_begins⟩ := c.def_ 5 (d := d_l_begins) rfl
  obtain ⟨fd_l_goes, F_l_goes⟩ := c.def_ 6 (d := d_l_goes) rfl
  obtain ⟨fd_l_links, F_l_links⟩ := c.def_ 7 (d := d_l_links) rfl
  obtain ⟨fd_l_module, F_l_module⟩ := c.def_ 8 (d := d_l_module) rfl
  obtain ⟨fd_l_house, F_l_house⟩ := c.def_ 9 (d := d_l_house) rfl
  obtain ⟨fd_is_integer, F_is_integer⟩ := c.def_ 10 (d := d_is_integer) rfl
  obtain ⟨fd_is_number, F_is_number⟩ := c.def_ 11 (d := d_is_number) rfl
  obtain ⟨fd_is_sequence, F_is_sequence⟩ := c.def_ 12 (d := d_is_sequence) rfl
  obtain ⟨fd_is_name, F_is_name⟩ := c.def_ 13 (d := d_is_name) rfl
  obtain ⟨fd_is_end, F_is_end⟩ := c.def_ 14 (d := d_is_end) rfl
  obtain ⟨fd_are_fresh, F_are_fresh⟩ := c.def_ 15 (d := d_are_fresh) rfl
  obtain ⟨fd_is_pair, F_is_pair⟩ := c.def_ 16 (d := d_is_pair) rfl
  obtain ⟨fd_labels_in, F_labels_in⟩ := c.def_ 17 (d := d_labels_in) rfl
  obtain ⟨fd_is_there, F_is_there⟩ := c.def_ 18 (d := d_is_there) rfl
  obtain ⟨fd_is_link, F_is_link⟩ := c.def_ 19 (d := d_is_link) rfl
  obtain ⟨fd_Module___init__, F_Module___init__⟩ := c.def_ 20 (d := d_Module___init__) rfl
  obtain ⟨fd_led_end, F_led_end⟩ := c.def_ 21 (d := d_led_end) rfl
  obtain ⟨fd_shape_of, F_shape_of⟩ := c.def_ 22 (d := d_shape_of) rfl
  obtain ⟨fd_loose_places, F_loose_places⟩ := c.def_ 23 (d := d_loose_places) rfl
  obtain ⟨fd_turned_about, F_turned_about⟩ := c.def_ 24 (d := d_turned_about) rfl
  obtain ⟨fd_ring_of, F_ring_of⟩ := c.def_ 25 (d := d_ring_of) rfl
  obtain ⟨fd_known_shapes, F_known_shapes⟩ := c.def_ 26 (d := d_known_shapes) rfl
  obtain ⟨fd_ends_are_there, F_ends_are_there⟩ := c.def_ 27 (d := d_ends_are_there) rfl
  obtain ⟨fd_known_modules, F_known_modules⟩ := c.def_ 28 (d := d_known_modules) rfl
  obtain ⟨fd_House___init__, F_House___init__⟩ := c.def_ 29 (d := d_House___init__) rfl
  obtain ⟨fd_House_with_module, F_House_with_module⟩ := c.def_ 30 (d := d_House_with_module) rfl
  obtain ⟨fd_l_made, F_l_made⟩ := c.def_ 31 (d := d_l_made) rfl
  obtain ⟨fd_l_built, F_l_built⟩ := c.def_ 32 (d := d_l_built) rfl
  obtain ⟨fd_l_heard, F_l_heard⟩ := c.def_ 33 (d := d_l_heard) rfl
  obtain ⟨fd_l_put, F_l_put⟩ := c.def_ 34 (d := d_l_put) rfl
  obtain ⟨fd_l_with, F_l_with⟩ := c.def_ 35 (d := d_l_with) rfl
  obtain ⟨fd_l_flat, F_l_flat⟩ := c.def_ 36 (d := d_l_flat) rfl
  obtain ⟨fd_l_is_ring, F_l_is_ring⟩ := c.def_ 37 (d := d_l_is_ring) rfl
  obtain ⟨fd_l_reached, F_l_reached⟩ := c.def_ 38 (d := d_l_reached) rfl
  obtain ⟨fd_l_is_written_right, F_l_is_written_right⟩ := c.def_ 39 (d := d_l_is_written_right) rfl
  obtain ⟨fd_law, F_law⟩ := c.def_ 40 (d := d_law) rfl
  have e := hfa.symm.trans (He.glo_ok X G (c.fact 38 (f := .glo "law") rfl))
  cases e
  have bL := FunD.bindsA (ps := ["_law_script"]) F_law fun _ _ _ _ _ _ us hl => match us, hl with | [_], _ => rfl
  refine ⟨fd_law, fun s v => bL s [v] rfl, fun base _ _ => ?_⟩
  have g_l_take : FnAt P w K mg base CX0 1 "_law_take" ["_law_box_here", "_law_many"] (spTake) := ⟨⟨_, ok_take F_l_take m_int, F_l_take.bindsN fun _ _ _ _ _ _ us hl => match us, hl with | [_, _], _ => rfl⟩, F_l_take.kp, He.glo_ok X G (c.fact 0 (f := .glo "_law_take") rfl)⟩
  have g_l_pick : FnAt P w K mg base CX0 2 "_law_pick" ["_law_box_here", "_law_items"] (spPick K) := ⟨⟨_, ok_pick F_l_pick m_len g_l_take, F_l_pick.bindsN fun _ _ _ _ _ _ us hl => match us, hl with | [_, _], _ => rfl⟩, F_l_pick.kp, He.glo_ok X G (c.fact 1 (f := .glo "_law_pick") rfl)⟩
  have g_l_box : FnAt P w K mg base CX0 1 "_law_box" ["_law_script", "_law_k", "_law_own"] (spBox3 K) := ⟨⟨_, ok_box3 F_l_box m_int m_len m_abs, F_l_box.bindsN fun _ _ _ _ _ _ us hl => match us, hl with | [_, _, _], _ => rfl⟩, F_l_box.kp, He.glo_ok X G (c.fact 2 (f := .glo "_law_box") rfl)⟩
  have g_l_mixed : FnAt P w K mg base CX0 2 "_law_mixed" ["_law_box_here", "_law_items"] (spT K (dpb1 (fun xs : L Str => List.length xs ≤ 1000) (fun (xs zs : L Str) => List.Perm zs xs))) := ⟨⟨_, ok_mixed F_l_mixed m_list m_len m_range (g_l_take.imp imp_take), F_l_mixed.bindsN fun _ _ _ _ _ _ us hl => match us, hl with | [_, _], _ => rfl⟩, F_l_mixed.kp, He.glo_ok X G (c.fact 3 (f := .glo "_law_mixed") rfl)⟩
  have g_l_names : FnAt P w K mg base CX0 3 "_law_names" ["_law_box_here", "_law_many"] (spT K (dpb1 (fun n : Int => 0 ≤ n ∧ n ≤ 18) (fun n (zs : L Str) => Drn n zs))) := ⟨⟨_, ok_names F_l_names g_l_mixed, F_l_names.bindsN fun _ _ _ _ _ _ us hl => match us, hl with | [_, _], _ => rfl⟩, F_l_names.kp, He.glo_ok X G (c.fact 4 (f := .glo "_law_names") rfl)⟩
  have g_l_begins : FnAt P w K mg base CX0 1 "_law_begins" ["_law_module_here", "_law_known"] (spT K dpBeg) := ⟨⟨_, ok_begins F_l_begins , F_l_begins.bindsN fun _ _ _ _ _ _ us hl => match us, hl with | [_, _], _ => rfl⟩, F_l_begins.kp, He.glo_ok X G (c.fact 5 (f := .glo "_law_begins") rfl)⟩
  have g_l_goes : FnAt P w K mg base CX0 1 "_law_goes" ["_law_module_here", "_law_known"] (spT K dpGoe) := ⟨⟨_, ok_goes F_l_goes , F_l_goes.bindsN fun _ _ _ _ _ _ us hl => match us, hl with | [_, _], _ => rfl⟩, F_l_goes.kp, He.glo_ok X G (c.fact 6 (f := .glo "_law_goes") rfl)⟩
  have g_l_links : FnAt P w K mg base CX0 3 "_law_links" ["_law_box_here", "_law_module_here", "_law_known"] (spT K dpLinks) := ⟨⟨_, ok_links F_l_links m_range g_l_begins g_l_goes (g_l_take.imp imp_take) (g_l_pick.imp imp_pick), F_l_links.bindsN fun _ _ _ _ _ _ us hl => match us, hl with | [_, _, _], _ => rfl⟩, F_l_links.kp, He.glo_ok X G (c.fact 7 (f := .glo "_law_links") rfl)⟩
  have g_l_module : FnAt P w K mg base CX0 4 "_law_module" ["_law_box_here", "_law_name", "_law_sizes", "_law_called"] (spT K dpModule) := ⟨⟨_, ok_module F_l_module m_dict g_l_names (g_l_pick.imp imp_pickO) g_l_links, F_l_module.bindsN fun _ _ _ _ _ _ us hl => match us, hl with | [_, _, _, _], _ => rfl⟩, F_l_module.kp, He.glo_ok X G (c.fact 8 (f := .glo "_law_module") rfl)⟩
  have g_l_house : FnAt P w K mg base CX0 5 "_law_house" ["_law_box_here", "_law_many"] (spT K (dpb1 (fun n : Int => 0 ≤ n ∧ n ≤ 3) (fun n (ms : L DMd) => HouseOk n ms))) := ⟨⟨_, ok_house F_l_house m_range (g_l_take.imp imp_take) g_l_module, F_l_house.bindsN fun _ _ _ _ _ _ us hl => match us, hl with | [_, _], _ => rfl⟩, F_l_house.kp, He.glo_ok X G (c.fact 9 (f := .glo "_law_house") rfl)⟩
  have g_is_integer : FnAt P w K mg base CX0 1 "is_integer" ["value"] (spT K dpInt) := ⟨⟨_, ok_is_integer F_is_integer m_isinstance m_int m_bool, F_is_integer.bindsN fun _ _ _ _ _ _ us hl => match us, hl with | [_], _ => rfl⟩, F_is_integer.kp, He.glo_ok X G (c.fact 10 (f := .glo "is_integer") rfl)⟩
  have g_is_number : FnAt P w K mg base CX0 2 "is_number" ["value"] (spT K dpNum) := ⟨⟨_, ok_is_number F_is_number g_is_integer, F_is_number.bindsN fun _ _ _ _ _ _ us hl => match us, hl with | [_], _ => rfl⟩, F_is_number.kp, He.glo_ok X G (c.fact 11 (f := .glo "is_number") rfl)⟩
  have g_is_sequence : FnAt P w K mg base CX0 1 "is_sequence" ["value"] (spT K dpSeq) := ⟨⟨_, ok_is_sequence F_is_sequence m_isinstance m_list m_tuple, F_is_sequence.bindsN fun _ _ _ _ _ _ us hl => match us, hl with | [_], _ => rfl⟩, F_is_sequence.kp, He.glo_ok X G (c.fact 12 (f := .glo "is_sequence") rfl)⟩
  have g_is_name : FnAt P w K mg base CX0 1 "is_name" ["value"] (spT K dpName) := ⟨⟨_, ok_is_name F_is_name m_isinstance m_str m_len m_all v_SMALL, F_is_name.bindsN fun _ _ _ _ _ _ us hl => match us, hl with | [_], _ => rfl⟩, F_is_name.kp, He.glo_ok X G (c.fact 13 (f := .glo "is_name") rfl)⟩
  have g_is_end : FnAt P w K mg base CX0 2 "is_end" ["word"] (spT K (dp1 (fun z : Str => z.length ≤ 1000) endB)) := ⟨⟨_, ok_is_end F_is_end m_len m_all g_is_name, F_is_end.bindsN fun _ _ _ _ _ _ us hl => match us, hl with | [_], _ => rfl⟩, F_is_end.kp, He.glo_ok X G (c.fact 14 (f := .glo "is_end") rfl)⟩
  have g_are_fresh : FnAt P w K mg base CX0 2 "are_fresh" ["value", "taken"] (spT K (dp2 (fun v (_ : List Str) => Sm1 v) freshB)) := ⟨⟨_, ok_are_fresh F_are_fresh m_len m_all m_set g_is_sequence g_is_name, F_are_fresh.bindsN fun _ _ _ _ _ _ us hl => match us, hl with | [_, _], _ => rfl⟩, F_are_fresh.kp, He.glo_ok X G (c.fact 15 (f := .glo "are_fresh") rfl)⟩
  have g_is_pair : FnAt P w K mg base CX0 2 "is_pair" ["value"] (spT K (dp1 Sm1 pairB)) := ⟨⟨_, ok_is_pair F_is_pair m_isinstance m_tuple m_len m_all g_is_name, F_is_pair.bindsN fun _ _ _ _ _ _ us hl => match us, hl with | [_], _ => rfl⟩, F_is_pair.kp, He.glo_ok X G (c.fact 16 (f := .glo "is_pair") rfl)⟩
  have g_labels_in : FnAt P w K mg base CX0 3 "labels_in" ["calls"] (spT K (dp1 (γ := L Str) Sm1 labelsOf)) := ⟨⟨_, ok_labels_in F_labels_in g_is_sequence g_is_pair, F_labels_in.bindsN fun _ _ _ _ _ _ us hl => match us, hl with | [_], _ => rfl⟩, F_labels_in.kp, He.glo_ok X G (c.fact 17 (f := .glo "labels_in") rfl)⟩
  have g_is_there : FnAt P w K mg base CX0 3 "is_there" ["end", "names", "labels"] (spT K (dp3 (fun v (_ _ : List Str) => Sm1 v) thereB)) := ⟨⟨_, ok_is_there F_is_there m_isinstance m_str g_is_end, F_is_there.bindsN fun _ _ _ _ _ _ us hl => match us, hl with | [_, _, _], _ => rfl⟩, F_is_there.kp, He.glo_ok X G (c.fact 18 (f := .glo "is_there") rfl)⟩
  have g_is_link : FnAt P w K mg base CX0 4 "is_link" ["value", "begins", "goes", "labels"] (spT K (dp4 (fun v (_ _ _ : List Str) => Sm1 v) linkB)) := ⟨⟨_, ok_is_link F_is_link m_isinstance m_tuple m_len g_is_there g_is_number, F_is_link.bindsN fun _ _ _ _ _ _ us hl => match us, hl with | [_, _, _, _], _ => rfl⟩, F_is_link.kp, He.glo_ok X G (c.fact 19 (f := .glo "is_link") rfl)⟩
  have MC : ModC K (He.ga K "Module") := ⟨c_Module, na_Module_name, na_Module_inlets, na_Module_outlets, na_Module_stations, na_Module_links, na_Module_calls⟩
  have b_init := binds_Module___init__ F_Module___init__
  have gX_Module : MkAtX P w K mg base 5 "Module" ["self", "name", "inlets", "outlets", "stations", "links", "calls"] (spInitMod K (He.ga K "Module") (He.ga K "InvalidModule")) [] := ⟨⟨_, _, [], He.mkr_ok (c.fact 64 (f := .mkr "Module") rfl), ok_Mod_init F_Module___init__ MC rfl m_tuple m_all m_len g_is_name g_are_fresh g_is_sequence g_labels_in g_is_link S_InvalidModule, .nil, b_init⟩, m_Module⟩
  have TM : TyC K (He.ga K "Module") := tyB_ok x_ty_Module
  have HC : HouC K (He.ga K "House") := ⟨c_House, na_House_known, na_House_modules, na_House_shapes⟩
  have g_is_sequenceM : FnAt P w K mg base CX0 1 "is_sequence" ["value"] (spT K dpSeqM) := ⟨⟨_, ok_is_sequenceM F_is_sequence m_isinstance m_list m_tuple, F_is_sequence.bindsN fun _ _ _ _ _ _ us hl => match us, hl with | [_], _ => rfl⟩, F_is_sequence.kp, He.glo_ok X G (c.fact 12 (f := .glo "is_sequence") rfl)⟩
  have g_led_end : FnAt P w K mg base CX0 1 "led_end" ["label", "place"] (spT K dpLed) := ⟨⟨_, ok_led_end F_led_end , F_led_end.bindsN fun _ _ _ _ _ _ us hl => match us, hl with | [_, _], _ => rfl⟩, F_led_end.kp, He.glo_ok X G (c.fact 20 (f := .glo "led_end") rfl)⟩
  have g_shape_of : FnAt P w K mg base CX0 2 "shape_of" ["module", "shapes"] (spT K dpShape) := ⟨⟨_, ok_shape_of F_shape_of MC m_list m_tuple m_sorted g_led_end, F_shape_of.bindsN fun _ _ _ _ _ _ us hl => match us, hl with | [_, _], _ => rfl⟩, F_shape_of.kp, He.glo_ok X G (c.fact 21 (f := .glo "shape_of") rfl)⟩
  have g_loose_places : FnAt P w K mg base CX0 1 "loose_places" ["places", "links"] (spT K dpLoose) := ⟨⟨_, ok_loose F_loose_places m_list m_len, F_loose_places.bindsN fun _ _ _ _ _ _ us hl => match us, hl with | [_, _], _ => rfl⟩, F_loose_places.kp, He.glo_ok X G (c.fact 22 (f := .glo "loose_places") rfl)⟩
  have g_turned_about : FnAt P w K mg base CX0 1 "turned_about" ["ring"] (spT K (dp1 (α := L Str) (γ := U Str) (fun r : L Str => 0 < List.length r ∧ List.length r ≤ 1000) fun r => rotS r)) := ⟨⟨_, ok_turned F_turned_about m_min m_str m_tuple, F_turned_about.bindsN fun _ _ _ _ _ _ us hl => match us, hl with | [_], _ => rfl⟩, F_turned_about.kp, He.glo_ok X G (c.fact 23 (f := .glo "turned_about") rfl)⟩
  have g_ring_of : FnAt P w K mg base CX0 2 "ring_of" ["places", "links"] (spT K dpRing) := ⟨⟨_, ok_ring F_ring_of m_len g_loose_places g_turned_about, F_ring_of.bindsN fun _ _ _ _ _ _ us hl => match us, hl with | [_, _], _ => rfl⟩, F_ring_of.kp, He.glo_ok X G (c.fact 24 (f := .glo "ring_of") rfl)⟩
  have g_known_shapes : FnAt P w K mg base (L2.CX P w) 3 "known_shapes" ["modules"] (spTXH K (dpKnS K)) := ⟨⟨_, ok_known_shapes F_known_shapes MC g_shape_of g_ring_of S_NeverGoes, F_known_shapes.bindsN fun _ _ _ _ _ _ us hl => match us, hl with | [_], _ => rfl⟩, F_known_shapes.kp, He.glo_ok X G (c.fact 25 (f := .glo "known_shapes") rfl)⟩
  have g_ends_are_there : FnAt P w K mg base CX0 1 "ends_are_there" ["module", "known"] (spT K dpEnds) := ⟨⟨_, ok_ends F_ends_are_there MC, F_ends_are_there.bindsN fun _ _ _ _ _ _ us hl => match us, hl with | [_, _], _ => rfl⟩, F_ends_are_there.kp, He.glo_ok X G (c.fact 26 (f := .glo "ends_are_there") rfl)⟩
  have g_known_modules : FnAt P w K mg base (L2.CX P w) 3 "known_modules" ["modules"] (spTXH K dpKnown) := ⟨⟨_, ok_known_modules F_known_modules MC TM m_Module m_isinstance m_all m_enumerate g_is_sequenceM g_ends_are_there S_InvalidHouse, F_known_modules.bindsN fun _ _ _ _ _ _ us hl => match us, hl with | [_], _ => rfl⟩, F_known_modules.kp, He.glo_ok X G (c.fact 27 (f := .glo "known_modules") rfl)⟩
  have b_init : Binds K fd_House___init__ ["self", "modules"] [] := F_House___init__.bindsN fun _ _ _ _ _ _ us hl => match us, hl with | [_, _], _ => rfl
  have gX_House : MkAtX P w K mg base 4 "House" ["self", "modules"] (spInitT K (He.ga K "House") (dpHouI K)) [] := ⟨⟨_, _, [], He.mkr_ok (c.fact 70 (f := .mkr "House") rfl), ok_Hou_init F_House___init__ HC m_tuple g_known_modules g_known_shapes, .nil, b_init⟩, m_House⟩
  have g_House_with_module : MthAt P w K mg base (L2.CX P w) 6 (He.ga K "House") "with_module" ["self", "module"] (spTXH K (dpWith K)) := ⟨_, _, He.meth_ok (c.fact 28 (f := .meth "House" "with_module") rfl), ok_with (m := "with_module") F_House_with_module HC MC TM m_Module m_isinstance gX_House, F_House_with_module.bindsN fun _ _ _ _ _ _ us hl => match us, hl with | [_, _], _ => rfl⟩
  have g_l_made : FnAt P w K mg base CX0 7 "_law_made" ["_law_module_here"] (spT K dpMade) := ⟨⟨_, ok_made F_l_made gX_Module, F_l_made.bindsN fun _ _ _ _ _ _ us hl => match us, hl with | [_], _ => rfl⟩, F_l_made.kp, He.glo_ok X G (c.fact 29 (f := .glo "_law_made") rfl)⟩
  have g_l_built : FnAt P w K mg base (L2.CX P w) 8 "_law_built" ["_law_some"] (spTXH K (dpBuilt K)) := ⟨⟨_, ok_built F_l_built g_l_made gX_House, F_l_built.bindsN fun _ _ _ _ _ _ us hl => match us, hl with | [_], _ => rfl⟩, F_l_built.kp, He.glo_ok X G (c.fact 30 (f := .glo "_law_built") rfl)⟩
  have g_l_heard : FnAt P w K mg base CX0 9 "_law_heard" ["_law_some"] (spT K dpHeard) := ⟨⟨_, ok_heard F_l_heard m_isinstance m_NeverGoes m_WaitError m_InvalidHouse xc_NeverGoes.1 xc_NeverGoes.2 nf_NeverGoes_ring f_k1 f_k2 f_k3 g_l_built, F_l_heard.bindsN fun _ _ _ _ _ _ us hl => match us, hl with | [_], _ => rfl⟩, F_l_heard.kp, He.glo_ok X G (c.fact 31 (f := .glo "_law_heard") rfl)⟩
  have g_l_put : FnAt P w K mg base CX0 7 "_law_put" ["_law_house_here", "_law_module_here"] (spT K dpPut) := ⟨⟨_, ok_put F_l_put c_House m_NeverGoes xc_NeverGoes.2 nf_NeverGoes_ring f_k3 g_House_with_module, F_l_put.bindsN fun _ _ _ _ _ _ us hl => match us, hl with | [_, _], _ => rfl⟩, F_l_put.kp, He.glo_ok X G (c.fact 32 (f := .glo "_law_put") rfl)⟩
  have g_l_with : FnAt P w K mg base CX0 1 "_law_with" ["_law_some", "_law_at", "_law_link"] (spT K dpWithL) := ⟨⟨_, ok_withL F_l_with m_dict, F_l_with.bindsN fun _ _ _ _ _ _ us hl => match us, hl with | [_, _, _], _ => rfl⟩, F_l_with.kp, He.glo_ok X G (c.fact 33 (f := .glo "_law_with") rfl)⟩
  have bR : Binds K fd_l_flat ["_law_some", "_law_at"] [] := F_l_flat.bindsN fun _ _ _ _ _ _ us hl => match us, hl with | [_, _], _ => rfl
  have gR := He.glo_ok X G (c.fact 34 (f := .glo "_law_flat") rfl)
  have g_l_flat : FnAt P w K mg base CX0 2 "_law_flat" ["_law_some", "_law_at"] (spT K (dpFlat 1)) := ⟨⟨_, ok_flat F_l_flat bR F_l_flat.kp rfl gR m_list 1, bR⟩, F_l_flat.kp, gR⟩
  have g_l_is_ring : FnAt P w K mg base CX0 1 "_law_is_ring" ["_law_links_here", "_law_ring"] (spT K dpIsRing) := ⟨⟨_, ok_is_ring F_l_is_ring m_isinstance m_tuple m_len m_set m_str m_sorted m_range, F_l_is_ring.bindsN fun _ _ _ _ _ _ us hl => match us, hl with | [_, _], _ => rfl⟩, F_l_is_ring.kp, He.glo_ok X G (c.fact 35 (f := .glo "_law_is_ring") rfl)⟩
  have g_l_reached : FnAt P w K mg base CX0 1 "_law_reached" ["_law_links_here", "_law_place"] (spT K dpReached) := ⟨⟨_, ok_reached F_l_reached m_len m_int, F_l_reached.bindsN fun _ _ _ _ _ _ us hl => match us, hl with | [_, _], _ => rfl⟩, F_l_reached.kp, He.glo_ok X G (c.fact 36 (f := .glo "_law_reached") rfl)⟩
  have g_l_is_written_right : FnAt P w K mg base CX0 10 "_law_is_written_right" [] (spT K (dp0 true)) := ⟨⟨_, ok_hand F_l_is_written_right g_l_heard, F_l_is_written_right.bindsN fun _ _ _ _ _ _ us hl => match us, hl with | [], _ => rfl⟩, F_l_is_written_right.kp, He.glo_ok X G (c.fact 37 (f := .glo "_law_is_written_right") rfl)⟩
  have g_l_beginsV : FnAt P w K mg base CX0 1 "_law_begins" ["_law_module_here", "_law_known"] (spT K dpBegV) := ⟨⟨_, ok_beginsV F_l_begins , F_l_begins.bindsN fun _ _ _ _ _ _ us hl => match us, hl with | [_, _], _ => rfl⟩, F_l_begins.kp, He.glo_ok X G (c.fact 5 (f := .glo "_law_begins") rfl)⟩
  have g_l_goesV : FnAt P w K mg base CX0 1 "_law_goes" ["_law_module_here", "_law_known"] (spT K dpGoeV) := ⟨⟨_, ok_goesV F_l_goes , F_l_goes.bindsN fun _ _ _ _ _ _ us hl => match us, hl with | [_, _], _ => rfl⟩, F_l_goes.kp, He.glo_ok X G (c.fact 6 (f := .glo "_law_goes") rfl)⟩
  refine FnOk.imp (ok_law F_law m_range m_max m_min m_len m_enumerate m_dict g_l_box (g_l_take.imp imp_take) (g_l_pick.imp imp_pick) g_l_house g_l_heard g_l_is_written_right g_l_beginsV g_l_goesV g_l_with g_l_flat g_l_reached g_l_is_ring g_l_put g_l_built g_l_made) imp_law
end WW

open PySem PySem.W PySem.Calls PyProof.Rows
set_option maxRecDepth 100000 in
set_option maxHeartbeats 0 in
theorem PySem.Challenge.cw_waitworks_k14_rings_that_never_go_holds : PySem.Challenge.rw_waitworks_k14_rings_that_never_go.Holds := by
  w_on; o_law
  refine HandSHeadRun.head_any (r := OpenLaw.row PySem.Challenge.rw_waitworks_k14_rings_that_never_go) (q := view (OpenLaw.row PySem.Challenge.rw_waitworks_k14_rings_that_never_go).prog [65]) (H := WW.hk) (ob := WW.ob) (M := WW.steps) (loose := WW.loose) (d := HandSHeadRun.topDef (OpenLaw.row PySem.Challenge.rw_waitworks_k14_rings_that_never_go).prog 65) (kwd := []) WW.ob_eq
    (by kernel_rfl) (fun s => by kernel_rfl) WW.run (by kernel_rfl) (by kernel_rfl) (by kernel_rfl) (by rfl) (by first | assumption | decide +kernel) (by decide +kernel) ⟨rfl, rfl, rfl, rfl, rfl, by decide +kernel⟩ ?hw ?hc
  case hw => w_witness2
  case hc =>
    refine L2.walk_ofE (l := PySem.Challenge.rw_waitworks_k14_rings_that_never_go) (n := 63) (k := 11) (x := "_law_script") (CX := L2.CX0) rfl (by decide) (by kernel_rfl) ⟨rfl, by decide, by decide⟩ ?F (fun _ _ _ _ z => z)
    intro w mg fa h Y G hmg0
    obtain ⟨K, KX, c⟩ := Y
    have hmg : mg ("law" : PySem.Str) = some (.ref fa) := by
      have e : (HandSHeadRun.topDef (OpenLaw.row PySem.Challenge.rw_waitworks_k14_rings_that_never_go).prog 65).name = ("law" : PySem.Str) := by kernel_rfl
      rw [← e]
      exact hmg0
    obtain ⟨fd, hb, hF⟩ := WW.facts (P := (PySem.Challenge.rw_waitworks_k14_rings_that_never_go).prog) (w := w) KX G hmg c rfl (by kernel_rfl)
    exact ⟨K, fd, WW.spLaw K, KX, hb, fun H a ns hl _ hS => ⟨a, ns, rfl, hS, hl, fun _ => rfl⟩, hF⟩

