import PyProof.Rows.All
import Wide.All
import OpenK.AllK
import Wide.FinOn
import KE.KStateDown
import HandS.ForMost
import HandS.Defaults
import HandS.Property
import HandS.IsInst
import HandS.Star
import HandS.Evl
import HandS.Steps
import HandS.More
import HandS.Head0
import HandS.Head1
import HandS.Head2
import HandS.HeadEnd
import HandS.HeadHook1
import HandS.HeadHook2
import HandS.HeadHook3
import HandS.HeadHook4
import HandS.HeadNt
import KE.KCallOwn
import HandS.Text
import HandS.ExcInit
import HandS.ExcField
import HandS.ExcIs
import HandS.ExcSuper
import KE.KExcSuper
import KE.KSuper
import HandS.ExcOwn
import KE.KExcIs
import PySem.Challenge.RW_waitworks_k03_rows_refused
set_option Elab.async false
set_option linter.all false
set_option maxRecDepth 100000
set_option maxHeartbeats 4000000
namespace WW
open PySem PySem.Spec PyProof.Rows L2

/-! ### defs of the module by name -/
structure FnAt (P : Program) (w : World) (K : PySem.W.Frag) (mg : Str → Option Value) (base : Heap) (CX : CXT) (k : Nat) (x : Str) (ps : List Str) (sp : Sp) : Prop where
  ex : ∃ fd, FnOk P w K mg base CX k (He.ga K x) fd ps sp ∧ Binds K fd ps []
  kp : PySem.W.keepIn K (.ref (He.ga K x)) = true
  g : mg x = some (.ref (He.ga K x))
section
variable {X : Cx} {CX : CXT} {k j : Nat} {x : Str} {ps : List Str} {sp : Sp} {e : Expr} {es : List Expr} {t : TA} {p pos : Pos}
theorem pe_fn (F : FnAt X.prog X.w X.K X.mg X.base CX0 k x ps sp) (hr : Room j X.A) (hg : Gl X x) (ha : PA X (e :: es) t) (hk : k ≤ j := by decide)
    (hdb : (x == ("__debug__" : Str)) = false := by decide) (he : starEach (e :: es) X.env = (false, eval e X.env) :: starEach es X.env := by rfl) (hpl : (backTo pos (starEach es X.env)).any (·.1) = false := by rfl) :
    PE X (.Call (.Name x p) (e :: es) [] pos) (tCall sp [] E0 t) := by
  obtain ⟨fd, F1, b⟩ := F.ex
  exact pe_call F1 (hr.mono hk) hg F.g F.kp b .nil pass0 ha hdb he hpl
theorem pe_fn0 (F : FnAt X.prog X.w X.K X.mg X.base CX0 k x ps sp) (hr : Room j X.A) (hg : Gl X x) (hk : k ≤ j := by decide)
    (hdb : (x == ("__debug__" : Str)) = false := by decide) :
    PE X (.Call (.Name x p) [] [] pos) (tCall sp [] E0 tNil) := by
  obtain ⟨fd, F1, b⟩ := F.ex
  exact pe_call0 F1 (hr.mono hk) hg F.g F.kp b .nil pass0 hdb
end
/-! ### lists or tuples -/
def Sq (K : PySem.W.Frag) (H : Hp) (a : Addr) (xs : List V) : Prop := SqL K H a xs ∨ SqT K H a xs
theorem Sq.ex {K : PySem.W.Frag} {H H' : Hp} {a : Addr} {xs : List V} (e : Same H H') (h : Sq K H a xs) : Sq K H' a xs := by
  rcases h with h | h
  · exact .inl (Evl.ex_l e h)
  · exact .inr (Evl.ex_t e h)
theorem Sq.l {K : PySem.W.Frag} {H : Hp} {a : Addr} {xs : List V} (h : H a = some (.lst xs)) : Sq K H a xs := .inl (Evl.sq_of h)
theorem Sq.t {K : PySem.W.Frag} {H : Hp} {a : Addr} {xs : List V} (h : H a = some (.tup xs)) : Sq K H a xs := .inr (Evl.st_of h)
def rIxQ (K : PySem.W.Frag) : R2 := fun x y H Q => ∃ p xs i v, x = .ref p ∧ y = .int i ∧ Sq K H p xs ∧ atI xs i = some v ∧ Q v H
section
variable {X : Cx}
theorem ix_sq : IxR X (rIxQ X.K) := by
  intro value slice pins s σ H x y v u Q I rx ry h hs
  obtain ⟨p, xs, i, z, ex, ey, hq | hq, he, q⟩ := h
  · exact ix_list value slice pins s σ H x y v u Q I rx ry ⟨p, xs, i, z, ex, ey, hq, he, q⟩ hs
  · exact ix_tup value slice pins s σ H x y v u Q I rx ry ⟨p, xs, i, z, ex, ey, hq, he, q⟩ hs
/-- for .. in a list or a tuple -/
def iSeq (K : PySem.W.Frag) (tl : TE) : TI := fun σ H R => tl σ H fun x H1 => ∃ a, x = .ref a ∧ (((∃ xs, SqL K H1 a xs) ∧ R (Itl K a) H1) ∨ ((∃ xs, SqT K H1 a xs) ∧ R (Itt K a) H1))
theorem pi_seq {tg l : Expr} {tl : TE} (hl : PE X l tl) : PI X tg l (iSeq X.K tl) := by
  refine ⟨fun pins s0 σ H R I0 h0 => thn (hl.run pins s0 σ H _ I0 h0) fun v s ⟨x, Hx, I, rx, a, ex, qa⟩ => ?_⟩
  subst ex
  cases rx
  have sz : ∀ b ∈ [s.heap.objs.size], FpOk X pins Hx b := fun b hb => by
    rw [List.mem_singleton.mp hb]
    exact I.fpOk (Nat.le_refl _) (I.hok.fresh (Nat.le_refl _))
  rcases qa with ⟨⟨xs, hq⟩, qa⟩ | ⟨⟨xs, hq⟩, qa⟩
  · obtain ⟨its, _, pl, _⟩ := I.list hq
    exact wpAny_pyIter_list pl.isList ⟨_, [s.heap.objs.size], _, _, Hx, rfl, I.kept (t' := s.toks) fun b o eo => Heap.get?_push_of_some _ eo, turn_list a _, ⟨_, Heap.get?_push_size _ rfl, rfl, rfl⟩, sz, qa⟩
  · obtain ⟨its, _, pl, _⟩ := I.tuple hq
    exact wpAny_pyIter_tuple (show s.heap.IsTuple a its.toArray from pl) ⟨_, [s.heap.objs.size], _, _, Hx, rfl, I.kept (t' := s.toks) fun b o eo => Heap.get?_push_of_some _ eo, turn_tuple a _, ⟨_, Heap.get?_push_size _ rfl, rfl, rfl⟩, sz, qa⟩
end
theorem at_toNat {α : Type} {xs : List α} {d : Int} (h0 : 0 ≤ d) (h : d.toNat < xs.length) : atI xs d = some xs[d.toNat] := by
  have e : d = (d.toNat : Int) := by omega
  have q : atI xs (d.toNat : Int) = some xs[d.toNat] := atI_nat (List.getElem?_eq_getElem h)
  rw [← e] at q
  exact q
/-! ### a tuple's whole slice is the tuple -/
section
variable {prog : Program} {w : World} {A : Around} {E : Value → Shared → Prop} {s : Shared}
theorem tup_all {a c : Addr} {its : Array Value} {u1 u2 : Value} {lo hi : Option Int} {R : Value → Shared → Prop} (hT : IsTup s.heap a its) (hc : s.heap.IsSliceOf c u1 u2 .none) (p1 : IsPart u1 lo) (p2 : IsPart u2 hi)
    (hall : HT.sIx its.size 0 lo = 0 ∧ HT.sIx its.size its.size hi = its.size) (q : R (.ref a) s) : wpAny (model prog w) A (getItem (.ref a) (.ref c)) R E s := by
  obtain ⟨oc, e1, e2, e3⟩ := id hc
  have tc : s.TypeIs (.ref c) "slice" := ⟨oc, e1, e2⟩
  unfold getItem
  try with_reducible refine wpAny_holding ?_
  first | (refine wpAny_bind (wpAny_pure ?_)) | skip
  refine wpAny_bind (wpAny_sequenceKey hT.typeIs (by decide) ?_)
  refine wpAny_bind (wpAny_callSpecial?_slot (name := Str.ofString "__getitem__") hT.typeIs slot_tuple_getitem
    (wpAny_call_entry slot_tuple_getitem hT.typeIs PyProof.Rows.entry_tuple_getitem ?_ (PyProof.Rows.args_tuple_getitem _ _)))
  show wpAny _ _ (Builtin.Tuple.tupleItemsOf (.ref a) >>= _) _ _ s
  refine wpAny_bind (tupleItemsOf_ hT (wpAny_bind (wpAny_typeOf tc ?_)))
  rw [if_pos (by decide)]
  refine wpAny_bind (HT.sliceApplied_gen hc p1 p2 ?_)
  have hy : (((HT.sIx its.size 0 lo : Nat) : Int) == 0 && (1 : Int) == 1 && (HT.sIx its.size its.size hi - HT.sIx its.size 0 lo) == its.size) = true := by
    rw [hall.1, hall.2]
    simp
  show wpAny _ _ (if (((HT.sIx its.size 0 lo : Nat) : Int) == 0 && (1 : Int) == 1 && (HT.sIx its.size its.size hi - HT.sIx its.size 0 lo) == its.size) = true then _ else _) _ _ s
  rw [if_pos hy]
  unfold Builtin.Tuple.tupleIsExact
  refine wpAny_bind (wpAny_bind (wpAny_typeOf hT.typeIs (wpAny_pure ?_)))
  rw [if_pos (by decide)]
  refine wpAny_bind (wpAny_rule ?_)
  exact wpAny_pure ⟨_, rfl, wpAny_pure q⟩
end
/-! ### rules with the written part named -/
def rSlW (K : PySem.W.Frag) : V → Option Int → Option Int → Hp → VK → Prop := fun x lo hi H Q => ∃ a xs, x = .ref a ∧ SqT K H a xs ∧
  (HT.sIx xs.length 0 lo = 0 ∧ HT.sIx xs.length xs.length hi = xs.length) ∧ Q (.ref a) H
def rSlQ (K : PySem.W.Frag) : V → Option Int → Option Int → Hp → VK → Prop := fun x lo hi H Q => rSlL K x lo hi H Q ∨ rSlT K x lo hi H Q ∨ rSlW K x lo hi H Q
def rLenQ (K : PySem.W.Frag) : List V → Hp → VK → Prop := fun xs H Q => ∃ p ys, xs = [.ref p] ∧ Sq K H p ys ∧ Q (.int ys.length) H
def rListQ (K : PySem.W.Frag) : List V → Hp → VK → Prop := fun xs H Q => ∃ p ys, xs = [.ref p] ∧ Sq K H p ys ∧ ∀ l, H l = none → Q (.ref l) (upd H l (.lst ys))
inductive rTupQ (K : PySem.W.Frag) (xs : List V) (H : Hp) (Q : VK) : Prop
  | mk (h : ∃ p ys, xs = [.ref p] ∧ ((SqL K H p ys ∧ ∀ l, H l = none → Q (.ref l) (upd H l (.tup ys))) ∨ (SqT K H p ys ∧ Q (.ref p) H))) : rTupQ K xs H Q
section
variable {X : Cx}
theorem sl_whole : SlR X (rSlW X.K) := by
  intro pins s σ H x v vl vu lo hi sl Q I rx hs pl pu h
  obtain ⟨a, xs, rfl, hx, hw, q⟩ := h
  cases rx
  obtain ⟨its, r, hT, hz⟩ := I.tuple hx
  have hn : its.toArray.size = xs.length := by rw [List.size_toArray]; exact r.length.symm
  refine ⟨"tuple", _, slot_tuple_getitem.lookup, hT.typeIs, ?_⟩
  exact tup_all hT hs pl pu (by rw [hn]; exact hw) ⟨.ref a, H, I, rfl, q⟩
variable (K : PySem.W.Frag)
theorem ix_sqK (h : X.K = K := by rfl) : IxR X (rIxQ K) := by
  subst h
  exact ix_sq
theorem sl_sqK (h : X.K = K := by rfl) : SlR X (rSlQ K) := by
  subst h
  exact sl_list.or (sl_tup.or sl_whole)
theorem pi_seqK {tg l : Expr} {tl : TE} (hl : PE X l tl) (h : X.K = K := by rfl) : PI X tg l (iSeq K tl) := by
  subst h
  exact pi_seq hl
theorem call_lenK (h : X.K = K := by rfl) : CallR X (.builtin "len") (rLenQ K) := by
  subst h
  exact call_len_seq
theorem call_listK (h : X.K = K := by rfl) : CallR X (.type "list") (rListQ K) := by
  subst h
  exact call_list_of
theorem call_tupleK (h : X.K = K := by rfl) : CallR X (.type "tuple") (rTupQ K) := by
  subst h
  intro pins s σ H xs us Q I r ⟨q⟩
  exact call_tuple_of pins s σ H xs us Q I r q
theorem call_isiK1 (h : X.K = K := by rfl) : CallR X (.builtin "isinstance") (rIsi K) := by
  subst h
  exact call_isi
theorem call_isiTK (h : X.K = K := by rfl) : CallR X (.builtin "isinstance") (rIsiT K) := by
  subst h
  exact call_isiT
theorem cr_anyK (hc : X.calm = true := by rfl) (h : X.K = K := by rfl) : CallR X (.builtin "any") (rAny K) := by
  subst h
  exact cr_any hc
theorem cr_allK (hc : X.calm = true := by rfl) (h : X.K = K := by rfl) : CallR X (.builtin "all") (rAll K) := by
  subst h
  exact cr_all hc
theorem cr_maxK (hc : X.calm = true := by rfl) (h : X.K = K := by rfl) : CallR X (.builtin "max") (rMax K) := by
  subst h
  exact cr_max hc
theorem pa_starK {e : Expr} {es : List Expr} {p : Pos} {te : TE} {t : TA} (he : PE X e te) (hr : PA X es t) (h : X.K = K := by rfl) (hs : starEach (.Starred e p :: es) X.env = (true, eval e X.env) :: starEach es X.env := by rfl) : PA X (.Starred e p :: es) (StX.tStar K te t) := by
  subst h
  exact StX.pa_star he hr hs
theorem pe_fldK {e : Expr} {f : Str} {pos : Pos} {ta : TE} (he : PE X e ta) (hb : attributeBase e f X.env (eval e X.env) = eval e X.env) (h : X.K = K := by rfl) : PE X (.Attribute e f pos) (tFld K ta f) := by
  subst h
  exact pe_fld he hb
end
/-- o.f = .., as a target -/
def gFld (K : PySem.W.Frag) (ta : TE) (f : Str) : TG := fun v σ H Q => ta σ H fun x H1 => ∃ a C dx fs, x = .ref a ∧ H1 a = some (.ins C dx fs) ∧ Cls K C ∧ NoAttr K C f ∧ fs.length < 1000 ∧ Q σ (upd H1 a (.ins C dx (putF f v fs)))
theorem pg_fld {X : Cx} (K : PySem.W.Frag) {o : Expr} {f : Str} {pos : Pos} {ta : TE} (ho : PE X o ta) (hK : X.K = K := by rfl) : PG X (.Attribute o f pos) (gFld K ta f) := by
  subst hK
  refine ⟨fun pins s σ H v u Q I r h => ?_⟩
  rw [assign_Attribute]
  refine wpAny_bind (wpAny_holding (thn (ho.run pins s σ H _ I h) fun ov s1 ⟨x, H1, I1, r1, a, C, dx, fs, ex, ea, c, n, l, q⟩ => ?_))
  subst ex
  cases r1
  refine wpAny_bind (wpAny_standAt (wpAny_bind (wpAny_holding (setattr_ok I1 ea c n l r fun s2 I2 => ?_))))
  exact wpAny_release ⟨σ, _, I2, q⟩
theorem pg_tupK {X : Cx} (K : PySem.W.Frag) {es : List Expr} {k : Nat} {t : TGs} {n : Nat} {pos : Pos} (hc : X.calm = true) (h : PGs X es t)
    (hn : (assignEach es X.env).length = n := by rfl) (hst : (assignEach es X.env).findIdx? (·.1) = none := by rfl) (hK : X.K = K := by rfl) : PG X (.Tuple es k pos) (gTup K n t) := by
  subst hK
  exact pg_tup hc h hn hst
/-! ### making an object -/
structure MkAt (P : Program) (w : World) (K : PySem.W.Frag) (mg : Str → Option Value) (base : Heap) (CX : CXT) (k : Nat) (x : Str) (ps : List Str) (sp : Sp) (dvs : List V) : Prop where
  ex : ∃ f fd ds, Mk K (He.ga K x) f ∧ FnOk P w K mg base CX k f fd ps sp ∧ Vals dvs ds ∧ Binds K fd ps ds
  g : mg x = some (.ref (He.ga K x))
section
variable {X : Cx} {CX : CXT} {k j : Nat} {x : Str} {ps : List Str} {sp : Sp} {e : Expr} {es : List Expr} {t : TA} {p pos : Pos} {dvs : List V}
theorem pe_mkr (F : MkAt X.prog X.w X.K X.mg X.base CX0 k x ps sp dvs) (hr : Room j X.A) (hg : Gl X x) (ha : PA X (e :: es) t) (hk : k + 1 ≤ j := by decide)
    (hdb : (x == ("__debug__" : Str)) = false := by decide) (he : starEach (e :: es) X.env = (false, eval e X.env) :: starEach es X.env := by rfl) (hpl : (backTo pos (starEach es X.env)).any (·.1) = false := by rfl) :
    PE X (.Call (.Name x p) (e :: es) [] pos) (tMake (He.ga X.K x) sp dvs E0 t) := by
  obtain ⟨f, fd, ds, M, F1, v, b⟩ := F.ex
  exact pe_make M F1 (hr.mono hk) hg F.g b v pass0 ha hdb he hpl
end
/-! ### methods, properties -/
structure MthAt (P : Program) (w : World) (K : PySem.W.Frag) (mg : Str → Option Value) (base : Heap) (CX : CXT) (k : Nat) (C : Addr) (m : Str) (ps : List Str) (sp : Sp) : Prop where
  ex : ∃ f fd, Meth K C m f ∧ FnOk P w K mg base CX k f fd ps sp ∧ Binds K fd ps []
structure PrpAt (P : Program) (w : World) (K : PySem.W.Frag) (mg : Str → Option Value) (base : Heap) (CX : CXT) (k : Nat) (C : Addr) (m : Str) (ps : List Str) (sp : Sp) : Prop where
  ex : ∃ pr f fd, PropOf K C m pr f ∧ FnOk P w K mg base CX k f fd ps sp ∧ Binds K fd ps []
section
variable {X : Cx} {CX : CXT} {k j : Nat} {C : Addr} {m : Str} {ps : List Str} {sp : Sp} {o e : Expr} {es : List Expr} {ta : TE} {t : TA} {apos pos : Pos}
theorem pe_mth {pl : Sem Bool} (c : Cls X.K C) (F : MthAt X.prog X.w X.K X.mg X.base CX0 k C m ps sp) (hr : Room j X.A) (ho : PE X o ta) (ha : PA X (e :: es) t) (hk : k ≤ j := by decide)
    (hst : starEach (e :: es) X.env = (false, eval e X.env) :: starEach es X.env := by rfl) (hpl : (backTo pos (starEach es X.env)).any (·.1) = false := by rfl)
    (ht : eval (.Call (.Attribute o m apos) (e :: es) [] pos) X.env = (do let ov ← eval o X.env; standAt apos.atName; let (f, first) ← holding [ov] (getMethod ov m pl); callWith pos f first (backTo pos (starEach (e :: es) X.env)) (backToKw pos (keywordEach [] X.env))) := by rfl) : PE X (.Call (.Attribute o m apos) (e :: es) [] pos) (tMeth C m sp [] E0 ta t) := by
  obtain ⟨f, fd, M, F1, b⟩ := F.ex
  exact pe_meth ho c M F1 (hr.mono hk) b .nil pass0 ha hst hpl ht
theorem pe_mth0 {pl : Sem Bool} (c : Cls X.K C) (F : MthAt X.prog X.w X.K X.mg X.base CX0 k C m ps sp) (hr : Room j X.A) (ho : PE X o ta) (hk : k ≤ j := by decide)
    (ht : eval (.Call (.Attribute o m apos) [] [] pos) X.env = (do let ov ← eval o X.env; standAt apos.atName; let (f, first) ← holding [ov] (getMethod ov m pl); callWith pos f first (backTo pos (starEach [] X.env)) (backToKw pos (keywordEach [] X.env))) := by rfl) : PE X (.Call (.Attribute o m apos) [] [] pos) (tMeth C m sp [] E0 ta tNil) := by
  obtain ⟨f, fd, M, F1, b⟩ := F.ex
  exact pe_meth0 ho c M F1 (hr.mono hk) b .nil pass0 ht
theorem pe_prp (c : Cls X.K C) (F : PrpAt X.prog X.w X.K X.mg X.base CX0 k C m ps sp) (hr : Room j X.A) (ho : PE X o ta) (hk : k + 1 ≤ j := by decide)
    (hab : attributeBase o m X.env (eval o X.env) = eval o X.env := by rfl) : PE X (.Attribute o m pos) (tProp C sp [] E0 ta) := by
  obtain ⟨pr, f, fd, M, F1, b⟩ := F.ex
  exact pe_prop ho c M F1 (hr.mono hk) b .nil pass0 hab
theorem op_neDK (K : PySem.W.Frag) (hr : Room j X.A) (h : X.K = K := by rfl) : OpR X (compareOp .NotEq) (rNeD K) := by
  subst h
  exact op_neD (by have := hr.un; omega)
theorem op_eqDK (K : PySem.W.Frag) (hr : Room j X.A) (h : X.K = K := by rfl) : OpR X (compareOp .Eq) (rEqD K) := by
  subst h
  exact op_eqD (by have := hr.un; omega)
/-- repr of an integer, of nothing -/
inductive rRepr (xs : List V) (H : Hp) (Q : VK) : Prop
  | int (i : Int) (h : xs = [.int i]) (hz : i.natAbs.log2 < 1920) (q : Q (.str (toString i)) H) : rRepr xs H Q
  | non (h : xs = [.non]) (q : Q (.str "None") H) : rRepr xs H Q
theorem call_repr : CallR X (.builtin "repr") rRepr := by
  intro pins s σ H xs us Q I r h
  cases h with
  | int i h hz q =>
    subst h
    obtain ⟨u, rfl, t, rfl⟩ := vals1 r
    exact PySem.P.repr_of_int hz ⟨.str _, H, I.tok _, ⟨_, rfl⟩, q⟩
  | non h q =>
    subst h
    obtain ⟨u, rfl, rfl⟩ := vals1 r
    exact PySem.P.repr_of_none ⟨.str _, H, I.tok _, ⟨_, rfl⟩, q⟩
end
/-- a slice of a list or a tuple: some sequence of these items -/
theorem slq {K : PySem.W.Frag} {H : Hp} {a : Addr} {xs : List V} {lo hi : Option Int} {Q : VK} (h : Sq K H a xs) (k : ∀ p H', Same H H' → Sq K H' p (cutV xs lo hi) → Q (.ref p) H') : rSlQ K (.ref a) lo hi H Q := by
  have new : ∀ {o : HO} {p : Addr}, H p = none → Same H (upd H p o) := fun hp b u hb => (upd_ne (ne_of_none hb hp)).trans hb
  rcases h with h | h
  · exact .inl ⟨a, xs, rfl, h, fun p hp => k p _ (new hp) (.l upd_same)⟩
  · by_cases hw : HT.sIx xs.length 0 lo = 0 ∧ HT.sIx xs.length xs.length hi = xs.length
    · refine .inr (.inr ⟨a, xs, rfl, h, hw, k a H (Same.refl H) ?_⟩)
      have e : cutV xs lo hi = xs := by
        unfold cutV
        rw [hw.1, hw.2]
        simp
      rw [e]
      exact .inr h
    · exact .inr (.inl ⟨a, xs, rfl, h, hw, fun p hp => k p _ (new hp) (.t upd_same)⟩)
/-! ### the box of draws -/
def bx (x y z : Int) : HO := .lst [.int x, .int y, .int z]
def Box (H : Hp) (b : Addr) : Prop := ∃ x y z : Int, H b = some (bx x y z)
/-- take(box, many): a number below many; the box is another one -/
def spTake : Sp := fun vs H Q _ => ∃ (b : Addr) (m : Int), vs = [.ref b, .int m] ∧ Box H b ∧ 0 < m ∧ m < 1073741824 ∧
  ∀ x y z d : Int, 0 ≤ d → d < m → Q (.int d) (upd H b (bx x y z))
/-- pick(box, some) -/
def spPick (K : PySem.W.Frag) : Sp := fun vs H Q _ => ∃ (b l : Addr) (xs : List V), vs = [.ref b, .ref l] ∧ Box H b ∧ Sq K H l xs ∧ l ≠ b ∧ 0 < xs.length ∧ xs.length < 1000 ∧
  ∀ (x y z : Int) (v : V), v ∈ xs → Q v (upd H b (bx x y z))
theorem Sq.upd {K : PySem.W.Frag} {H : Hp} {a b : Addr} {o : HO} {xs : List V} (hn : a ≠ b) (h : Sq K H a xs) : Sq K (upd H b o) a xs := by
  rcases h with h | h
  · rcases h with h | h
    · refine .inl (.inl ?_)
      rcases h with h | ⟨u, h⟩
      · exact .inl ((upd_ne hn).trans h)
      · exact .inr ⟨u, (upd_ne hn).trans h⟩
    · exact .inl (.inr h)
  · rcases h with h | h
    · refine .inr (.inl ?_)
      rcases h with h | ⟨u, h⟩
      · exact .inl ((upd_ne hn).trans h)
      · exact .inr ⟨u, (upd_ne hn).trans h⟩
    · exact .inr (.inr h)

/-! ### values -/
def isIntV : V → Bool
  | .int _ => true
  | _ => false
/-- what isinstance tells of a value: whether it is an integer, whether it is a list or a tuple -/
def HasT (K : PySem.W.Frag) (H : Hp) (x : V) (sq : Bool) : Prop := ∃ (t : Value) (b1 b2 : Bool), TyX K H x t ∧ PySem.W.kitOne K t (.type "int") = some b1 ∧ PySem.W.kitOne K t (.type "bool") = some b2 ∧ (b1 && !b2) = isIntV x ∧
  PySem.W.kitAny K t [.type "list", .type "tuple"] = some sq
section
variable {K : PySem.W.Frag} {H : Hp}
theorem hasT_non : HasT K H .non false := ⟨_, false, false, .base .non, kit_ty (by decide +kernel), kit_ty (by decide +kernel), rfl, by rw [kitAny_cons (kit_ty (b := "list") (r := false) (by decide +kernel)) (fun _ => kitAny_cons (kit_ty (b := "tuple") (r := false) (by decide +kernel)) (fun _ => rfl) (fun z => nomatch z)) (fun z => nomatch z)]⟩
theorem hasT_bl (b : Bool) : HasT K H (.bl b) false := ⟨_, true, true, .base (.bl b), kit_ty (by decide +kernel), kit_ty (by decide +kernel), rfl, by rw [kitAny_cons (kit_ty (b := "list") (r := false) (by decide +kernel)) (fun _ => kitAny_cons (kit_ty (b := "tuple") (r := false) (by decide +kernel)) (fun _ => rfl) (fun z => nomatch z)) (fun z => nomatch z)]⟩
theorem hasT_int (i : Int) : HasT K H (.int i) false := ⟨_, true, false, .base (.int i), kit_ty (by decide +kernel), kit_ty (by decide +kernel), rfl, by rw [kitAny_cons (kit_ty (b := "list") (r := false) (by decide +kernel)) (fun _ => kitAny_cons (kit_ty (b := "tuple") (r := false) (by decide +kernel)) (fun _ => rfl) (fun z => nomatch z)) (fun z => nomatch z)]⟩
theorem hasT_str (z : Str) : HasT K H (.str z) false := ⟨_, false, false, .base (.str z), kit_ty (by decide +kernel), kit_ty (by decide +kernel), rfl, by rw [kitAny_cons (kit_ty (b := "list") (r := false) (by decide +kernel)) (fun _ => kitAny_cons (kit_ty (b := "tuple") (r := false) (by decide +kernel)) (fun _ => rfl) (fun z => nomatch z)) (fun z => nomatch z)]⟩
theorem hasT_l {x : V} (h : TyX K H x (.type "list")) (hx : isIntV x = false) : HasT K H x true := ⟨_, false, false, h, kit_ty (by decide +kernel), kit_ty (by decide +kernel), hx.symm, by rw [kitAny_cons (kit_ty (b := "list") (r := true) (by decide +kernel)) (fun z => nomatch z) (fun z => rfl)]⟩
theorem hasT_t {x : V} (h : TyX K H x (.type "tuple")) (hx : isIntV x = false) : HasT K H x true := ⟨_, false, false, h, kit_ty (by decide +kernel), kit_ty (by decide +kernel), hx.symm, by rw [kitAny_cons (kit_ty (b := "list") (r := false) (by decide +kernel)) (fun _ => kitAny_cons (kit_ty (b := "tuple") (r := true) (by decide +kernel)) (fun z => nomatch z) (fun z => rfl)) (fun z => nomatch z)]⟩
theorem Sq.hasT {a : Addr} {xs : List V} (h : Sq K H a xs) : HasT K H (.ref a) true := by
  rcases h with h | h
  · refine hasT_l ?_ rfl
    rcases h with (h | ⟨o, h⟩) | ⟨o, its, n, h1, h2, _⟩
    · exact .base (.lst h)
    · exact .base (.frz h)
    · exact .kList h1 h2
  · refine hasT_t ?_ rfl
    rcases h with (h | ⟨o, h⟩) | ⟨o, its, n, h1, h2, _⟩
    · exact .base (.tup h)
    · exact .fTuple h
    · exact .kTuple h1 h2
end
theorem tyx_same {K : PySem.W.Frag} {H H' : Hp} {x : V} {t : Value} (e : Same H H') (h : TyX K H x t) : TyX K H' x t := by
  cases h with
  | base b =>
    cases b with
    | non => exact .base .non
    | bl y => exact .base (.bl y)
    | int i => exact .base (.int i)
    | str y => exact .base (.str y)
    | flt y => exact .base (.flt y)
    | lst ea => exact .base (.lst (e _ _ ea))
    | frz ea => exact .base (.frz (e _ _ ea))
    | tup ea => exact .base (.tup (e _ _ ea))
    | dK ea => exact .base (.dK (e _ _ ea))
    | dT ea => exact .base (.dT (e _ _ ea))
    | ins ea cl ha hn htk hm => exact .base (.ins (e _ _ ea) cl ha hn htk hm)
  | byt y => exact .byt y
  | set ea => exact .set (e _ _ ea)
  | kList a c => exact .kList a c
  | kTuple a c => exact .kTuple a c
  | kDict a c => exact .kDict a c
  | fTuple ea => exact .fTuple (e _ _ ea)
  | fDict ea => exact .fDict (e _ _ ea)
theorem HasT.ex {K : PySem.W.Frag} {H H' : Hp} {x : V} {sq : Bool} (e : Same H H') (h : HasT K H x sq) : HasT K H' x sq := by
  obtain ⟨t, b1, b2, ty, r⟩ := h
  exact ⟨t, b1, b2, tyx_same e ty, r⟩
/-! ### readings opened one step -/
section
variable {σ : L2.St} {H : Hp} {Q : VK} {D : Ends} {te : TE} {t : TA} {tu tz : TS} {g : TG} {r : List V → Hp → VK → Prop}
theorem q_seq (h : tu { D with nx := tz D } σ H) : tSeq tu tz D σ H := h
theorem q_asg (h : te σ H (fun x H1 => g x σ H1 D.nx)) : tAsg te g D σ H := h
theorem q_if {tc : TT} (h : tc σ H (fun c H1 => if c = true then tu D σ H1 else tz D σ H1)) : tIfS tc tu tz D σ H := h
theorem q_name {i : Nat} {v : V} {R : L2.St → Hp → Prop} (h : R (σ.set i (some v)) H) : gName i v σ H R := h
theorem q_ret (h : te σ H D.rt) : tRet te D σ H := h
theorem q_cb (h : t σ H (fun vs H1 => r vs H1 Q)) : tCB r t σ H Q := h
theorem q_one {R : List V → Hp → Prop} (h : te σ H (fun x H1 => R [x] H1)) : tCons te tNil σ H R := h
theorem q_cons {R : List V → Hp → Prop} (h : te σ H (fun x H1 => t σ H1 fun xs H2 => R (x :: xs) H2)) : tCons te t σ H R := h
theorem q_call {sp : Sp} {dvs : List V} {E : XK} (h : t σ H (fun vs H1 => sp (vs ++ dvs) H1 Q E)) : tCall sp dvs E t σ H Q := h
end
/-! ### comprehensions -/
theorem wipe1 {σ : L2.St} {j : Nat} {x : Option V} : wipe ((wipe σ [j]).set j x) [j] = wipe σ [j] := by
  show ((σ.set j none).set j x).set j none = σ.set j none
  rw [List.set_set, List.set_set]
theorem same_app {H H' : Hp} {D : Addr} {xs : List V} (e : Same H H') (h : H D = none) : Same H (upd H' D (.lst xs)) := fun a o ha => by
  rw [upd_ne (ne_of_none ha h)]
  exact e a o ha
/-- [e for x in xs], e a value of x; xs evaluated on the way -/
theorem lc_sqG {K : PySem.W.Frag} {σ : L2.St} {H : Hp} {Q : VK} {tl te : TE} {j : Nat} {xs : List V} (φ : V → V) (hv : ∀ R : VK, (∀ a H', Same H H' → Sq K H' a xs → R (.ref a) H') → tl σ H R) (hl : xs.length ≤ 100000)
    (he : ∀ x ∈ xs, ∀ H1, Same H H1 → ∀ R : VK, (∀ H2, Same H1 H2 → R (φ x) H2) → te ((wipe σ [j]).set j (some x)) H1 R)
    (k : ∀ D H', Same H H' → H D = none → H' D = some (.lst (xs.map φ)) → Q (.ref D) H') : tLc (iSeq K tl) (gName j) tYes te [j] σ H Q := by
  refine hv _ fun a H0 s0 hq => ⟨a, rfl, ?_⟩
  have turn : ∀ (D : Addr), H0 D = none → ∀ i x Hc, xs[i]? = some x → (Same H0 Hc ∧ Hc D = some (.lst ((xs.take i).map φ))) → gName j x (wipe σ [j]) Hc fun σ2 H2 => wipe σ2 [j] = wipe σ [j] ∧ tYes σ2 H2 fun b H3 =>
      if b = true then te σ2 H3 fun y H4 => ∃ acc, H4 D = some (.lst acc) ∧ acc.length < sizeLine ∧ (Same H0 (upd H4 D (.lst (acc ++ [y]))) ∧ (upd H4 D (.lst (acc ++ [y]))) D = some (.lst ((xs.take (i + 1)).map φ))) else (Same H0 H3 ∧ H3 D = some (.lst ((xs.take (i + 1)).map φ))) := by
    intro D hD i x Hc hx ⟨sm, hd⟩
    refine ⟨wipe1, ?_⟩
    refine he x (List.mem_of_getElem? hx) Hc (s0.trans sm) _ fun H2 s2 => ⟨_, s2 _ _ hd, ?_, same_app (sm.trans s2) hD, ?_⟩
    · rw [List.length_map, List.length_take]
      exact Nat.lt_of_le_of_lt (Nat.le_trans (Nat.min_le_right _ _) hl) (by decide)
    · rw [upd_same, List.take_add_one, hx, List.map_append]
      rfl
  rcases hq with hq | hq
  · refine .inl ⟨⟨xs, hq⟩, fun D hD => ?_⟩
    refine lc_list (K := K) (a := a) (xs := xs) (fun i Hc => Same H0 Hc ∧ Hc D = some (.lst ((xs.take i).map φ))) ⟨same_app (Same.refl H0) hD, upd_same⟩ (fun i Hc _ p => Evl.ex_l p.1 hq) (turn D hD) fun Hc p => ?_
    rw [List.take_length] at p
    exact k D Hc (s0.trans p.1) (s0.free hD) p.2
  · refine .inr ⟨⟨xs, hq⟩, fun D hD => ?_⟩
    refine lc_tup (K := K) (a := a) (xs := xs) (fun i Hc => Same H0 Hc ∧ Hc D = some (.lst ((xs.take i).map φ))) ⟨same_app (Same.refl H0) hD, upd_same⟩ (fun i Hc _ p => Evl.ex_t p.1 hq) (turn D hD) fun Hc p => ?_
    rw [List.take_length] at p
    exact k D Hc (s0.trans p.1) (s0.free hD) p.2
theorem lc_sq {K : PySem.W.Frag} {σ : L2.St} {H : Hp} {Q : VK} {tl te : TE} {a : Addr} {j : Nat} {xs : List V} (φ : V → V) (hv : ∀ R : VK, R (.ref a) H → tl σ H R) (hq : Sq K H a xs) (hl : xs.length ≤ 100000)
    (he : ∀ x ∈ xs, ∀ H1, Same H H1 → ∀ R : VK, (∀ H2, Same H1 H2 → R (φ x) H2) → te ((wipe σ [j]).set j (some x)) H1 R)
    (k : ∀ D H', Same H H' → H D = none → H' D = some (.lst (xs.map φ)) → Q (.ref D) H') : tLc (iSeq K tl) (gName j) tYes te [j] σ H Q :=
  lc_sqG φ (fun R r => hv R (r a H (Same.refl H) hq)) hl he k
/-- [e for x in range(..)] -/
theorem lc_rg {σ : L2.St} {H : Hp} {Qd : Hp → Prop} {te : TE} {j n : Nat} {lo : Int} {D : Addr} (φ : Nat → V) (hl : n ≤ 100000) (hD : H D = none)
    (he : ∀ i, i < n → ∀ H1, Same H H1 → ∀ R : VK, (∀ H2, Same H1 H2 → R (φ i) H2) → te ((wipe σ [j]).set j (some (.int (lo + i)))) H1 R)
    (k : ∀ H', Same H H' → H' D = some (.lst ((List.range n).map φ)) → Qd H') :
    ∃ W : Nat → Nat → Hp → Prop, (∃ m, W 0 m (upd H D (.lst []))) ∧ ∀ i m H, W i m H →
      ((Itr lo n).stop i H ∧ Qd H) ∨ ((Itr lo n).go i H ∧ ∃ Nx : Hp → Prop, (∀ H', Nx H' → ∃ m', m' < m ∧ W (i + 1) m' H') ∧ ∀ x H', (Itr lo n).yld i H x H' → gName j x (wipe σ [j]) H' fun σ2 H2 => wipe σ2 [j] = wipe σ [j] ∧ tYes σ2 H2 fun b H3 =>
        if b = true then te σ2 H3 fun y H4 => ∃ acc, H4 D = some (.lst acc) ∧ acc.length < sizeLine ∧ Nx (upd H4 D (.lst (acc ++ [y]))) else Nx H3) := by
  refine lc_range (fun i Hc => Same H Hc ∧ Hc D = some (.lst ((List.range i).map φ))) ⟨same_app (Same.refl H) hD, upd_same⟩ (fun i Hc hi ⟨sm, hd⟩ => ⟨wipe1, ?_⟩) fun Hc p => k Hc p.1 p.2
  refine he i hi Hc sm _ fun H2 s2 => ⟨_, s2 _ _ hd, ?_, same_app (sm.trans s2) hD, ?_⟩
  · rw [List.length_map, List.length_range]
    exact Nat.lt_of_lt_of_le (Nat.lt_of_lt_of_le hi hl) (by decide)
  · rw [upd_same, List.range_succ, List.map_append]
    rfl
/-- [e for x in range(..) if test] -/
theorem lc_rgF {σ : L2.St} {H : Hp} {Qd : Hp → Prop} {tt : TT} {te : TE} {j n : Nat} {lo : Int} {D : Addr} (p : Nat → Bool) (φ : Nat → V) (hl : n ≤ 100000) (hD : H D = none)
    (ht : ∀ i, i < n → ∀ H1, Same H H1 → ∀ R : Bool → Hp → Prop, (∀ H2, Same H1 H2 → R (p i) H2) → tt ((wipe σ [j]).set j (some (.int (lo + i)))) H1 R)
    (he : ∀ i, i < n → ∀ H1, Same H H1 → ∀ R : VK, (∀ H2, Same H1 H2 → R (φ i) H2) → te ((wipe σ [j]).set j (some (.int (lo + i)))) H1 R)
    (k : ∀ H', Same H H' → H' D = some (.lst (((List.range n).filter p).map φ)) → Qd H') :
    ∃ W : Nat → Nat → Hp → Prop, (∃ m, W 0 m (upd H D (.lst []))) ∧ ∀ i m H, W i m H →
      ((Itr lo n).stop i H ∧ Qd H) ∨ ((Itr lo n).go i H ∧ ∃ Nx : Hp → Prop, (∀ H', Nx H' → ∃ m', m' < m ∧ W (i + 1) m' H') ∧ ∀ x H', (Itr lo n).yld i H x H' → gName j x (wipe σ [j]) H' fun σ2 H2 => wipe σ2 [j] = wipe σ [j] ∧ tt σ2 H2 fun b H3 =>
        if b = true then te σ2 H3 fun y H4 => ∃ acc, H4 D = some (.lst acc) ∧ acc.length < sizeLine ∧ Nx (upd H4 D (.lst (acc ++ [y]))) else Nx H3) := by
  refine lc_range (fun i Hc => Same H Hc ∧ Hc D = some (.lst (((List.range i).filter p).map φ))) ⟨same_app (Same.refl H) hD, upd_same⟩ (fun i Hc hi ⟨sm, hd⟩ => ⟨wipe1, ?_⟩) fun Hc q => k Hc q.1 q.2
  refine ht i hi Hc sm _ fun H1 s1 => ?_
  cases hp : p i with
  | false =>
    refine ⟨sm.trans s1, ?_⟩
    rw [List.range_succ, List.filter_append, List.filter_cons, if_neg (by rw [hp]; decide), List.filter_nil, List.append_nil]
    exact s1 _ _ hd
  | true =>
    refine he i hi H1 (sm.trans s1) _ fun H2 s2 => ⟨_, s2 _ _ (s1 _ _ hd), ?_, same_app ((sm.trans s1).trans s2) hD, ?_⟩
    · rw [List.length_map]
      have e := List.length_filter_le p (List.range i)
      rw [List.length_range] at e
      exact Nat.lt_of_le_of_lt e (Nat.lt_of_lt_of_le (Nat.lt_of_lt_of_le hi hl) (by decide))
    · rw [upd_same, List.range_succ, List.filter_append, List.filter_cons, if_pos hp, List.filter_nil, List.map_append]
      rfl
/-- [x for x in xs if test] -/
theorem lc_sqF {K : PySem.W.Frag} {σ : L2.St} {H : Hp} {Q : VK} {tl te : TE} {tt : TT} {j : Nat} {xs : List V} (p : V → Bool) (hv : ∀ R : VK, (∀ a H', Same H H' → Sq K H' a xs → R (.ref a) H') → tl σ H R) (hl : xs.length ≤ 100000)
    (ht : ∀ x ∈ xs, ∀ H1, Same H H1 → ∀ R : Bool → Hp → Prop, (∀ H2, Same H1 H2 → R (p x) H2) → tt ((wipe σ [j]).set j (some x)) H1 R)
    (he : ∀ x ∈ xs, ∀ H1, Same H H1 → ∀ R : VK, (∀ H2, Same H1 H2 → R x H2) → te ((wipe σ [j]).set j (some x)) H1 R)
    (k : ∀ D H', Same H H' → H D = none → H' D = some (.lst (xs.filter p)) → Q (.ref D) H') : tLc (iSeq K tl) (gName j) tt te [j] σ H Q := by
  refine hv _ fun a H0 s0 hq => ⟨a, rfl, ?_⟩
  have turn : ∀ (D : Addr), H0 D = none → ∀ i x Hc, xs[i]? = some x → (Same H0 Hc ∧ Hc D = some (.lst ((xs.take i).filter p))) → gName j x (wipe σ [j]) Hc fun σ2 H2 => wipe σ2 [j] = wipe σ [j] ∧ tt σ2 H2 fun b H3 =>
      if b = true then te σ2 H3 fun y H4 => ∃ acc, H4 D = some (.lst acc) ∧ acc.length < sizeLine ∧ (Same H0 (upd H4 D (.lst (acc ++ [y]))) ∧ (upd H4 D (.lst (acc ++ [y]))) D = some (.lst ((xs.take (i + 1)).filter p))) else (Same H0 H3 ∧ H3 D = some (.lst ((xs.take (i + 1)).filter p))) := by
    intro D hD i x Hc hx ⟨sm, hd⟩
    refine ⟨wipe1, ?_⟩
    have mx := List.mem_of_getElem? hx
    refine ht x mx Hc (s0.trans sm) _ fun H1 s1 => ?_
    cases hp : p x with
    | false =>
      refine ⟨sm.trans s1, ?_⟩
      rw [List.take_add_one, hx, List.filter_append]
      show H1 D = some (.lst ((xs.take i).filter p ++ [x].filter p))
      rw [List.filter_cons, if_neg (by rw [hp]; decide), List.filter_nil, List.append_nil]
      exact s1 _ _ hd
    | true =>
      refine he x mx H1 (s0.trans (sm.trans s1)) _ fun H2 s2 => ⟨_, s2 _ _ (s1 _ _ hd), ?_, same_app ((sm.trans s1).trans s2) hD, ?_⟩
      · have e := List.length_filter_le p (xs.take i)
        rw [List.length_take] at e
        exact Nat.lt_of_le_of_lt (Nat.le_trans e (Nat.le_trans (Nat.min_le_right _ _) hl)) (by decide)
      · rw [upd_same, List.take_add_one, hx, List.filter_append]
        show some (HO.lst ((xs.take i).filter p ++ [x])) = some (.lst ((xs.take i).filter p ++ [x].filter p))
        rw [List.filter_cons, if_pos hp, List.filter_nil]
  rcases hq with hq | hq
  · refine .inl ⟨⟨xs, hq⟩, fun D hD => ?_⟩
    refine lc_list (K := K) (a := a) (xs := xs) (fun i Hc => Same H0 Hc ∧ Hc D = some (.lst ((xs.take i).filter p))) ⟨same_app (Same.refl H0) hD, upd_same⟩ (fun i Hc _ r => Evl.ex_l r.1 hq) (turn D hD) fun Hc r => ?_
    rw [List.take_length] at r
    exact k D Hc (s0.trans r.1) (s0.free hD) r.2
  · refine .inr ⟨⟨xs, hq⟩, fun D hD => ?_⟩
    refine lc_tup (K := K) (a := a) (xs := xs) (fun i Hc => Same H0 Hc ∧ Hc D = some (.lst ((xs.take i).filter p))) ⟨same_app (Same.refl H0) hD, upd_same⟩ (fun i Hc _ r => Evl.ex_t r.1 hq) (turn D hD) fun Hc r => ?_
    rw [List.take_length] at r
    exact k D Hc (s0.trans r.1) (s0.free hD) r.2
theorem same_new {H : Hp} {p : Addr} {o : HO} (h : H p = none) : Same H (upd H p o) := fun _ _ ha => (upd_ne (ne_of_none ha h)).trans ha
/-! ### the head's facts -/
section
def obsW (n : Nat) (fa : List He.Fa) (fn : List He5.DefA) (ex : PySem.W.Frag → Bool) (g : Addr → Option Obj) : He.AlD × Bool := (He5.obsA fa fn (He.frG g (He.asD g n)), ex (He.frG g (He.asD g n)))
def SaysW (fa : List He.Fa) (fn : List He5.DefA) (ex : PySem.W.Frag → Bool) (K : PySem.W.Frag) : Prop := He5.SaysA fa fn K ∧ ex K = true
def hookW (n : Nat) (fa : List He.Fa) (fn : List He5.DefA) (ex : PySem.W.Frag → Bool) : PySem.W.Hook where
  α := He.AlD × Bool
  obs := fun s => obsW n fa fn ex s.heap.get?
  val := fun _ => (He5.valA fn, true)
  says := fun _ h => ∃ K : PySem.W.Frag, K.In h ∧ SaysW fa fn ex K
  of := fun _ s e => ⟨He.frG s.heap.get? (He.asD s.heap.get? n), He.frG_in, congrArg Prod.fst e, congrArg Prod.snd e⟩
  keeps := fun _ _ _ ⟨K, hK, c⟩ k => ⟨K, PySem.W.Frag.In.keeps hK k, c⟩
theorem obsW_eq {n : Nat} {fa : List He.Fa} {fn : List He5.DefA} {ex : PySem.W.Frag → Bool} {g : Addr → Option Obj} {s : Shared} (h : ∀ a, g a = s.heap.get? a) : obsW n fa fn ex g = (hookW n fa fn ex).obs s := by
  rw [show g = s.heap.get? from funext h]
  rfl
/-- a property of a class, as the head tells it -/
def propB (K : PySem.W.Frag) (C : Addr) (f : Str) : Bool :=
  He.eqO (PySem.W.findIn K (.ref C) f) (some (some (.ref (He.ma K C f)))) && (He.eqO (PySem.W.specialIn K (.ref (He.ma K C f)) "__get__") (some (some (.builtin "property.__get__"))) && (decide (PySem.W.takesIn K (.ref (He.ma K C f)) = some true) &&
    (match PySem.W.recIn K (He.ma K C f) "property" with
      | some (.ref _ :: _) => true
      | _ => false)))
theorem propB_ok {K : PySem.W.Frag} {C : Addr} {f : Str} (h : propB K C f = true) : PropOf K C f (He.ma K C f) (He5.wf K C "property" f) := by
  obtain ⟨h1, h⟩ := He.ba h
  obtain ⟨h2, h⟩ := He.ba h
  obtain ⟨h3, h4⟩ := He.ba h
  refine ⟨He.eqO_ok h1, He.eqO_ok h2, of_decide_eq_true h3, ?_⟩
  unfold He5.wf
  revert h4
  cases e : PySem.W.recIn K (He.ma K C f) "property" with
  | none => exact fun z => nomatch z
  | some l =>
    cases l with
    | nil => exact fun z => nomatch z
    | cons v r =>
      cases v with
      | ref g => exact fun _ => ⟨r, rfl⟩
      | _ => exact fun z => nomatch z
end
end WW

set_option Elab.async false
set_option linter.all false
set_option maxRecDepth 100000
set_option maxHeartbeats 4000000
namespace WW
open PySem PySem.Spec PyProof.Rows L2
/-! ### == and != by an own __eq__ -/
section
variable {X : Cx} {CX : CXT} {k : Nat} {C f : Addr} {fd : FuncData} {ps : List Str} {sp : Sp}
/-- the def at f called with two values, somewhere below the body -/
theorem run2 {A : Around} {pins : List (Addr × Obj)} {σ : L2.St} {H : Hp} {s : Shared} {Q : VK} {x y : V} {u v : Value} (F : FnOk X.prog X.w X.K X.mg X.base CX0 k f fd ps sp) (hA : Room k A) (hf : A.frames = X.A.frames) (b : Binds X.K fd ps [])
    (I : Inv X pins σ H s) (rx : RelV x u) (ry : RelV y v) (h : sp [x, y] H Q E0) : wpAny (model X.prog X.w) A (call (.ref f) [u, v]) (EP X pins σ Q) X.xe s := by
  have i0 := I.env0
  have i1 : Env0 X.prog X.w X.K X.mg X.base A X.stack s H := ⟨hf.trans i0.frames, i0.mod, i0.bs, i0.bsz, i0.funs, i0.frf, i0.hok, i0.bare⟩
  have n2 : [u, v].length = ps.length := (show [u, v].length = [x, y].length from rfl).trans (F.len _ _ _ _ h)
  have bt : BindsTo s fd ⟨[u, v], []⟩ (ps.zip [u, v]) := by
    have z := b s [u, v] I.kIn (by rw [List.append_nil]; exact n2)
    rw [List.append_nil] at z
    exact z
  refine wpAny_call (codeAny_mono (F.run A X.stack s H ⟨[u, v], []⟩ [u, v] [x, y] Q E0 hA i1 bt (.cons rx (.cons ry .nil)) h) fun r s' hq => ?_)
  cases r with
  | error e => exact (pass0 (X := X) pins σ H s e s' I hq)
  | ok fl =>
    cases fl with
    | ret z => exact I.after hq
    | next => exact hq.elim
    | brk => exact hq.elim
    | cont => exact hq.elim
/-- the class at C has its own __eq__ (at f) and no __ne__ -/
structure EqC (K : PySem.W.Frag) (C f : Addr) : Prop where
  eq : PySem.W.findIn K (.ref C) "__eq__" = some (some (.ref f))
  fn : PySem.W.isFn K (.ref f) = true
  ne : PySem.W.findIn K (.ref C) "__ne__" = some (some (.builtin "object.__ne__"))
  ob : PySem.W.mroIn K C (.type "object") = some true
structure EqAtC (P : Program) (w : World) (K : PySem.W.Frag) (mg : Str → Option Value) (base : Heap) (CX : CXT) (k : Nat) (C : Addr) (ps : List Str) (sp : Sp) : Prop where
  ex : ∃ f fd, EqC K C f ∧ FnOk P w K mg base CX k f fd ps sp ∧ Binds K fd ps []
/-- x == y, x != y, x an instance of the class at C -/
inductive rOwn (K : PySem.W.Frag) (C : Addr) (sp : Sp) (neg : Bool) (x y : V) (H : Hp) (Q : VK) : Prop
  | mk (a dx : Addr) (fs : List (Str × V)) (t : Value) (e : x = .ref a) (ha : H a = some (.ins C dx fs)) (ht : TyX K H y t) (hn : PySem.W.notFirst K C t = true) (h : sp [x, y] H (fun v H' => ∃ b, v = .bl b ∧ Q (.bl (if neg then !b else b)) H') E0) : rOwn K C sp neg x y H Q
theorem op_eqO (K : PySem.W.Frag) {j : Nat} (F : EqAtC X.prog X.w X.K X.mg X.base CX0 k C ps sp) (hr : Room j X.A) (hk : k ≤ j := by decide) (hK : X.K = K := by rfl) : OpR X (compareOp .Eq) (rOwn K C sp false) := by
  subst hK
  obtain ⟨f, fd, ec, FN, b⟩ := F.ex
  intro pins s σ H x y u v Q I rx ry h
  cases h with
  | mk a dx fs t e ha ht hn h =>
    subst e
    cases rx
    obtain ⟨mA, O, _⟩ := ins_get I.hok ha
    obtain ⟨od, J, _⟩ := O.look
    obtain ⟨Pk, Z, pz, _⟩ := kit_of I ry ht
    obtain ⟨m, hF⟩ := I.fr
    unfold compareOp
    refine PySem.W.cmp_K (op := .Eq) (tb := t) (by have := hr.un; omega) hF I.ok.mod.kin J (Z.ty _ _ I.kIn pz) hn ec.eq ec.fn (wpAny_mono (run2 (x := .ref a) FN (hr.mono hk) rfl b I rfl ry h) (fun z s' hz => ?_) fun _ _ e => e)
    obtain ⟨w1, H1, I1, r1, b1, rfl, q1⟩ := hz
    cases r1
    exact ⟨.bl b1, H1, I1, rfl, q1⟩
theorem ne_bound {M : Model} {A : Around} {E : Value → Shared → Prop} {s : Shared} {K : PySem.W.Frag} {x : Addr} {ox : Obj} {od : Option Obj} {rest : List Value} {R : Option Value → Shared → Prop} (hK : K.In s.heap) (J : PySem.W.InstAt s.heap x ox C od) (hc : PySem.W.findIn K (.ref C) "__ne__" = some (some (.builtin "object.__ne__")))
    (q : wpAny M A (call (.builtin "object.__ne__") (.ref x :: rest)) (fun v => R (some v)) E s) : wpAny M A (callSpecialIfBound? (.ref x) "__ne__" rest) R E s := by
  simp only [callSpecialIfBound?, bindSpecialIfBound?]
  refine wpAny_holding (wpAny_bind (wpAny_bind (wpAny_bind (J.type.here ((PySem.W.looks_findIn hK hc).here (wpAny_bind (wpAny_askSetting (wpAny_ite ?_))))))))
  have last : wpAny M A (call (.builtin "object.__ne__") ([.ref x] ++ rest) >>= fun v => pure (some v)) R E s := wpAny_bind (wpAny_mono q (fun v s' hv => wpAny_pure hv) fun _ _ z => z)
  split
  · exact wpAny_bind (wpAny_of_eq (F.cmp_object.ne.bind _) (wpAny_pure (by exact last)))
  · exact wpAny_tryCatch (wpAny_bind (wpAny_of_eq (F.cmp_object.ne.bind _) (wpAny_pure (by exact last))))
theorem ne_entry {prog : Program} {w : World} {A : Around} {E : Value → Shared → Prop} {s : Shared} {K : PySem.W.Frag} {x : Addr} {v : Value} {ox : Obj} {od : Option Obj} {R : Fin → Shared → Prop} (hu : A.units < cLine) (hK : K.In s.heap) (J : PySem.W.InstAt s.heap x ox C od) (ec : EqC K C f)
    (q : wpAny (model prog w) A (call (.ref f) [.ref x, v]) (fun r s' => ∃ b, r = .bool b ∧ R (.done (.ret (.bool (!b)))) s') E s) : wpAny (model prog w) A (Builtin.«object.__ne__» ⟨[.ref x, v], []⟩) R E s := by
  unfold Builtin.«object.__ne__»
  repeat (first
    | with_reducible refine wpAny_cRoomFor hu ?_
    | (refine wpAny_bind (m := callSpecialIfBound? (.ref x) (Str.ofString "__eq__") [v]) (PySem.W.ifBound_K hK J ec.eq ec.fn (wpAny_mono q (fun r s' hr => by
          obtain ⟨b, rfl, hq⟩ := hr
          repeat (first | exact hq | exact wpAny_pure hq | exact wpAny_truthy_bool hq | (refine wpAny_bind (m := truthy (.bool _)) (wpAny_truthy_bool ?_)) | wp_step)) fun _ _ e => e)))
    | wp_step)
theorem op_neO (K : PySem.W.Frag) {j : Nat} (F : EqAtC X.prog X.w X.K X.mg X.base CX0 k C ps sp) (hr : Room j X.A) (hk : k + 1 ≤ j := by decide) (hK : X.K = K := by rfl) : OpR X (compareOp .NotEq) (rOwn K C sp true) := by
  subst hK
  obtain ⟨f, fd, ec, FN, b⟩ := F.ex
  intro pins s σ H x y u v Q I rx ry h
  cases h with
  | mk a dx fs t e ha ht hn h =>
    subst e
    cases rx
    obtain ⟨mA, O, _⟩ := ins_get I.hok ha
    obtain ⟨od, J, _⟩ := O.look
    obtain ⟨Pk, Z, pz, _⟩ := kit_of I ry ht
    have hu : X.A.units + 1 < cLine := by have := hr.un; omega
    have go : wpAny (model X.prog X.w) X.A (tryCompare (.ref a) "__ne__" v) (fun r s' => ∃ b1, r = some (.bool (!b1)) ∧ EP X pins σ Q (.bool (!b1)) s') X.xe s := by
      unfold tryCompare
      refine wpAny_bind (ne_bound I.kIn J ec.ne (wpAny_call (codeAny_call_builtin PySem.F.cmp_object.ne.plain PySem.F.cmpEntry_ne (PySem.W.check_slot PySem.F.cmpKind_ne PySem.F.cmpSplit_ne (J.type.andThen (PySem.W.looks_mroIn I.kIn ec.ob)) (PySem.F.cmpArgs_ne _ _)
        (ne_entry (A := X.A.in1) hu I.kIn J ec (wpAny_mono (run2 (x := .ref a) FN (hr.mono hk).in1 rfl b I rfl ry h) (fun z s' hz => ?_) fun _ _ e => e))))))
      obtain ⟨w1, H1, I1, r1, b1, rfl, q1⟩ := hz
      cases r1
      exact ⟨b1, rfl, wpAny_pure ⟨b1, rfl, .bl (!b1), H1, I1, rfl, q1⟩⟩
    unfold compareOp richCompare
    simp only [oneThing_ref]
    refine wpAny_holding (wpAny_bind (wpAny_cRoomFor (by omega) ?_))
    refine wpAny_bind (J.type.here (wpAny_bind ((Z.ty _ _ I.kIn pz).here ?_)))
    split
    · rename_i c0
      have sf : PySem.W.subIn X.K t (.ref C) = some false := by
        rcases Bool.or_eq_true_iff.mp hn with e | e
        · rw [beq_iff_eq.mp e] at c0
          simp at c0
        · exact beq_iff_eq.mp e
      refine wpAny_bind ((PySem.W.looks_subIn I.kIn sf).here ?_)
      simp only [Bool.false_eq_true, if_false]
      refine wpAny_bind (wpAny_mono go (fun r s1 z => ?_) fun _ _ e => e)
      obtain ⟨b1, rfl, h1⟩ := z
      exact wpAny_pure h1
    · refine wpAny_bind (wpAny_pure ?_)
      simp only [Bool.false_eq_true, if_false]
      refine wpAny_bind (wpAny_mono go (fun r s1 z => ?_) fun _ _ e => e)
      obtain ⟨b1, rfl, h1⟩ := z
      exact wpAny_pure h1
end
end WW

set_option Elab.async false
set_option linter.all false
set_option maxRecDepth 100000
set_option maxHeartbeats 4000000
namespace WW
open PySem PySem.Spec PyProof.Rows L2
/-! ### str(x) by an own __str__ -/
section
variable {X : Cx} {CX : CXT} {k : Nat} {C f : Addr} {fd : FuncData} {ps : List Str} {sp : Sp}
theorem run1 {A : Around} {pins : List (Addr × Obj)} {σ : L2.St} {H : Hp} {s : Shared} {Q : VK} {x : V} {u : Value} (F : FnOk X.prog X.w X.K X.mg X.base CX0 k f fd ps sp) (hA : Room k A) (hf : A.frames = X.A.frames) (b : Binds X.K fd ps [])
    (I : Inv X pins σ H s) (rx : RelV x u) (h : sp [x] H Q E0) : wpAny (model X.prog X.w) A (call (.ref f) [u]) (EP X pins σ Q) X.xe s := by
  have i0 := I.env0
  have i1 : Env0 X.prog X.w X.K X.mg X.base A X.stack s H := ⟨hf.trans i0.frames, i0.mod, i0.bs, i0.bsz, i0.funs, i0.frf, i0.hok, i0.bare⟩
  have n2 : [u].length = ps.length := (show [u].length = [x].length from rfl).trans (F.len _ _ _ _ h)
  have bt : BindsTo s fd ⟨[u], []⟩ (ps.zip [u]) := by
    have z := b s [u] I.kIn (by rw [List.append_nil]; exact n2)
    rw [List.append_nil] at z
    exact z
  refine wpAny_call (codeAny_mono (F.run A X.stack s H ⟨[u], []⟩ [u] [x] Q E0 hA i1 bt (.cons rx .nil) h) fun r s' hq => ?_)
  cases r with
  | error e => exact (pass0 (X := X) pins σ H s e s' I hq)
  | ok fl =>
    cases fl with
    | ret z => exact I.after hq
    | next => exact hq.elim
    | brk => exact hq.elim
    | cont => exact hq.elim
structure StrAtC (P : Program) (w : World) (K : PySem.W.Frag) (mg : Str → Option Value) (base : Heap) (CX : CXT) (k : Nat) (C : Addr) (ps : List Str) (sp : Sp) : Prop where
  ex : ∃ f fd, PySem.W.findIn K (.ref C) "__str__" = some (some (.ref f)) ∧ PySem.W.isFn K (.ref f) = true ∧ FnOk P w K mg base CX k f fd ps sp ∧ Binds K fd ps []
inductive rStrO (C : Addr) (sp : Sp) (xs : List V) (H : Hp) (Q : VK) : Prop
  | mk (a dx : Addr) (fs : List (Str × V)) (e : xs = [.ref a]) (ha : H a = some (.ins C dx fs)) (h : sp [.ref a] H (fun v H' => ∃ z, v = .str z ∧ Q (.str z) H') E0) : rStrO C sp xs H Q
theorem call_strO {j : Nat} (F : StrAtC X.prog X.w X.K X.mg X.base CX0 k C ps sp) (hr : Room j X.A) (hk : k + 2 ≤ j := by decide) : CallR X (.type "str") (rStrO C sp) := by
  obtain ⟨f, fd, e1, e2, FN, b⟩ := F.ex
  intro pins s σ H xs us Q I r h
  cases h with
  | mk a dx fs e ha h =>
    subst e
    obtain ⟨u, rfl, ru⟩ := vals1 r
    cases ru
    obtain ⟨mA, O, _⟩ := ins_get I.hok ha
    obtain ⟨od, J, _⟩ := O.look
    have r2 := (hr.mono hk).in1.in1
    refine PySem.W.kso_call (by have := r2.un; omega) I.kIn J e1 e2 (wpAny_mono (run1 (x := .ref a) FN r2 rfl b I rfl h) (fun z s' hz => ?_) fun _ _ e => e)
    obtain ⟨w1, H1, I1, r1, z1, rfl, q1⟩ := hz
    obtain ⟨t, rfl⟩ := r1
    exact ⟨.str z1, H1, I1, ⟨t, rfl⟩, q1⟩
end
/-! ### sep.join(..) with the written part named -/
inductive rJoin (K : PySem.W.Frag) (x : V) (xs : List V) (H : Hp) (Q : VK) : Prop
  | mk (a : Str) (p : Addr) (ys : List Str) (e : x = .str a) (e2 : xs = [.ref p]) (h : Sq K H p (ys.map V.str)) (hz : (ys.map (·.length)).sum + ys.length * a.length ≤ 16777216) (q : Q (.str (Txt.join a ys)) H) : rJoin K x xs H Q
theorem mt_joinK {X : Cx} (K : PySem.W.Frag) (h : X.K = K := by rfl) : MtR X "str.join" (rJoin K) := by
  subst h
  intro pins s σ H x xs v us Q I rx rs h
  cases h with
  | mk a p ys e e2 h hz q => exact mt_join pins s σ H x xs v us Q I rx rs ⟨a, p, ys, e, e2, h, hz, q⟩
theorem pe_joinK {X : Cx} (K : PySem.W.Frag) {o e : Expr} {to te : TE} {apos pos : Pos} (ho : PE X o to) (he : PE X e te) (hK : X.K = K := by rfl) (hs : starEach [e] X.env = [(false, eval e X.env)] := by rfl) (hbase : attributeBase o "join" X.env (eval o X.env) = eval o X.env := by rfl) (hline : (apos.endLine == pos.line) = true := by rfl) :
    PE X (.Call (.Attribute o "join" apos) [e] [] pos) (tM1 (rJoin K) to te) :=
  pe_m1 F.slot_str_join F.type_str_join (mt_joinK K hK) ho he hs hbase hline
theorem q_star {K : PySem.W.Frag} {σ : L2.St} {H : Hp} {te : TE} {t : TA} {R : List V → Hp → Prop} (h : te σ H fun x H1 => ∃ p xs, x = V.ref p ∧ (SqT K H1 p xs ∨ SqL K H1 p xs) ∧ t σ H1 fun ys H2 => R (xs ++ ys) H2) : StX.tStar K te t σ H R := h
theorem q_c {σ : L2.St} {H : Hp} {v : V} {R : VK} (h : R v H) : tC v σ H R := h
theorem q_ifE {σ : L2.St} {H : Hp} {R : VK} {tt : TT} {ta tb : TE} (h : tt σ H fun c H1 => if c = true then ta σ H1 R else tb σ H1 R) : tIf tt ta tb σ H R := h
theorem q_tst {σ : L2.St} {H : Hp} {te : TE} {R : Bool → Hp → Prop} (h : te σ H fun x H1 => ∃ b, x = .bl b ∧ R b H1) : tTest te σ H R := h
theorem q_op {σ : L2.St} {H : Hp} {ta tb : TE} {r : R2} {R : VK} (h : ta σ H fun x H1 => tb σ H1 fun y H2 => r x y H2 R) : tOp r ta tb σ H R := h
theorem q_next {D : Ends} {σ : L2.St} {H : Hp} (h : D.nx σ H) : tNext D σ H := h
/-- a test that fails -/
theorem q_no {D : Ends} {σ : L2.St} {H : Hp} {b : Bool} {u : Prop} (hb : b = false) (h : D.nx σ H) : if b = true then u else tNext D σ H := by
  subst hb
  exact h
/-! ### what the head tells of a class with its own __eq__ -/
structure TyC (K : PySem.W.Frag) (C : Addr) : Prop where
  cl : PySem.W.findIn K (.ref C) "__class__" = some (some (.builtin "object.__class__"))
  ge : PySem.W.specialIn K (.builtin "object.__class__") "__get__" = some (some (.builtin "getset_descriptor.__get__"))
  tk : PySem.W.takesIn K (.builtin "object.__class__") = some true
  ob : PySem.W.mroIn K C (.type "object") = some true
  own : PySem.W.kitOne K (.ref C) (.ref C) = some true
def tyB (K : PySem.W.Frag) (C : Addr) : Bool :=
  He.eqO (PySem.W.findIn K (.ref C) "__class__") (some (some (.builtin "object.__class__"))) && (He.eqO (PySem.W.specialIn K (.builtin "object.__class__") "__get__") (some (some (.builtin "getset_descriptor.__get__"))) && (decide (PySem.W.takesIn K (.builtin "object.__class__") = some true) &&
    (decide (PySem.W.mroIn K C (.type "object") = some true) && decide (PySem.W.kitOne K (.ref C) (.ref C) = some true))))
theorem tyB_ok {K : PySem.W.Frag} {C : Addr} (h : tyB K C = true) : TyC K C := by
  obtain ⟨h1, h⟩ := He.ba h
  obtain ⟨h2, h⟩ := He.ba h
  obtain ⟨h3, h⟩ := He.ba h
  obtain ⟨h4, h5⟩ := He.ba h
  exact ⟨He.eqO_ok h1, He.eqO_ok h2, of_decide_eq_true h3, of_decide_eq_true h4, of_decide_eq_true h5⟩
/-- a type that is not the class at C -/
structure Apart (K : PySem.W.Frag) (C : Addr) (t : String) : Prop where
  no : PySem.W.kitOne K (.type t) (.ref C) = some false
  nf : PySem.W.notFirst K C (.type t) = true
def apB (K : PySem.W.Frag) (C : Addr) (t : String) : Bool := decide (PySem.W.kitOne K (.type t) (.ref C) = some false) && PySem.W.notFirst K C (.type t)
theorem apB_ok {K : PySem.W.Frag} {C : Addr} {t : String} (h : apB K C t = true) : Apart K C t := by
  obtain ⟨h1, h2⟩ := He.ba h
  exact ⟨of_decide_eq_true h1, h2⟩
def eqB (K : PySem.W.Frag) (C : Addr) : Bool :=
  He.eqO (PySem.W.findIn K (.ref C) "__eq__") (some (some (.ref (He.ma K C "__eq__")))) && (PySem.W.isFn K (.ref (He.ma K C "__eq__")) && (He.eqO (PySem.W.findIn K (.ref C) "__ne__") (some (some (.builtin "object.__ne__"))) && decide (PySem.W.mroIn K C (.type "object") = some true)))
theorem eqB_ok {K : PySem.W.Frag} {C : Addr} (h : eqB K C = true) : EqC K C (He.ma K C "__eq__") := by
  obtain ⟨h1, h⟩ := He.ba h
  obtain ⟨h2, h⟩ := He.ba h
  obtain ⟨h3, h4⟩ := He.ba h
  exact ⟨He.eqO_ok h1, h2, He.eqO_ok h3, of_decide_eq_true h4⟩
def strB (K : PySem.W.Frag) (C : Addr) : Bool := He.eqO (PySem.W.findIn K (.ref C) "__str__") (some (some (.ref (He.ma K C "__str__")))) && PySem.W.isFn K (.ref (He.ma K C "__str__"))
theorem notFirst_self {K : PySem.W.Frag} {C : Addr} : PySem.W.notFirst K C (.ref C) = true := by
  unfold PySem.W.notFirst
  simp
/-! ### equal things -/
def dT : V → PyData
  | .int i => .int i
  | _ => .none
def isTh : V → Bool
  | .non => true
  | .int _ => true
  | _ => false
theorem dp_all {K : PySem.W.Frag} {H : Hp} : ∀ {xs : List V}, (∀ y ∈ xs, isTh y = true) → DpAll K H xs (xs.map dT)
  | [], _ => .nil
  | x :: r, h => by
    refine .cons ?_ (dp_all fun y hy => h y (List.mem_cons_of_mem _ hy))
    have := h x List.mem_cons_self
    revert this
    cases x with
    | non => exact fun _ => .non
    | int i => exact fun _ => .int i
    | _ => exact fun z => nomatch z
theorem eqv_th {x y : V} (hx : isTh x = true) (hy : isTh y = true) : PyData.eqv (dT x) (dT y) = decide (x = y) := by
  revert hx hy
  cases x with
  | non =>
    cases y with
    | non => exact fun _ _ => rfl
    | int j => exact fun _ _ => (decide_eq_false (p := V.non = V.int j) (fun z => by cases z)).symm
    | _ => exact fun _ z => nomatch z
  | int i =>
    cases y with
    | non => exact fun _ _ => (decide_eq_false (p := V.int i = V.non) (fun z => by cases z)).symm
    | int j =>
      intro _ _
      show (i == j) = decide (V.int i = V.int j)
      by_cases c : i = j
      · subst c
        simp
      · rw [decide_eq_false (fun z => c (by injection z)), beq_eq_false_iff_ne.mpr c]
    | _ => exact fun _ z => nomatch z
  | _ => exact fun z => nomatch z
theorem eqv_ths : ∀ {xs ys : List V}, (∀ y ∈ xs, isTh y = true) → (∀ y ∈ ys, isTh y = true) → PyData.eqvAll (xs.map dT) (ys.map dT) = decide (xs = ys)
  | [], [], _, _ => rfl
  | x :: r, y :: q, h, k => by
    show (PyData.eqv (dT x) (dT y) && PyData.eqvAll (r.map dT) (q.map dT)) = _
    rw [eqv_th (h x List.mem_cons_self) (k y List.mem_cons_self), eqv_ths (fun z hz => h z (List.mem_cons_of_mem _ hz)) fun z hz => k z (List.mem_cons_of_mem _ hz)]
    by_cases c1 : x = y
    · by_cases c2 : r = q
      · simp [c1, c2]
      · simp [c1, c2]
    · simp [c1]
  | [], y :: q, _, _ => by
    show false = _
    simp
  | x :: r, [], _, _ => by
    show false = _
    simp
theorem can_th (x : V) : PyData.canLay0 (dT x) = true := by
  cases x <;> simp [dT, PyData.canLay0]
theorem dep_th (x : V) : PyData.depth (dT x) = 0 := by
  cases x <;> simp [dT, PyData.depth]
theorem can_ths : ∀ xs : List V, PyData.canLayAll0 (xs.map dT) = true
  | [] => by simp [PyData.canLayAll0]
  | x :: r => by
    rw [List.map_cons, PyData.canLayAll0, can_th, can_ths r]
    rfl
theorem dep_ths : ∀ xs : List V, PyData.depthAll (xs.map dT) = 0
  | [] => by simp [PyData.depthAll]
  | x :: r => by
    rw [List.map_cons, PyData.depthAll, dep_th, dep_ths r]
    rfl
theorem shaped_list (xs : List V) : SeqAt.shaped (.list (xs.map dT)) = true := by
  unfold SeqAt.shaped
  rw [PyData.canLay0, PyData.depth, can_ths, dep_ths]
  rfl
theorem shaped_th (x : V) : SeqAt.shaped (dT x) = true := by
  unfold SeqAt.shaped
  rw [can_th, dep_th]
  rfl
/-- the parts of a row as data -/
def partsD (fs ys : List V) (m : Int) : PyData := .tuple [.tuple (fs.map dT), .tuple (ys.map dT), .int m]
theorem shaped_parts (fs ys : List V) (m : Int) : SeqAt.shaped (partsD fs ys m) = true := by
  unfold SeqAt.shaped partsD
  simp only [PyData.canLay0, PyData.canLayAll0, PyData.depth, PyData.depthAll, can_ths, dep_ths]
  rfl
theorem eqv_parts {fs ys gs zs : List V} {m k : Int} (h1 : ∀ y ∈ fs, isTh y = true) (h2 : ∀ y ∈ ys, isTh y = true) (h3 : ∀ y ∈ gs, isTh y = true) (h4 : ∀ y ∈ zs, isTh y = true) : PyData.eqv (partsD fs ys m) (partsD gs zs k) = decide (fs = gs ∧ ys = zs ∧ m = k) := by
  unfold partsD
  simp only [PyData.eqv, PyData.eqvAll]
  rw [eqv_ths h1 h3, eqv_ths h2 h4]
  by_cases c1 : fs = gs <;> by_cases c2 : ys = zs <;> by_cases c3 : m = k <;> simp [c1, c2, c3]
theorem dp_parts {K : PySem.W.Frag} {H : Hp} {p p1 p2 : Addr} {fs ys : List V} {m : Int} (h : H p = some (.tup [.ref p1, .ref p2, .int m])) (h1 : H p1 = some (.tup fs)) (h2 : H p2 = some (.tup ys)) (t1 : ∀ y ∈ fs, isTh y = true) (t2 : ∀ y ∈ ys, isTh y = true) : Dp K H (.ref p) (partsD fs ys m) :=
  .tup (.inl (.inl h)) (.cons (.tup (.inl (.inl h1)) (dp_all t1)) (.cons (.tup (.inl (.inl h2)) (dp_all t2)) (.cons (.int m) .nil)))
theorem dp_list {K : PySem.W.Frag} {H : Hp} {p : Addr} {xs : List V} (h : H p = some (.lst xs)) (t : ∀ y ∈ xs, isTh y = true) : Dp K H (.ref p) (.list (xs.map dT)) := .lst (.inl (.inl h)) (dp_all t)
theorem eqv_list {xs ys : List V} (h : ∀ y ∈ xs, isTh y = true) (k : ∀ y ∈ ys, isTh y = true) : PyData.eqv (.list (xs.map dT)) (.list (ys.map dT)) = decide (xs = ys) := by
  rw [PyData.eqv, eqv_ths h k]
theorem dp_th {K : PySem.W.Frag} {H : Hp} {x : V} (h : isTh x = true) : Dp K H x (dT x) := by
  revert h
  cases x with
  | non => exact fun _ => .non
  | int i => exact fun _ => .int i
  | _ => exact fun z => nomatch z
end WW

set_option Elab.async false
set_option linter.all false
set_option maxRecDepth 100000
set_option maxHeartbeats 4000000
namespace WW
open PySem PySem.Spec PyProof.Rows L2
def top (i : Nat) : Stmt := PySem.Challenge.pw_waitworks_k03_rows_refused.main.body.getD i (.Pass ⟨0, 0, 0, 0⟩)
section
variable {P : Program} {w : World} {K : PySem.W.Frag} {mg : Str → Option Value} {base : Heap} {f : Addr} {fd : FuncData}
abbrev FnP (K : PySem.W.Frag) (x : Str) (st : Stmt) (f : Addr) (fd : FuncData) : Prop := FunD K x x (defArgs st) (defBody st) (defScope st) [] [] f fd
abbrev s_l_take : Stmt := top 26
abbrev N_l_take : List Str := ["_law_box_here", "_law_many", "_law_one", "_law_digit"]
theorem sc_l_take : FnScope N_l_take ["_law_box_here", "_law_many"] (defScope s_l_take) := ⟨rfl, rfl, rfl, by decide +kernel, rfl, by decide +kernel, by decide +kernel⟩

theorem ok_take (F : FnP K "_law_take" s_l_take f fd) (m_int : mg "int" = none) : FnOk P w K mg base CX0 1 f fd ["_law_box_here", "_law_many"] spTake := by
  refine F.ok sc_l_take (fun vs H Q E h => ?_) (fun cdv A outer s H vs Q E hr h => ?_)
  · obtain ⟨b, m, rfl, _⟩ := h
    rfl
  · obtain ⟨b, m, rfl, ⟨x, y, z, hb⟩, h0, h1, q⟩ := h
    refine ⟨_, PSs.nox (pss_cons (ps_if (pt_cmpR op_gt (pe_ix (ix_sqK K) (pv 0) (pe_int) (fun _ _ => rfl)) (pe_int) (nomark _)) (pss_cons (ps_set (i := 3) sc_l_take.nd rfl (.inl rfl) (pe_op op_mod (pe_callTy call_int1 rfl m_int (by decide +kernel) (pa_cons (pe_ix (ix_sqK K) (pv 0) (pe_int) (fun _ _ => rfl)) (pa_nil))) (pv 1)))
 (pss_cons (ps_asg (pe_op op_fdiv (pe_ix (ix_sqK K) (pv 0) (pe_int) (fun _ _ => rfl)) (pv 1)) (pg_sub (pv 0) (pe_int) set_list))
 (pss_one (ps_ret (pv 3))))) (pss_nil))
 (pss_cons (ps_asg (pe_op op_add (pe_ix (ix_sqK K) (pv 0) (pe_int) (fun _ _ => rfl)) (pe_int)) (pg_sub (pv 0) (pe_int) set_list))
 (pss_cons (ps_set (i := 2) sc_l_take.nd rfl (.inl rfl) (pe_op op_mod (pe_callTy call_int1 rfl m_int (by decide +kernel) (pa_cons (pe_op op_mul (pe_op op_add (pe_ix (ix_sqK K) (pv 0) (pe_int) (fun _ _ => rfl)) (pe_op op_mul (pe_int) (pe_ix (ix_sqK K) (pv 0) (pe_int) (fun _ _ => rfl)))) (pe_int)) (pa_nil))) (pe_int)))
 (pss_cons (ps_asg (pe_op op_add (pe_op op_mod (pe_callTy call_int1 rfl m_int (by decide +kernel) (pa_cons (pe_op op_add (pe_op op_mul (pv 2) (pe_int)) (pe_int)) (pa_nil))) (pe_int)) (pe_int)) (pg_sub (pv 0) (pe_int) set_list))
 (pss_one (ps_ret (pe_op op_mod (pe_callTy call_int1 rfl m_int (by decide +kernel) (pa_cons (pe_op op_fdiv (pe_op op_add (pe_op op_mul (pv 2) (pe_int)) (pe_ix (ix_sqK K) (pv 0) (pe_int) (fun _ _ => rfl))) (pe_int)) (pa_nil))) (pv 1)))))))), ?_⟩
    have a0 : ∀ {x y z : Int}, atI [V.int x, V.int y, V.int z] 0 = some (.int x) := rfl
    refine ⟨_, rfl, _, _, _, _, rfl, rfl, .l hb, a0, _, _, rfl, rfl, _, rfl, ite2 (fun c => ?_) (fun c => ?_)⟩
    · refine ⟨_, rfl, _, _, _, _, rfl, rfl, .l hb, a0, .inl ⟨_, rfl, _, rfl, _, _, rfl, rfl, h0, ?_⟩⟩
      refine ⟨_, rfl, _, _, _, _, rfl, rfl, .l hb, a0, _, rfl, _, _, rfl, rfl, ⟨h0, h1⟩, _, rfl, _, _, _, _, rfl, rfl, hb, rfl, ?_⟩
      exact ⟨_, rfl, q _ _ _ _ (Int.emod_nonneg _ (by omega)) (Int.emod_lt_of_pos _ h0)⟩
    · have hb2 : ∀ o, (upd H b o) b = some o := fun o => upd_same
      have a1 : ∀ {x y z : Int}, atI [V.int x, V.int y, V.int z] 1 = some (.int y) := rfl
      have a2 : ∀ {x y z : Int}, atI [V.int x, V.int y, V.int z] 2 = some (.int z) := rfl
      refine ⟨_, rfl, _, _, _, _, rfl, rfl, .l hb, a2, _, _, rfl, rfl, _, rfl, _, _, _, _, rfl, rfl, hb, rfl, ?_⟩
      refine ⟨_, rfl, _, _, _, _, rfl, rfl, .l upd_same, a1, _, rfl, _, _, _, _, rfl, rfl, .l upd_same, a2, _, _, rfl, rfl, .inl ⟨by decide, by decide⟩, _, _, rfl, rfl, _, _, rfl, rfl, .inr ⟨by decide, by decide⟩,
        .inl ⟨_, rfl, _, _, rfl, rfl, (by show (0 : Int) < _; decide), ?_⟩⟩
      refine ⟨_, rfl, _, _, rfl, rfl, .inr ⟨by decide, by decide⟩, _, _, rfl, rfl, .inl ⟨_, rfl, _, _, rfl, rfl, (by show (0 : Int) < _; decide), _, _, rfl, rfl, _, rfl, _, _, _, _, rfl, rfl, upd_same, rfl, ?_⟩⟩
      refine ⟨_, rfl, _, _, rfl, rfl, .inr ⟨by decide, by decide⟩, _, rfl, _, _, _, _, rfl, rfl, .l upd_same, a1, _, _, rfl, rfl, _, _, rfl, rfl, ⟨by decide, by decide⟩, .inl ⟨_, rfl, _, rfl, _, _, rfl, rfl, h0, ?_⟩⟩
      rw [upd_upd]
      exact q _ _ _ _ (Int.emod_nonneg _ (by omega)) (Int.emod_lt_of_pos _ h0)
abbrev s_l_pick : Stmt := top 27
abbrev N_l_pick : List Str := ["_law_box_here", "_law_some"]
theorem sc_l_pick : FnScope N_l_pick ["_law_box_here", "_law_some"] (defScope s_l_pick) := ⟨rfl, rfl, rfl, by decide +kernel, rfl, by decide +kernel, by decide +kernel⟩

theorem ok_pick (F : FnP K "_law_pick" s_l_pick f fd) (m_len : mg "len" = none) (g_l_take : FnAt P w K mg base CX0 1 "_law_take" ["_law_box_here", "_law_many"] spTake) : FnOk P w K mg base CX0 2 f fd ["_law_box_here", "_law_some"] (spPick K) := by
  refine F.ok sc_l_pick (fun vs H Q E h => ?_) (fun cdv A outer s H vs Q E hr h => ?_)
  · obtain ⟨b, l, xs, rfl, _⟩ := h
    rfl
  · obtain ⟨b, l, xs, rfl, hb, hl, hn, h0, h1, q⟩ := h
    refine ⟨_, PSs.nox (pss_one (ps_ret (pe_ix (ix_sqK K) (pv 1) (pe_fn g_l_take hr rfl (pa_cons (pv 0) (pa_cons (pe_callB (call_lenK K) rfl m_len (by decide +kernel) (pa_cons (pv 1) (pa_nil))) (pa_nil)))) (fun _ _ => rfl)))), ?_⟩
    refine ⟨_, rfl, _, rfl, _, rfl, _, _, rfl, hl, b, _, rfl, hb, by omega, by omega, fun x y z d d0 d1 => ?_⟩
    have hd : d.toNat < xs.length := by omega
    exact ⟨l, xs, _, xs[d.toNat], rfl, rfl, hl.upd hn, at_toNat d0 hd, q x y z _ (List.getElem_mem hd)⟩
end
end WW

set_option Elab.async false
set_option linter.all false
set_option maxRecDepth 100000
set_option maxHeartbeats 4000000
namespace WW
open PySem PySem.Spec PyProof.Rows L2
/-- what is told is a value; the heap grows -/
def spV (pre : List V → Hp → V → Prop) : Sp := fun vs H Q _ => ∃ v, pre vs H v ∧ ∀ H', Same H H' → Q v H'
def isThingV : V → Bool
  | .non => true
  | .int _ => true
  | _ => false
def belowV : V → V → Bool
  | .non, .int _ => true
  | .int i, .int j => decide (i < j)
  | _, _ => false
def risingV (xs : List V) : Bool := !((List.range (xs.length - 1)).map fun i => belowV (xs.getD (i + 1) .non) (xs.getD i .non)).any id
section
variable {P : Program} {w : World} {K : PySem.W.Frag} {mg : Str → Option Value} {base : Heap} {f : Addr} {fd : FuncData}
def spInteger (K : PySem.W.Frag) : Sp := spV fun vs H v => ∃ x sq, vs = [x] ∧ HasT K H x sq ∧ v = .bl (isIntV x)
abbrev s_is_integer : Stmt := top 8
abbrev N_is_integer : List Str := ["value"]
theorem sc_is_integer : FnScope N_is_integer ["value"] (defScope s_is_integer) := ⟨rfl, rfl, rfl, by decide +kernel, rfl, by decide +kernel, by decide +kernel⟩

theorem ok_is_integer (F : FnP K "is_integer" s_is_integer f fd) (m_isinstance : mg "isinstance" = none) (m_int : mg "int" = none) (m_bool : mg "bool" = none) : FnOk P w K mg base CX0 1 f fd ["value"] (spInteger K) := by
  refine F.ok sc_is_integer (fun vs H Q E h => ?_) (fun cdv A outer s H vs Q E hr h => ?_)
  · obtain ⟨v, ⟨x, sq, rfl, _⟩, _⟩ := h
    rfl
  · obtain ⟨v, ⟨x, sq, rfl, ⟨t, b1, b2, ty, k1, k2, e, k3⟩, rfl⟩, q⟩ := h
    refine ⟨_, PSs.nox (pss_one (ps_ret (pe_and (pe_callB (call_isiK1 K) rfl m_isinstance (by decide +kernel) (pa_cons (pv 0) (pa_cons (pe_bltn (v := .ty "int") (u := .type "int") rfl m_int (by decide +kernel) rfl) (pa_nil)))) (pe_one (pe_not (pe_callB (call_isiK1 K) rfl m_isinstance (by decide +kernel) (pa_cons (pv 0) (pa_cons (pe_bltn (v := .ty "bool") (u := .type "bool") rfl m_bool (by decide +kernel) rfl) (pa_nil))))))))), ?_⟩
    refine ⟨_, rfl, x, .ty "int", t, _, b1, rfl, .ty "int", ty, k1, b1, rfl, ?_⟩
    rw [← e] at q
    cases b1 with
    | false => exact q _ (Same.refl H)
    | true => exact ⟨_, rfl, x, .ty "bool", t, _, b2, rfl, .ty "bool", ty, k2, b2, rfl, q _ (Same.refl H)⟩
def isNumV : V → Bool
  | .int i => decide (0 ≤ i)
  | _ => false
def spNumber (K : PySem.W.Frag) : Sp := spV fun vs H v => ∃ x sq, vs = [x] ∧ HasT K H x sq ∧ v = .bl (isNumV x)
abbrev s_is_number : Stmt := top 9
abbrev N_is_number : List Str := ["value"]
theorem sc_is_number : FnScope N_is_number ["value"] (defScope s_is_number) := ⟨rfl, rfl, rfl, by decide +kernel, rfl, by decide +kernel, by decide +kernel⟩

theorem ok_is_number (F : FnP K "is_number" s_is_number f fd) (g_is_integer : FnAt P w K mg base CX0 1 "is_integer" ["value"] (spInteger K)) : FnOk P w K mg base CX0 2 f fd ["value"] (spNumber K) := by
  refine F.ok sc_is_number (fun vs H Q E h => ?_) (fun cdv A outer s H vs Q E hr h => ?_)
  · obtain ⟨v, ⟨x, sq, rfl, _⟩, _⟩ := h
    rfl
  · obtain ⟨v, ⟨x, sq, rfl, hx, rfl⟩, q⟩ := h
    refine ⟨_, PSs.nox (pss_one (ps_ret (pe_and (pe_fn g_is_integer hr rfl (pa_cons (pv 0) (pa_nil))) (pe_one (pe_cmpR op_ge (pv 0) (pe_int) (nomark _)))))), ?_⟩
    refine ⟨_, rfl, _, ⟨x, sq, rfl, hx, rfl⟩, fun H1 s1 => ⟨_, rfl, ?_⟩⟩
    cases x with
    | int i => exact ⟨_, rfl, _, _, rfl, rfl, q _ s1⟩
    | _ => exact q _ s1
def spSequence (K : PySem.W.Frag) : Sp := spV fun vs H v => ∃ x sq, vs = [x] ∧ HasT K H x sq ∧ v = .bl sq
abbrev s_is_sequence : Stmt := top 10
abbrev N_is_sequence : List Str := ["value"]
theorem sc_is_sequence : FnScope N_is_sequence ["value"] (defScope s_is_sequence) := ⟨rfl, rfl, rfl, by decide +kernel, rfl, by decide +kernel, by decide +kernel⟩

theorem ok_is_sequence (F : FnP K "is_sequence" s_is_sequence f fd) (m_isinstance : mg "isinstance" = none) (m_list : mg "list" = none) (m_tuple : mg "tuple" = none) : FnOk P w K mg base CX0 1 f fd ["value"] (spSequence K) := by
  refine F.ok sc_is_sequence (fun vs H Q E h => ?_) (fun cdv A outer s H vs Q E hr h => ?_)
  · obtain ⟨v, ⟨x, sq, rfl, _⟩, _⟩ := h
    rfl
  · obtain ⟨v, ⟨x, sq, rfl, ⟨t, b1, b2, ty, k1, k2, e, k3⟩, rfl⟩, q⟩ := h
    refine ⟨_, PSs.nox (pss_one (ps_ret (pe_callB (call_isiTK K) rfl m_isinstance (by decide +kernel) (pa_cons (pv 0) (pa_cons (pe_tup (pa_cons (pe_bltn (v := .ty "list") (u := .type "list") rfl m_list (by decide +kernel) rfl) (pa_cons (pe_bltn (v := .ty "tuple") (u := .type "tuple") rfl m_tuple (by decide +kernel) rfl) (pa_nil)))) (pa_nil)))))), ?_⟩
    refine ⟨_, rfl, by show 2 ≤ sizeLine; decide, fun p hp => ?_⟩
    have sm : Same H (upd H p (.tup [.ty "list", .ty "tuple"])) := fun a o ha => (upd_ne (ne_of_none ha hp)).trans ha
    exact ⟨x, p, _, t, _, sq, rfl, upd_same, .cons (.ty "list") (.cons (.ty "tuple") .nil), tyx_same sm ty, k3, q _ sm⟩
def spThing (K : PySem.W.Frag) : Sp := spV fun vs H v => ∃ x sq, vs = [x] ∧ HasT K H x sq ∧ v = .bl (isThingV x)
abbrev s_is_thing : Stmt := top 15
abbrev N_is_thing : List Str := ["value"]
theorem sc_is_thing : FnScope N_is_thing ["value"] (defScope s_is_thing) := ⟨rfl, rfl, rfl, by decide +kernel, rfl, by decide +kernel, by decide +kernel⟩

theorem ok_is_thing (F : FnP K "is_thing" s_is_thing f fd) (g_is_integer : FnAt P w K mg base CX0 1 "is_integer" ["value"] (spInteger K)) : FnOk P w K mg base CX0 2 f fd ["value"] (spThing K) := by
  refine F.ok sc_is_thing (fun vs H Q E h => ?_) (fun cdv A outer s H vs Q E hr h => ?_)
  · obtain ⟨v, ⟨x, sq, rfl, _⟩, _⟩ := h
    rfl
  · obtain ⟨v, ⟨x, sq, rfl, hx, rfl⟩, q⟩ := h
    refine ⟨_, PSs.nox (pss_one (ps_ret (pe_or (pe_cmpR op_isN (pv 0) (pe_non) (nomark _)) (pe_one (pe_fn g_is_integer hr rfl (pa_cons (pv 0) (pa_nil))))))), ?_⟩
    refine ⟨_, rfl, rfl, _, rfl, ?_⟩
    cases x with
    | non => exact q _ (Same.refl H)
    | _ => exact ⟨_, rfl, _, ⟨_, sq, rfl, hx, rfl⟩, fun H1 s1 => q _ s1⟩
def spBelow : Sp := spV fun vs H v => ∃ x y, vs = [x, y] ∧ isThingV x = true ∧ isThingV y = true ∧ v = .bl (belowV x y)
abbrev s_is_below : Stmt := top 16
abbrev N_is_below : List Str := ["one", "other"]
theorem sc_is_below : FnScope N_is_below ["one", "other"] (defScope s_is_below) := ⟨rfl, rfl, rfl, by decide +kernel, rfl, by decide +kernel, by decide +kernel⟩

theorem ok_is_below (F : FnP K "is_below" s_is_below f fd) : FnOk P w K mg base CX0 1 f fd ["one", "other"] spBelow := by
  refine F.ok sc_is_below (fun vs H Q E h => ?_) (fun cdv A outer s H vs Q E hr h => ?_)
  · obtain ⟨v, ⟨x, y, rfl, _⟩, _⟩ := h
    rfl
  · obtain ⟨v, ⟨x, y, rfl, hx, hy, rfl⟩, q⟩ := h
    have q := q _ (Same.refl H)
    refine ⟨_, PSs.nox (pss_cons (ps_if (pt_cmpR op_isN (pv 1) (pe_non) (nomark _)) (pss_one (ps_ret (pe_bl))) (pss_nil))
 (pss_one (ps_ret (pe_or (pe_cmpR op_isN (pv 0) (pe_non) (nomark _)) (pe_one (pe_cmpR op_lt (pv 0) (pv 1) (nomark _))))))), ?_⟩
    refine ⟨_, rfl, rfl, _, rfl, ?_⟩
    cases y with
    | non => cases x <;> exact q
    | int j =>
      refine ⟨_, rfl, rfl, _, rfl, ?_⟩
      cases x with
      | non => exact q
      | int i => exact ⟨_, rfl, _, rfl, _, _, rfl, rfl, q⟩
      | _ => cases hx
    | _ => cases hy
def spRising (K : PySem.W.Frag) : Sp := spV fun vs H v => ∃ a xs, vs = [.ref a] ∧ Sq K H a xs ∧ xs.length ≤ 50000 ∧ xs.all isThingV = true ∧ v = .bl (risingV xs)
theorem getD_at {xs : List V} {i : Nat} (h : i < xs.length) : atI xs (i : Int) = some (xs.getD i .non) := by
  rw [List.getD_eq_getElem?_getD, List.getElem?_eq_getElem h]
  exact atI_nat (List.getElem?_eq_getElem h)
theorem all_getD {xs : List V} {p : V → Bool} (h : xs.all p = true) {i : Nat} (hi : i < xs.length) : p (xs.getD i .non) = true := by
  rw [List.getD_eq_getElem?_getD, List.getElem?_eq_getElem hi]
  exact List.all_eq_true.mp h _ (List.getElem_mem hi)
abbrev s_are_rising : Stmt := top 17
abbrev N_are_rising : List Str := ["some", "at"]
theorem sc_are_rising : FnScope N_are_rising ["some"] (defScope s_are_rising) := ⟨rfl, rfl, rfl, by decide +kernel, rfl, by decide +kernel, by decide +kernel⟩

theorem ok_are_rising (F : FnP K "are_rising" s_are_rising f fd) (m_any : mg "any" = none) (m_len : mg "len" = none) (m_range : mg "range" = none) (g_is_below : FnAt P w K mg base CX0 1 "is_below" ["one", "other"] spBelow) : FnOk P w K mg base CX0 2 f fd ["some"] (spRising K) := by
  refine F.ok sc_are_rising (fun vs H Q E h => ?_) (fun cdv A outer s H vs Q E hr h => ?_)
  · obtain ⟨v, ⟨a, xs, rfl, _⟩, _⟩ := h
    rfl
  · obtain ⟨v, ⟨a, xs, rfl, hq, hl, hall, rfl⟩, q⟩ := h
    refine ⟨_, PSs.nox (pss_one (ps_ret (pe_not (pe_callB (cr_anyK K) rfl m_any (by decide +kernel) (pa_cons (pe_lc (own := [("at", 1)]) rfl sc_are_rising.nd (pi_range1 rfl m_range (pa_cons (pe_op op_sub (pe_callB (call_lenK K) rfl m_len (by decide +kernel) (pa_cons (pv 0) (pa_nil))) (pe_int)) (pa_nil))) (blkOk_by (N := N_are_rising) (sc := defScope s_are_rising) (by decide +kernel)) (fun _ _ _ _ _ => pg_name (i := 1) sc_are_rising.nd rfl (.inl rfl)) (fun _ _ _ _ _ => pts_nil) (fun _ _ _ _ _ => pe_fn g_is_below hr rfl (pa_cons (pe_ix (ix_sqK K) (pv 0) (pe_op op_add (pv 1) (pe_int)) (fun _ _ => rfl)) (pa_cons (pe_ix (ix_sqK K) (pv 0) (pv 1) (fun _ _ => rfl)) (pa_nil))))) (pa_nil)))))), ?_⟩
    refine ⟨_, rfl, a, xs, rfl, hq, _, _, rfl, rfl, _, rfl, by omega, by omega, fun D hD => ?_⟩
    have hn : ((xs.length : Int) - 1).toNat = xs.length - 1 := by omega
    rw [hn]
    refine lc_rg (fun i => .bl (belowV (xs.getD (i + 1) .non) (xs.getD i .non))) (by omega) hD (fun i hi H1 s1 R k => ?_) fun H' s1 hD' => ?_
    · have e0 : (0 : Int) + (i : Int) + 1 = ((i + 1 : Nat) : Int) := by omega
      have e1 : (0 : Int) + (i : Int) = ((i : Nat) : Int) := by omega
      refine ⟨_, rfl, _, rfl, _, _, rfl, rfl, a, xs, _, _, rfl, rfl, hq.ex s1, ?_, _, rfl, _, rfl, a, xs, _, _, rfl, rfl, hq.ex s1, ?_, _, ⟨_, _, rfl, ?_, ?_, rfl⟩, k⟩
      · rw [e0]
        exact getD_at (by omega)
      · rw [e1]
        exact getD_at (by omega)
      · exact all_getD hall (by omega)
      · exact all_getD hall (by omega)
    · refine ⟨D, (List.range (xs.length - 1)).map (fun i => belowV (xs.getD (i + 1) .non) (xs.getD i .non)), rfl, .inl (.inl ?_), _, rfl, q _ s1⟩
      rw [hD', List.map_map]
      rfl
end
end WW

set_option Elab.async false
set_option linter.all false
set_option maxRecDepth 100000
set_option maxHeartbeats 4000000
namespace WW
open PySem PySem.Spec PyProof.Rows L2
/-- an argument: no sequence, or a sequence of these -/
def Arg (K : PySem.W.Frag) (H : Hp) (x : V) : Option (List V) → Prop
  | none => HasT K H x false
  | some xs => ∃ a, x = .ref a ∧ Sq K H a xs ∧ xs.length ≤ 20000 ∧ ∀ y ∈ xs, ∃ sq, HasT K H y sq
def intOf : V → Int
  | .int i => i
  | _ => 0
def hd (xs : List V) : V := xs.getD 0 .non
def lst (xs : List V) : V := xs.getD (xs.length - 1) .non
def wrongA (xs ys : List V) (m : V) : V :=
  if (ys.isEmpty || !ys.all isThingV) = true then .str "again"
  else if (!risingV (cutV xs (some (-1)) none ++ ys) || (decide (hd ys = .non) && !decide (lst ys = .non))) = true then .str "again"
  else if isNumV m = false then .str "more"
  else if hd ys = .non then (if m = .int 0 then .non else .str "more")
  else if intOf (lst ys) ≤ intOf (hd ys) + intOf m then .non else .str "more"
def wrongB (xs : List V) (m : V) : Option (List V) → V
  | none => .str "again"
  | some ys => wrongA xs ys m
def wrongW (o1 o2 : Option (List V)) (m : V) : V := match o1 with
  | none => .str "first"
  | some xs => if (xs.all isThingV && risingV xs) = true then wrongB xs m o2 else .str "first"
def spWrong (K : PySem.W.Frag) : Sp := spV fun vs H v => ∃ x y m o1 o2 sq, vs = [x, y, m] ∧ Arg K H x o1 ∧ Arg K H y o2 ∧ HasT K H m sq ∧ v = wrongW o1 o2 m
theorem Arg.ex {K : PySem.W.Frag} {H H' : Hp} {x : V} {o : Option (List V)} (e : Same H H') (h : Arg K H x o) : Arg K H' x o := by
  cases o with
  | none => exact HasT.ex e h
  | some xs =>
    obtain ⟨a, r, hq, hl, hy⟩ := h
    exact ⟨a, r, hq.ex e, hl, fun y m => ⟨_, (hy y m).choose_spec.ex e⟩⟩
theorem risingV_at {xs : List V} (h : risingV xs = true) {i : Nat} (hi : i + 1 < xs.length) : belowV (xs.getD (i + 1) .non) (xs.getD i .non) = false := by
  unfold risingV at h
  rw [Bool.not_eq_true', List.any_eq_false] at h
  have q := h (belowV (xs.getD (i + 1) .non) (xs.getD i .non)) (List.mem_map.mpr ⟨i, List.mem_range.mpr (by omega), rfl⟩)
  simpa using q
theorem risingV_of {xs : List V} (h : ∀ i, i + 1 < xs.length → belowV (xs.getD (i + 1) .non) (xs.getD i .non) = false) : risingV xs = true := by
  unfold risingV
  rw [Bool.not_eq_true', List.any_eq_false]
  intro b hb
  obtain ⟨i, hi, rfl⟩ := List.mem_map.mp hb
  rw [List.mem_range] at hi
  simpa using h i (by omega)
theorem rising_ints {xs : List V} (ht : xs.all isThingV = true) (h : risingV xs = true) (h0 : isIntV (xs.getD 0 .non) = true) : ∀ i, i < xs.length → isIntV (xs.getD i .non) = true
  | 0, _ => h0
  | i + 1, hi => by
    have ih := rising_ints ht h h0 i (by omega)
    have q := risingV_at h hi
    have t := all_getD ht hi
    revert q t ih
    cases xs.getD (i + 1) V.non <;> cases xs.getD i V.non <;> intro ih q t <;> first | rfl | (cases ih; done) | (cases t; done) | (cases q; done)
theorem rising_drop {xs ys : List V} (h : risingV (xs ++ ys) = true) : risingV ys = true := by
  refine risingV_of fun i hi => ?_
  have q := risingV_at (xs := xs ++ ys) h (i := xs.length + i) (by rw [List.length_append]; omega)
  simp only [List.getD_eq_getElem?_getD] at q ⊢
  rw [List.getElem?_append_right (by omega), List.getElem?_append_right (by omega)] at q
  rw [show xs.length + i + 1 - xs.length = i + 1 by omega, show xs.length + i - xs.length = i by omega] at q
  exact q
section
variable {P : Program} {w : World} {K : PySem.W.Frag} {mg : Str → Option Value} {base : Heap} {f : Addr} {fd : FuncData}
/-- all([is_thing(x) for x in xs]) -/
theorem all_things {σ : L2.St} {H : Hp} {Q : VK} {tl : TE} {a : Addr} {j : Nat} {xs : List V} (hj : j < σ.length) (hv : ∀ R : VK, R (.ref a) H → tl σ H R) (hq : Sq K H a xs) (hl : xs.length ≤ 20000) (hy : ∀ y ∈ xs, ∃ sq, HasT K H y sq)
    (k : ∀ H', Same H H' → Q (.bl (xs.all isThingV)) H') : tCB (rAll K) (tCons (tLc (iSeq K tl) (gName j) tYes (tCall (spThing K) [] E0 (tCons (tVar j) tNil)) [j]) tNil) σ H Q := by
  show tLc (iSeq K tl) (gName j) tYes (tCall (spThing K) [] E0 (tCons (tVar j) tNil)) [j] σ H (fun x H1 => rAll K [x] H1 Q)
  refine lc_sq (K := K) (fun x => .bl (isThingV x)) hv hq (by omega) (fun x hx H1 s1 R r => ?_) fun D H' s1 _ hD => ?_
  · obtain ⟨sq, ht⟩ := hy x hx
    refine ⟨x, ?_, _, ⟨x, sq, rfl, ht.ex s1, rfl⟩, r⟩
    rw [List.getElem?_set_self]
    rw [wipe_length]
    exact hj
  · refine ⟨D, xs.map isThingV, rfl, .inl (.inl ?_), ?_⟩
    · rw [hD, List.map_map]
      rfl
    · have e : (xs.map isThingV).all id = xs.all isThingV := by rw [List.all_map]; rfl
      rw [e]
      exact k H' s1
abbrev s_wrong_word : Stmt := top 18
abbrev N_wrong_word : List Str := ["first", "again", "more", "thing"]
theorem sc_wrong_word : FnScope N_wrong_word ["first", "again", "more"] (defScope s_wrong_word) := ⟨rfl, rfl, rfl, by decide +kernel, rfl, by decide +kernel, by decide +kernel⟩

set_option maxHeartbeats 8000000 in
theorem ok_wrong_word (F : FnP K "wrong_word" s_wrong_word f fd) (m_all : mg "all" = none) (m_len : mg "len" = none) (g_is_sequence : FnAt P w K mg base CX0 1 "is_sequence" ["value"] (spSequence K)) (g_is_thing : FnAt P w K mg base CX0 2 "is_thing" ["value"] (spThing K))
    (g_is_number : FnAt P w K mg base CX0 2 "is_number" ["value"] (spNumber K)) (g_are_rising : FnAt P w K mg base CX0 2 "are_rising" ["some"] (spRising K)) : FnOk P w K mg base CX0 3 f fd ["first", "again", "more"] (spWrong K) := by
  refine F.ok sc_wrong_word (fun vs H Q E h => ?_) (fun cdv A outer s H vs Q E hr h => ?_)
  · obtain ⟨v, ⟨x, y, m, o1, o2, sq, rfl, _⟩, _⟩ := h
    rfl
  · obtain ⟨v, ⟨x, y, m, o1, o2, sq, rfl, h1, h2, h3, rfl⟩, q⟩ := h
    refine ⟨_, PSs.nox (pss_cons (ps_if (PW.pt (pw_or (pt_not (pt_val (pe_fn g_is_sequence hr rfl (pa_cons (pv 0) (pa_nil))))) (pw_or (pt_not (pt_val (pe_callB (cr_allK K) rfl m_all (by decide +kernel) (pa_cons (pe_lc (own := [("thing", 3)]) rfl sc_wrong_word.nd (pi_seqK K (pv 0)) (blkOk_by (N := N_wrong_word) (sc := defScope s_wrong_word) (by decide +kernel)) (fun _ _ _ _ _ => pg_name (i := 3) sc_wrong_word.nd rfl (.inl rfl)) (fun _ _ _ _ _ => pts_nil) (fun _ _ _ _ _ => pe_fn g_is_thing hr rfl (pa_cons (pv 3) (pa_nil)))) (pa_nil))))) (pw_or1 (pt_not (pt_val (pe_fn g_are_rising hr rfl (pa_cons (pv 0) (pa_nil))))))))) (pss_one (ps_ret (pe_str))) (pss_nil))
 (pss_cons (ps_if (PW.pt (pw_or (pt_not (pt_val (pe_fn g_is_sequence hr rfl (pa_cons (pv 1) (pa_nil))))) (pw_or (pt_cmpR op_eq (pe_callB (call_lenK K) rfl m_len (by decide +kernel) (pa_cons (pv 1) (pa_nil))) (pe_int) (nomark _)) (pw_or1 (pt_not (pt_val (pe_callB (cr_allK K) rfl m_all (by decide +kernel) (pa_cons (pe_lc (own := [("thing", 3)]) rfl sc_wrong_word.nd (pi_seqK K (pv 1)) (blkOk_by (N := N_wrong_word) (sc := defScope s_wrong_word) (by decide +kernel)) (fun _ _ _ _ _ => pg_name (i := 3) sc_wrong_word.nd rfl (.inl rfl)) (fun _ _ _ _ _ => pts_nil) (fun _ _ _ _ _ => pe_fn g_is_thing hr rfl (pa_cons (pv 3) (pa_nil)))) (pa_nil))))))))) (pss_one (ps_ret (pe_str))) (pss_nil))
 (pss_cons (ps_if (PW.pt (pw_or (pt_not (pt_val (pe_fn g_are_rising hr rfl (pa_cons (pe_lst (pa_starK K (pe_slice (sl_sqK K) (pv 0) (po_some (pe_un un_neg (pe_int))) (po_none)) (pa_starK K (pv 1) (pa_nil)))) (pa_nil))))) (pw_or1 (PW.pt (pw_and (pt_cmpR op_isN (pe_ix (ix_sqK K) (pv 1) (pe_int) (fun _ _ => rfl)) (pe_non) (nomark _)) (pw_and1 (pt_cmpR op_notN (pe_ix (ix_sqK K) (pv 1) (pe_un un_neg (pe_int)) (fun _ _ => rfl)) (pe_non) (nomark _)))))))) (pss_one (ps_ret (pe_str))) (pss_nil))
 (pss_cons (ps_if (pt_not (pt_val (pe_fn g_is_number hr rfl (pa_cons (pv 2) (pa_nil))))) (pss_one (ps_ret (pe_str))) (pss_nil))
 (pss_cons (ps_if (pt_cmpR op_isN (pe_ix (ix_sqK K) (pv 1) (pe_int) (fun _ _ => rfl)) (pe_non) (nomark _)) (pss_one (ps_ret (pe_ifExp (pt_cmpR op_eq (pv 2) (pe_int) (nomark _)) (pe_non) (pe_str)))) (pss_nil))
 (pss_one (ps_ret (pe_ifExp (pt_cmpR op_le (pe_ix (ix_sqK K) (pv 1) (pe_un un_neg (pe_int)) (fun _ _ => rfl)) (pe_op op_add (pe_ix (ix_sqK K) (pv 1) (pe_int) (fun _ _ => rfl)) (pv 2)) (nomark _)) (pe_non) (pe_str))))))))), ?_⟩
    cases o1 with
    | none => exact ⟨_, rfl, _, ⟨x, false, rfl, h1, rfl⟩, fun H1 s1 => ⟨_, rfl, q _ s1⟩⟩
    | some xs =>
      obtain ⟨a, rfl, hq, hl, hy⟩ := id h1
      refine ⟨_, rfl, _, ⟨_, true, rfl, hq.hasT, rfl⟩, fun H1 s1 => ⟨_, rfl, ?_⟩⟩
      refine all_things (show 3 < 4 by decide) (fun R r => ⟨_, rfl, r⟩) (hq.ex s1) hl (fun y my => ⟨_, (hy y my).choose_spec.ex s1⟩) fun H2 s2 => ⟨_, rfl, ?_⟩
      have s12 := s1.trans s2
      have q : ∀ H', Same H H' → Q (if (xs.all isThingV && risingV xs) = true then wrongB xs m o2 else V.str "first") H' := q
      cases ht : xs.all isThingV with
      | false =>
        rw [ht] at q
        exact q _ s12
      | true =>
        rw [ht, Bool.true_and] at q
        refine ⟨_, rfl, _, ⟨a, xs, rfl, hq.ex s12, by omega, ht, rfl⟩, fun H3 s3 => ⟨_, rfl, ?_⟩⟩
        have s13 := s12.trans s3
        cases hr1 : risingV xs with
        | false =>
          rw [hr1] at q
          exact q _ s13
        | true =>
          rw [hr1, if_pos rfl] at q
          cases o2 with
          | none => exact ⟨_, rfl, _, ⟨y, false, rfl, HasT.ex s13 h2, rfl⟩, fun H4 s4 => ⟨_, rfl, q _ (s13.trans s4)⟩⟩
          | some ys =>
            obtain ⟨b, rfl, kq, kl, ky⟩ := id h2
            refine ⟨_, rfl, _, ⟨_, true, rfl, (kq.ex s13).hasT, rfl⟩, fun H4 s4 => ⟨_, rfl, ?_⟩⟩
            have s14 := s13.trans s4
            refine ⟨_, rfl, b, ys, rfl, kq.ex s14, rfl, _, rfl, ?_⟩
            have q : ∀ H', Same H H' → Q (wrongA xs ys m) H' := q
            unfold wrongA at q
            cases hz : ys.isEmpty with
            | true =>
              have e0 : ys = [] := List.isEmpty_iff.mp hz
              subst e0
              exact q _ s14
            | false =>
              have e0 : ¬ V.int (ys.length : Int) = V.int 0 := fun z => by
                have z1 : (ys.length : Int) = 0 := V.int.inj z
                have z2 : ys = [] := List.eq_nil_of_length_eq_zero (by omega)
                rw [z2] at hz
                cases hz
              have hpos : 0 < ys.length := by
                cases ys with
                | nil => exact absurd rfl e0
                | cons _ _ => exact Nat.succ_pos _
              rw [decide_eq_false e0]
              refine all_things (show 3 < 4 by decide) (fun R r => ⟨_, rfl, r⟩) (kq.ex s14) kl (fun y my => ⟨_, (ky y my).choose_spec.ex s14⟩) fun H5 s5 => ⟨_, rfl, ?_⟩
              have s15 := s14.trans s5
              cases kt : ys.all isThingV with
              | false =>
                rw [hz, kt] at q
                exact q _ s15
              | true =>
                rw [hz, kt, if_neg (by decide)] at q
                refine ⟨_, rfl, 1, rfl, _, rfl, slq (hq.ex s15) fun c H6 s6 hc => ?_⟩
                have s16 := s15.trans s6
                refine ⟨c, _, rfl, hc.symm, _, rfl, b, ys, rfl, (kq.ex s16).symm, ?_⟩
                have hlen : (cutV xs (some (-1)) none ++ ys).length ≤ 50000 := by
                  rw [List.length_append]
                  have := cutV_length xs (some (-1)) none
                  omega
                have hall : (cutV xs (some (-1)) none ++ ys).all isThingV = true := by
                  rw [List.all_append, kt, Bool.and_true, List.all_eq_true]
                  intro z hz
                  unfold cutV at hz
                  exact List.all_eq_true.mp ht z (List.mem_of_mem_drop (List.mem_of_mem_take hz))
                simp only [tNil, List.append_nil]
                refine ⟨Nat.le_trans hlen (by decide), fun p hp => ?_⟩
                have s7 : Same H6 (upd H6 p (.lst (cutV xs (some (-1)) none ++ ys))) := fun a o ha => (upd_ne (ne_of_none ha hp)).trans ha
                refine ⟨_, ⟨p, _, rfl, .l upd_same, hlen, hall, rfl⟩, fun H8 s8 => ⟨_, rfl, ?_⟩⟩
                have s18 := (s16.trans s7).trans s8
                have at0 : atI ys 0 = some (hd ys) := getD_at (i := 0) hpos
                have atL : atI ys (-1) = some (lst ys) := by
                  have e : ys = ys.dropLast ++ [ys.getLast (List.ne_nil_of_length_pos hpos)] := (List.dropLast_concat_getLast _).symm
                  have z : lst ys = ys.getLast (List.ne_nil_of_length_pos hpos) := by
                    unfold lst
                    rw [List.getD_eq_getElem?_getD, List.getElem?_eq_getElem (by omega), List.getLast_eq_getElem]
                    rfl
                  rw [z]
                  conv => lhs; rw [e]
                  exact atI_last _ _
                cases kr : risingV (cutV xs (some (-1)) none ++ ys) with
                | false =>
                  rw [kr] at q
                  exact q _ s18
                | true =>
                  rw [kr] at q
                  refine ⟨_, rfl, b, ys, _, _, rfl, rfl, kq.ex s18, at0, rfl, _, rfl, ?_⟩
                  cases hd0 : decide (hd ys = .non) with
                  | true =>
                    refine ⟨_, rfl, 1, rfl, b, ys, _, _, rfl, rfl, kq.ex s18, atL, rfl, _, rfl, ?_⟩
                    rw [hd0] at q
                    cases l0 : decide (lst ys = .non) with
                    | false =>
                      rw [l0] at q
                      exact q _ s18
                    | true =>
                      rw [l0] at q
                      refine ⟨_, rfl, _, ⟨m, sq, rfl, h3.ex s18, rfl⟩, fun H9 s9 => ⟨_, rfl, ?_⟩⟩
                      have s19 := s18.trans s9
                      cases nm : isNumV m with
                      | false =>
                        rw [nm] at q
                        exact q _ s19
                      | true =>
                        rw [nm] at q
                        refine ⟨_, rfl, b, ys, _, _, rfl, rfl, kq.ex s19, at0, rfl, _, rfl, ?_⟩
                        rw [hd0]
                        rw [if_pos (of_decide_eq_true hd0)] at q
                        refine ⟨_, rfl, ?_⟩
                        cases m with
                        | int i =>
                          refine ⟨rfl, _, rfl, ?_⟩
                          by_cases hi : V.int i = V.int 0
                          · rw [decide_eq_true hi]
                            rw [if_pos hi] at q
                            exact q _ s19
                          · rw [decide_eq_false hi]
                            rw [if_neg hi] at q
                            exact q _ s19
                        | _ => cases nm
                  | false =>
                    rw [hd0] at q
                    refine ⟨_, rfl, _, ⟨m, sq, rfl, h3.ex s18, rfl⟩, fun H9 s9 => ⟨_, rfl, ?_⟩⟩
                    have s19 := s18.trans s9
                    cases nm : isNumV m with
                    | false =>
                      rw [nm] at q
                      exact q _ s19
                    | true =>
                      rw [nm] at q
                      refine ⟨_, rfl, b, ys, _, _, rfl, rfl, kq.ex s19, at0, rfl, _, rfl, ?_⟩
                      rw [hd0]
                      rw [if_neg (of_decide_eq_false hd0)] at q
                      have i0 : isIntV (hd ys) = true := by
                        have t := all_getD kt hpos
                        have n := of_decide_eq_false hd0
                        revert t n
                        unfold hd
                        cases ys.getD 0 V.non <;> intro t n <;> first | rfl | exact absurd rfl n | (cases t; done)
                      have iL : isIntV (lst ys) = true := rising_ints kt (rising_drop kr) i0 _ (by omega)
                      obtain ⟨u, eu⟩ : ∃ u, hd ys = .int u := by
                        revert i0
                        cases hd ys <;> intro i0 <;> first | exact ⟨_, rfl⟩ | cases i0
                      obtain ⟨t, et⟩ : ∃ t, lst ys = .int t := by
                        revert iL
                        cases lst ys <;> intro iL <;> first | exact ⟨_, rfl⟩ | cases iL
                      cases m with
                      | int i =>
                        refine ⟨_, rfl, 1, rfl, b, ys, _, _, rfl, rfl, kq.ex s19, atL, _, rfl, b, ys, _, _, rfl, rfl, kq.ex s19, at0, _, rfl, u, i, eu, rfl, t, _, et, rfl, _, rfl, ?_⟩
                        rw [eu, et] at q
                        have q : ∀ H', Same H H' → Q (if t ≤ u + i then .non else .str "more") H' := q
                        by_cases hi : t ≤ u + i
                        · rw [decide_eq_true hi]
                          rw [if_pos hi] at q
                          exact q _ s19
                        · rw [decide_eq_false hi]
                          rw [if_neg hi] at q
                          exact q _ s19
                      | _ => cases nm
end
end WW

set_option Elab.async false
set_option linter.all false
set_option maxRecDepth 100000
set_option maxHeartbeats 4000000
namespace WW
open PySem PySem.Spec PyProof.Rows L2
def wide (ag : List Int) (m : Int) (t : Nat) : List Int := ag ++ (ag.take t).map (· + m)
def isTurn (ag : List Int) (m : Int) (t : Nat) : Bool :=
  if (ag.length : Int) % (t : Int) ≠ 0 ∨ m * (t : Int) % (ag.length : Int) ≠ 0 then false
  else (List.range ag.length).all fun i => decide ((wide ag m t).getD (i + t) 0 - (wide ag m t).getD i 0 = m * (t : Int) / (ag.length : Int))
theorem cut_to {xs : List V} {t : Nat} : cutV xs none (some (t : Int)) = xs.take t := by
  unfold cutV
  rw [HT.sIx_none, HT.sIx_nat, List.drop_zero, Nat.sub_zero]
  by_cases h : t ≤ xs.length
  · rw [Nat.min_eq_left h]
  · rw [Nat.min_eq_right (by omega), List.take_length, List.take_of_length_le (by omega)]
theorem ints_at {ns : List Int} {i : Nat} (h : i < ns.length) : atI (ns.map V.int) (i : Int) = some (.int (ns.getD i 0)) := by
  refine atI_nat ?_
  rw [List.getElem?_map, List.getD_eq_getElem?_getD, List.getElem?_eq_getElem h]
  rfl
theorem dec_int {a b : Int} : decide (V.int a = V.int b) = decide (a = b) := by
  by_cases h : a = b
  · rw [decide_eq_true h, decide_eq_true (by rw [h])]
  · rw [decide_eq_false h, decide_eq_false (fun z => h (V.int.inj z))]
theorem wide_len {ag : List Int} {m : Int} {t : Nat} (h : t ≤ ag.length) : (wide ag m t).length = ag.length + t := by
  unfold wide
  rw [List.length_append, List.length_map, List.length_take, Nat.min_eq_left h]
section
variable {P : Program} {w : World} {K : PySem.W.Frag} {mg : Str → Option Value} {base : Heap} {f : Addr} {fd : FuncData}
def spTurn (K : PySem.W.Frag) : Sp := spV fun vs H v => ∃ (a : Addr) (ag : List Int) (m : Int) (t : Nat), vs = [.ref a, .int m, .int (t : Int)] ∧ Sq K H a (ag.map V.int) ∧ 0 < t ∧ t ≤ ag.length ∧ ag.length ≤ 20000 ∧ v = .bl (isTurn ag m t)
abbrev s_is_turn : Stmt := top 19
abbrev N_is_turn : List Str := ["again", "more", "turn", "growth", "wide", "at", "thing"]
theorem sc_is_turn : FnScope N_is_turn ["again", "more", "turn"] (defScope s_is_turn) := ⟨rfl, rfl, rfl, by decide +kernel, rfl, by decide +kernel, by decide +kernel⟩

theorem ok_is_turn (F : FnP K "is_turn" s_is_turn f fd) (m_all : mg "all" = none) (m_len : mg "len" = none) (m_range : mg "range" = none) : FnOk P w K mg base CX0 1 f fd ["again", "more", "turn"] (spTurn K) := by
  refine F.ok sc_is_turn (fun vs H Q E h => ?_) (fun cdv A outer s H vs Q E hr h => ?_)
  · obtain ⟨v, ⟨a, ag, m, t, rfl, _⟩, _⟩ := h
    rfl
  · obtain ⟨v, ⟨a, ag, m, t, rfl, hq, h0, ht, hl, rfl⟩, q⟩ := h
    refine ⟨_, PSs.nox (pss_cons (ps_if (PW.pt (pw_or (pt_cmpR op_ne (pe_op op_mod (pe_callB (call_lenK K) rfl m_len (by decide +kernel) (pa_cons (pv 0) (pa_nil))) (pv 2)) (pe_int) (nomark _)) (pw_or1 (pt_cmpR op_ne (pe_op op_mod (pe_op op_mul (pv 1) (pv 2)) (pe_callB (call_lenK K) rfl m_len (by decide +kernel) (pa_cons (pv 0) (pa_nil)))) (pe_int) (nomark _))))) (pss_one (ps_ret (pe_bl))) (pss_nil))
 (pss_cons (ps_set (i := 3) sc_is_turn.nd rfl (.inr rfl) (pe_op op_fdiv (pe_op op_mul (pv 1) (pv 2)) (pe_callB (call_lenK K) rfl m_len (by decide +kernel) (pa_cons (pv 0) (pa_nil)))))
 (pss_cons (ps_set (i := 4) sc_is_turn.nd rfl (.inr rfl) (pe_lst (pa_starK K (pv 0) (pa_starK K (pe_lc (own := [("thing", 6)]) rfl sc_is_turn.nd (pi_seqK K (pe_slice (sl_sqK K) (pv 0) (po_none) (po_some (pv 2)))) (blkOk_by (N := N_is_turn) (sc := defScope s_is_turn) (by decide +kernel)) (fun _ _ _ _ _ => pg_name (i := 6) sc_is_turn.nd rfl (.inl rfl)) (fun _ _ _ _ _ => pts_nil) (fun _ _ _ _ _ => pe_op op_add (pv 6) (pv 1))) (pa_nil)))))
 (pss_one (ps_ret (pe_callB (cr_allK K) rfl m_all (by decide +kernel) (pa_cons (pe_lc (own := [("at", 5)]) rfl sc_is_turn.nd (pi_range1 rfl m_range (pa_cons (pe_callB (call_lenK K) rfl m_len (by decide +kernel) (pa_cons (pv 0) (pa_nil))) (pa_nil))) (blkOk_by (N := N_is_turn) (sc := defScope s_is_turn) (by decide +kernel)) (fun _ _ _ _ _ => pg_name (i := 5) sc_is_turn.nd rfl (.inl rfl)) (fun _ _ _ _ _ => pts_nil) (fun _ _ _ _ _ => pe_cmpR op_eq (pe_op op_sub (pe_ix (ix_sqK K) (pv 4) (pe_op op_add (pv 5) (pv 2)) (fun _ _ => rfl)) (pe_ix (ix_sqK K) (pv 4) (pv 5) (fun _ _ => rfl))) (pv 3) (nomark _))) (pa_nil)))))))), ?_⟩
    have hlen : ((ag.map V.int).length : Int) = (ag.length : Int) := by rw [List.length_map]
    have hpos : (0 : Int) < ((ag.map V.int).length : Int) := by rw [hlen]; omega
    have t0 : (0 : Int) < (t : Int) := by omega
    refine ⟨_, rfl, a, _, rfl, hq, _, rfl, _, _, rfl, rfl, t0, rfl, _, rfl, ?_⟩
    unfold isTurn at q
    rw [hlen, dec_int]
    by_cases c1 : (ag.length : Int) % (t : Int) = 0
    · rw [decide_eq_true c1]
      refine ⟨_, rfl, _, rfl, _, _, rfl, rfl, .inr ⟨by omega, by omega⟩, _, rfl, a, _, rfl, hq, _, _, rfl, rfl, hpos, rfl, _, rfl, ?_⟩
      rw [hlen, dec_int]
      by_cases c2 : m * (t : Int) % (ag.length : Int) = 0
      · rw [decide_eq_true c2]
        rw [if_neg (by rw [c1, c2]; simp)] at q
        refine ⟨_, rfl, _, rfl, _, _, rfl, rfl, .inr ⟨by omega, by omega⟩, _, rfl, a, _, rfl, hq, _, _, rfl, rfl, ⟨hpos, by rw [hlen]; omega⟩, ?_⟩
        refine ⟨_, rfl, a, _, rfl, hq.symm, ?_⟩
        refine lc_sqG (K := K) (xs := (ag.take t).map V.int) (fun x => .int (intOf x + m)) (fun R r => ⟨_, rfl, _, rfl, _, rfl, slq hq fun p H1 s1 h1 => ?_⟩) (by rw [List.length_map, List.length_take]; omega) (fun x hx H1 s1 R r => ?_) fun D H1 s1 hD hD1 => ?_
        · rw [cut_to, ← List.map_take] at h1
          exact r p H1 s1 h1
        · obtain ⟨i, _, rfl⟩ := List.mem_map.mp hx
          exact ⟨_, rfl, _, rfl, _, _, rfl, rfl, r H1 (Same.refl H1)⟩
        · refine ⟨D, _, rfl, .inr (.inl (.inl hD1)), ?_⟩
          have ew : (ag.map V.int ++ (((ag.take t).map V.int).map (fun x => V.int (intOf x + m)) ++ [])) = (wide ag m t).map V.int := by
            unfold wide
            rw [List.append_nil, List.map_append, List.map_map, List.map_map]
            rfl
          refine ⟨?_, fun p hp => ?_⟩
          · rw [ew, List.length_map, wide_len ht]
            exact Nat.le_trans (show ag.length + t ≤ 50000 by omega) (by decide)
          · rw [ew]
            have s2 := s1.trans (same_new (o := .lst ((wide ag m t).map V.int)) hp)
            refine ⟨_, rfl, a, _, rfl, hq.ex s2, _, rfl, by omega, by omega, fun D2 hD2 => ?_⟩
            rw [hlen, Int.toNat_natCast]
            refine lc_rg (fun i => .bl (decide ((wide ag m t).getD (i + t) 0 - (wide ag m t).getD i 0 = m * (t : Int) / (ag.length : Int)))) (by omega) hD2 (fun i hi H3 s3 R r => ?_) fun H3 s3 hD3 => ?_
            · have hw : Sq K H3 p ((wide ag m t).map V.int) := .l (s3 _ _ upd_same)
              have e0 : (0 : Int) + (i : Int) + (t : Int) = ((i + t : Nat) : Int) := by omega
              have e1 : (0 : Int) + (i : Int) = (i : Int) := by omega
              refine ⟨_, rfl, _, rfl, _, rfl, _, _, rfl, rfl, p, _, _, .int ((wide ag m t).getD (i + t) 0), rfl, rfl, hw, ?_, _, rfl, _, rfl, p, _, _, .int ((wide ag m t).getD i 0), rfl, rfl, hw, ?_, _, _, rfl, rfl, _, rfl, rfl, ?_⟩
              · rw [e0]
                exact ints_at (by rw [wide_len ht]; omega)
              · rw [e1]
                exact ints_at (by rw [wide_len ht]; omega)
              · rw [dec_int]
                exact r H3 (Same.refl H3)
            · refine ⟨D2, (List.range ag.length).map fun i => decide ((wide ag m t).getD (i + t) 0 - (wide ag m t).getD i 0 = m * (t : Int) / (ag.length : Int)), rfl, .inl (.inl ?_), ?_⟩
              · rw [hD3, List.map_map]
                rfl
              · rw [List.all_map]
                exact q _ (s2.trans s3)
      · rw [decide_eq_false c2]
        rw [if_pos (.inr c2)] at q
        exact q _ (Same.refl H)
    · rw [decide_eq_false c1]
      rw [if_pos (.inl c1)] at q
      exact q _ (Same.refl H)
end
end WW

set_option Elab.async false
set_option linter.all false
set_option maxRecDepth 100000
set_option maxHeartbeats 4000000
namespace WW
open PySem PySem.Spec PyProof.Rows L2
def turns (ag : List Int) (m : Int) : List Nat := (List.range ag.length).filter fun i => isTurn ag m (i + 1)
def turnOf (ag : List Int) (m : Int) : Nat := (turns ag m).headD 0 + 1
def lastI (ag : List Int) : Int := ag.getD (ag.length - 1) 0
def shrinkR (m : Int) : List V → List Int → List V × List Int
  | .int x :: r, ag => if x + m = lastI ag then shrinkR m r (x :: ag.dropLast) else (.int x :: r, ag)
  | r, ag => (r, ag)
def leastF (fs : List V) (ag : List Int) (m : Int) : List V × List Int × Int :=
  ((shrinkR (m * (turnOf ag m : Int) / (ag.length : Int)) fs.reverse (ag.take (turnOf ag m))).1.reverse, (shrinkR (m * (turnOf ag m : Int) / (ag.length : Int)) fs.reverse (ag.take (turnOf ag m))).2, m * (turnOf ag m : Int) / (ag.length : Int))
def leastV (fs ys : List V) (m : Int) : List V × List V × Int :=
  if hd ys = .non then ([], [.non], 0) else ((leastF fs (ys.map intOf) m).1, (leastF fs (ys.map intOf) m).2.1.map V.int, (leastF fs (ys.map intOf) m).2.2)
theorem isTurn_len {ag : List Int} {m : Int} (h : 0 < ag.length) : isTurn ag m ag.length = true := by
  unfold isTurn
  rw [if_neg (by simp)]
  rw [List.all_eq_true]
  intro i hi
  rw [List.mem_range] at hi
  refine decide_eq_true ?_
  have e : m * (ag.length : Int) / (ag.length : Int) = m := Int.mul_ediv_cancel _ (by omega)
  rw [e]
  unfold wide
  rw [List.take_length]
  simp only [List.getD_eq_getElem?_getD]
  rw [List.getElem?_append_right (by omega), List.getElem?_append_left hi, List.getElem?_map, show i + ag.length - ag.length = i by omega, List.getElem?_eq_getElem hi]
  simp only [Option.map_some, Option.getD_some]
  omega
theorem turns_ne {ag : List Int} {m : Int} (h : 0 < ag.length) : turns ag m ≠ [] := by
  have q : ag.length - 1 ∈ turns ag m := by
    unfold turns
    rw [List.mem_filter, List.mem_range]
    refine ⟨by omega, ?_⟩
    rw [show ag.length - 1 + 1 = ag.length by omega]
    exact isTurn_len h
  exact List.ne_nil_of_mem q
theorem turnOf_mem {ag : List Int} {m : Int} (h : 0 < ag.length) : turnOf ag m - 1 ∈ turns ag m := by
  unfold turnOf
  rw [Nat.add_sub_cancel]
  cases e : turns ag m with
  | nil => exact absurd e (turns_ne h)
  | cons x r => exact List.mem_cons_self
theorem turnOf_pos (ag : List Int) (m : Int) : 0 < turnOf ag m := Nat.succ_pos _
theorem turnOf_le {ag : List Int} {m : Int} (h : 0 < ag.length) : turnOf ag m ≤ ag.length := by
  have q := turnOf_mem (m := m) h
  unfold turns at q
  rw [List.mem_filter, List.mem_range] at q
  have := turnOf_pos ag m
  omega
theorem turnOf_is {ag : List Int} {m : Int} (h : 0 < ag.length) : isTurn ag m (turnOf ag m) = true := by
  have q := turnOf_mem (m := m) h
  unfold turns at q
  rw [List.mem_filter] at q
  rw [show turnOf ag m - 1 + 1 = turnOf ag m from Nat.succ_pred_eq_of_pos (turnOf_pos ag m)] at q
  exact q.2
theorem at_last {xs : List V} {v : V} : atI (xs ++ [v]) (-1) = some v := atI_last xs v
theorem ints_last {ag : List Int} (h : 0 < ag.length) : atI (ag.map V.int) (-1) = some (.int (lastI ag)) := by
  have hn : ag ≠ [] := List.ne_nil_of_length_pos h
  have e : ag = ag.dropLast ++ [ag.getLast hn] := (List.dropLast_concat_getLast hn).symm
  have z : lastI ag = ag.getLast hn := by
    unfold lastI
    rw [List.getD_eq_getElem?_getD, List.getElem?_eq_getElem (by omega), List.getLast_eq_getElem]
    rfl
  rw [z]
  conv => lhs; rw [e, List.map_append]
  exact at_last
theorem cut_but {xs : List V} (h : 0 < xs.length) : cutV xs none (some (-1)) = xs.dropLast := by
  unfold cutV
  rw [HT.sIx_none]
  have e : HT.sIx xs.length xs.length (some (-1)) = xs.length - 1 := by
    show (if (-1 : Int) < 0 then ((-1 : Int) + (xs.length : Int)).toNat else min (-1 : Int).toNat xs.length) = xs.length - 1
    rw [if_pos (by decide)]
    omega
  rw [e, List.drop_zero, Nat.sub_zero, List.dropLast_eq_take]
section
variable {P : Program} {w : World} {K : PySem.W.Frag} {mg : Str → Option Value} {base : Heap} {f : Addr} {fd : FuncData}
def spLeast (K : PySem.W.Frag) : Sp := fun vs H Q _ => ∃ (a b : Addr) (fs ys : List V) (m : Int), vs = [.ref a, .ref b, .int m] ∧ Sq K H a fs ∧ Sq K H b ys ∧ fs.length ≤ 20000 ∧ ys.length ≤ 20000 ∧ 0 < ys.length ∧ fs.all isThingV = true ∧ (hd ys = .non ∨ ∃ ag : List Int, ys = ag.map V.int) ∧
  ∀ p p1 p2 H', Same H H' → H' p = some (.tup [.ref p1, .ref p2, .int (leastV fs ys m).2.2]) → H' p1 = some (.tup (leastV fs ys m).1) → H' p2 = some (.tup (leastV fs ys m).2.1) → Q (.ref p) H'
/-- (tuple(a), tuple(b), m), of two lists -/
theorem ret3 {σ : L2.St} {H : Hp} {Q : VK} {f1 a1 : Addr} {xs ys : List V} {m : V} {r : L2.St} (e : σ = some (.ref f1) :: some (.ref a1) :: some m :: r) (h1 : H f1 = some (.lst xs)) (h2 : H a1 = some (.lst ys))
    (k : ∀ p p1 p2 H', Same H H' → H' p = some (.tup [.ref p1, .ref p2, m]) → H' p1 = some (.tup xs) → H' p2 = some (.tup ys) → Q (.ref p) H') :
    tTup (tCons (tCB (rTupQ K) (tCons (tVar 0) tNil)) (tCons (tCB (rTupQ K) (tCons (tVar 1) tNil)) (tCons (tVar 2) tNil))) σ H Q := by
  subst e
  refine ⟨_, rfl, ⟨f1, xs, rfl, .inl ⟨.inl (.inl h1), fun p1 n1 => ⟨_, rfl, ⟨a1, ys, rfl, .inl ⟨.inl (.inl (same_new n1 _ _ h2)), fun p2 n2 => ⟨_, rfl, by show 3 ≤ sizeLine; decide, fun p n3 => ?_⟩⟩⟩⟩⟩⟩⟩
  have n12 : p1 ≠ p2 := ne_of_none upd_same n2
  have h1' : (upd (upd (upd H p1 (.tup xs)) p2 (.tup ys)) p (.tup [.ref p1, .ref p2, m])) p1 = some (.tup xs) := same_new n3 _ _ ((upd_ne n12).trans upd_same)
  exact k p p1 p2 _ (((same_new n1).trans (same_new n2)).trans (same_new n3)) upd_same h1' (same_new n3 _ _ upd_same)
theorem shrink_nil {m : Int} {bg : List Int} : shrinkR m [] bg = ([], bg) := rfl
theorem shrink_go {m x : Int} {r : List V} {bg : List Int} (h : x + m = lastI bg) : shrinkR m (.int x :: r) bg = shrinkR m r (x :: bg.dropLast) := by
  show (if x + m = lastI bg then shrinkR m r (x :: bg.dropLast) else (.int x :: r, bg)) = _
  rw [if_pos h]
theorem shrink_no {m x : Int} {r : List V} {bg : List Int} (h : ¬ x + m = lastI bg) : shrinkR m (.int x :: r) bg = (.int x :: r, bg) := by
  show (if x + m = lastI bg then shrinkR m r (x :: bg.dropLast) else (.int x :: r, bg)) = _
  rw [if_neg h]
abbrev s_least_form : Stmt := top 20
abbrev N_least_form : List Str := ["first", "again", "more", "turn"]
theorem sc_least_form : FnScope N_least_form ["first", "again", "more"] (defScope s_least_form) := ⟨rfl, rfl, rfl, by decide +kernel, rfl, by decide +kernel, by decide +kernel⟩

theorem ok_least_form (F : FnP K "least_form" s_least_form f fd) (m_list : mg "list" = none) (m_len : mg "len" = none) (m_range : mg "range" = none) (m_tuple : mg "tuple" = none) (g_is_turn : FnAt P w K mg base CX0 1 "is_turn" ["again", "more", "turn"] (spTurn K)) : FnOk P w K mg base CX0 2 f fd ["first", "again", "more"] (spLeast K) := by
  refine F.ok sc_least_form (fun vs H Q E h => ?_) (fun cdv A outer s H vs Q E hr h => ?_)
  · obtain ⟨a, b, fs, ys, m, rfl, _⟩ := h
    rfl
  · obtain ⟨a, b, fs, ys, m, rfl, hq, kq, hl, kl, k0, ht, kt, q⟩ := h
    refine ⟨_, PSs.nox (pss_cons (ps_if (pt_cmpR op_isN (pe_ix (ix_sqK K) (pv 1) (pe_int) (fun _ _ => rfl)) (pe_non) (nomark _)) (pss_one (ps_ret (pe_tup (pa_cons (pe_tup (pa_nil)) (pa_cons (pe_tup (pa_cons (pe_non) (pa_nil))) (pa_cons (pe_int) (pa_nil))))))) (pss_nil))
 (pss_cons (ps_set (i := 3) sc_least_form.nd rfl (.inl rfl) (pe_ix (ix_sqK K) (pe_lc (own := [("turn", 3)]) rfl sc_least_form.nd (pi_range2 rfl m_range (pa_cons (pe_int) (pa_cons (pe_op op_add (pe_callB (call_lenK K) rfl m_len (by decide +kernel) (pa_cons (pv 1) (pa_nil))) (pe_int)) (pa_nil)))) (blkOk_by (N := N_least_form) (sc := defScope s_least_form) (by decide +kernel)) (fun _ _ _ _ _ => pg_name (i := 3) sc_least_form.nd rfl (.inl rfl)) (fun _ _ _ _ _ => pts_one (pt_val (pe_fn g_is_turn hr rfl (pa_cons (pv 1) (pa_cons (pv 2) (pa_cons (pv 3) (pa_nil))))))) (fun _ _ _ _ _ => pv 3)) (pe_int) (fun _ _ => rfl)))
 (pss_cons (ps_set (i := 2) sc_least_form.nd rfl (.inr rfl) (pe_op op_fdiv (pe_op op_mul (pv 2) (pv 3)) (pe_callB (call_lenK K) rfl m_len (by decide +kernel) (pa_cons (pv 1) (pa_nil)))))
 (pss_cons (ps_asg (pe_tup (pa_cons (pe_callTy (call_listK K) rfl m_list (by decide +kernel) (pa_cons (pv 0) (pa_nil))) (pa_cons (pe_callTy (call_listK K) rfl m_list (by decide +kernel) (pa_cons (pe_slice (sl_sqK K) (pv 1) (po_none) (po_some (pv 3))) (pa_nil))) (pa_nil)))) (pg_tupK (n := 2) K rfl (pgs_cons (pg_name (i := 0) sc_least_form.nd rfl (.inl rfl)) (pgs_cons (pg_name (i := 1) sc_least_form.nd rfl (.inr rfl)) (pgs_nil)))))
 (pss_cons (ps_while PassesOwn.never (PW.pt (pw_and (pt_cmpR op_gt (pe_callB (call_lenK K) rfl m_len (by decide +kernel) (pa_cons (pv 0) (pa_nil))) (pe_int) (nomark _)) (pw_and (pt_cmpR op_notN (pe_ix (ix_sqK K) (pv 0) (pe_un un_neg (pe_int)) (fun _ _ => rfl)) (pe_non) (nomark _)) (pw_and1 (pt_cmpR op_eq (pe_op op_add (pe_ix (ix_sqK K) (pv 0) (pe_un un_neg (pe_int)) (fun _ _ => rfl)) (pv 2)) (pe_ix (ix_sqK K) (pv 1) (pe_un un_neg (pe_int)) (fun _ _ => rfl)) (nomark _)))))) (pss_one (ps_set (i := 1) sc_least_form.nd rfl (.inr rfl) (pe_lst (pa_cons (pe_bm0 PySem.F.plainAttrs_list PySem.F.slot_list_pop PySem.F.type_list_pop mt_pop (pv 0)) (pa_starK K (pe_slice (sl_sqK K) (pv 1) (po_none) (po_some (pe_un un_neg (pe_int)))) (pa_nil)))))))
 (pss_one (ps_ret (pe_tup (pa_cons (pe_callTy (call_tupleK K) rfl m_tuple (by decide +kernel) (pa_cons (pv 0) (pa_nil))) (pa_cons (pe_callTy (call_tupleK K) rfl m_tuple (by decide +kernel) (pa_cons (pv 1) (pa_nil))) (pa_cons (pv 2) (pa_nil)))))))))))), ?_⟩
    have at0 : atI ys 0 = some (hd ys) := getD_at (i := 0) k0
    refine ⟨_, rfl, b, ys, _, _, rfl, rfl, kq, at0, rfl, _, rfl, ?_⟩
    by_cases c0 : hd ys = .non
    · rw [decide_eq_true c0]
      unfold leastV at q
      rw [if_pos c0] at q
      refine ⟨by decide, fun p1 n1 => ⟨by decide, fun p2 n2 => ⟨by show 3 ≤ sizeLine; decide, fun p n3 => ?_⟩⟩⟩
      have n12 : p1 ≠ p2 := ne_of_none upd_same n2
      have n13 : p1 ≠ p := ne_of_none (H := upd (upd H p1 _) p2 _) (by rw [upd_ne n12]; exact upd_same) n3
      have n23 : p2 ≠ p := ne_of_none (H := upd (upd H p1 _) p2 _) upd_same n3
      exact q p p1 p2 _ (((same_new n1).trans (same_new n2)).trans (same_new n3)) upd_same (by rw [upd_ne n13, upd_ne n12, upd_same]) (by rw [upd_ne n23, upd_same])
    · rw [decide_eq_false c0]
      obtain ⟨ag, rfl⟩ : ∃ ag : List Int, ys = ag.map V.int := kt.resolve_left c0
      have eag : (ag.map V.int).map intOf = ag := by
        rw [List.map_map]
        exact List.map_id'' (fun _ => rfl) ag
      unfold leastV at q
      rw [if_neg c0, eag] at q
      have gl : ag.length ≤ 20000 := by rw [List.length_map] at kl; exact kl
      have g0 : 0 < ag.length := by rw [List.length_map] at k0; exact k0
      have hlen : ((ag.map V.int).length : Int) = (ag.length : Int) := by rw [List.length_map]
      refine ⟨_, rfl, b, _, rfl, kq, _, _, rfl, rfl, _, _, rfl, ⟨by omega, by omega, by omega, by omega⟩, fun D hD => ?_⟩
      have en : ((((ag.map V.int).length : Int) + 1) - 1).toNat = ag.length := by rw [hlen]; omega
      rw [en]
      refine lc_rgF (fun i => isTurn ag m (i + 1)) (fun i => .int ((i : Int) + 1)) (by omega) hD (fun i hi H1 s1 R r => ?_) (fun i hi H1 s1 R r => ?_) fun H1 s1 hD1 => ?_
      · refine ⟨_, rfl, _, rfl, _, rfl, _, ⟨b, ag, m, i + 1, ?_, kq.ex s1, by omega, by omega, gl, rfl⟩, fun H2 s2 => ⟨_, rfl, r H2 s2⟩⟩
        have e : (1 : Int) + (i : Int) = ((i + 1 : Nat) : Int) := by omega
        rw [e]
        rfl
      · have e : (1 : Int) + (i : Int) = (i : Int) + 1 := by omega
        refine ⟨_, rfl, ?_⟩
        rw [e]
        exact r H1 (Same.refl H1)
      · have hts : 0 < (turns ag m).length := List.length_pos_iff.mpr (turns_ne g0)
        have e0 : atI ((turns ag m).map fun i : Nat => V.int ((i : Int) + 1)) 0 = some (.int (turnOf ag m : Int)) := by
          unfold turnOf
          cases e : turns ag m with
          | nil => exact absurd e (turns_ne g0)
          | cons x r =>
            have e2 : V.int ((x : Int) + 1) = V.int (((x + 1 : Nat)) : Int) := by rw [Int.natCast_add]; rfl
            have e3 : atI ((x :: r).map fun i : Nat => V.int ((i : Int) + 1)) ((0 : Nat) : Int) = some (V.int ((x : Int) + 1)) := atI_nat (j := 0) rfl
            rw [e2] at e3
            exact e3
        refine ⟨D, _, _, _, rfl, rfl, .l hD1, e0, ?_⟩
        have t0 := turnOf_pos ag m
        have tl := turnOf_le (m := m) g0
        unfold leastF at q
        dsimp only at q
        generalize turnOf ag m = t at t0 tl q ⊢
        refine ⟨_, rfl, _, rfl, _, _, rfl, rfl, .inr ⟨by omega, by omega⟩, _, rfl, b, _, rfl, kq.ex s1, _, _, rfl, rfl, ⟨by rw [hlen]; omega, by rw [hlen]; omega⟩, ?_⟩
        rw [hlen]
        obtain ⟨m2, em⟩ : ∃ m2, m2 = m * (t : Int) / (ag.length : Int) := ⟨_, rfl⟩
        rw [← em] at q
        refine ⟨_, rfl, a, fs, rfl, hq.ex s1, fun f1 n1 => ⟨_, rfl, _, rfl, _, rfl, slq (kq.ex (s1.trans (same_new n1))) fun c H2 s2 h2 => ?_⟩⟩
        rw [cut_to, ← List.map_take] at h2
        have s12 : Same H H2 := (s1.trans (same_new n1)).trans s2
        have hf1 : H2 f1 = some (.lst fs) := s2 _ _ upd_same
        refine ⟨c, _, rfl, h2, fun a1 n2 => ⟨by show 2 ≤ sizeLine; decide, fun pz n3 => ?_⟩⟩
        have s14 : Same H (upd (upd H2 a1 (.lst ((ag.take t).map V.int))) pz (.tup [.ref f1, .ref a1])) := (s12.trans (same_new n2)).trans (same_new n3)
        refine ⟨pz, _, rfl, .inl (.inl upd_same), rfl, .ref f1, _, rfl, .ref a1, _, rfl, rfl, ?_⟩
        have nfa : f1 ≠ a1 := ne_of_none hf1 n2
        have nfz : f1 ≠ pz := ne_of_none (H := upd H2 a1 (.lst ((ag.take t).map V.int))) ((upd_ne nfa).trans hf1) n3
        have naz : a1 ≠ pz := ne_of_none (H := upd H2 a1 (.lst ((ag.take t).map V.int))) upd_same n3
        refine ⟨fun k σ Hc => ∃ (f1 a1 : Addr) (gs : List V) (bg : List Int), σ = [some (.ref f1), some (.ref a1), some (.int m2), some (.int (t : Int))] ∧ k = gs.length ∧ Same H Hc ∧ H f1 = none ∧ f1 ≠ a1 ∧ Hc f1 = some (.lst gs) ∧ Hc a1 = some (.lst (bg.map V.int)) ∧
          0 < bg.length ∧ bg.length ≤ 20000 ∧ gs.length ≤ 20000 ∧ gs.all isThingV = true ∧ shrinkR m2 gs.reverse bg = shrinkR m2 fs.reverse (ag.take t), ⟨fs.length, f1, a1, fs, ag.take t, by rw [em]; rfl, rfl, s14, s1.free n1, nfa, ?_, ?_, ?_, ?_, hl, ht, rfl⟩, ?_⟩
        · rw [upd_ne nfz, upd_ne nfa]
          exact hf1
        · rw [upd_ne naz]
          exact upd_same
        · rw [List.length_take]
          omega
        · rw [List.length_take]
          omega
        · rintro k σ Hc ⟨f1, a1, gs, bg, rfl, rfl, sc, nf, nfa, hf, ha, b0, bl, gl2, gt, eR⟩
          refine ⟨_, rfl, f1, gs, rfl, .l hf, _, _, rfl, rfl, _, rfl, ?_⟩
          rw [← eR] at q
          rcases List.eq_nil_or_concat gs with eg | ⟨gi, x, eg⟩
          · subst eg
            exact ret3 rfl hf ha fun p p1 p2 H' s' e1 e2 e3 => q p p1 p2 H' (sc.trans s') e1 e2 e3
          · rw [List.concat_eq_append] at eg
            subst eg
            have hp : decide ((0 : Int) < ((gi ++ [x]).length : Int)) = true := decide_eq_true (by rw [List.length_append]; simp)
            rw [hp]
            refine ⟨_, rfl, 1, rfl, f1, _, _, _, rfl, rfl, .l hf, at_last, rfl, _, rfl, ?_⟩
            have xt : isThingV x = true := List.all_eq_true.mp gt x (List.mem_append_right _ (List.mem_singleton.mpr rfl))
            rw [List.reverse_append, List.reverse_singleton, List.singleton_append] at q eR
            cases x with
            | non => exact ret3 rfl hf ha fun p p1 p2 H' s' e1 e2 e3 => q p p1 p2 H' (sc.trans s') e1 (by rw [e2]; exact congrArg (fun z => some (HO.tup z)) (by simp [shrinkR])) (by rw [e3]; rfl)
            | int i =>
              refine ⟨_, rfl, 1, rfl, f1, _, _, _, rfl, rfl, .l hf, at_last, _, rfl, _, _, rfl, rfl, _, rfl, 1, rfl, a1, _, _, _, rfl, rfl, .l ha, ints_last b0, rfl, _, rfl, ?_⟩
              rw [dec_int]
              by_cases ci : i + m2 = lastI bg
              · rw [decide_eq_true ci]
                rw [shrink_go ci] at eR
                refine ⟨fun σ' H' => ∃ a2, σ' = [some (.ref f1), some (.ref a2), some (.int m2), some (.int (t : Int))] ∧ Same H H' ∧ f1 ≠ a2 ∧ H' f1 = some (.lst gi) ∧ H' a2 = some (.lst ((i :: bg.dropLast).map V.int)), ?_, ?_⟩
                · rintro σ' H' ⟨a2, rfl, s2, n2, h2, h3⟩
                  refine ⟨gi.length, by rw [List.length_append]; simp, f1, a2, gi, i :: bg.dropLast, rfl, rfl, s2, nf, n2, h2, h3, by simp, ?_, ?_, ?_, eR⟩
                  · rw [List.length_cons, List.length_dropLast]
                    omega
                  · rw [List.length_append] at gl2
                    omega
                  · rw [List.all_append, Bool.and_eq_true] at gt
                    exact gt.1
                · refine ⟨_, rfl, .inl ⟨rfl, _, .inl (.inl hf)⟩, f1, _, .int i, rfl, rfl, hf, ?_, ?_⟩
                  · rw [List.length_append, List.length_singleton, Nat.add_sub_cancel, List.getElem?_append_right (Nat.le_refl _), Nat.sub_self]
                    rfl
                  · rw [List.dropLast_concat]
                    have ha' : (upd Hc f1 (.lst gi)) a1 = some (.lst (bg.map V.int)) := (upd_ne (Ne.symm nfa)).trans ha
                    refine ⟨_, rfl, 1, rfl, _, rfl, slq (K := K) (.l ha') fun c H2 s2 h2 => ⟨c, _, rfl, h2.symm, ?_⟩⟩
                    rw [cut_but (by rw [List.length_map]; exact b0), ← List.map_dropLast]
                    simp only [tNil, List.append_nil]
                    have el : (V.int i :: (bg.dropLast).map V.int) = (i :: bg.dropLast).map V.int := rfl
                    refine ⟨?_, fun p np => ⟨p, rfl, ?_, ?_, ?_, ?_⟩⟩
                    · show (V.int i :: (bg.dropLast).map V.int).length ≤ sizeLine
                      rw [el, List.length_map, List.length_cons, List.length_dropLast]
                      exact Nat.le_trans (show bg.length - 1 + 1 ≤ 50000 by omega) (by decide)
                    · exact ((same_app sc nf).trans s2).trans (same_new np)
                    · exact ne_of_none (s2 _ _ upd_same) np
                    · exact same_new np _ _ (s2 _ _ upd_same)
                    · exact upd_same
              · rw [decide_eq_false ci]
                rw [shrink_no ci] at q
                exact ret3 rfl hf ha fun p p1 p2 H' s' e1 e2 e3 => q p p1 p2 H' (sc.trans s') e1 (by rw [e2]; simp) (by rw [e3])
            | _ => cases xt
end
end WW

set_option Elab.async false
set_option linter.all false
set_option maxRecDepth 100000
set_option maxHeartbeats 4000000
namespace WW
open PySem PySem.Spec PyProof.Rows L2
def SameBut (x : Addr) (H H' : Hp) : Prop := ∀ a o, a ≠ x → H a = some o → H' a = some o
/-- a row stands at x -/
def RowAt (C : Addr) (H : Hp) (x : Addr) (fs ys : List V) (m : Int) : Prop := ∃ dx p1 p2, H x = some (.ins C dx [("first", .ref p1), ("again", .ref p2), ("more", .int m)]) ∧ H p1 = some (.tup fs) ∧ H p2 = some (.tup ys)
theorem RowAt.ex {C : Addr} {H H' : Hp} {x : Addr} {fs ys : List V} {m : Int} (e : Same H H') (h : RowAt C H x fs ys m) : RowAt C H' x fs ys m := by
  obtain ⟨dx, p1, p2, h1, h2, h3⟩ := h
  exact ⟨dx, p1, p2, e _ _ h1, e _ _ h2, e _ _ h3⟩
/-- the class of rows -/
structure RowC (K : PySem.W.Frag) (C : Addr) : Prop where
  cls : Cls K C
  nF : NoAttr K C "first"
  nA : NoAttr K C "again"
  nM : NoAttr K C "more"
theorem map_intOf {ys : List V} (h : ∀ i, i < ys.length → isIntV (ys.getD i .non) = true) : ys = (ys.map intOf).map V.int := by
  refine List.ext_getElem (by rw [List.length_map, List.length_map]) fun i h1 h2 => ?_
  have q := h i h1
  rw [List.getD_eq_getElem?_getD, List.getElem?_eq_getElem h1, Option.getD_some] at q
  rw [List.getElem_map, List.getElem_map]
  revert q
  cases ys[i] <;> intro q <;> first | rfl | (cases q; done)
theorem wrong_ok {fs ys : List V} {m : V} (h : wrongW (some fs) (some ys) m = .non) : fs.all isThingV = true ∧ risingV fs = true ∧ 0 < ys.length ∧ ys.all isThingV = true ∧ risingV (cutV fs (some (-1)) none ++ ys) = true ∧ isNumV m = true ∧ (hd ys = .non ∨ ∃ ag : List Int, ys = ag.map V.int) := by
  unfold wrongW at h
  dsimp only at h
  by_cases c1 : (fs.all isThingV && risingV fs) = true
  · rw [if_pos c1] at h
    have h : wrongA fs ys m = .non := h
    unfold wrongA at h
    by_cases c2 : (ys.isEmpty || !ys.all isThingV) = true
    · rw [if_pos c2] at h
      cases h
    · rw [if_neg c2] at h
      by_cases c3 : (!risingV (cutV fs (some (-1)) none ++ ys) || (decide (hd ys = .non) && !decide (lst ys = .non))) = true
      · rw [if_pos c3] at h
        cases h
      · rw [if_neg c3] at h
        by_cases c4 : isNumV m = false
        · rw [if_pos c4] at h
          cases h
        · have k1 := Bool.and_eq_true_iff.mp c1
          have k2 : ys.isEmpty = false ∧ ys.all isThingV = true := by
            revert c2
            cases ys.isEmpty <;> cases ys.all isThingV <;> simp
          have k3 : risingV (cutV fs (some (-1)) none ++ ys) = true := by
            revert c3
            cases risingV (cutV fs (some (-1)) none ++ ys) <;> simp
          have k4 : isNumV m = true := by
            revert c4
            cases isNumV m <;> simp
          have k5 : 0 < ys.length := by
            cases ys with
            | nil => cases k2.1
            | cons _ _ => exact Nat.succ_pos _
          refine ⟨k1.1, k1.2, k5, k2.2, k3, k4, ?_⟩
          by_cases c5 : hd ys = .non
          · exact .inl c5
          · refine .inr ⟨ys.map intOf, map_intOf (rising_ints k2.2 (rising_drop k3) ?_)⟩
            have t := all_getD k2.2 k5
            revert t c5
            unfold hd
            cases ys.getD 0 V.non <;> intro c5 t <;> first | rfl | exact absurd rfl c5 | (cases t; done)
  · rw [if_neg c1] at h
    cases h
section
variable {P : Program} {w : World} {K : PySem.W.Frag} {mg : Str → Option Value} {base : Heap} {f : Addr} {fd : FuncData}
def spInit (K : PySem.W.Frag) (C : Addr) : Sp := fun vs H Q _ => ∃ (x dx : Addr) (v1 v2 : V) (fs ys : List V) (m : Int), vs = [.ref x, v1, v2, .int m] ∧ H x = some (.ins C dx []) ∧ Arg K H v1 (some fs) ∧ Arg K H v2 (some ys) ∧ wrongW (some fs) (some ys) (.int m) = .non ∧
  ∀ H', SameBut x H H' → RowAt C H' x (leastV fs ys m).1 (leastV fs ys m).2.1 (leastV fs ys m).2.2 → Q .non H'
/-- tuple(x) of a sequence -/
theorem tupq {H : Hp} {a : Addr} {xs : List V} {Q : VK} (h : Sq K H a xs) (k : ∀ p H', Same H H' → Sq K H' p xs → Q (.ref p) H') : rTupQ K [.ref a] H Q := by
  rcases h with h | h
  · exact ⟨⟨a, xs, rfl, .inl ⟨h, fun l hl => k l _ (same_new hl) (.t upd_same)⟩⟩⟩
  · exact ⟨⟨a, xs, rfl, .inr ⟨h, k a H (Same.refl H) (.inr h)⟩⟩⟩
abbrev s_Row___init__ : Stmt := inClass (top 21) 0
abbrev N_Row___init__ : List Str := ["self", "first", "again", "more", "word"]
theorem sc_Row___init__ : FnScope N_Row___init__ ["self", "first", "again", "more"] (defScope s_Row___init__) := ⟨rfl, rfl, rfl, by decide +kernel, rfl, by decide +kernel, by decide +kernel⟩

theorem ok_Row_init {C : Addr} (F : FunD K "__init__" "Row.__init__" (defArgs s_Row___init__) (defBody s_Row___init__) (defScope s_Row___init__) [.int 0] [] f fd) (R : RowC K C) (m_tuple : mg "tuple" = none) (g_wrong_word : FnAt P w K mg base CX0 3 "wrong_word" ["first", "again", "more"] (spWrong K)) (g_least_form : FnAt P w K mg base CX0 2 "least_form" ["first", "again", "more"] (spLeast K)) :
    FnOk P w K mg base CX0 4 f fd ["self", "first", "again", "more"] (spInit K C) := by
  refine F.ok sc_Row___init__ (fun vs H Q E h => ?_) (fun cdv A outer s H vs Q E hr h => ?_)
  · obtain ⟨x, dx, v1, v2, fs, ys, m, rfl, _⟩ := h
    rfl
  · obtain ⟨x, dx, v1, v2, fs, ys, m, rfl, hx, h1, h2, hw, q⟩ := h
    obtain ⟨ht, hr1, k0, kt, kr, nm, kz⟩ := wrong_ok hw
    refine ⟨_, PSs.nox (pss_cons (ps_set (i := 4) sc_Row___init__.nd rfl (.inl rfl) (pe_fn g_wrong_word hr rfl (pa_cons (pv 1) (pa_cons (pv 2) (pa_cons (pv 3) (pa_nil))))))
 (pss_cons (ps_if (pt_cmpR op_notN (pv 4) (pe_non) (nomark _)) (pss_one (ps_never)) (pss_nil))
 (pss_one (ps_asg (pe_fn g_least_form hr rfl (pa_cons (pe_callTy (call_tupleK K) rfl m_tuple (by decide +kernel) (pa_cons (pv 1) (pa_nil))) (pa_cons (pe_callTy (call_tupleK K) rfl m_tuple (by decide +kernel) (pa_cons (pv 2) (pa_nil))) (pa_cons (pv 3) (pa_nil))))) (pg_tupK (n := 3) K rfl (pgs_cons (pg_fld K (pv 0)) (pgs_cons (pg_fld K (pv 0)) (pgs_cons (pg_fld K (pv 0)) (pgs_nil))))))))), ?_⟩
    refine ⟨_, rfl, _, rfl, _, rfl, _, ⟨v1, v2, .int m, some fs, some ys, false, rfl, h1, h2, hasT_int m, rfl⟩, fun H1 s1 => ?_⟩
    rw [hw]
    refine ⟨_, rfl, rfl, _, rfl, ?_⟩
    obtain ⟨a, rfl, hq, hl, _⟩ := h1
    obtain ⟨b, rfl, kq, kl, _⟩ := h2
    refine ⟨_, rfl, tupq (hq.ex s1) fun p1 H2 s2 h2 => ⟨_, rfl, tupq (kq.ex (s1.trans s2)) fun p2 H3 s3 h3 => ⟨_, rfl, p1, p2, fs, ys, m, rfl, h2.ex s3, h3, hl, kl, k0, ht, kz, fun p q1 q2 H4 s4 e1 e2 e3 => ?_⟩⟩⟩
    have s14 : Same H H4 := ((s1.trans s2).trans s3).trans s4
    have hx4 := s14 _ _ hx
    refine ⟨p, _, rfl, .inl (.inl e1), rfl, _, _, rfl, ⟨_, rfl, x, C, dx, _, rfl, hx4, R.cls, R.nF, by decide, _, _, rfl, ⟨_, rfl, x, C, dx, _, rfl, upd_same, R.cls, R.nA, (by show 1 < 1000; decide), _, _, rfl, ⟨_, rfl, x, C, dx, _, rfl, upd_same, R.cls, R.nM, (by show 2 < 1000; decide), rfl, ?_⟩⟩⟩⟩
    have n1 : q1 ≠ x := fun z => by
      rw [z, hx4] at e2
      cases e2
    have n2 : q2 ≠ x := fun z => by
      rw [z, hx4] at e3
      cases e3
    rw [upd_upd, upd_upd]
    refine q _ (fun a o n ha => (upd_ne n).trans (s14 a o ha)) ⟨dx, q1, q2, upd_same, (upd_ne n1).trans e2, (upd_ne n2).trans e3⟩
end
end WW

set_option Elab.async false
set_option linter.all false
set_option maxRecDepth 100000
set_option maxHeartbeats 4000000
namespace WW
open PySem PySem.Spec PyProof.Rows L2
theorem SameBut.refl (x : Addr) (H : Hp) : SameBut x H H := fun _ _ _ h => h
theorem SameBut.trans {x : Addr} {H H1 H2 : Hp} (a : SameBut x H H1) (b : SameBut x H1 H2) : SameBut x H H2 := fun c o n h => b c o n (a c o n h)
theorem SameBut.of {x : Addr} {H H' : Hp} (e : Same H H') : SameBut x H H' := fun a o _ h => e a o h
theorem SameBut.upd (x : Addr) (H : Hp) (o : HO) : SameBut x H (upd H x o) := fun _ _ n h => (upd_ne n).trans h
theorem SameBut.sq {x a : Addr} {K : PySem.W.Frag} {H H' : Hp} {xs : List V} (e : SameBut x H H') (n : a ≠ x) (h : Sq K H a xs) : Sq K H' a xs := by
  rcases h with ((h | ⟨u, h⟩) | h) | ((h | ⟨u, h⟩) | h)
  · exact .inl (.inl (.inl (e _ _ n h)))
  · exact .inl (.inl (.inr ⟨u, e _ _ n h⟩))
  · exact .inl (.inr h)
  · exact .inr (.inl (.inl (e _ _ n h)))
  · exact .inr (.inl (.inr ⟨u, e _ _ n h⟩))
  · exact .inr (.inr h)
/-- none of what was free is the box -/
theorem Box.ne {H : Hp} {b a : Addr} (h : Box H b) (n : H a = none) : a ≠ b := fun z => by
  obtain ⟨x, y, w, e⟩ := h
  rw [z, e] at n
  cases n
theorem Box.ex {H H' : Hp} {b : Addr} (e : Same H H') (h : Box H b) : Box H' b := by
  obtain ⟨x, y, z, h⟩ := h
  exact ⟨x, y, z, e _ _ h⟩
section
variable {P : Program} {w : World} {K : PySem.W.Frag} {mg : Str → Option Value} {base : Heap} {f : Addr} {fd : FuncData}
def spBox (K : PySem.W.Frag) : Sp := fun vs H Q _ => ∃ (a : Addr) (ns : List Int) (k : Int), vs = [.ref a, .int k] ∧ SqL K H a (ns.map V.int) ∧ 0 ≤ k ∧ ns.length ≤ 1000 ∧
  ∀ p H', Same H H' → H p = none → Box H' p → Q (.ref p) H'
abbrev s_l_box : Stmt := top 25
abbrev N_l_box : List Str := ["_law_script", "_law_k", "_law_cell", "_law_seed"]
theorem sc_l_box : FnScope N_l_box ["_law_script", "_law_k"] (defScope s_l_box) := ⟨rfl, rfl, rfl, by decide +kernel, rfl, by decide +kernel, by decide +kernel⟩

theorem ok_box (F : FnP K "_law_box" s_l_box f fd) (m_int : mg "int" = none) (m_len : mg "len" = none) (m_abs : mg "abs" = none) : FnOk P w K mg base CX0 1 f fd ["_law_script", "_law_k"] (spBox K) := by
  refine F.ok sc_l_box (fun vs H Q E h => ?_) (fun cdv A outer s H vs Q E hr h => ?_)
  · obtain ⟨a, ns, k, rfl, _⟩ := h
    rfl
  · obtain ⟨a, ns, k, rfl, hq, k0, hl, q⟩ := h
    refine ⟨_, PSs.nox (pss_cons (ps_set (i := 2) sc_l_box.nd rfl (.inl rfl) (pe_op op_add (pe_op op_mul (pe_int) (pv 1)) (pe_int)))
 (pss_cons (ps_if (pt_cmpR op_lt (pv 1) (pe_callB (call_lenK K) rfl m_len (by decide +kernel) (pa_cons (pv 0) (pa_nil))) (nomark _)) (pss_one (ps_set (i := 2) sc_l_box.nd rfl (.inl rfl) (pe_callB call_abs rfl m_abs (by decide +kernel) (pa_cons (pe_ix (ix_sqK K) (pv 0) (pv 1) (fun _ _ => rfl)) (pa_nil))))) (pss_one (ps_if (pt_cmpR op_gt (pe_callB (call_lenK K) rfl m_len (by decide +kernel) (pa_cons (pv 0) (pa_nil))) (pe_int) (nomark _)) (pss_one (ps_set (i := 2) sc_l_box.nd rfl (.inl rfl) (pe_op op_add (pv 2) (pe_op op_mul (pe_op op_mod (pe_callTy call_int1 rfl m_int (by decide +kernel) (pa_cons (pe_callB call_abs rfl m_abs (by decide +kernel) (pa_cons (pe_callTy call_int1 rfl m_int (by decide +kernel) (pa_cons (pe_ix (ix_sqK K) (pv 0) (pe_op op_mod (pe_callTy call_int1 rfl m_int (by decide +kernel) (pa_cons (pv 1) (pa_nil))) (pe_callB (call_lenK K) rfl m_len (by decide +kernel) (pa_cons (pv 0) (pa_nil)))) (fun _ _ => rfl)) (pa_nil))) (pa_nil))) (pa_nil))) (pe_int)) (pe_int))))) (pss_nil))))
 (pss_cons (ps_set (i := 3) sc_l_box.nd rfl (.inl rfl) (pe_op op_add (pe_op op_mod (pe_callTy call_int1 rfl m_int (by decide +kernel) (pa_cons (pe_op op_add (pe_op op_mul (pe_op op_mod (pe_callTy call_int1 rfl m_int (by decide +kernel) (pa_cons (pv 2) (pa_nil))) (pe_int)) (pe_int)) (pe_op op_mul (pe_int) (pv 1))) (pa_nil))) (pe_int)) (pe_int)))
 (pss_one (ps_ret (pe_lst (pa_cons (pe_ix (ix_sqK K) (pe_lst (pa_cons (pe_int) (pa_cons (pv 2) (pa_nil)))) (pe_callTy call_int1 rfl m_int (by decide +kernel) (pa_cons (pe_cmpR op_ge (pv 2) (pe_op op_pow (pe_int) (pe_int)) (nomark _)) (pa_nil))) (fun _ _ => rfl)) (pa_cons (pv 3) (pa_cons (pe_int) (pa_nil)))))))))), ?_⟩
    have hsq : Sq K H a (ns.map V.int) := .inl hq
    have hlen : ((ns.map V.int).length : Int) = (ns.length : Int) := by rw [List.length_map]
    -- what stands behind the cell
    refine ⟨_, rfl, _, _, rfl, rfl, .inl ⟨by decide, by decide⟩, _, _, rfl, rfl, ?_⟩
    refine ⟨_, rfl, _, rfl, a, _, rfl, hsq, _, _, rfl, rfl, _, rfl, ?_⟩
    have fin : ∀ c : Int, (tSeq
      (tAsg (tOp (rI0 fun i j => V.int (i + j)) (tOp (rI (fun _ j => 0 < j) fun i j => V.int (i % j)) (tCB (fun xs H Q => (∃ i, xs = [V.int i] ∧ Q (V.int i) H) ∨ ∃ k, xs = [V.bl k] ∧ Q (V.int (if k = true then 1 else 0)) H)
        (tCons (tOp (rI0 fun i j => V.int (i + j)) (tOp (rI CMul fun i j => V.int (i * j)) (tOp (rI (fun _ j => 0 < j) fun i j => V.int (i % j)) (tCB (fun xs H Q => (∃ i, xs = [V.int i] ∧ Q (V.int i) H) ∨ ∃ k, xs = [V.bl k] ∧ Q (V.int (if k = true then 1 else 0)) H) (tCons (tVar 2) tNil)) (tC (.int 2147483629))) (tC (.int 48271))) (tOp (rI CMul fun i j => V.int (i * j)) (tC (.int 42043)) (tVar 1))) tNil)) (tC (.int 2147483629))) (tC (.int 1))) (gName 3))
      (tRet (tLst (tCons (tOp (rIxQ K) (tLst (tCons (tC (.int 0)) (tCons (tVar 2) tNil))) (tCB (fun xs H Q => (∃ i, xs = [V.int i] ∧ Q (V.int i) H) ∨ ∃ k, xs = [V.bl k] ∧ Q (V.int (if k = true then 1 else 0)) H) (tCons (tOp (rI0 fun i j => V.bl (decide (j ≤ i))) (tVar 2) (tOp (rI CPow fun i j => V.int (i ^ j.toNat)) (tC (.int 10)) (tC (.int 18)))) tNil))) (tCons (tVar 3) (tCons (tC (.int 0)) tNil))))))
      { nx := fun _ H' => Q .non H', rt := Q } [some (.ref a), some (.int k), some (.int c), none] H := by
      intro c
      refine ⟨_, rfl, .inl ⟨_, rfl, _, _, rfl, rfl, (by show (0 : Int) < _; decide), _, _, rfl, rfl, .inr ⟨by decide, by decide⟩, _, rfl, _, _, rfl, rfl, .inl ⟨by decide, by decide⟩, _, _, rfl, rfl, .inl ⟨_, rfl, _, _, rfl, rfl, (by show (0 : Int) < _; decide), _, _, rfl, rfl, ?_⟩⟩⟩
      refine ⟨_, rfl, by show 2 ≤ sizeLine; decide, fun p np => ?_⟩
      refine ⟨_, rfl, _, _, rfl, rfl, ⟨by decide, by decide, by decide⟩, _, _, rfl, rfl, .inr ⟨_, rfl, ?_⟩⟩
      have s1 : Same H (upd H p (.lst [.int 0, .int c])) := same_new np
      by_cases hc : (10 : Int) ^ (18 : Int).toNat ≤ c
      · rw [decide_eq_true hc]
        refine ⟨p, _, 1, _, rfl, rfl, .l upd_same, rfl, _, rfl, by show 3 ≤ sizeLine; decide, fun p2 n2 => ?_⟩
        exact q p2 _ (s1.trans (same_new n2)) (s1.free n2) ⟨_, _, _, upd_same⟩
      · rw [decide_eq_false hc]
        refine ⟨p, _, 0, _, rfl, rfl, .l upd_same, rfl, _, rfl, by show 3 ≤ sizeLine; decide, fun p2 n2 => ?_⟩
        exact q p2 _ (s1.trans (same_new n2)) (s1.free n2) ⟨_, _, _, upd_same⟩
    refine ite2 (fun c => ?_) (fun c => ?_)
    · have c := of_decide_eq_true c
      rw [hlen] at c
      have hk : k.toNat < (ns.map V.int).length := by rw [List.length_map]; omega
      have e : (ns.map V.int)[k.toNat] = .int (ns[k.toNat]'(by omega)) := by rw [List.getElem_map]
      have ea := at_toNat (xs := ns.map V.int) k0 hk
      rw [e] at ea
      exact ⟨_, rfl, _, rfl, a, _, _, _, rfl, rfl, hsq, ea, _, rfl, fin _⟩
    · refine ⟨_, rfl, a, _, rfl, hsq, _, _, rfl, rfl, _, rfl, ite2 (fun c2 => ?_) (fun c2 => fin _)⟩
      have c2 := of_decide_eq_true c2
      rw [hlen] at c2
      have hp : (0 : Int) < ((ns.map V.int).length : Int) := by rw [hlen]; exact c2
      have h1 := Int.emod_nonneg k (b := ((ns.map V.int).length : Int)) (by omega)
      have h2 := Int.emod_lt_of_pos k hp
      have hk : (k % ((ns.map V.int).length : Int)).toNat < (ns.map V.int).length := by omega
      have hk2 : (k % ((ns.map V.int).length : Int)).toNat < ns.length := by rw [List.length_map] at hk; rw [List.length_map]; exact hk
      have e : (ns.map V.int)[(k % ((ns.map V.int).length : Int)).toNat] = .int (ns[(k % ((ns.map V.int).length : Int)).toNat]'hk2) := by rw [List.getElem_map]
      have ea := at_toNat (xs := ns.map V.int) h1 hk
      rw [e] at ea
      exact ⟨_, rfl, _, rfl, _, rfl, .inl ⟨_, rfl, _, rfl, a, _, rfl, hsq, _, _, rfl, rfl, hp, a, _, _, _, rfl, rfl, hsq, ea, .inl ⟨_, rfl, _, rfl, .inl ⟨_, rfl, _, _, rfl, rfl, (by show (0 : Int) < _; decide), _, _, rfl, rfl, .inr ⟨by decide, by decide⟩, _, _, rfl, rfl, fin _⟩⟩⟩⟩
end
end WW

set_option Elab.async false
set_option linter.all false
set_option maxRecDepth 100000
set_option maxHeartbeats 4000000
namespace WW
open PySem PySem.Spec PyProof.Rows L2
/-- a drawn row: nothing n times, times, times that come again, growth -/
structure Drawn (fs : List V) (ag : List Int) (m : Int) : Prop where
  ex : ∃ (n : Nat) (is : List Int), fs = List.replicate n V.non ++ is.map V.int ∧ n ≤ 2 ∧ is.length ≤ 3 ∧ (is ++ ag).Pairwise (· ≤ ·) ∧ ∀ v ∈ is ++ ag, -4 ≤ v ∧ v ≤ 40
  l1 : 1 ≤ ag.length
  l3 : ag.length ≤ 3
  m0 : lastI ag - ag.getD 0 0 ≤ m
  m1 : m ≤ 50
/-- what is drawn so far: times that rise up to here -/
def Up (is : List Int) (h c : Int) : Prop := (is ++ [h]).Pairwise (· ≤ ·) ∧ (∀ v ∈ is ++ [h], -4 ≤ v) ∧ h ≤ c
theorem Up.next {is : List Int} {h c d e : Int} (u : Up is h c) (h0 : 0 ≤ d) (h1 : d ≤ e) : Up (is ++ [h]) (h + d) (c + e) := by
  obtain ⟨p, b, l⟩ := u
  have bh := b h (List.mem_append_right _ (List.mem_singleton.mpr rfl))
  refine ⟨?_, fun v hv => ?_, by omega⟩
  · rw [List.pairwise_append]
    refine ⟨p, List.pairwise_singleton _ _, fun x hx y hy => ?_⟩
    rw [List.mem_singleton.mp hy]
    rw [List.pairwise_append] at p
    rcases List.mem_append.mp hx with hx | hx
    · have := p.2.2 x hx h (List.mem_singleton.mpr rfl)
      omega
    · rw [List.mem_singleton.mp hx]
      omega
  · rcases List.mem_append.mp hv with hv | hv
    · exact b v hv
    · rw [List.mem_singleton.mp hv]
      omega
theorem Up.le {is : List Int} {h c : Int} (u : Up is h c) : ∀ v ∈ is, v ≤ h := fun v hv => by
  have p := u.1
  rw [List.pairwise_append] at p
  exact p.2.2 v hv h (List.mem_singleton.mpr rfl)
section
variable {P : Program} {w : World} {K : PySem.W.Frag} {mg : Str → Option Value} {base : Heap} {f : Addr} {fd : FuncData}
/-- a told row at p: a tuple of two lists and a number -/
def Told (H : Hp) (p : Addr) (fs : List V) (ag : List Int) (m : Int) : Prop := ∃ p1 p2, H p = some (.tup [.ref p1, .ref p2, .int m]) ∧ H p1 = some (.lst fs) ∧ H p2 = some (.lst (ag.map V.int))
def spRow : Sp := fun vs H Q _ => ∃ (b : Addr) (lo : Bool), vs = [.ref b, .bl lo] ∧ Box H b ∧
  ∀ p H' fs ag m, Drawn fs ag m → SameBut b H H' → Box H' b → (∃ p1 p2, H' p = some (.tup [.ref p1, .ref p2, .int m]) ∧ H' p1 = some (.lst fs) ∧ H' p2 = some (.lst (ag.map V.int)) ∧ p ≠ b ∧ p1 ≠ b ∧ p2 ≠ b) → Q (.ref p) H'
/-- the same, all of it new -/
def spRowF : Sp := fun vs H Q _ => ∃ (b : Addr) (lo : Bool), vs = [.ref b, .bl lo] ∧ Box H b ∧
  ∀ p H' fs ag m, Drawn fs ag m → SameBut b H H' → Box H' b → (∃ p1 p2, H' p = some (.tup [.ref p1, .ref p2, .int m]) ∧ H' p1 = some (.lst fs) ∧ H' p2 = some (.lst (ag.map V.int)) ∧ p ≠ b ∧ p1 ≠ b ∧ p2 ≠ b ∧ H p = none ∧ H p1 = none ∧ H p2 = none) → Q (.ref p) H'
theorem SameBut.free {b a : Addr} {H H' : Hp} (h : SameBut b H H') (n : a ≠ b) (e : H' a = none) : H a = none := by
  cases c : H a with
  | none => rfl
  | some o =>
    rw [h a o n c] at e
    cases e
theorem SameBut.app {b p : Addr} {H Hc : Hp} {o : HO} (h : SameBut b H Hc) (n : H p = none) : SameBut b H (L2.upd Hc p o) := fun a u na ha => by
  rw [upd_ne (ne_of_none ha n)]
  exact h a u na ha
theorem pick4 {a b c d : Int} {v : V} (h : v ∈ [V.int a, V.int b, V.int c, V.int d]) (ha : 0 ≤ a ∧ a ≤ d) (hb : 0 ≤ b ∧ b ≤ d) (hc : 0 ≤ c ∧ c ≤ d) (hd : 0 ≤ d) : ∃ i, v = .int i ∧ 0 ≤ i ∧ i ≤ d := by
  simp only [List.mem_cons, List.not_mem_nil, or_false] at h
  rcases h with rfl | rfl | rfl | rfl
  · exact ⟨a, rfl, ha⟩
  · exact ⟨b, rfl, hb⟩
  · exact ⟨c, rfl, hc⟩
  · exact ⟨d, rfl, hd, Int.le_refl d⟩
abbrev s_l_row : Stmt := top 29
abbrev N_l_row : List Str := ["_law_box_here", "_law_is_low", "_law_here", "_law_first", "_law_turn", "_law_again"]
theorem sc_l_row : FnScope N_l_row ["_law_box_here", "_law_is_low"] (defScope s_l_row) := ⟨rfl, rfl, rfl, by decide +kernel, rfl, by decide +kernel, by decide +kernel⟩

theorem ok_rowF (F : FnP K "_law_row" s_l_row f fd) (m_int : mg "int" = none) (m_range : mg "range" = none) (g_l_take : FnAt P w K mg base CX0 1 "_law_take" ["_law_box_here", "_law_many"] spTake) (g_l_pick : FnAt P w K mg base CX0 2 "_law_pick" ["_law_box_here", "_law_some"] (spPick K)) :
    FnOk P w K mg base CX0 3 f fd ["_law_box_here", "_law_is_low"] spRowF := by
  refine F.ok sc_l_row (fun vs H Q E h => ?_) (fun cdv A outer s H vs Q E hr h => ?_)
  · obtain ⟨b, lo, rfl, _⟩ := h
    rfl
  · obtain ⟨b, lo, rfl, hb, q⟩ := h
    refine ⟨_, PSs.nox (pss_cons (ps_set (i := 2) sc_l_row.nd rfl (.inl rfl) (pe_op op_sub (pe_fn g_l_take hr rfl (pa_cons (pv 0) (pa_cons (pe_int) (pa_nil)))) (pe_op op_mul (pe_int) (pe_callTy call_int1 rfl m_int (by decide +kernel) (pa_cons (pv 1) (pa_nil))))))
 (pss_cons (ps_set (i := 3) sc_l_row.nd rfl (.inl rfl) (pe_lst (pa_nil)))
 (Evl.pss_cut (ps_for PassesOwn.never rfl (pi_range1 rfl m_range (pa_cons (pe_fn g_l_take hr rfl (pa_cons (pv 0) (pa_cons (pe_int) (pa_nil)))) (pa_nil))) (pg_name (i := 4) sc_l_row.nd rfl (.inl rfl)) (pss_cons (ps_expr (pe_bm PySem.F.plainAttrs_list PySem.F.slot_list_append PySem.F.type_list_append mt_append (pv 3) (pa_cons (pv 2) (pa_nil))))
 (pss_one (ps_set (i := 2) sc_l_row.nd rfl (.inl rfl) (pe_op op_add (pv 2) (pe_fn g_l_pick hr rfl (pa_cons (pv 0) (pa_cons (pe_lst (pa_cons (pe_int) (pa_cons (pe_int) (pa_cons (pe_int) (pa_cons (pe_int) (pa_nil)))))) (pa_nil)))))))))
 (Evl.pss_cut (ps_if (pt_cmpR op_eq (pe_fn g_l_take hr rfl (pa_cons (pv 0) (pa_cons (pe_int) (pa_nil)))) (pe_int) (nomark _)) (pss_one (ps_set (i := 3) sc_l_row.nd rfl (.inl rfl) (pe_op op_cat (pe_op op_rep (pe_lst (pa_cons (pe_non) (pa_nil))) (pe_op op_add (pe_int) (pe_fn g_l_take hr rfl (pa_cons (pv 0) (pa_cons (pe_int) (pa_nil)))))) (pv 3)))) (pss_nil))
 (pss_cons (ps_set (i := 5) sc_l_row.nd rfl (.inl rfl) (pe_lst (pa_nil)))
 (Evl.pss_cut (ps_for PassesOwn.never rfl (pi_range1 rfl m_range (pa_cons (pe_op op_add (pe_int) (pe_fn g_l_take hr rfl (pa_cons (pv 0) (pa_cons (pe_int) (pa_nil))))) (pa_nil))) (pg_name (i := 4) sc_l_row.nd rfl (.inl rfl)) (pss_cons (ps_expr (pe_bm PySem.F.plainAttrs_list PySem.F.slot_list_append PySem.F.type_list_append mt_append (pv 5) (pa_cons (pv 2) (pa_nil))))
 (pss_one (ps_set (i := 2) sc_l_row.nd rfl (.inl rfl) (pe_op op_add (pv 2) (pe_fn g_l_pick hr rfl (pa_cons (pv 0) (pa_cons (pe_lst (pa_cons (pe_int) (pa_cons (pe_int) (pa_cons (pe_int) (pa_cons (pe_int) (pa_nil)))))) (pa_nil)))))))))
 (pss_one (ps_ret (pe_tup (pa_cons (pv 3) (pa_cons (pv 5) (pa_cons (pe_op op_add (pe_op op_sub (pe_ix (ix_sqK K) (pv 5) (pe_un un_neg (pe_int)) (fun _ _ => rfl)) (pe_ix (ix_sqK K) (pv 5) (pe_int) (fun _ _ => rfl))) (pe_fn g_l_take hr rfl (pa_cons (pv 0) (pa_cons (pe_int) (pa_nil))))) (pa_nil))))))))))))), ?_⟩
    -- here
    refine ⟨_, rfl, b, 7, rfl, hb, by decide, by decide, fun x0 y0 z0 d0 l0 u0 => ?_⟩
    refine ⟨_, rfl, .inr ⟨_, rfl, _, _, rfl, rfl, .inl ⟨by decide, by decide⟩, _, _, rfl, rfl, ?_⟩⟩
    obtain ⟨h0, e0, l0', u0'⟩ : ∃ h0, h0 = d0 - 4 * (if lo = true then 1 else 0) ∧ -4 ≤ h0 ∧ h0 ≤ 6 := by
      cases lo
      · exact ⟨_, rfl, by simp; omega, by simp; omega⟩
      · exact ⟨_, rfl, by simp; omega, by simp; omega⟩
    -- first = []
    refine ⟨by decide, fun p1 n1 => ?_⟩
    have bx1 : Box (upd (upd H b (bx x0 y0 z0)) p1 (.lst [])) b := ⟨_, _, _, same_new n1 _ _ upd_same⟩
    have np1 : p1 ≠ b := Box.ne ⟨_, _, _, upd_same⟩ n1
    have sb1 : SameBut b H (upd (upd H b (bx x0 y0 z0)) p1 (.lst [])) := (SameBut.upd b H _).trans (.of (same_new n1))
    have hn1 : H p1 = none := by
      rw [upd_ne np1] at n1
      exact n1
    refine ⟨fun σ Hc => ∃ (h : Int) (is : List Int) (v4 : Option V), σ = [some (.ref b), some (.bl lo), some (.int h), some (.ref p1), v4, none] ∧ SameBut b H Hc ∧ Box Hc b ∧ Hc p1 = some (.lst (is.map V.int)) ∧ is.length ≤ 3 ∧ Up is h 21, ?_, ?_⟩
    · refine ⟨_, rfl, b, 4, rfl, bx1, by decide, by decide, fun x1 y1 z1 d1 l1 u1 => ⟨d1, rfl, by omega, by omega, ?_⟩⟩
      refine for_range (fun i σ Hc => ∃ (h : Int) (is : List Int) (v4 : Option V), σ = [some (.ref b), some (.bl lo), some (.int h), some (.ref p1), v4, none] ∧ SameBut b H Hc ∧ Box Hc b ∧ Hc p1 = some (.lst (is.map V.int)) ∧ is.length = i ∧ Up is h (6 + 5 * (i : Int))) ⟨h0, [], none, by rw [e0]; rfl, sb1.trans (SameBut.upd b _ _), ⟨_, _, _, upd_same⟩, (upd_ne np1).trans upd_same, rfl, ?_⟩ ?_ ?_
      · refine ⟨List.pairwise_singleton _ _, fun v hv => ?_, by omega⟩
        rw [List.mem_singleton.mp hv]
        omega
      · rintro i σ Hc hi ⟨h, is, v4, rfl, sb, bx2, hp1, hlen, up⟩
        refine ⟨_, rfl, .inl ⟨rfl, _, .inl (.inl hp1)⟩, _, rfl, p1, _, _, rfl, rfl, hp1, ?_, ?_⟩
        · rw [List.length_map]
          exact Nat.lt_of_lt_of_le (show is.length < 1000 by omega) (by decide)
        · have bx3 : Box (upd Hc p1 (.lst (is.map V.int ++ [.int h]))) b := by
            obtain ⟨x, y, z, e⟩ := bx2
            exact ⟨x, y, z, (upd_ne (Ne.symm np1)).trans e⟩
          refine ⟨_, rfl, _, rfl, by show 4 ≤ sizeLine; decide, fun l nl => ?_⟩
          refine ⟨b, l, [.int 0, .int 1, .int 2, .int 5], rfl, bx3.ex (same_new nl), .l upd_same, Box.ne bx3 nl, by show 0 < 4; decide, by show 4 < 1000; decide, fun x y z v hv => ?_⟩
          obtain ⟨d, rfl, hd0, hd1⟩ := pick4 hv (by decide) (by decide) (by decide) (by decide)
          have hl1 : p1 ≠ l := ne_of_none upd_same nl
          refine ⟨_, _, rfl, rfl, h + d, is ++ [h], some (.int (0 + (i : Int))), rfl, ?_, ⟨_, _, _, upd_same⟩, ?_, by rw [List.length_append, hlen]; rfl, ?_⟩
          · exact ((sb.app hn1).trans (.of (same_new nl))).trans (SameBut.upd b _ _)
          · rw [upd_ne np1, upd_ne hl1, upd_same, List.map_append]
            rfl
          · have := up.next hd0 hd1
            rw [show (6 : Int) + 5 * (i : Int) + 5 = 6 + 5 * ((i + 1 : Nat) : Int) by omega] at this
            exact this
      · rintro σ Hc ⟨h, is, v4, rfl, sb, bx2, hp1, hlen, a1, a2, a3⟩
        exact ⟨h, is, v4, rfl, sb, bx2, hp1, by omega, a1, a2, by omega⟩
    rintro σ Hc ⟨h, is, v4, rfl, sb, bx2, hp1, il, ub⟩
    -- nothing ahead
    refine ⟨fun σ H2 => ∃ (pf : Addr) (n : Nat), σ = [some (.ref b), some (.bl lo), some (.int h), some (.ref pf), v4, none] ∧ SameBut b H H2 ∧ Box H2 b ∧ H pf = none ∧ pf ≠ b ∧ n ≤ 2 ∧ H2 pf = some (.lst (List.replicate n V.non ++ is.map V.int)), ?_, ?_⟩
    · refine ⟨_, rfl, b, 4, rfl, bx2, by decide, by decide, fun x y z d dl du => ⟨rfl, _, rfl, ite2 (fun c => ?_) (fun c => ?_)⟩⟩
      · have sb2 : SameBut b H (upd Hc b (bx x y z)) := sb.trans (SameBut.upd b _ _)
        refine ⟨by decide, fun l nl => ?_⟩
        have hlb : l ≠ b := Box.ne ⟨_, _, _, upd_same⟩ nl
        refine ⟨_, rfl, b, 2, rfl, ⟨_, _, _, same_new nl _ _ upd_same⟩, by decide, by decide, fun x2 y2 z2 d2 dl2 du2 => ⟨_, _, rfl, rfl, l, _, [.non], rfl, rfl, (upd_ne hlb).trans upd_same, by omega, by omega, ?_, fun l2 nl2 => ?_⟩⟩
        · show 1 * (1 + d2).toNat ≤ sizeLine
          exact Nat.le_trans (show 1 * (1 + d2).toNat ≤ 3 by omega) (by decide)
        · have er : (List.replicate (1 + d2).toNat [V.non]).flatten = List.replicate (1 + d2).toNat V.non := by
            generalize (1 + d2).toNat = k
            induction k with
            | zero => rfl
            | succ k ih => rw [List.replicate_succ, List.flatten_cons, ih]; rfl
          have hl2b : l2 ≠ b := Box.ne ⟨_, _, _, upd_same⟩ nl2
          have hp1b : (upd (upd (upd Hc b (bx x y z)) l (.lst [.non])) b (bx x2 y2 z2)) p1 = some (.lst (is.map V.int)) := by
            rw [upd_ne np1]
            refine same_new nl _ _ ?_
            rw [upd_ne np1]
            exact hp1
          refine ⟨_, rfl, l2, p1, _, _, rfl, rfl, upd_same, same_new nl2 _ _ hp1b, ?_, fun l3 nl3 => ⟨l3, (1 + d2).toNat, rfl, ?_, ?_, ?_, ?_, by omega, ?_⟩⟩
          · rw [er, List.length_replicate, List.length_map]
            exact Nat.le_trans (show (1 + d2).toNat + is.length ≤ 10 by omega) (by decide)
          · exact (((sb2.trans (.of (same_new nl))).trans (SameBut.upd b _ _)).trans (.of (same_new nl2))).trans (.of (same_new nl3))
          · exact Box.ex (same_new nl3) (Box.ex (same_new nl2) ⟨_, _, _, upd_same⟩)
          · exact SameBut.free (((sb2.trans (.of (same_new nl))).trans (SameBut.upd b _ _)).trans (.of (same_new nl2))) (Box.ne (Box.ex (same_new nl2) ⟨_, _, _, upd_same⟩) nl3) nl3
          · exact Box.ne (Box.ex (same_new nl2) ⟨_, _, _, upd_same⟩) nl3
          · rw [upd_same, er]
      · exact ⟨p1, 0, rfl, sb.trans (SameBut.upd b _ _), ⟨_, _, _, upd_same⟩, hn1, np1, by omega, by rw [upd_ne np1, hp1]; rfl⟩
    rintro σ H2 ⟨pf, n, rfl, sb2, bx4, fpf, npf, hn2, hpf⟩
    -- again = []
    refine ⟨by decide, fun p2 n2 => ?_⟩
    have np2 : p2 ≠ b := Box.ne bx4 n2
    have sb3 : SameBut b H (upd H2 p2 (.lst [])) := sb2.trans (.of (same_new n2))
    have hpf3 : (upd H2 p2 (.lst [])) pf = some (.lst (List.replicate n V.non ++ is.map V.int)) := same_new n2 _ _ hpf
    have nf2 : pf ≠ p2 := ne_of_none hpf n2
    refine ⟨fun σ H3 => ∃ (h' : Int) (ag : List Int) (v4 : Option V), σ = [some (.ref b), some (.bl lo), some (.int h'), some (.ref pf), v4, some (.ref p2)] ∧ SameBut b H H3 ∧ Box H3 b ∧ H3 pf = some (.lst (List.replicate n V.non ++ is.map V.int)) ∧ H3 p2 = some (.lst (ag.map V.int)) ∧ 1 ≤ ag.length ∧ ag.length ≤ 3 ∧ Up (is ++ ag) h' 33, ?_, ?_⟩
    · refine ⟨_, rfl, b, 3, rfl, bx4.ex (same_new n2), by decide, by decide, fun x1 y1 z1 d1 l1 u1 => ⟨_, _, rfl, rfl, 1 + d1, rfl, by omega, by omega, ?_⟩⟩
      refine for_range (fun i σ Hc => ∃ (h' : Int) (ag : List Int) (v4 : Option V), σ = [some (.ref b), some (.bl lo), some (.int h'), some (.ref pf), v4, some (.ref p2)] ∧ SameBut b H Hc ∧ SameBut b H2 Hc ∧ Box Hc b ∧ Hc p2 = some (.lst (ag.map V.int)) ∧ ag.length = i ∧ Up (is ++ ag) h' (21 + 4 * (i : Int))) ⟨h, [], v4, rfl, sb3.trans (SameBut.upd b _ _), SameBut.trans (.of (same_new n2)) (SameBut.upd b _ _), ⟨_, _, _, upd_same⟩, (upd_ne np2).trans upd_same, rfl, by rw [List.append_nil]; exact ub⟩ ?_ ?_
      · rintro i σ Hc hi ⟨h', ag, v4, rfl, sb, sbb, bx5, hp2, hlen, up⟩
        refine ⟨_, rfl, .inl ⟨rfl, _, .inl (.inl hp2)⟩, _, rfl, p2, _, _, rfl, rfl, hp2, ?_, ?_⟩
        · rw [List.length_map]
          exact Nat.lt_of_lt_of_le (show ag.length < 1000 by omega) (by decide)
        · have bx3 : Box (upd Hc p2 (.lst (ag.map V.int ++ [.int h']))) b := by
            obtain ⟨x, y, z, e⟩ := bx5
            exact ⟨x, y, z, (upd_ne (Ne.symm np2)).trans e⟩
          refine ⟨_, rfl, _, rfl, by show 4 ≤ sizeLine; decide, fun l nl => ?_⟩
          refine ⟨b, l, [.int 0, .int 1, .int 2, .int 4], rfl, bx3.ex (same_new nl), .l upd_same, Box.ne bx3 nl, by show 0 < 4; decide, by show 4 < 1000; decide, fun x y z v hv => ?_⟩
          obtain ⟨d, rfl, hd0, hd1⟩ := pick4 hv (by decide) (by decide) (by decide) (by decide)
          have hl1 : p2 ≠ l := ne_of_none upd_same nl
          refine ⟨_, _, rfl, rfl, h' + d, ag ++ [h'], some (.int (0 + (i : Int))), rfl, ?_, ?_, ⟨_, _, _, upd_same⟩, ?_, by rw [List.length_append, hlen]; rfl, ?_⟩
          · refine (SameBut.trans ?_ (.of (same_new nl))).trans (SameBut.upd b _ _)
            refine fun a o na ha => ?_
            rw [upd_ne (ne_of_none (sb2 a o na ha) n2)]
            exact sb a o na ha
          · exact ((sbb.app n2).trans (.of (same_new nl))).trans (SameBut.upd b _ _)
          · rw [upd_ne np2, upd_ne hl1, upd_same, List.map_append]
            rfl
          · have := up.next hd0 hd1
            rw [show (21 : Int) + 4 * (i : Int) + 4 = 21 + 4 * ((i + 1 : Nat) : Int) by omega, List.append_assoc] at this
            exact this
      · rintro σ Hc ⟨h', ag, v4, rfl, sb, sbb, bx5, hp2, hlen, up⟩
        obtain ⟨a1, a2, a3⟩ := up
        exact ⟨h', ag, v4, rfl, sb, bx5, sbb _ _ npf hpf, hp2, by omega, by omega, a1, a2, by omega⟩
    rintro σ H3 ⟨h', ag, v4, rfl, sb4, bx6, hpf4, hp24, al1, al3, up⟩
    -- the end
    have at0 : atI (ag.map V.int) 0 = some (.int (ag.getD 0 0)) := ints_at (i := 0) (by omega)
    have atL := ints_last (ag := ag) (by omega)
    refine ⟨_, rfl, _, rfl, _, rfl, 1, rfl, p2, _, _, _, rfl, rfl, .l hp24, atL, _, rfl, p2, _, _, _, rfl, rfl, .l hp24, at0, _, _, rfl, rfl, _, rfl, b, 5, rfl, bx6, by decide, by decide, fun x y z d dl du => ⟨_, _, rfl, rfl, by show 3 ≤ sizeLine; decide, fun p np => ?_⟩⟩
    have nb : p ≠ b := Box.ne ⟨_, _, _, upd_same⟩ np
    refine q p _ (List.replicate n V.non ++ is.map V.int) ag (lastI ag - ag.getD 0 0 + d) ?_ ((sb4.trans (SameBut.upd b _ _)).trans (.of (same_new np))) (Box.ex (same_new np) ⟨_, _, _, upd_same⟩) ⟨pf, p2, upd_same, same_new np _ _ ((upd_ne npf).trans hpf4), same_new np _ _ ((upd_ne np2).trans hp24), nb, npf, np2, SameBut.free (sb4.trans (SameBut.upd b _ _)) nb np, fpf, SameBut.free sb2 np2 n2⟩
    have hle := up.le
    obtain ⟨u1, u2, u3⟩ := up
    have bd : ∀ v ∈ is ++ ag, -4 ≤ v ∧ v ≤ 40 := fun v hv => ⟨u2 v (List.mem_append_left _ hv), by have := hle v hv; omega⟩
    have mem : ∀ i, i < ag.length → ag.getD i 0 ∈ is ++ ag := fun i hi => by
      rw [List.getD_eq_getElem?_getD, List.getElem?_eq_getElem hi]
      exact List.mem_append_right _ (List.getElem_mem hi)
    have b0 := bd _ (mem 0 (by omega))
    have bL := bd _ (mem (ag.length - 1) (by omega))
    refine ⟨⟨n, is, rfl, hn2, il, ?_, bd⟩, al1, al3, by omega, ?_⟩
    · rw [List.pairwise_append] at u1
      exact u1.1
    · have : lastI ag = ag.getD (ag.length - 1) 0 := rfl
      omega
theorem ok_row (F : FnP K "_law_row" s_l_row f fd) (m_int : mg "int" = none) (m_range : mg "range" = none) (g_l_take : FnAt P w K mg base CX0 1 "_law_take" ["_law_box_here", "_law_many"] spTake) (g_l_pick : FnAt P w K mg base CX0 2 "_law_pick" ["_law_box_here", "_law_some"] (spPick K)) :
    FnOk P w K mg base CX0 3 f fd ["_law_box_here", "_law_is_low"] spRow :=
  (ok_rowF F m_int m_range g_l_take g_l_pick).imp fun vs H Q E h => by
    obtain ⟨b, lo, e, hb, q⟩ := h
    refine ⟨b, lo, e, hb, fun p H' fs ag m d sb bx h => ?_⟩
    obtain ⟨p1, p2, h1, h2, h3, n1, n2, n3, _⟩ := h
    exact q p H' fs ag m d sb bx ⟨p1, p2, h1, h2, h3, n1, n2, n3⟩
end
end WW

set_option Elab.async false
set_option linter.all false
set_option maxRecDepth 100000
set_option maxHeartbeats 4000000
namespace WW
open PySem PySem.Spec PyProof.Rows L2
/-- super().__init__(text); self.f = x -/
def supBody (p0 p1 p2 p3 p4 p5 p6 p7 p8 p9 : Pos) (j : Nat) (txt fld px : Str) : List Stmt :=
  [.Expr (.Call (.Attribute (.Call (.Name "super" p0) [] [] p1) "__init__" p2) [.Constant (.str txt) j p9] [] p3) p4, .Assign [.Attribute (.Name "self" p5) fld p6] (.Name px p7) p8]
structure SupScope (scope : Scope) (params : Arguments) (px : Str) : Prop where
  ks : scope.names.lookup ("super" : Str) = some .globalImplicit
  kc : scope.names.lookup ("__class__" : Str) = some .free
  kself : scope.names.lookup ("self" : Str) = some .local
  kx : scope.names.lookup px = some .local
  kind : scope.kind = .function
  co : scope.isCoroutine = false
  gen : scope.isGenerator = false
  nocell : ∀ x ∈ scope.names, x.2 ≠ .cell
  hd : ∃ ar, (params.posonlyargs ++ params.args).head? = some ar ∧ ar.arg = ("self" : Str)
  ne : px ≠ ("self" : Str)
  dbg : (px == ("__debug__" : Str)) = false
/-- what the written part says of such a class -/
structure SupC (P : Program) (K : PySem.W.Frag) (C fI : Addr) (qual : Str) (params : Arguments) (body : List Stmt) (scope : Scope) : Prop where
  oex : OexC K C
  ini : PySem.W.findIn K (.ref C) "__init__" = some (some (.ref fI))
  tyI : PySem.W.typeIn K (.ref fI) = some (.type "function")
  fn : ∃ (nm : Str) (oc : Value) (od : Option Addr) (kV doc pm : Value) (an : Option Addr) (cda cc : Addr) (ct : Value) (osl : Array (Option Value)) (ccl : Value) (cdd : Option Addr) (vs : Array Value) (ccs : Array (Option Value)) (file : Str) (tf : Tok) (cl : Value) (cld : Option Addr) (csl : Array (Option Value)),
    K.lookup fI = some ⟨oc, od, .func (PySem.W.ksFn nm qual params body scope .none kV doc pm an (.ref cda) ct cc), osl⟩ ∧ PySem.W.codeIn K (.ref cda) qual = true ∧ K.lookup cda = some ⟨ccl, cdd, .fields vs, ccs⟩ ∧ vs[2]? = some (.str file tf) ∧ ((P.main.file : Str) == file) = true ∧ K.lookup cc = some ⟨cl, cld, .cell (some (.ref C)), csl⟩
  sup : PySem.W.ks_superIn K C C "__init__" = some (some (.builtin "ValueError.__init__"))
  sub : PySem.W.mroIn K C (.ref C) = some true
  ve : PySem.W.subIn K (.ref C) (.type "ValueError") = some true
  opq : PySem.W.nsIn K cStatics "thirdparty.any" = some none
  top : (P.main.scope.names.lookup ("super" : Str)).isSome = false
theorem sup_code {prog : Program} {w : World} {A : Around} {K : PySem.W.Frag} {mg : Str → Option Value} {base hp : Heap} {g : Array GenState} {d : PySem.Drawn} {t : Nat} {os : OsState} {C fI a t0 : Addr} {qual : Str} {params : Arguments} {scope : Scope} {u : Value} {R : Result → Shared → Prop}
    {p0 p1 p2 p3 p4 p5 p6 p7 p8 p9 : Pos} {j : Nat} {txt fld px : Str}
    (SC : SupC prog K C fI qual params (supBody p0 p1 p2 p3 p4 p5 p6 p7 p8 p9 j txt fld px) scope) (SS : SupScope scope params px) (M0 : Mod K mg base) (kb : ∀ b o, base.get? b = some o → hp.get? b = some o) (hab : base.get? a = none) (hsup : mg "super" = none)
    (hroom : A.depth < recursionLimit) (hno : PySem.W.findIn K (.ref C) fld = some none) {pl : Env → Sem Bool}
    (hev : ∀ env : Env, eval (.Call (.Attribute (.Call (.Name "super" p0) [] [] p1) "__init__" p2) [.Constant (.str txt) j p9] [] p3) env = (do
      let ov ← attributeBase (.Call (.Name "super" p0) [] [] p1) "__init__" env (eval (.Call (.Name "super" p0) [] [] p1) env)
      standAt p2.atName
      let (f, first) ← holding [ov] (getMethod ov "__init__" (pl env))
      callWith p3 f first (backTo p3 (starEach [.Constant (.str txt) j p9] env)) []))
    (hbind : ∀ (nm : Str) (kV doc pm : Value) (an : Option Addr) (cdv ct : Value) (cc : Addr) (us : List Value), us.length = 2 → bindArgs (PySem.W.ksFn nm qual params (supBody p0 p1 p2 p3 p4 p5 p6 p7 p8 p9 j txt fld px) scope .none kV doc pm an cdv ct cc) ⟨us, []⟩ = pure ((["self", px] : List Str).zip us))
    (hx : hp.get? a = some (PySem.HandSPX.excO C t0))
    (hq : ∀ h' tk' dx t1, (∀ b o, b ≠ a → hp.get? b = some o → h'.get? b = some o) → hp.objs.size ≤ dx → dx ≠ a → h'.get? a = some ({ cls := .ref C, dict := some dx, data := .fields #[.ref t1, .none, .none, .none, .bool false, .none] } : Obj) →
      h'.Ns1 dx (fun y => if y = fld then some u else none) → R (.ok (.ret .none)) ⟨h', g, d, tk', os⟩) :
    codeAny (model prog w) A (.call (.ref fI) ⟨[.ref a, u], []⟩) R ⟨hp, g, d, t, os⟩ := by
  obtain ⟨nm, oc, od, kV, doc, pm, an, cda, cc, ct, osl, ccl, cdd, vs, ccs, file, tf, cl, cld, csl, hf, hcd, hcode, hvs, hfile, hcell⟩ := SC.fn
  have X : K.In hp := M0.kin.keeps kb
  have bt : BindsTo ⟨hp, g, d, t, os⟩ (PySem.W.ksFn nm qual params (supBody p0 p1 p2 p3 p4 p5 p6 p7 p8 p9 j txt fld px) scope .none kV doc pm an (.ref cda) ct cc) ⟨[.ref a, u], []⟩ [(("self" : Str), .ref a), (px, u)] := by
    intro M A Q E hQ
    rw [hbind _ _ _ _ _ _ _ _ [.ref a, u] rfl]
    exact wpAny_pure hQ
  refine PySem.ks_codeAny_call_defAt hroom (X _ _ hf) rfl (M0.nolimit.keeps kb) (PySem.W.codeRec_of X hcd) rfl bt SS.nocell ?_ (fun h₀ hns k0 => ?_) SS.co SS.gen SS.kind
  · intro x hx
    simp only [List.mem_cons, List.not_mem_nil, or_false] at hx
    rcases hx with rfl | rfl
    · exact SS.kself
    · exact SS.kx
  have X0 : K.In h₀ := X.keeps k0
  have hx0 : h₀.get? a = some (PySem.HandSPX.excO C t0) := k0 _ _ hx
  obtain ⟨ar, har, hself⟩ := SS.hd
  obtain ⟨mb, hb1, hb2⟩ := M0.blt
  obtain ⟨nm', q', N', bs', bm', sn', sub', ab', col', dd', e0, e1, e2, e3, e5, hC, hbm⟩ := SC.oex.cls
  have hcl : PySem.W.clsIn K C = some { name := nm', bases := bs', mro := .ref C :: bm', ns := N', qualname := q', hasDict := true, slotNames := sn', subclasses := sub', abstract := ab', collection := col', hasDel := false } := by unfold PySem.W.clsIn; rw [hC] <;> rfl
  have kbh : ∀ b o, base.get? b = some o → h₀.get? b = some o := fun b o e => k0 b o (kb b o e)
  have v1 : (fun x => [(("self" : Str), Value.ref a), (px, u)].reverse.lookup x) ("self" : Str) = some (.ref a) := by
    show ([(px, u), (("self" : Str), Value.ref a)] : List (Str × Value)).lookup ("self" : Str) = _
    have n : ((("self" : Str) == px) = false) := by
      rw [beq_eq_false_iff_ne]
      exact Ne.symm SS.ne
    simp [List.lookup, n]
  have v2 : (fun x => [(("self" : Str), Value.ref a), (px, u)].reverse.lookup x) px = some u := by
    show ([(px, u), (("self" : Str), Value.ref a)] : List (Str × Value)).lookup px = _
    simp [List.lookup]
  generalize (fun x => [(("self" : Str), Value.ref a), (px, u)].reverse.lookup x) = m at hns v1 v2
  show PySem.wpAt (model prog w) (A.deeper (PySem.W.ksEnv qual scope hp.objs.size fI (.ref cda) cc)) (.func (supBody p0 p1 p2 p3 p4 p5 p6 p7 p8 p9 j txt fld px) (PySem.W.ksEnv qual scope hp.objs.size fI (.ref cda) cc)) (execs [.Expr (.Call (.Attribute (.Call (.Name "super" p0) [] [] p1) "__init__" p2) [.Constant (.str txt) j p9] [] p3) p4, .Assign [.Attribute (.Name "self" p5) fld p6] (.Name px p7) p8] (PySem.W.ksEnv qual scope hp.objs.size fI (.ref cda) cc)) _ _ ⟨h₀, g, d, t + 2, os⟩
  refine PySem.ks_wpAt_execs_cons (PySem.ks_wpAt_Expr_any (PySem.ks_wpAt_MethodCall ?_ (hev _)) (by show (scope.kind == .module && _) = false; rw [SS.kind]; rfl))
  refine PySem.ks_wpAt_super_base (env := PySem.W.ksEnv qual scope hp.objs.size fI (.ref cda) cc) SS.ks SS.kc (by decide) rfl (X0 _ _ hf) rfl har rfl (X0 _ _ hcode) rfl hvs hfile SC.top ?_
  refine PySem.W.ks_loadName_global SS.kind SS.ks (Calls.loadGlobal_builtin (env := PySem.W.ksEnv qual scope hp.objs.size fI (.ref cda) cc) (M0.glob.keeps kbh) hsup (hb1.keeps kbh) ((hb2 _ (by decide)).trans (by kernel_rfl)) ⟨rfl, ?_⟩)
  refine wpAny_loadName_free SS.kind SS.kc rfl ⟨_, X0 _ _ hcell, rfl⟩ ?_
  rw [hself]
  refine wpAny_loadName_local SS.kind SS.kself hns v1 ?_
  refine PySem.ks_wpAny_isType_cls (X0 _ _ hC) rfl ⟨rfl, ?_⟩
  refine PySem.ks_wpAny_call_super (X0 _ _ hC) rfl hx0 rfl (fun c e => nomatch e) (PySem.W.looks_mroIn X0 SC.sub) (fun h1 hso k1 => ?_)
  have X1 : K.In h1 := X0.keeps k1
  have hx1 := k1 _ _ hx0
  have I1 : PySem.W.InstAt h1 a (PySem.HandSPX.excO C t0) C none := ⟨hx1, rfl, rfl, trivial⟩
  have hsI : PySem.W.alongIn K "__init__" (((Value.ref C :: bm').dropWhile (· != .ref C)).drop 1) = some (some (.builtin "ValueError.__init__")) := by
    have z := SC.sup
    unfold PySem.W.ks_superIn at z
    rw [hcl] at z
    exact z
  refine PySem.W.kxs_getMethod PySem.W.kxs_ValueError hso (PySem.W.looks_opaque X1 SC.opq) (l₀ := Value.ref C :: bm') ?_ rfl X1 hsI (I1.type.andThen (PySem.W.looks_subIn X1 SC.ve)) (PySem.W.ks_ne X1 I1 hcl) (by decide) ?_
  · exact fun A Q E s k q => wpAny_bind ((PySem.W.looks_clsIn X1 hcl) A _ E s k (wpAny_pure q))
  have hu : (h1.push (PySem.W.kxs_mw "ValueError.__init__" a)).get? h1.objs.size = some (PySem.W.kxs_mw "ValueError.__init__" a) := Heap.get?_push_at rfl rfl
  have k2 : ∀ b o, h1.get? b = some o → (h1.push (PySem.W.kxs_mw "ValueError.__init__" a)).get? b = some o := fun b o e => Heap.get?_push_of_some _ e
  generalize h1.push (PySem.W.kxs_mw "ValueError.__init__" a) = h2 at hu k2
  have hse : starEach [Expr.Constant (Const.str txt) j p9] (PySem.W.ksEnv qual scope hp.objs.size fI (.ref cda) cc) = (false, eval (Expr.Constant (Const.str txt) j p9) (PySem.W.ksEnv qual scope hp.objs.size fI (.ref cda) cc)) :: starEach [] (PySem.W.ksEnv qual scope hp.objs.size fI (.ref cda) cc) := rfl
  dsimp only
  refine PySem.W.kxs_callWith (i := "ValueError.__init__") (x := a) rfl ?_
  rw [hse]
  refine Calls.evalArgs_plain ?_
  show wpAny _ _ (spliced (backTo p3 (starEach [Expr.Constant (Const.str txt) j p9] (PySem.W.ksEnv qual scope hp.objs.size fI (.ref cda) cc)))) _ _ _
  refine PyProof.Rows.args_cons (wpAny_Constant_str (PyProof.Rows.args_nil ⟨hu, ?_⟩)) hse
  have X2 : K.In h2 := X1.keeps k2
  have hx2 := k2 _ _ hx1
  refine wpAny_call (codeAny_of_tree ?_)
  show wpAny _ _ (callAny (.ref h1.objs.size) ⟨[] ++ [Value.str txt _], []⟩) _ _ _
  simp only [callAny]
  refine wpAny_bind (wpAny_load hu ?_)
  simp only [PySem.W.kxs_mw, show (Value.type "method-wrapper" == Value.type "method" || Value.type "method-wrapper" == Value.type "builtin_function_or_method" || Value.type "method-wrapper" == Value.type "method-wrapper") = true by decide, if_true]
  refine PySem.W.KFB.if_so (by decide) ?_
  refine wpAny_bind (PySem.W.check_bound_init F.excBase_ValueError.toExcCallFacts (X2 _ _ hC) hx2 rfl ?_)
  refine wpAny_bind (wpAny_pure (wpAny_pure ?_))
  refine ⟨plainId_quiet F.excBase_ValueError.init.plain _, codeAny_builtin F.excBase_ValueError.initEntry ?_⟩
  refine PySem.W.exc_init_tree (cls := .ref C) (t0 := t0) (dv := none) (c2 := .none) (c3 := .none) (b4 := .bool false) hx2 (by show 1 ≤ sizeLine; decide) (fun h3 k3 hx3 ht3 => ?_)
  have hLa : hp.objs.size ≠ a := Ne.symm (Nat.ne_of_lt (Heap.lt_size hx))
  have k03 : ∀ b o, b ≠ a → h₀.get? b = some o → h3.get? b = some o := fun b o hb e => k3 b o hb (k2 _ _ (k1 _ _ e))
  have X3 : K.In h3 := M0.kin.keeps fun b o e => k03 b o (fun z => by rw [z, hab] at e; cases e) (kbh b o e)
  have hns3 : h3.Ns hp.objs.size m := by
    obtain ⟨oL, es, ep, hL, r⟩ := hns
    exact ⟨oL, es, ep, k03 _ _ hLa hL, r⟩
  show PySem.wpAt _ _ _ (execs [Stmt.Assign [(Expr.Name "self" p5).Attribute fld p6] (Expr.Name px p7) p8] (PySem.W.ksEnv qual scope hp.objs.size fI (.ref cda) cc)) _ _ _
  refine PySem.ks_wpAt_execs_cons (PySem.ks_wpAt_Assign_Attr (wpAt_of_wpAny (PySem.ESX.ldL (env := PySem.W.ksEnv qual scope hp.objs.size fI (.ref cda) cc) hns3 v2 (PySem.ESX.ldL (env := PySem.W.ksEnv qual scope hp.objs.size fI (.ref cda) cc) hns3 v1 ?_ SS.kind SS.kself (by decide)) SS.kind SS.kx SS.dbg)))
  refine PySem.W.set_plain X3 (ox := { cls := .ref C, dict := none, data := .fields #[.ref h2.objs.size, .none, .none, .none, .bool false, .none] }) (od := none) ⟨hx3, rfl, rfl, trivial⟩ SC.oex.sa ?_
  refine PySem.HandSPX.exc_osa X3 hx3 hcl (show PySem.HandSPX.refsVE (.ref C :: bm') = true from hbm) rfl hno (fun h' tk' dx k dn dne hx' hn => ?_)
  refine wpAt_of_wpAny (wpAny_execs_nil ?_)
  refine hq h' _ dx _ (fun b o hb e => k b o hb (k03 b o hb (k0 _ _ e))) ?_ dne hx' hn
  obtain ⟨oL, es, ep, hL, r⟩ := hns3
  exact Nat.le_trans (Nat.le_of_lt (Heap.lt_size hL)) dn
/-- an own exception class by its name: super().__init__(text); self.fld = x -/
structure SupAt (P : Program) (K : PySem.W.Frag) (mg : Str → Option Value) (x fld : Str) : Prop where
  ex : ∃ (fI : Addr) (qual : Str) (params : Arguments) (scope : Scope) (p0 p1 p2 p3 p4 p5 p6 p7 p8 p9 : Pos) (j : Nat) (txt px : Str) (pl : Env → Sem Bool),
    SupC P K (He.ga K x) fI qual params (supBody p0 p1 p2 p3 p4 p5 p6 p7 p8 p9 j txt fld px) scope ∧ SupScope scope params px ∧
    (∀ env : Env, eval (.Call (.Attribute (.Call (.Name "super" p0) [] [] p1) "__init__" p2) [.Constant (.str txt) j p9] [] p3) env = (do
      let ov ← attributeBase (.Call (.Name "super" p0) [] [] p1) "__init__" env (eval (.Call (.Name "super" p0) [] [] p1) env)
      standAt p2.atName
      let (f, first) ← holding [ov] (getMethod ov "__init__" (pl env))
      callWith p3 f first (backTo p3 (starEach [.Constant (.str txt) j p9] env)) [])) ∧
    (∀ (nm : Str) (kV doc pm : Value) (an : Option Addr) (cdv ct : Value) (cc : Addr) (us : List Value), us.length = 2 → bindArgs (PySem.W.ksFn nm qual params (supBody p0 p1 p2 p3 p4 p5 p6 p7 p8 p9 j txt fld px) scope .none kV doc pm an cdv ct cc) ⟨us, []⟩ = pure ((["self", px] : List Str).zip us))
  no : PySem.W.findIn K (.ref (He.ga K x)) fld = some none
  g : mg x = some (.ref (He.ga K x))
  sup : mg "super" = none
/-- C(e), C such a class -/
def tMkS (C : Addr) (fld : Str) (te : TE) : L2.St → Hp → XK → Prop := fun σ H Q => te σ H fun y H1 => ∀ d, H1 d = none → Q (.ref C) (some d) (upd H1 d (.xd [(fld, y)]))
section
variable {X : Cx} {e : Expr} {te : TE} {p pos : Pos}
theorem pmk_sup {x fld : Str} {k : Nat} (S : SupAt X.prog X.K X.mg x fld) (hr : Room k X.A) (hg : Gl X x) (ha : PE X e te) (hk : 1 ≤ k := by decide)
    (hdb : (x == ("__debug__" : Str)) = false := by decide) (he : starEach [e] X.env = (false, eval e X.env) :: starEach [] X.env := by rfl) :
    PMk X (.Call (.Name x p) [e] [] pos) (tMkS (He.ga X.K x) fld te) := by
  intro pins s σ H Q I h
  obtain ⟨fI, qual, params, scope, p0, p1, p2, p3, p4, p5, p6, p7, p8, p9, j, txt, px, pl, SC, SS, hev, hbind⟩ := S.ex
  have T := SC.oex
  obtain ⟨nm, q, N, bs, bm, sn, sub, ab, col, dd, k0, k1, k2, k3, k5, hC, hbm⟩ := T.cls
  refine wpAny_Call_Name_kw (ld_glob I hg S.g ?_ hdb)
  refine PySem.W.callWith_K (h₀ := X.base) I.ok.mod.kin T.kC (PyProof.Rows.args_cons (thn (ha.run pins s σ H _ I h) fun u s1 ⟨y, H1, I1, ry, q1⟩ => PyProof.Rows.args_nil ⟨I1.kIn, ?_⟩) he) he rfl
  show wpAny _ _ (call (.ref (He.ga X.K x)) [u]) _ _ _
  obtain ⟨hp, g, dr, tk, os⟩ := s1
  have hsz : hp.objs.size ≤ hp.objs.size + 1 := Nat.le_succ _
  have hn : H1 (hp.objs.size + 1) = none := I1.hok.fresh hsz
  have kk : ∀ b o, hp.get? b = some o → ((hp.push (PySem.W.kdv_tup [u])).push (PySem.HandSPX.excO (He.ga X.K x) hp.objs.size)).get? b = some o := fun b o e => Heap.get?_push_of_some _ (Heap.get?_push_of_some _ e)
  have hget : ((hp.push (PySem.W.kdv_tup [u])).push (PySem.HandSPX.excO (He.ga X.K x) hp.objs.size)).get? (hp.objs.size + 1) = some (PySem.HandSPX.excO (He.ga X.K x) hp.objs.size) := by heap_get
  have hsz2 : hp.objs.size ≤ ((hp.push (PySem.W.kdv_tup [u])).push (PySem.HandSPX.excO (He.ga X.K x) hp.objs.size)).objs.size := Nat.le_of_lt (Nat.lt_trans (Nat.lt_succ_self _) (Heap.lt_size hget))
  have hab : X.base.get? (hp.objs.size + 1) = none := by
    cases z : X.base.get? (hp.objs.size + 1) with
    | none => rfl
    | some o => exact absurd (Heap.lt_size (I1.bk _ _ z)) (by show ¬ hp.objs.size + 1 < hp.objs.size; omega)
  refine wpAny_call (PySem.HandSPX.call_own F.excBase_ValueError (fun Y => PySem.HandSPX.refsVE_contains Y bm hbm) (I1.kIn _ _ hC) (PySem.W.looks_findIn I1.kIn SC.ini) (fun self => PySem.W.bind_fn I1.kIn self SC.tyI) (by show 1 ≤ sizeLine; decide)
    (sup_code SC SS I.ok.mod (fun b o e => kk b o (I1.bk b o e)) hab S.sup ((hr.mono hk).make (He.ga X.K x) [u] []).depth S.no hev hbind hget (fun h' tk' dx t1 k dn dne hx hns => ?_)))
  refine ⟨rfl, ?_⟩
  have hnd : H1 dx = none := I1.hok.fresh (Nat.le_trans hsz2 dn)
  generalize ea0 : hp.objs.size + 1 = a at *
  generalize eC : He.ga X.K x = C at *
  generalize (hp.push (PySem.W.kdv_tup [u])).push (PySem.HandSPX.excO C hp.objs.size) = hp2 at *
  have I2 : Inv X pins σ (upd H1 a (exo a C none)) ⟨hp2, g, dr, tk, os⟩ := I1.laid (t' := tk) (a := a) (o := exo a C none) (h' := hp2) kk hsz (exo_ok hget)
  have e : (upd H1 a (exo a C none)) a = some (exo a C none) := upd_same
  have hnd2 : (upd H1 a (exo a C none)) dx = none := (upd_ne dne).trans hnd
  have nd : ∀ {b : Addr} {o : Obj}, hp2.get? b = some o → b ≠ dx := fun {b o} q => Nat.ne_of_lt (Nat.lt_of_lt_of_le (Heap.lt_size q) dn)
  have na : ∀ {b : Addr}, (upd H1 a (exo a C none)) b = none → b ≠ a := fun {b} n z => by
    rw [z, e] at n
    cases n
  generalize hH : upd H1 a (exo a C none) = HH at *
  have Un1 : Un (frs X.stack) [] HH (upd (upd HH dx (exd dx [(fld, y)])) a (exo a C (some dx))) hp2 h' := {
    keep := fun b o q n _ _ => k b o (na n) q
    slot := fun b o q n _ _ => ⟨o.slots, k b o (na n) q⟩
    free := fun b o q n _ => by rw [upd_ne (na n), upd_ne (nd q)]; exact n
    there := fun b o q _ => by
      by_cases hb : b = a
      · exact ⟨_, by rw [hb]; exact hx⟩
      · exact ⟨o, k b o hb q⟩
    tups := fun b xs q => by rw [upd_ne (at_ne e q exo_tup), upd_ne (ne_of_none q hnd2)]; exact q
    frzs := fun b o v q => by rw [upd_ne (at_ne e q exo_frz), upd_ne (ne_of_none q hnd2)]; exact q
    tbls := fun b ps q => ⟨#[], by rw [upd_ne (at_ne e q exo_tbl), upd_ne (ne_of_none q hnd2), q]; simp⟩ }
  have hok2 : HOk X.prog X.w (upd (upd HH dx (exd dx [(fld, y)])) a (exo a C (some dx))) h' := fun b o q => by
    by_cases hb : b = a
    · subst hb
      rw [upd_same] at q
      cases q
      exact exo_ok hx
    · rw [upd_ne hb] at q
      by_cases hd : b = dx
      · subst hd
        rw [upd_same] at q
        cases q
        exact exd_ok hns (relO_put (fs := []) ry fun g => True.intro)
      · rw [upd_ne hd] at q
        exact (I2.hok b o q).stay (fun c v hc z => k c v (by
            rcases hc with hc | hc
            · rw [hc]
              exact hb
            · exact at_ne e hc exo_own) z)
          (fun c hc => by rw [upd_ne (at_ne e hc exo_own), upd_ne (ne_of_none hc hnd2)]; exact hc) (fun c xs hc => by rw [upd_ne (at_ne e hc exo_tup), upd_ne (ne_of_none hc hnd2)]; exact hc)
  have ea : (upd (upd HH dx (exd dx [(fld, y)])) a (exo a C (some dx))) a = some (exo a C (some dx)) := upd_same
  have ed : (upd (upd HH dx (exd dx [(fld, y)])) a (exo a C (some dx))) dx = some (exd dx [(fld, y)]) := (upd_ne dne).trans upd_same
  have eF : upd (del (upd (upd HH dx (exd dx [(fld, y)])) a (exo a C (some dx))) a) dx (.xd [(fld, y)]) = upd H1 dx (.xd [(fld, y)]) := by
    funext b
    by_cases hd : b = dx
    · rw [hd, upd_same, upd_same]
    · rw [upd_ne hd, upd_ne hd]
      by_cases hb : b = a
      · rw [hb, del_same, hn]
      · rw [del_ne hb, upd_ne hb, upd_ne hd, ← hH, upd_ne hb]
  rw [← hH] at Un1
  refine mk_end (raises_own T.exC T.tyC) I1 hsz kk Un1 (by rw [hH]; exact hok2) rfl I1.bare (by rw [hH]; exact ea) (by rw [hH]; exact ed) hnd ?_
  rw [hH, eF]
  exact q1 dx hnd
end
end WW

set_option Elab.async false
set_option linter.all false
set_option maxRecDepth 100000
set_option maxHeartbeats 4000000
namespace WW
open PySem PySem.Spec PyProof.Rows L2
/-- isinstance(e, c), isinstance(e, (c, ..)), e the exception that the suite holds -/
def rIsX (K : PySem.W.Frag) (D a : Addr) : List V → Hp → VK → Prop := fun xs H Q => ∃ (c : V) (u : Value) (b : Bool), xs = [.ref a, c] ∧ ClsV c u ∧ PySem.W.kitOne K (.ref D) u = some b ∧ Q (.bl b) H
def rIsXT (K : PySem.W.Frag) (D a : Addr) : List V → Hp → VK → Prop := fun xs H Q => ∃ (tp : Addr) (cs : List V) (us : List Value) (b : Bool), xs = [.ref a, .ref tp] ∧ H tp = some (.tup cs) ∧ Paired ClsV cs us ∧ PySem.W.kitAny K (.ref D) us = some b ∧ Q (.bl b) H
section
variable {X : Cx} {a D : Addr} {oe : Obj} {cls : Value} {d : Option Addr} {pn : List (Addr × Obj)}
theorem inst_x {pins : List (Addr × Obj)} {σ : L2.St} {H : Hp} {s : Shared} (hz : Zc (.ref D) d oe) (hf : ∃ vs, oe.data = .fields vs) (hd : ∀ dd, d = some dd → ∃ fs, H dd = some (.xd fs)) (I : Inv (X.suite a ((a, oe) :: pn)) pins σ H s) : ∃ od, PySem.W.InstAt s.heap a oe D od := by
  obtain ⟨hget, _⟩ := I.pin (a, oe) (List.mem_append.mpr (.inl List.mem_cons_self))
  obtain ⟨vs, hv⟩ := hf
  have hn : PySem.W.notCls oe = true := by unfold PySem.W.notCls; rw [hv] <;> rfl
  cases hd' : d with
  | none => exact ⟨none, hget, hz.1, hn, by rw [hz.2, hd']; trivial⟩
  | some dd =>
    obtain ⟨fs, e⟩ := hd dd hd'
    have hx : ObjOk X.prog X.w H s.heap dd (.xd fs) := I.hok dd _ e
    obtain ⟨mA, ⟨o, es, ep, ho, _⟩, _⟩ := hx
    exact ⟨some o, hget, hz.1, hn, by rw [hz.2, hd']; exact ho⟩
theorem call_isX (K : PySem.W.Frag) (C : ExcC X.K D) (hz : Zc cls d oe) (hf : ∃ vs, oe.data = .fields vs) (hK : X.K = K := by rfl) : CallR (X.suite a ((a, oe) :: pn)) (.builtin "isinstance") (fun xs H Q => cls = .ref D ∧ (∀ dd, d = some dd → ∃ fs, H dd = some (.xd fs)) ∧ rIsX K D a xs H Q) := by
  subst hK
  intro pins s σ H xs us Q I r h
  obtain ⟨ec, hd, c, u, b, rfl, k, e, q⟩ := h
  subst ec
  obtain ⟨u1, u2, rfl, r1, r2⟩ := vals2 r
  have e2 := k.eq r2
  subst e2
  cases r1
  obtain ⟨od, J⟩ := inst_x hz hf hd I
  exact PySem.W.kia_one (PySem.W.kitx_exc (by obtain ⟨cd, hc, _⟩ := PySem.W.any_some C.hd; rw [hc]; rfl) C.hg C.hk C.hs C.ha C.hn C.ht C.hm) I.kIn J e (fun z => nomatch z) fun tk => ⟨.bl b, H, I.tok tk, rfl, q⟩
theorem call_isXT (K : PySem.W.Frag) (C : ExcC X.K D) (hz : Zc cls d oe) (hf : ∃ vs, oe.data = .fields vs) (hK : X.K = K := by rfl) : CallR (X.suite a ((a, oe) :: pn)) (.builtin "isinstance") (fun xs H Q => cls = .ref D ∧ (∀ dd, d = some dd → ∃ fs, H dd = some (.xd fs)) ∧ rIsXT K D a xs H Q) := by
  subst hK
  intro pins s σ H xs us Q I r h
  obtain ⟨ec, hd, tp, cs, ws, b, rfl, hT, k, e, q⟩ := h
  subst ec
  obtain ⟨u1, u2, rfl, r1, r2⟩ := vals2 r
  cases (show u2 = Value.ref tp from r2)
  cases r1
  obtain ⟨od, J⟩ := inst_x hz hf hd I
  obtain ⟨_, its, rv, o, h1, h2, n, h3⟩ := (show ObjOk X.prog X.w H s.heap tp (.tup cs) from I.hok tp _ hT)
  have e3 := ClsV.all k rv
  subst e3
  obtain ⟨oc, od', dt, sl⟩ := o
  simp only at h2 h3
  subst h2 h3
  exact PySem.W.kia_tup (PySem.W.kitx_exc (by obtain ⟨cd, hc, _⟩ := PySem.W.any_some C.hd; rw [hc]; rfl) C.hg C.hk C.hs C.ha C.hn C.ht C.hm) I.kIn J h1 e (fun z => nomatch z) fun tk => ⟨.bl b, H, I.tok tk, rfl, q⟩
end
theorem takes_no {X : Cx} : Takes X (fun _ _ _ _ => False) := fun u s' x => by
  obtain ⟨_, _, _, _, _, _, _, _, _, _, _, _, _, _, _, _, w⟩ := x
  exact w.elim
/-! ### making an object, by an __init__ that may raise -/
structure MkAtX (P : Program) (w : World) (K : PySem.W.Frag) (mg : Str → Option Value) (base : Heap) (k : Nat) (x : Str) (ps : List Str) (sp : Sp) (dvs : List V) : Prop where
  ex : ∃ f fd ds, Mk K (He.ga K x) f ∧ FnOk P w K mg base (L2.CX P w) k f fd ps sp ∧ Vals dvs ds ∧ Binds K fd ps ds
  g : mg x = some (.ref (He.ga K x))
def tMakeS (C : Addr) (sp : Sp) (dvs : List V) (E : L2.St → XK) (t : TA) : TE := fun σ H Q => t σ H fun vs H1 => ∀ x dx, H1 x = none → H1 dx = none → dx ≠ x → sp (.ref x :: (vs ++ dvs)) (upd (upd H1 dx (.own x)) x (.ins C dx [])) (fun v H2 => v = .non ∧ Q (.ref x) H2) (E σ)
section
variable {X : Cx} {k j : Nat} {x : Str} {ps : List Str} {sp : Sp} {e : Expr} {es : List Expr} {t : TA} {p pos : Pos} {dvs : List V} {W : WX}
theorem pe_mkrX (K : PySem.W.Frag) (F : MkAtX X.prog X.w K X.mg X.base k x ps sp dvs) (tk : Takes X W) (hr : Room j X.A) (hg : Gl X x) (ha : PA X (e :: es) t) (hk : k + 1 ≤ j := by decide) (hK : X.K = K := by rfl)
    (hdb : (x == ("__debug__" : Str)) = false := by decide) (he : starEach (e :: es) X.env = (false, eval e X.env) :: starEach es X.env := by rfl) (hpl : (backTo pos (starEach es X.env)).any (·.1) = false := by rfl) :
    PE X (.Call (.Name x p) (e :: es) [] pos) (tMakeS (He.ga K x) sp dvs (WE W) t) := by
  subst hK
  obtain ⟨f, fd, ds, M, F1, hd, hb⟩ := F.ex
  refine ⟨fun pins s0 σ H0 Q I0 h0 => ?_⟩
  refine wpAny_Call_Name_kw (ld_glob I0 hg F.g ?_ hdb)
  refine PySem.W.callWith_K (h₀ := X.base) I0.ok.mod.kin M.kp (thn (ha.run pos pins s0 σ H0 _ I0 h0) fun us s ⟨vs, H, I, r, h⟩ => ⟨I.kIn, ?_⟩) he hpl
  have hq := h (s.heap.objs.size + 1) s.heap.objs.size (I.hok.fresh (Nat.le_succ _)) (I.hok.fresh (Nat.le_refl _)) (Nat.ne_of_lt (Nat.lt_succ_self _))
  have I2 := Inv.made (C := He.ga X.K x) I
  have r2 : Vals (V.ref (s.heap.objs.size + 1) :: (vs ++ dvs)) (Value.ref (s.heap.objs.size + 1) :: (us ++ ds)) := .cons rfl (r.append hd)
  have hl : (Value.ref (s.heap.objs.size + 1) :: us ++ ds).length = ps.length := by
    have e := r2.length
    rw [F1.len _ _ _ _ hq] at e
    exact e.symm
  show wpAny _ _ (call (.ref (He.ga X.K x)) us) _ _ _
  refine wpAny_call (make_map (f := f) I.kIn M.makes M.init (beq_iff_eq.mp M.fn) (codeAny_mono (F1.run _ X.stack _ _ ⟨Value.ref (s.heap.objs.size + 1) :: us, []⟩ (Value.ref (s.heap.objs.size + 1) :: (us ++ ds)) _ _ (WE W σ) ((hr.mono hk).make (He.ga X.K x) us [])
    (I2.env0.make (He.ga X.K x) us []) (hb _ (Value.ref (s.heap.objs.size + 1) :: us) I2.kIn hl) r2 hq) fun r s' hq' => ?_))
  cases r with
  | error e => exact passAt tk σ pins _ _ e s' I2 hq'
  | ok fl =>
    cases fl with
    | ret u =>
      obtain ⟨v, H', I3, rv, ev, q3⟩ := I2.after hq'
      subst ev
      exact ⟨rv, ⟨V.ref (s.heap.objs.size + 1), H', I3, rfl, q3⟩⟩
    | next => exact False.elim hq'
    | brk => exact False.elim hq'
    | cont => exact False.elim hq'
end
end WW

set_option Elab.async false
set_option linter.all false
set_option maxRecDepth 100000
set_option maxHeartbeats 4000000
namespace WW
open PySem PySem.Spec PyProof.Rows L2
section
variable {P : Program} {w : World} {K : PySem.W.Frag} {mg : Str → Option Value} {base : Heap} {f : Addr} {fd : FuncData}
/-- Row(first, again, more): a row, or InvalidRow with the first wrong word -/
def spInitX (K : PySem.W.Frag) (C CI : Addr) : Sp := fun vs H Q E => ∃ (x dx : Addr) (v1 v2 m : V) (o1 o2 : Option (List V)) (sq : Bool), vs = [.ref x, v1, v2, m] ∧ H x = some (.ins C dx []) ∧ Arg K H v1 o1 ∧ Arg K H v2 o2 ∧ HasT K H m sq ∧
  ((wrongW o1 o2 m = .non ∧ ∀ (fs ys : List V) (i : Int), o1 = some fs → o2 = some ys → m = .int i → ∀ H', SameBut x H H' → RowAt C H' x (leastV fs ys i).1 (leastV fs ys i).2.1 (leastV fs ys i).2.2 → Q .non H') ∨
   (wrongW o1 o2 m ≠ .non ∧ ∀ d H', Same H H' → H d = none → H' d = some (.xd [("word", wrongW o1 o2 m)]) → E (.ref CI) (some d) H'))
theorem wrong_some {o1 o2 : Option (List V)} {m : V} (h : wrongW o1 o2 m = .non) : ∃ fs ys i, o1 = some fs ∧ o2 = some ys ∧ m = .int i := by
  cases o1 with
  | none => cases h
  | some fs =>
    cases o2 with
    | none =>
      unfold wrongW at h
      dsimp only at h
      split at h <;> cases h
    | some ys =>
      obtain ⟨_, _, _, _, _, nm, _⟩ := wrong_ok h
      cases m with
      | int i => exact ⟨fs, ys, i, rfl, rfl, rfl⟩
      | _ => cases nm
theorem ok_Row_initX (F : FunD K "__init__" "Row.__init__" (defArgs s_Row___init__) (defBody s_Row___init__) (defScope s_Row___init__) [.int 0] [] f fd) (R : RowC K (He.ga K "Row")) (m_tuple : mg "tuple" = none) (g_wrong_word : FnAt P w K mg base CX0 3 "wrong_word" ["first", "again", "more"] (spWrong K)) (g_least_form : FnAt P w K mg base CX0 2 "least_form" ["first", "again", "more"] (spLeast K))
    (S_InvalidRow : SupAt P K mg "InvalidRow" "word") :
    FnOk P w K mg base (L2.CX P w) 4 f fd ["self", "first", "again", "more"] (spInitX K (He.ga K "Row") (He.ga K "InvalidRow")) := by
  refine F.ok sc_Row___init__ (fun vs H Q E h => ?_) (fun cdv A outer s H vs Q E hr h => ?_)
  · obtain ⟨x, dx, v1, v2, m, o1, o2, sq, rfl, _⟩ := h
    rfl
  · obtain ⟨x, dx, v1, v2, m, o1, o2, sq, rfl, hx, h1, h2, hm, hq⟩ := h
    refine ⟨_, (pss_cons (ps_set (i := 4) sc_Row___init__.nd rfl (.inl rfl) (pe_fn g_wrong_word hr rfl (pa_cons (pv 1) (pa_cons (pv 2) (pa_cons (pv 3) (pa_nil))))))
 (pss_cons (ps_if (pt_cmpR op_notN (pv 4) (pe_non) (nomark _)) (pss_one (ps_raise rfl (takes_of rfl rfl rfl rfl) (pmk_sup S_InvalidRow hr rfl (pv 4)))) (pss_nil))
 (pss_one (ps_asg (pe_fn g_least_form hr rfl (pa_cons (pe_callTy (call_tupleK K) rfl m_tuple (by decide +kernel) (pa_cons (pv 1) (pa_nil))) (pa_cons (pe_callTy (call_tupleK K) rfl m_tuple (by decide +kernel) (pa_cons (pv 2) (pa_nil))) (pa_cons (pv 3) (pa_nil))))) (pg_tupK (n := 3) K rfl (pgs_cons (pg_fld K (pv 0)) (pgs_cons (pg_fld K (pv 0)) (pgs_cons (pg_fld K (pv 0)) (pgs_nil))))))))), ?_⟩
    refine ⟨_, rfl, _, rfl, _, rfl, _, ⟨v1, v2, m, o1, o2, sq, rfl, h1, h2, hm, rfl⟩, fun H1 s1 => ?_⟩
    rcases hq with ⟨hw, q⟩ | ⟨hw, q⟩
    · obtain ⟨fs, ys, i, rfl, rfl, rfl⟩ := wrong_some hw
      have q := q fs ys i rfl rfl rfl
      obtain ⟨ht, hr1, k0, kt, kr, nm, kz⟩ := wrong_ok hw
      rw [hw]
      refine ⟨_, rfl, rfl, _, rfl, ?_⟩
      obtain ⟨a, rfl, hq, hl, _⟩ := h1
      obtain ⟨b, rfl, kq, kl, _⟩ := h2
      refine ⟨_, rfl, tupq (hq.ex s1) fun p1 H2 s2 h2 => ⟨_, rfl, tupq (kq.ex (s1.trans s2)) fun p2 H3 s3 h3 => ⟨_, rfl, p1, p2, fs, ys, i, rfl, h2.ex s3, h3, hl, kl, k0, ht, kz, fun p q1 q2 H4 s4 e1 e2 e3 => ?_⟩⟩⟩
      have s14 : Same H H4 := ((s1.trans s2).trans s3).trans s4
      have hx4 := s14 _ _ hx
      refine ⟨p, _, rfl, .inl (.inl e1), rfl, _, _, rfl, ⟨_, rfl, x, (He.ga K "Row"), dx, _, rfl, hx4, R.cls, R.nF, by decide, _, _, rfl, ⟨_, rfl, x, (He.ga K "Row"), dx, _, rfl, upd_same, R.cls, R.nA, (by show 1 < 1000; decide), _, _, rfl, ⟨_, rfl, x, (He.ga K "Row"), dx, _, rfl, upd_same, R.cls, R.nM, (by show 2 < 1000; decide), rfl, ?_⟩⟩⟩⟩
      have n1 : q1 ≠ x := fun z => by
        rw [z, hx4] at e2
        cases e2
      have n2 : q2 ≠ x := fun z => by
        rw [z, hx4] at e3
        cases e3
      rw [upd_upd, upd_upd]
      refine q _ (fun a o n ha => (upd_ne n).trans (s14 a o ha)) ⟨dx, q1, q2, upd_same, (upd_ne n1).trans e2, (upd_ne n2).trans e3⟩
    · refine ⟨_, rfl, rfl, _, rfl, ?_⟩
      rw [show (!decide (wrongW o1 o2 m = V.non)) = true by rw [decide_eq_false hw]; rfl]
      refine ⟨_, rfl, fun d hd => ?_⟩
      exact q d _ (s1.trans (same_new hd)) (s1.free hd) upd_same
end
end WW

set_option Elab.async false
set_option linter.all false
set_option maxRecDepth 100000
set_option maxHeartbeats 4000000
namespace WW
open PySem PySem.Spec PyProof.Rows L2
theorem made_rowH {C x dx : Addr} {H H' : Hp} (nx : H x = none) (ndx : H dx = none) (hn : dx ≠ x) (sb : SameBut x (upd (upd H dx (.own x)) x (.ins C dx [])) H') : Same H H' := fun a o ha => by
  have n1 : a ≠ x := ne_of_none ha nx
  have n2 : a ≠ dx := ne_of_none ha ndx
  refine sb a o n1 ?_
  rw [upd_ne n1, upd_ne n2]
  exact ha
section
variable {P : Program} {w : World} {K : PySem.W.Frag} {mg : Str → Option Value} {base : Heap} {f : Addr} {fd : FuncData}
/-- what Row says of its arguments -/
def spHeard (K : PySem.W.Frag) : Sp := fun vs H Q _ => ∃ (v1 v2 m : V) (o1 o2 : Option (List V)) (sq : Bool), vs = [v1, v2, m] ∧ Arg K H v1 o1 ∧ Arg K H v2 o2 ∧ HasT K H m sq ∧ ∀ H', Same H H' → Q (wrongW o1 o2 m) H'
abbrev s_l_heard : Stmt := top 34
abbrev N_l_heard : List Str := ["_law_first", "_law_again", "_law_more", "_law_found", "e"]
theorem sc_l_heard : FnScope N_l_heard ["_law_first", "_law_again", "_law_more"] (defScope s_l_heard) := ⟨rfl, rfl, rfl, by decide +kernel, rfl, by decide +kernel, by decide +kernel⟩

theorem ok_heard (F : FnP K "_law_heard" s_l_heard f fd) (m_isinstance : mg "isinstance" = none) (m_InvalidRow : mg "InvalidRow" = some (.ref (He.ga K "InvalidRow"))) (m_WaitError : mg "WaitError" = some (.ref (He.ga K "WaitError"))) (m_InvalidModule : mg "InvalidModule" = some (.ref (He.ga K "InvalidModule"))) (m_InvalidText : mg "InvalidText" = some (.ref (He.ga K "InvalidText")))
    (x_InvalidRow : ExcC K (He.ga K "InvalidRow")) (xf_InvalidRow : XfC K (He.ga K "InvalidRow")) (nf_InvalidRow_word : PySem.W.findIn K (.ref (He.ga K "InvalidRow")) "word" = some none)
    (k1 : PySem.W.kitOne K (.ref (He.ga K "InvalidRow")) (.ref (He.ga K "WaitError")) = some true) (k2 : PySem.W.kitAny K (.ref (He.ga K "InvalidRow")) [.ref (He.ga K "InvalidModule"), .ref (He.ga K "InvalidText")] = some false) (k3 : PySem.W.exmOne K (.ref (He.ga K "InvalidRow")) (.ref (He.ga K "InvalidRow")) = some true)
    (gX_Row : MkAtX P w K mg base 4 "Row" ["self", "first", "again", "more"] (spInitX K (He.ga K "Row") (He.ga K "InvalidRow")) []) : FnOk P w K mg base CX0 6 f fd ["_law_first", "_law_again", "_law_more"] (spHeard K) := by
  refine F.ok sc_l_heard (fun vs H Q E h => ?_) (fun cdv A outer s H vs Q E hr h => ?_)
  · obtain ⟨v1, v2, m, o1, o2, sq, rfl, _⟩ := h
    rfl
  · obtain ⟨v1, v2, m, o1, o2, sq, rfl, h1, h2, hm, q⟩ := h
    refine ⟨_, PSs.nox (pss_cons (ps_set (i := 3) sc_l_heard.nd rfl (.inl rfl) (pe_non))
 (pss_cons (ps_try_as (i := 4) rfl rfl sc_l_heard.nd rfl rfl ⟨rfl, by decide, .inl m_InvalidRow⟩ takes_no (fun W pn xe tk po => pss_one (ps_expr (pe_mkrX (x := "Row") K gX_Row tk hr rfl (pa_cons (pv 0) (pa_cons (pv 1) (pa_cons (pv 2) (pa_nil))))))) (fun a oe cls d pn hz hf => pss_one (ps_set (i := 3) sc_l_heard.nd rfl (.inl rfl) (pe_ifExp (PW.pt (pw_and (pt_val (pe_callB (call_isX K x_InvalidRow hz hf) rfl m_isinstance (by decide +kernel) (pa_cons (pv 4) (pa_cons (pe_glob (v := .ref (He.ga K "WaitError")) rfl m_WaitError rfl) (pa_nil))))) (pw_and1 (pt_not (pt_val (pe_callB (call_isXT K x_InvalidRow hz hf) rfl m_isinstance (by decide +kernel) (pa_cons (pv 4) (pa_cons (pe_tup (pa_cons (pe_glob (v := .ref (He.ga K "InvalidModule")) rfl m_InvalidModule rfl) (pa_cons (pe_glob (v := .ref (He.ga K "InvalidText")) rfl m_InvalidText rfl) (pa_nil)))) (pa_nil))))))))) (pe_xf xf_InvalidRow nf_InvalidRow_word hz hf (pv 4)) (pe_str)))))
 (pss_one (ps_ret (pv 3))))), ?_⟩
    refine q_seq (q_asg (q_c ?_))
    refine q_name ?_
    refine q_seq ?_
    refine ⟨_, rfl, _, rfl, _, rfl, fun x dx nx ndx hn => ?_⟩
    have s1 : Same H (upd (upd H dx (.own x)) x (.ins (He.ga K "Row") dx [])) := (same_new ndx).trans (same_new ((upd_ne (Ne.symm hn)).trans nx))
    refine ⟨x, dx, v1, v2, m, o1, o2, sq, rfl, upd_same, h1.ex s1, h2.ex s1, hm.ex s1, ?_⟩
    by_cases hw : wrongW o1 o2 m = .non
    · refine .inl ⟨hw, fun fs ys i e1 e2 e3 H' sb hr' => ⟨rfl, ?_⟩⟩
      have s2 := made_rowH nx ndx hn sb
      refine ⟨_, rfl, ?_⟩
      have := q H' s2
      rw [hw] at this
      exact this
    · refine .inr ⟨hw, fun d H' s2 nd hd => ⟨true, k3, fun _ a na => ?_, fun z => nomatch z⟩⟩
      have hdd : ∀ (H2 : Hp), Same H' H2 → ∀ dd, some d = some dd → ∃ fs, H2 dd = some (HO.xd fs) := fun H2 sm dd e => by
        cases e
        exact ⟨_, sm _ _ hd⟩
      refine ⟨_, rfl, rfl, hdd H' (Same.refl H'), _, _, true, rfl, .own _, k1, true, rfl, ?_⟩
      refine ⟨_, rfl, by show 2 ≤ sizeLine; decide, fun tp ntp => ?_⟩
      have s3 := same_new (o := .tup [.ref (He.ga K "InvalidModule"), .ref (He.ga K "InvalidText")]) ntp
      refine ⟨rfl, hdd _ s3, tp, _, _, false, rfl, upd_same, .cons (.own _) (.cons (.own _) .nil), k2, false, rfl, ?_⟩
      refine ⟨_, rfl, rfl, rfl, d, _, _, rfl, s3 _ _ hd, rfl, ?_⟩
      refine ⟨_, rfl, ?_⟩
      exact q _ ((s1.trans s2).trans s3)
end
end WW

set_option Elab.async false
set_option linter.all false
set_option maxRecDepth 100000
set_option maxHeartbeats 4000000
namespace WW
open PySem PySem.Spec PyProof.Rows L2
/-- [e for x in range(..)], e something new each time, by what is drawn of b -/
theorem lc_rgB {σ : L2.St} {H : Hp} {Qd : Hp → Prop} {te : TE} {j n : Nat} {lo : Int} {b D : Addr} {ob : HO} (Iv : Nat → List V → Hp → Prop) (hl : n ≤ 100000) (hb : H b = some ob) (hD : H D = none)
    (h0 : Iv 0 [] (upd H D (.lst []))) (stab : ∀ i acc Hc ls ls', SameBut b H Hc → Hc D = some (.lst ls) → Iv i acc Hc → Iv i acc (upd Hc D (.lst ls')))
    (he : ∀ i acc H1, i < n → SameBut b H H1 → acc.length = i → Iv i acc H1 → ∀ R : VK, (∀ y H2, SameBut b H1 H2 → Iv (i + 1) (acc ++ [y]) H2 → R y H2) → te ((wipe σ [j]).set j (some (.int (lo + i)))) H1 R)
    (k : ∀ H' acc, SameBut b H H' → H' D = some (.lst acc) → acc.length = n → Iv n acc H' → Qd H') :
    ∃ W : Nat → Nat → Hp → Prop, (∃ m, W 0 m (upd H D (.lst []))) ∧ ∀ i m H, W i m H →
      ((Itr lo n).stop i H ∧ Qd H) ∨ ((Itr lo n).go i H ∧ ∃ Nx : Hp → Prop, (∀ H', Nx H' → ∃ m', m' < m ∧ W (i + 1) m' H') ∧ ∀ x H', (Itr lo n).yld i H x H' → gName j x (wipe σ [j]) H' fun σ2 H2 => wipe σ2 [j] = wipe σ [j] ∧ tYes σ2 H2 fun b H3 =>
        if b = true then te σ2 H3 fun y H4 => ∃ acc, H4 D = some (.lst acc) ∧ acc.length < sizeLine ∧ Nx (upd H4 D (.lst (acc ++ [y]))) else Nx H3) := by
  have nD : D ≠ b := fun z => by
    rw [z, hb] at hD
    cases hD
  refine lc_range (fun i Hc => SameBut b H Hc ∧ ∃ acc, Hc D = some (.lst acc) ∧ acc.length = i ∧ Iv i acc Hc) ⟨(SameBut.of (Same.refl H)).app hD, [], upd_same, rfl, h0⟩ (fun i Hc hi ⟨sm, acc, hd, la, iv⟩ => ⟨wipe1, ?_⟩) fun Hc ⟨sm, acc, e, la, iv⟩ => k Hc acc sm e la iv
  refine he i acc Hc hi sm la iv _ fun y H2 s2 iv2 => ⟨acc, s2 _ _ nD hd, ?_, (sm.trans s2).app hD, acc ++ [y], upd_same, by rw [List.length_append, la]; rfl, stab _ _ _ _ _ (sm.trans s2) (s2 _ _ nD hd) iv2⟩
  rw [la]
  exact Nat.lt_of_lt_of_le (Nat.lt_of_lt_of_le hi hl) (by decide)
/-! ### any values -/
def simpV : V → Bool
  | .non => true
  | .bl _ => true
  | .int _ => true
  | .str _ => true
  | _ => false
/-- a value, new as far as it is a list or a tuple -/
def Ev (H0 H : Hp) (y : V) : Prop := simpV y = true ∨ ∃ a ys, y = .ref a ∧ H0 a = none ∧ (H a = some (.lst ys) ∨ H a = some (.tup ys))
def Av (H0 H : Hp) (v : V) : Prop := simpV v = true ∨ ∃ a xs, v = .ref a ∧ H0 a = none ∧ (H a = some (.lst xs) ∨ H a = some (.tup xs)) ∧ xs.length ≤ 20 ∧ ∀ y ∈ xs, Ev H0 H y
theorem Av.ev {H0 H : Hp} {v : V} (h : Av H0 H v) : Ev H0 H v := by
  rcases h with h | ⟨a, xs, e, n, h, _⟩
  · exact .inl h
  · exact .inr ⟨a, xs, e, n, h⟩
theorem Ev.sb {H0 H H' : Hp} {b : Addr} {o : HO} {y : V} (hb : H0 b = some o) (e : SameBut b H H') (h : Ev H0 H y) : Ev H0 H' y := by
  rcases h with h | ⟨a, ys, r, n, h⟩
  · exact .inl h
  · have nb : a ≠ b := fun z => by
      rw [z, hb] at n
      cases n
    exact .inr ⟨a, ys, r, n, h.elim (fun z => .inl (e _ _ nb z)) (fun z => .inr (e _ _ nb z))⟩
theorem Ev.base {H0 H1 H : Hp} {b : Addr} {o : HO} {y : V} (hb : H1 b = some o) (e : SameBut b H0 H1) (h : Ev H1 H y) : Ev H0 H y := by
  rcases h with h | ⟨a, ys, r, n, h⟩
  · exact .inl h
  · have nb : a ≠ b := fun z => by
      rw [z, hb] at n
      cases n
    exact .inr ⟨a, ys, r, e.free nb n, h⟩
theorem Av.sb {H0 H H' : Hp} {b : Addr} {o : HO} {y : V} (hb : H0 b = some o) (e : SameBut b H H') (h : Av H0 H y) : Av H0 H' y := by
  rcases h with h | ⟨a, ys, r, n, h, l, k⟩
  · exact .inl h
  · have nb : a ≠ b := fun z => by
      rw [z, hb] at n
      cases n
    exact .inr ⟨a, ys, r, n, h.elim (fun z => .inl (e _ _ nb z)) (fun z => .inr (e _ _ nb z)), l, fun y hy => (k y hy).sb hb e⟩
theorem hasT_simp {K : PySem.W.Frag} {H : Hp} {v : V} (h : simpV v = true) : HasT K H v false := by
  cases v with
  | non => exact hasT_non
  | bl b => exact hasT_bl b
  | int i => exact hasT_int i
  | str z => exact hasT_str z
  | _ => cases h
theorem Ev.hasT {K : PySem.W.Frag} {H0 H : Hp} {y : V} (h : Ev H0 H y) : ∃ sq, HasT K H y sq := by
  rcases h with h | ⟨a, ys, rfl, _, h | h⟩
  · exact ⟨_, hasT_simp h⟩
  · exact ⟨_, Sq.hasT (.l h)⟩
  · exact ⟨_, Sq.hasT (.t h)⟩
theorem Av.arg {K : PySem.W.Frag} {H0 H : Hp} {v : V} (h : Av H0 H v) : ∃ o, Arg K H v o := by
  rcases h with h | ⟨a, ys, rfl, _, h, l, k⟩
  · exact ⟨none, hasT_simp h⟩
  · exact ⟨some ys, a, rfl, h.elim .l .t, by omega, fun y hy => (k y hy).hasT⟩
end WW

set_option Elab.async false
set_option linter.all false
set_option maxRecDepth 100000
set_option maxHeartbeats 4000000
namespace WW
open PySem PySem.Spec PyProof.Rows L2
section
variable {P : Program} {w : World} {K : PySem.W.Frag} {mg : Str → Option Value} {base : Heap} {f : Addr} {fd : FuncData}
def spAny (n : Nat) : Sp := fun vs H Q _ => ∃ b : Addr, vs = [.ref b, .int (n : Int)] ∧ Box H b ∧ ∀ v H', SameBut b H H' → Box H' b → Av H H' v → Q v H'
abbrev s_l_any : Stmt := top 33
abbrev N_l_any : List Str := ["_law_box_here", "_law_deep", "_law_odd", "_law_some", "_law_turn"]
theorem sc_l_any : FnScope N_l_any ["_law_box_here", "_law_deep"] (defScope s_l_any) := ⟨rfl, rfl, rfl, by decide +kernel, rfl, by decide +kernel, by decide +kernel⟩

theorem step_any {n : Nat} {sp : Sp} (F : FnP K "_law_any" s_l_any f fd) (m_range : mg "range" = none) (m_tuple : mg "tuple" = none) (g_l_take : FnAt P w K mg base CX0 1 "_law_take" ["_law_box_here", "_law_many"] spTake) (g_l_pick : FnAt P w K mg base CX0 2 "_law_pick" ["_law_box_here", "_law_some"] (spPick K))
    (g_l_any : FnAt P w K mg base CX0 (2 + n) "_law_any" ["_law_box_here", "_law_deep"] sp) (hsp : ∀ k, n = k + 1 → sp = spAny k) : FnOk P w K mg base CX0 (2 + n + 1) f fd ["_law_box_here", "_law_deep"] (spAny n) := by
  refine F.ok sc_l_any (fun vs H Q E h => ?_) (fun cdv A outer s H vs Q E hrr h => ?_)
  · obtain ⟨b, rfl, _⟩ := h
    rfl
  · obtain ⟨b, rfl, hb, q⟩ := h
    have hr := hrr.mono (show 2 ≤ 2 + n by omega)
    refine ⟨_, PSs.nox (pss_cons (ps_set (i := 2) sc_l_any.nd rfl (.inl rfl) (pe_lst (pa_cons (pe_non) (pa_cons (pe_bl) (pa_cons (pe_bl) (pa_cons (pe_int) (pa_cons (pe_str) (pa_cons (pe_str) (pa_cons (pe_tup (pa_nil)) (pa_cons (pe_lst (pa_nil)) (pa_cons (pe_tup (pa_cons (pe_str) (pa_nil))) (pa_cons (pe_op op_pow (pe_int) (pe_int)) (pa_nil)))))))))))))
 (Evl.pss_cut (ps_if (PW.pt (pw_or (pt_cmpR op_eq (pv 1) (pe_int) (nomark _)) (pw_or1 (pt_cmpR op_gt (pe_fn g_l_take hr rfl (pa_cons (pv 0) (pa_cons (pe_int) (pa_nil)))) (pe_int) (nomark _))))) (pss_one (ps_ret (pe_fn g_l_pick hr rfl (pa_cons (pv 0) (pa_cons (pv 2) (pa_nil)))))) (pss_nil))
 (pss_cons (ps_setLc (i := 3) (own := [("_law_turn", 4)]) rfl sc_l_any.nd rfl rfl (sw_true rfl rfl rfl (by decide +kernel)) (pi_range1 rfl m_range (pa_cons (pe_fn g_l_take hr rfl (pa_cons (pv 0) (pa_cons (pe_int) (pa_nil)))) (pa_nil))) (blkOk_by (N := N_l_any) (sc := defScope s_l_any) (by decide +kernel)) (fun _ _ _ _ _ => pg_name (i := 4) sc_l_any.nd rfl (.inl rfl)) (fun _ _ _ _ _ => pts_nil) (fun _ _ _ _ _ => pe_fn g_l_any hrr rfl (pa_cons (pv 0) (pa_cons (pe_op op_sub (pv 1) (pe_int)) pa_nil)) (hk := Nat.le_refl _)))
 (pss_one (ps_ret (pe_ifExp (pt_cmpR op_eq (pe_fn g_l_take hr rfl (pa_cons (pv 0) (pa_cons (pe_int) (pa_nil)))) (pe_int) (nomark _)) (pe_callTy (call_tupleK K) rfl m_tuple (by decide +kernel) (pa_cons (pv 3) (pa_nil))) (pv 3))))))), ?_⟩
    refine q_seq (q_asg ?_)
    refine ⟨by show 0 ≤ sizeLine; decide, fun t1 n1 => ⟨by show 0 ≤ sizeLine; decide, fun t2 n2 => ⟨by show 1 ≤ sizeLine; decide, fun t3 n3 => ⟨_, _, rfl, rfl, ⟨by decide, by decide, by decide⟩, by show 10 ≤ sizeLine; decide, fun od no => ?_⟩⟩⟩⟩
    have s1 := same_new (o := .tup []) n1
    have s2 := same_new (o := .lst []) n2
    have s3 := same_new (o := .tup [.str "a"]) n3
    obtain ⟨L, hL⟩ : ∃ L, L = [V.non, .bl true, .bl false, .int 3, .str "", .str "0", .ref t1, .ref t2, .ref t3, .int ((10 : Int) ^ (12 : Int).toNat)] := ⟨_, rfl⟩
    have s4 := same_new (o := .lst L) no
    have s14 := ((s1.trans s2).trans s3).trans s4
    have e1 := s4 _ _ (s3 _ _ (s2 _ _ (upd_same (H := H) (a := t1) (o := .tup []))))
    have e2 := s4 _ _ (s3 _ _ (upd_same (H := upd H t1 (.tup [])) (a := t2) (o := .lst [])))
    have e3 := s4 _ _ (upd_same (H := upd (upd H t1 (.tup [])) t2 (.lst [])) (a := t3) (o := .tup [.str "a"]))
    have eo : (upd (upd (upd (upd H t1 (.tup [])) t2 (.lst [])) t3 (.tup [.str "a"])) od (.lst L)) od = some (.lst L) := upd_same
    have f2 := s1.free n2
    have f3 := (s1.trans s2).free n3
    rw [← hL]
    generalize upd (upd (upd (upd H t1 (.tup [])) t2 (.lst [])) t3 (.tup [.str "a"])) od (.lst L) = H1 at s14 e1 e2 e3 eo
    have hb1 := hb.ex s14
    have nob : od ≠ b := fun z => by
      obtain ⟨x, y, z', hb'⟩ := hb1
      rw [z, hb'] at eo
      have := Option.some.inj eo
      rw [hL] at this
      cases this
    obtain ⟨bx0, by0, bz0, hb0⟩ := id hb
    have pick : ∀ v ∈ L, Av H H1 v := fun v hv => by
      rw [hL] at hv
      simp only [List.mem_cons, List.not_mem_nil, or_false] at hv
      rcases hv with rfl | rfl | rfl | rfl | rfl | rfl | rfl | rfl | rfl | rfl
      · exact .inl rfl
      · exact .inl rfl
      · exact .inl rfl
      · exact .inl rfl
      · exact .inl rfl
      · exact .inl rfl
      · exact .inr ⟨t1, [], rfl, n1, .inr e1, by decide, fun y hy => nomatch hy⟩
      · exact .inr ⟨t2, [], rfl, f2, .inl e2, by decide, fun y hy => nomatch hy⟩
      · exact .inr ⟨t3, _, rfl, f3, .inr e3, by decide, fun y hy => by
          rw [List.mem_singleton.mp hy]
          exact .inl rfl⟩
      · exact .inl rfl
    have lL : L.length = 10 := by rw [hL]; rfl
    refine q_name ?_
    refine ⟨fun σ Hc => σ = [some (.ref b), some (.int (n : Int)), some (.ref od), none, none] ∧ SameBut b H1 Hc ∧ Box Hc b ∧ n ≠ 0, ?_, ?_⟩
    · refine ⟨_, rfl, rfl, _, rfl, ?_⟩
      by_cases c : n = 0
      · rw [decide_eq_true (show V.int (n : Int) = V.int 0 by rw [c]; rfl)]
        refine ⟨_, rfl, _, rfl, b, od, L, rfl, hb1, .l eo, nob, by omega, by omega, fun x y z v hv => ?_⟩
        exact q v _ (SameBut.trans (.of s14) (SameBut.upd b _ _)) ⟨_, _, _, upd_same⟩ ((pick v hv).sb hb0 (SameBut.upd b _ _))
      · rw [decide_eq_false (show ¬ V.int (n : Int) = V.int 0 from fun z => c (by
          have z : (n : Int) = 0 := by injection z
          omega))]
        refine ⟨_, rfl, b, 3, rfl, hb1, by decide, by decide, fun x y z d dl du => ⟨_, _, rfl, rfl, _, rfl, ?_⟩⟩
        have hb2 : Box (upd H1 b (bx x y z)) b := ⟨_, _, _, upd_same⟩
        have sb2 : SameBut b H1 (upd H1 b (bx x y z)) := SameBut.upd b _ _
        generalize upd H1 b (bx x y z) = H2 at hb2 sb2
        by_cases c2 : (0 : Int) < d
        · rw [decide_eq_true c2]
          refine ⟨_, rfl, _, rfl, b, od, L, rfl, hb2, .l (sb2 _ _ nob eo), nob, by omega, by omega, fun x y z v hv => ?_⟩
          exact q v _ ((SameBut.trans (.of s14) sb2).trans (SameBut.upd b _ _)) ⟨_, _, _, upd_same⟩ (((pick v hv).sb hb0 sb2).sb hb0 (SameBut.upd b _ _))
        · rw [decide_eq_false c2]
          exact ⟨rfl, sb2, hb2, c⟩
    rintro σ H2 ⟨rfl, sb2, hb2, hn⟩
    obtain ⟨k, rfl⟩ : ∃ k, n = k + 1 := ⟨n - 1, by omega⟩
    have hsp := hsp k rfl
    subst hsp
    refine q_seq (q_asg ?_)
    refine ⟨_, rfl, b, 4, rfl, hb2, by decide, by decide, fun x y z d dl du => ⟨d, rfl, by omega, by omega, fun D nD => ?_⟩⟩
    dsimp only [List.map_cons, List.map_nil]
    have hb3 : Box (upd H2 b (bx x y z)) b := ⟨_, _, _, upd_same⟩
    have sb3 : SameBut b H2 (upd H2 b (bx x y z)) := SameBut.upd b _ _
    generalize upd H2 b (bx x y z) = H3 at hb3 sb3 nD
    have sb03 : SameBut b H H3 := (SameBut.trans (.of s14) sb2).trans sb3
    have nDb : D ≠ b := Box.ne hb3 nD
    have fD : H D = none := sb03.free nDb nD
    obtain ⟨bx3, by3, bz3, hbb⟩ := id hb3
    refine lc_rgB (b := b) (fun i acc Hc => Box Hc b ∧ (∃ ls, Hc D = some (.lst ls)) ∧ ∀ y ∈ acc, simpV y = true ∨ ∃ a ys, y = .ref a ∧ H a = none ∧ a ≠ D ∧ (Hc a = some (.lst ys) ∨ Hc a = some (.tup ys))) (by omega) hbb nD ⟨?_, ⟨_, upd_same⟩, fun z hz => nomatch hz⟩ (fun i acc Hc ls ls' sc _ iv => ?_) (fun i acc H4 hi sb4 la iv R k' => ?_) fun H4 acc sb4 hD la iv => ?_
    · exact ⟨_, _, _, (upd_ne (Ne.symm nDb)).trans hbb⟩
    · obtain ⟨⟨x', y', z', bx'⟩, _, h⟩ := iv
      refine ⟨⟨x', y', z', (upd_ne (Ne.symm nDb)).trans bx'⟩, ⟨_, upd_same⟩, fun y hy => ?_⟩
      rcases h y hy with h | ⟨a, ys, e, n, nd, h⟩
      · exact .inl h
      · exact .inr ⟨a, ys, e, n, nd, h.elim (fun z => .inl ((upd_ne nd).trans z)) (fun z => .inr ((upd_ne nd).trans z))⟩
    · obtain ⟨bx', ⟨ls, hls⟩, h⟩ := iv
      refine ⟨_, rfl, _, rfl, _, _, rfl, rfl, b, ?_, bx', fun v H5 sb5 hb5 av => k' v H5 sb5 ⟨hb5, ⟨ls, sb5 _ _ nDb hls⟩, fun y hy => ?_⟩⟩
      · exact congrArg (fun i : Int => [V.ref b, V.int i]) (show ((k + 1 : Nat) : Int) - 1 = (k : Int) by omega)
      · rcases List.mem_append.mp hy with hy | hy
        · rcases h y hy with h | ⟨a, ys, e, n, nd, h⟩
          · exact .inl h
          · have na : a ≠ b := fun z => by
              rw [z, hb0] at n
              cases n
            exact .inr ⟨a, ys, e, n, nd, h.elim (fun z => .inl (sb5 _ _ na z)) (fun z => .inr (sb5 _ _ na z))⟩
        · rw [List.mem_singleton.mp hy]
          rcases av.ev with h | ⟨a, ys, e, n, h⟩
          · exact .inl h
          · have na : a ≠ b := fun z => by
              obtain ⟨_, _, _, hb'⟩ := bx'
              rw [z, hb'] at n
              cases n
            exact .inr ⟨a, ys, e, (sb03.trans sb4).free na n, Ne.symm (ne_of_none hls n), h⟩
    obtain ⟨hb4, _, h⟩ := iv
    have sb04 := sb03.trans sb4
    have hE : ∀ y ∈ acc, Ev H H4 y := fun y hy => by
      rcases h y hy with h | ⟨a, ys, e, n, _, h⟩
      · exact .inl h
      · exact .inr ⟨a, ys, e, n, h⟩
    refine q_name ?_
    refine ⟨_, rfl, b, 2, rfl, hb4, by decide, by decide, fun x y z d' dl' du' => ⟨rfl, _, rfl, ?_⟩⟩
    have hb5 : Box (upd H4 b (bx x y z)) b := ⟨_, _, _, upd_same⟩
    have sb5 : SameBut b H4 (upd H4 b (bx x y z)) := SameBut.upd b _ _
    generalize upd H4 b (bx x y z) = H5 at hb5 sb5
    have hD5 := sb5 _ _ nDb hD
    refine ite2 (fun c => ?_) (fun c => ?_)
    · refine ⟨_, rfl, ⟨D, acc, rfl, .inl ⟨.inl (.inl hD5), fun l nl => ?_⟩⟩⟩
      have s6 := same_new (o := .tup acc) nl
      exact q _ _ ((sb04.trans sb5).trans (.of s6)) (hb5.ex s6) (.inr ⟨l, acc, rfl, (sb04.trans sb5).free (Box.ne hb5 nl) nl, .inr upd_same, by omega, fun y hy => ((hE y hy).sb hb0 sb5).sb hb0 (.of s6)⟩)
    · exact ⟨_, rfl, q _ _ (sb04.trans sb5) hb5 (.inr ⟨D, acc, rfl, fD, .inl hD5, by omega, fun y hy => (hE y hy).sb hb0 sb5⟩)⟩
theorem ok_never {x : Str} {ps : List Str} : FnOk P w K mg base CX0 2 f fd ps (fun _ _ _ _ => False) := ⟨fun _ _ _ _ h => h.elim, fun _ _ _ _ _ _ _ _ _ _ _ _ _ h => h.elim⟩
theorem ok_any (F : FnP K "_law_any" s_l_any f fd) (b : Binds K fd ["_law_box_here", "_law_deep"] []) (kp : PySem.W.keepIn K (.ref (He.ga K "_law_any")) = true) (hf : f = He.ga K "_law_any") (hg : mg "_law_any" = some (.ref (He.ga K "_law_any"))) (m_range : mg "range" = none) (m_tuple : mg "tuple" = none) (g_l_take : FnAt P w K mg base CX0 1 "_law_take" ["_law_box_here", "_law_many"] spTake) (g_l_pick : FnAt P w K mg base CX0 2 "_law_pick" ["_law_box_here", "_law_some"] (spPick K)) :
    ∀ n, FnOk P w K mg base CX0 (2 + n + 1) f fd ["_law_box_here", "_law_deep"] (spAny n)
  | 0 => step_any (sp := fun _ _ _ _ => False) F m_range m_tuple g_l_take g_l_pick ⟨⟨fd, ok_never (x := "_law_any"), b⟩, kp, hg⟩ fun k z => absurd z (Nat.succ_ne_zero k).symm
  | n + 1 => step_any (sp := spAny n) F m_range m_tuple g_l_take g_l_pick ⟨⟨fd, hf ▸ ok_any F b kp hf hg m_range m_tuple g_l_take g_l_pick n, b⟩, kp, hg⟩ fun k z => by
    cases z
    rfl
end
end WW

set_option Elab.async false
set_option linter.all false
set_option maxRecDepth 100000
set_option maxHeartbeats 4000000
namespace WW
open PySem L2
/-- nothing n times, then rising times -/
def upV (n : Nat) (zs : List Int) : List V := List.replicate n V.non ++ zs.map V.int
theorem upV_len (n : Nat) (zs : List Int) : (upV n zs).length = n + zs.length := by
  unfold upV
  rw [List.length_append, List.length_replicate, List.length_map]
theorem upV_lo {n i : Nat} {zs : List Int} (h : i < n) : (upV n zs).getD i .non = .non := by
  unfold upV
  rw [List.getD_eq_getElem?_getD, List.getElem?_append_left (by rw [List.length_replicate]; exact h), List.getElem?_replicate, if_pos h]
  rfl
theorem upV_hi {n i : Nat} {zs : List Int} (h : i < zs.length) : (upV n zs).getD (n + i) .non = .int (zs.getD i 0) := by
  unfold upV
  rw [List.getD_eq_getElem?_getD, List.getElem?_append_right (by rw [List.length_replicate]; omega), List.length_replicate, Nat.add_sub_cancel_left, List.getElem?_map, List.getElem?_eq_getElem h, List.getD_eq_getElem?_getD, List.getElem?_eq_getElem h]
  rfl
theorem pair_getD {zs : List Int} (h : zs.Pairwise (· ≤ ·)) {i j : Nat} (hij : i ≤ j) (hj : j < zs.length) : zs.getD i 0 ≤ zs.getD j 0 := by
  rw [List.getD_eq_getElem?_getD, List.getD_eq_getElem?_getD, List.getElem?_eq_getElem hj, List.getElem?_eq_getElem (by omega)]
  rcases Nat.lt_or_eq_of_le hij with c | c
  · exact List.pairwise_iff_getElem.mp h i j (by omega) hj c
  · subst c
    exact Int.le_refl _
theorem upV_rising {n : Nat} {zs : List Int} (h : zs.Pairwise (· ≤ ·)) : risingV (upV n zs) = true := by
  refine risingV_of fun i hi => ?_
  rw [upV_len] at hi
  by_cases c : i < n
  · rw [upV_lo c]
    cases (upV n zs).getD (i + 1) V.non <;> rfl
  · obtain ⟨k, rfl⟩ : ∃ k, i = n + k := ⟨i - n, by omega⟩
    rw [upV_hi (by omega), Nat.add_assoc, upV_hi (by omega)]
    exact decide_eq_false (by have := pair_getD h (i := k) (j := k + 1) (by omega) (by omega); omega)
theorem upV_things {n : Nat} {zs : List Int} : (upV n zs).all isThingV = true := by
  unfold upV
  rw [List.all_append, Bool.and_eq_true]
  refine ⟨List.all_eq_true.mpr fun x hx => ?_, List.all_eq_true.mpr fun x hx => ?_⟩
  · rw [List.eq_of_mem_replicate hx]
    rfl
  · obtain ⟨i, _, rfl⟩ := List.mem_map.mp hx
    rfl
theorem upV_drop {n : Nat} {zs : List Int} (k : Nat) : (upV n zs).drop k = upV (n - k) (zs.drop (k - n)) := by
  unfold upV
  rw [List.drop_append, List.drop_replicate, List.length_replicate, List.map_drop]
theorem cut_last {xs : List V} : cutV xs (some (-1)) none = xs.drop (xs.length - 1) := by
  unfold cutV
  have e : HT.sIx xs.length 0 (some (-1)) = xs.length - 1 := by
    show (if (-1 : Int) < 0 then ((-1 : Int) + (xs.length : Int)).toNat else min (-1 : Int).toNat xs.length) = xs.length - 1
    rw [if_pos (by decide)]
    omega
  rw [e, HT.sIx_none]
  exact List.take_of_length_le (by rw [List.length_drop]; omega)
theorem Drawn.le {fs : List V} {ag : List Int} {m : Int} (d : Drawn fs ag m) : ag.Pairwise (· ≤ ·) ∧ ag.getD 0 0 ≤ lastI ag ∧ 0 ≤ m := by
  obtain ⟨n, is, _, _, _, p, _⟩ := d.ex
  rw [List.pairwise_append] at p
  have := d.l1
  have h := pair_getD p.2.1 (i := 0) (j := ag.length - 1) (by omega) (by omega)
  have h : ag.getD 0 0 ≤ lastI ag := h
  have := d.m0
  exact ⟨p.2.1, h, by omega⟩
theorem Drawn.let_ {fs : List V} {ag : List Int} {m : Int} (d : Drawn fs ag m) : wrongW (some fs) (some (ag.map V.int)) (.int m) = .non := by
  obtain ⟨n, is, e, _, _, p, _⟩ := d.ex
  obtain ⟨pa, hl, hm⟩ := d.le
  have l1 := d.l1
  have m0 := d.m0
  have e : fs = upV n is := e
  have pi : is.Pairwise (· ≤ ·) := (List.pairwise_append.mp p).1
  have ea : ag.map V.int = upV 0 ag := rfl
  unfold wrongW
  dsimp only
  rw [if_pos (by rw [e, upV_things, upV_rising pi]; rfl)]
  show wrongA fs (ag.map V.int) (.int m) = .non
  have hd0 : hd (ag.map V.int) = .int (ag.getD 0 0) := by
    rw [ea]
    exact upV_hi (n := 0) (i := 0) (by omega)
  have hdL : lst (ag.map V.int) = .int (lastI ag) := by
    unfold lst
    rw [ea, upV_len]
    have := upV_hi (n := 0) (i := ag.length - 1) (zs := ag) (by omega)
    rw [Nat.zero_add] at this
    rw [Nat.zero_add]
    exact this
  unfold wrongA
  rw [if_neg (by
    rw [ea, upV_things]
    cases ag with
    | nil => cases l1
    | cons x r => exact fun z => by cases z)]
  have joined : cutV fs (some (-1)) none ++ ag.map V.int = upV (n - (fs.length - 1)) (is.drop (fs.length - 1 - n) ++ ag) := by
    have gen : ∀ k, fs.drop k = upV (n - k) (is.drop (k - n)) := fun k => by
      rw [e]
      exact upV_drop k
    rw [cut_last, gen]
    unfold upV
    rw [List.map_append, List.append_assoc]
  have jp : (is.drop (fs.length - 1 - n) ++ ag).Pairwise (· ≤ ·) := by
    rw [List.pairwise_append] at p ⊢
    exact ⟨p.1.sublist (List.drop_sublist _ _), p.2.1, fun a ha b hb => p.2.2 a (List.mem_of_mem_drop ha) b hb⟩
  rw [if_neg (by
    rw [joined, upV_rising jp, hd0]
    exact fun z => by cases z)]
  rw [if_neg (by
    show ¬ decide (0 ≤ m) = false
    rw [decide_eq_true hm]
    exact fun z => by cases z), if_neg (by rw [hd0]; exact fun z => by cases z), hd0, hdL]
  exact if_pos (by show lastI ag ≤ ag.getD 0 0 + m; omega)
/-! ### what is wrong -/
theorem rising_not {xs : List V} {i : Nat} (hi : i + 1 < xs.length) (h : belowV (xs.getD (i + 1) .non) (xs.getD i .non) = true) : risingV xs = false := by
  cases e : risingV xs with
  | false => rfl
  | true =>
    rw [risingV_at e hi] at h
    cases h
theorem wrong_first {xs : List V} {o : Option (List V)} {m : V} (h : (xs.all isThingV && risingV xs) = false) : wrongW (some xs) o m = .str "first" := by
  unfold wrongW
  dsimp only
  rw [h]
  rfl
theorem wrong_good {xs : List V} {o : Option (List V)} {m : V} (h : (xs.all isThingV && risingV xs) = true) : wrongW (some xs) o m = wrongB xs m o := by
  unfold wrongW
  dsimp only
  rw [h]
  rfl
theorem getD_app {xs ys : List V} {i : Nat} : (xs ++ ys).getD (xs.length + i) .non = ys.getD i .non := by
  rw [List.getD_eq_getElem?_getD, List.getD_eq_getElem?_getD, List.getElem?_append_right (by omega), Nat.add_sub_cancel_left]
theorem w_fall {fs : List V} {x y : Int} {o : Option (List V)} {m : V} (h : y < x) : wrongW (some (fs ++ [.int x, .int y])) o m = .str "first" := by
  refine wrong_first ?_
  rw [rising_not (i := fs.length) (by rw [List.length_append]; show fs.length + 1 < fs.length + 2; omega) ?_, Bool.and_false]
  rw [getD_app (i := 1), show fs.length = fs.length + 0 from rfl, getD_app (i := 0)]
  exact decide_eq_true h
theorem w_none {fs : List V} {x : Int} {o : Option (List V)} {m : V} : wrongW (some (fs ++ [.int x, .non])) o m = .str "first" := by
  refine wrong_first ?_
  rw [rising_not (i := fs.length) (by rw [List.length_append]; show fs.length + 1 < fs.length + 2; omega) ?_, Bool.and_false]
  rw [getD_app (i := 1), show fs.length = fs.length + 0 from rfl, getD_app (i := 0)]
  rfl
theorem w_odd {x : V} {fs : List V} {o : Option (List V)} {m : V} (h : isThingV x = false) : wrongW (some (x :: fs)) o m = .str "first" := by
  refine wrong_first ?_
  rw [List.all_cons, h]
  rfl
theorem w_odd2 {x y : V} {o : Option (List V)} {m : V} (h : isThingV y = false) : wrongW (some [x, y]) o m = .str "first" := by
  refine wrong_first ?_
  rw [List.all_cons, List.all_cons, h]
  cases isThingV x <;> rfl
section
variable {fs : List V} {ag : List Int} {m : Int}
theorem Drawn.good (d : Drawn fs ag m) : (fs.all isThingV && risingV fs) = true := by
  obtain ⟨h1, h2, _⟩ := wrong_ok d.let_
  rw [h1, h2]
  rfl
theorem Drawn.gone (d : Drawn fs ag m) {u : V} : wrongW (some fs) none u = .str "again" := wrong_good d.good
theorem Drawn.less (d : Drawn fs ag m) {u : V} : wrongW (some fs) (some []) u = .str "again" := wrong_good d.good
theorem wrongA_fall {xs ys : List V} {u : V} (h : risingV (cutV xs (some (-1)) none ++ ys) = false) : wrongA xs ys u = .str "again" := by
  unfold wrongA
  split
  · rfl
  · rw [h]
    rfl
theorem Drawn.ahead (d : Drawn fs ag m) {u : V} : wrongW (some (fs ++ [.int (ag.getD 0 0 + 1)])) (some (ag.map V.int)) u = .str "again" := by
  obtain ⟨n, is, e, _, _, p, _⟩ := d.ex
  have l1 := d.l1
  have e2 : fs ++ [.int (ag.getD 0 0 + 1)] = upV n (is ++ [ag.getD 0 0 + 1]) := by
    rw [e]
    unfold upV
    rw [List.map_append, List.append_assoc]
    rfl
  have m0 : ag.getD 0 0 ∈ ag := by
    rw [List.getD_eq_getElem?_getD, List.getElem?_eq_getElem (by omega)]
    exact List.getElem_mem _
  have pp : (is ++ [ag.getD 0 0 + 1]).Pairwise (· ≤ ·) := by
    rw [List.pairwise_append] at p ⊢
    refine ⟨p.1, List.pairwise_singleton _ _, fun a ha b hb => ?_⟩
    rw [List.mem_singleton.mp hb]
    have := p.2.2 a ha _ m0
    omega
  rw [wrong_good (by rw [e2, upV_things, upV_rising pp]; rfl)]
  refine wrongA_fall ?_
  rw [cut_last, List.length_append, List.length_singleton, Nat.add_sub_cancel, List.drop_left]
  refine rising_not (i := 0) (by rw [List.length_append, List.length_map]; show 0 + 1 < 1 + ag.length; omega) ?_
  have ea : ([V.int (ag.getD 0 0 + 1)] ++ ag.map V.int).getD (0 + 1) .non = .int (ag.getD 0 0) := by
    show (ag.map V.int).getD 0 .non = _
    exact upV_hi (n := 0) (i := 0) (zs := ag) (by omega)
  rw [ea]
  exact decide_eq_true (show ag.getD 0 0 < ag.getD 0 0 + 1 by omega)
theorem Drawn.behind (d : Drawn fs ag m) {x : V} {u : V} (h : belowV x (.int (lastI ag)) = true) : wrongW (some fs) (some (ag.map V.int ++ [x])) u = .str "again" := by
  have l1 := d.l1
  rw [wrong_good d.good]
  refine wrongA_fall ?_
  generalize cutV fs (some (-1)) none = c
  rw [← List.append_assoc]
  refine rising_not (i := c.length + (ag.length - 1)) (by rw [List.length_append, List.length_append, List.length_map]; show c.length + (ag.length - 1) + 1 < c.length + ag.length + 1; omega) ?_
  have e1 : (c ++ ag.map V.int ++ [x]).getD (c.length + (ag.length - 1) + 1) .non = x := by
    have := getD_app (xs := c ++ ag.map V.int) (ys := [x]) (i := 0)
    rw [List.length_append, List.length_map] at this
    rw [show c.length + (ag.length - 1) + 1 = c.length + ag.length + 0 by omega]
    exact this
  have e2 : (c ++ ag.map V.int ++ [x]).getD (c.length + (ag.length - 1)) .non = .int (lastI ag) := by
    rw [List.append_assoc, getD_app, List.getD_eq_getElem?_getD, List.getElem?_append_left (by rw [List.length_map]; omega), ← List.getD_eq_getElem?_getD]
    have := upV_hi (n := 0) (i := ag.length - 1) (zs := ag) (by omega)
    rw [Nat.zero_add] at this
    exact this
  rw [e1, e2]
  exact h
theorem Drawn.more (d : Drawn fs ag m) {u : V} (h : isNumV u = false ∨ ∃ i, u = .int i ∧ i < lastI ag - ag.getD 0 0) : wrongW (some fs) (some (ag.map V.int)) u = .str "more" := by
  have w := d.let_
  have l1 := d.l1
  rw [wrong_good d.good] at w ⊢
  have w : wrongA fs (ag.map V.int) (.int m) = .non := w
  show wrongA fs (ag.map V.int) u = .str "more"
  unfold wrongA at w ⊢
  have ea : ag.map V.int = upV 0 ag := rfl
  have hd0 : hd (ag.map V.int) = .int (ag.getD 0 0) := by
    rw [ea]
    exact upV_hi (n := 0) (i := 0) (by omega)
  have hdL : lst (ag.map V.int) = .int (lastI ag) := by
    unfold lst
    rw [ea, upV_len]
    have := upV_hi (n := 0) (i := ag.length - 1) (zs := ag) (by omega)
    rw [Nat.zero_add] at this
    rw [Nat.zero_add]
    exact this
  split at w
  · cases w
  · rename_i c1
    rw [if_neg c1]
    split at w
    · cases w
    · rename_i c2
      rw [if_neg c2]
      rcases h with h | ⟨i, rfl, hi⟩
      · rw [if_pos h]
      · split
        · rfl
        · rw [if_neg (by rw [hd0]; exact fun z => by cases z), hd0, hdL]
          exact if_neg (by show ¬ lastI ag ≤ ag.getD 0 0 + i; omega)
end
end WW

set_option Elab.async false
set_option linter.all false
set_option maxRecDepth 100000
set_option maxHeartbeats 4000000
namespace WW
open PySem PySem.Spec PyProof.Rows L2
section
variable {P : Program} {w : World} {K : PySem.W.Frag} {mg : Str → Option Value} {base : Heap} {f : Addr} {fd : FuncData}
/-- a word with arguments that Row refuses by it -/
def Bad (K : PySem.W.Frag) (H : Hp) (t : Addr) : Prop := ∃ (z : Str) (v1 v2 m : V) (o1 o2 : Option (List V)) (sq : Bool), H t = some (.tup [.str z, v1, v2, m]) ∧ Arg K H v1 o1 ∧ Arg K H v2 o2 ∧ HasT K H m sq ∧ wrongW o1 o2 m = .str z
theorem Bad.ex {H H' : Hp} {t : Addr} (e : Same H H') (h : Bad K H t) : Bad K H' t := by
  obtain ⟨z, v1, v2, m, o1, o2, sq, h0, h1, h2, h3, h4⟩ := h
  exact ⟨z, v1, v2, m, o1, o2, sq, e _ _ h0, h1.ex e, h2.ex e, h3.ex e, h4⟩
theorem arg_l {H : Hp} {l : Addr} {xs : List V} (e : H l = some (.lst xs)) (hl : xs.length ≤ 20000) (hs : ∀ y ∈ xs, simpV y = true) : Arg K H (.ref l) (some xs) := ⟨l, rfl, .l e, hl, fun y hy => ⟨_, hasT_simp (hs y hy)⟩⟩
theorem arg_s {H : Hp} {v : V} (h : simpV v = true) : Arg K H v none := hasT_simp h
theorem simp_app {xs ys : List V} (h : ∀ y ∈ xs, simpV y = true) (k : ∀ y ∈ ys, simpV y = true) : ∀ y ∈ xs ++ ys, simpV y = true := fun y hy => (List.mem_append.mp hy).elim (h y) (k y)
theorem simp_nil : ∀ y ∈ ([] : List V), simpV y = true := fun y hy => nomatch hy
theorem simp_cons {x : V} {xs : List V} (h : simpV x = true) (k : ∀ y ∈ xs, simpV y = true) : ∀ y ∈ x :: xs, simpV y = true := fun y hy => (List.mem_cons.mp hy).elim (fun z => by rw [z]; exact h) (k y)
def spBent : Sp := fun vs H Q _ => ∃ (b p p1 p2 : Addr) (fs : List V) (ag : List Int) (m : Int), vs = [.ref b, .ref p] ∧ Box H b ∧ Drawn fs ag m ∧ H p = some (.tup [.ref p1, .ref p2, .int m]) ∧ H p1 = some (.lst fs) ∧ H p2 = some (.lst (ag.map V.int)) ∧ p ≠ b ∧ p1 ≠ b ∧ p2 ≠ b ∧ ∀ H', SameBut b H H' → Box H' b → Q (.bl true) H'
abbrev s_l_bent_right : Stmt := top 35
abbrev N_l_bent_right : List Str := ["_law_box_here", "_law_told", "_law_first", "_law_again", "_law_more", "_law_low", "_law_wrong", "_law_word", "_law_one", "_law_two", "_law_three"]
theorem sc_l_bent_right : FnScope N_l_bent_right ["_law_box_here", "_law_told"] (defScope s_l_bent_right) := ⟨rfl, rfl, rfl, by decide +kernel, rfl, by decide +kernel, by decide +kernel⟩

theorem ok_bent (F : FnP K "_law_bent_right" s_l_bent_right f fd) (g_l_take : FnAt P w K mg base CX0 1 "_law_take" ["_law_box_here", "_law_many"] spTake) (g_l_heard : FnAt P w K mg base CX0 6 "_law_heard" ["_law_first", "_law_again", "_law_more"] (spHeard K)) : FnOk P w K mg base CX0 7 f fd ["_law_box_here", "_law_told"] spBent := by
  refine F.ok sc_l_bent_right (fun vs H Q E h => ?_) (fun cdv A outer s H vs Q E hr h => ?_)
  · obtain ⟨b, p, p1, p2, fs, ag, m, rfl, _⟩ := h
    rfl
  · obtain ⟨b, p, p1, p2, fs, ag, m, rfl, hb, dr, hp, h1, h2, np, np1, np2, q⟩ := h
    refine ⟨_, PSs.nox (pss_cons (ps_asg (pv 1) (pg_tupK (n := 3) K rfl (pgs_cons (pg_name (i := 2) sc_l_bent_right.nd rfl (.inl rfl)) (pgs_cons (pg_name (i := 3) sc_l_bent_right.nd rfl (.inl rfl)) (pgs_cons (pg_name (i := 4) sc_l_bent_right.nd rfl (.inl rfl)) (pgs_nil))))))
 (pss_cons (ps_set (i := 5) sc_l_bent_right.nd rfl (.inl rfl) (pe_op op_sub (pe_op op_sub (pe_ix (ix_sqK K) (pv 3) (pe_int) (fun _ _ => rfl)) (pe_int)) (pe_fn g_l_take hr rfl (pa_cons (pv 0) (pa_cons (pe_int) (pa_nil))))))
 (Evl.pss_cut (ps_set (i := 6) sc_l_bent_right.nd rfl (.inl rfl) (pe_lst (pa_cons (pe_tup (pa_cons (pe_str) (pa_cons (pe_op op_cat (pv 2) (pe_lst (pa_cons (pe_ix (ix_sqK K) (pv 3) (pe_int) (fun _ _ => rfl)) (pa_cons (pv 5) (pa_nil))))) (pa_cons (pv 3) (pa_cons (pv 4) (pa_nil)))))) (pa_cons (pe_tup (pa_cons (pe_str) (pa_cons (pe_op op_cat (pv 2) (pe_lst (pa_cons (pe_int) (pa_cons (pe_non) (pa_nil))))) (pa_cons (pv 3) (pa_cons (pv 4) (pa_nil)))))) (pa_nil)))))
 (Evl.pss_cut (ps_set (i := 6) sc_l_bent_right.nd rfl (.inl rfl) (pe_op op_cat (pv 6) (pe_lst (pa_cons (pe_tup (pa_cons (pe_str) (pa_cons (pe_op op_cat (pe_lst (pa_cons (pe_bl) (pa_nil))) (pv 2)) (pa_cons (pv 3) (pa_cons (pv 4) (pa_nil)))))) (pa_cons (pe_tup (pa_cons (pe_str) (pa_cons (pe_str) (pa_cons (pv 3) (pa_cons (pv 4) (pa_nil)))))) (pa_cons (pe_tup (pa_cons (pe_str) (pa_cons (pe_non) (pa_cons (pv 3) (pa_cons (pv 4) (pa_nil)))))) (pa_nil)))))))
 (Evl.pss_cut (ps_set (i := 6) sc_l_bent_right.nd rfl (.inl rfl) (pe_op op_cat (pv 6) (pe_lst (pa_cons (pe_tup (pa_cons (pe_str) (pa_cons (pe_op op_cat (pv 2) (pe_lst (pa_cons (pe_op op_add (pe_ix (ix_sqK K) (pv 3) (pe_int) (fun _ _ => rfl)) (pe_int)) (pa_nil)))) (pa_cons (pv 3) (pa_cons (pv 4) (pa_nil)))))) (pa_cons (pe_tup (pa_cons (pe_str) (pa_cons (pv 2) (pa_cons (pe_lst (pa_nil)) (pa_cons (pv 4) (pa_nil)))))) (pa_nil))))))
 (Evl.pss_cut (ps_set (i := 6) sc_l_bent_right.nd rfl (.inl rfl) (pe_op op_cat (pv 6) (pe_lst (pa_cons (pe_tup (pa_cons (pe_str) (pa_cons (pv 2) (pa_cons (pe_non) (pa_cons (pv 4) (pa_nil)))))) (pa_nil)))))
 (Evl.pss_cut (ps_set (i := 6) sc_l_bent_right.nd rfl (.inl rfl) (pe_op op_cat (pv 6) (pe_lst (pa_cons (pe_tup (pa_cons (pe_str) (pa_cons (pv 2) (pa_cons (pe_op op_cat (pv 3) (pe_lst (pa_cons (pv 5) (pa_nil)))) (pa_cons (pv 4) (pa_nil)))))) (pa_cons (pe_tup (pa_cons (pe_str) (pa_cons (pv 2) (pa_cons (pe_op op_cat (pv 3) (pe_lst (pa_cons (pe_non) (pa_nil)))) (pa_cons (pv 4) (pa_nil)))))) (pa_nil))))))
 (Evl.pss_cut (ps_set (i := 6) sc_l_bent_right.nd rfl (.inl rfl) (pe_op op_cat (pv 6) (pe_lst (pa_cons (pe_tup (pa_cons (pe_str) (pa_cons (pe_lst (pa_cons (pe_int) (pa_nil))) (pa_cons (pe_lst (pa_cons (pe_non) (pa_nil))) (pa_cons (pe_int) (pa_nil)))))) (pa_cons (pe_tup (pa_cons (pe_str) (pa_cons (pe_lst (pa_nil)) (pa_cons (pe_lst (pa_cons (pe_non) (pa_cons (pe_int) (pa_nil)))) (pa_cons (pe_int) (pa_nil)))))) (pa_cons (pe_tup (pa_cons (pe_str) (pa_cons (pe_lst (pa_nil)) (pa_cons (pe_lst (pa_cons (pe_bl) (pa_cons (pe_int) (pa_nil)))) (pa_cons (pe_int) (pa_nil)))))) (pa_nil)))))))
 (Evl.pss_cut (ps_set (i := 6) sc_l_bent_right.nd rfl (.inl rfl) (pe_op op_cat (pv 6) (pe_lst (pa_cons (pe_tup (pa_cons (pe_str) (pa_cons (pv 2) (pa_cons (pv 3) (pa_cons (pe_op op_sub (pe_op op_sub (pe_ix (ix_sqK K) (pv 3) (pe_un un_neg (pe_int)) (fun _ _ => rfl)) (pe_ix (ix_sqK K) (pv 3) (pe_int) (fun _ _ => rfl))) (pe_int)) (pa_nil)))))) (pa_cons (pe_tup (pa_cons (pe_str) (pa_cons (pv 2) (pa_cons (pv 3) (pa_cons (pe_non) (pa_nil)))))) (pa_nil))))))
 (Evl.pss_cut (ps_set (i := 6) sc_l_bent_right.nd rfl (.inl rfl) (pe_op op_cat (pv 6) (pe_lst (pa_cons (pe_tup (pa_cons (pe_str) (pa_cons (pv 2) (pa_cons (pv 3) (pa_cons (pe_bl) (pa_nil)))))) (pa_cons (pe_tup (pa_cons (pe_str) (pa_cons (pv 2) (pa_cons (pv 3) (pa_cons (pe_str) (pa_nil)))))) (pa_cons (pe_tup (pa_cons (pe_str) (pa_cons (pe_lst (pa_nil)) (pa_cons (pe_lst (pa_cons (pe_non) (pa_nil))) (pa_cons (pe_int) (pa_nil)))))) (pa_nil)))))))
 (pss_cons (ps_for PassesOwn.never rfl (pi_seqK K (pv 6)) (pg_tupK (n := 4) K rfl (pgs_cons (pg_name (i := 7) sc_l_bent_right.nd rfl (.inl rfl)) (pgs_cons (pg_name (i := 8) sc_l_bent_right.nd rfl (.inl rfl)) (pgs_cons (pg_name (i := 9) sc_l_bent_right.nd rfl (.inl rfl)) (pgs_cons (pg_name (i := 10) sc_l_bent_right.nd rfl (.inl rfl)) (pgs_nil)))))) (pss_one (ps_if (pt_cmpR op_ne (pe_fn g_l_heard hr rfl (pa_cons (pv 8) (pa_cons (pv 9) (pa_cons (pv 10) (pa_nil))))) (pv 7) (nomark _)) (pss_one (ps_ret (pe_bl))) (pss_nil))))
 (pss_one (ps_ret (pe_bl)))))))))))))), ?_⟩
    obtain ⟨ndr, is, efs, hn2, hi3, _, _⟩ := dr.ex
    have l1 := dr.l1
    have l3 := dr.l3
    have fl : fs.length ≤ 5 := by
      rw [efs, List.length_append, List.length_replicate, List.length_map]
      omega
    have hfs : ∀ y ∈ fs, simpV y = true := fun y hy => by
      rw [efs] at hy
      rcases List.mem_append.mp hy with hy | hy
      · rw [List.eq_of_mem_replicate hy]
        rfl
      · obtain ⟨i, _, rfl⟩ := List.mem_map.mp hy
        rfl
    have hag : ∀ y ∈ ag.map V.int, simpV y = true := fun y hy => by
      obtain ⟨i, _, rfl⟩ := List.mem_map.mp hy
      rfl
    have at0 : atI (ag.map V.int) 0 = some (.int (ag.getD 0 0)) := ints_at (i := 0) (by omega)
    have atL := ints_last (ag := ag) (by omega)
    obtain ⟨_, hle, _⟩ := dr.le
    refine ⟨_, rfl, p, _, rfl, .inl (.inl hp), rfl, _, _, rfl, _, _, rfl, _, _, rfl, rfl, ?_⟩
    refine ⟨_, rfl, p2, _, _, _, rfl, rfl, .l h2, at0, _, _, rfl, rfl, _, rfl, b, 3, rfl, hb, by decide, by decide, fun x y z d dl du => ⟨_, _, rfl, rfl, ?_⟩⟩
    have hb0 : Box (upd H b (bx x y z)) b := ⟨_, _, _, upd_same⟩
    have sb0 : SameBut b H (upd H b (bx x y z)) := SameBut.upd b _ _
    generalize upd H b (bx x y z) = H0 at hb0 sb0
    have e1 := sb0 _ _ np1 h1
    have e2 := sb0 _ _ np2 h2
    obtain ⟨low, hlow⟩ : ∃ low, low = ag.getD 0 0 - 1 - d := ⟨_, rfl⟩
    have hll : low < ag.getD 0 0 := by omega
    dsimp only
    refine q_name ?_
    rw [show ag.getD 0 0 - 1 - d = low from hlow.symm]
    refine ⟨fun σ Hc => ∃ (L : Addr) (ts : List Addr), σ = [some (.ref b), some (.ref p), some (.ref p1), some (.ref p2), some (.int m), some (.int low), some (.ref L), none, none, none, none] ∧ Same H0 Hc ∧ Hc L = some (.lst (ts.map V.ref)) ∧ ts.length ≤ 2 ∧ ∀ t ∈ ts, Bad K Hc t, ?_, ?_⟩
    · have z := Same.refl H0
      refine ⟨_, rfl, _, rfl, p2, _, _, _, rfl, rfl, .l e2, at0, _, rfl, by show 2 ≤ sizeLine; decide, fun l1 n_l1 => ?_⟩
      have s_l1 := same_new (o := .lst [.int (ag.getD 0 0), .int low]) n_l1
      have e_l1 : (upd H0 l1 (.lst [.int (ag.getD 0 0), .int low])) l1 = some (.lst [.int (ag.getD 0 0), .int low]) := upd_same
      generalize upd H0 l1 (.lst [.int (ag.getD 0 0), .int low]) = G1 at s_l1 e_l1
      have e1 := s_l1 _ _ e1
      have e2 := s_l1 _ _ e2
      have z := z.trans s_l1
      refine ⟨p1, l1, _, _, rfl, rfl, e1, e_l1, (by simp only [List.length_append, List.length_cons, List.length_nil, List.length_map]; exact Nat.le_trans (show _ ≤ 1000 by omega) (by decide)), fun c1 n_c1 => ?_⟩
      have s_c1 := same_new (o := .lst (fs ++ [.int (ag.getD 0 0), .int low])) n_c1
      have e_c1 : (upd G1 c1 (.lst (fs ++ [.int (ag.getD 0 0), .int low]))) c1 = some (.lst (fs ++ [.int (ag.getD 0 0), .int low])) := upd_same
      generalize upd G1 c1 (.lst (fs ++ [.int (ag.getD 0 0), .int low])) = G2 at s_c1 e_c1
      have e1 := s_c1 _ _ e1
      have e2 := s_c1 _ _ e2
      have e_l1 := s_c1 _ _ e_l1
      have z := z.trans s_c1
      refine ⟨_, rfl, _, rfl, by show 4 ≤ sizeLine; decide, fun t1 n_t1 => ?_⟩
      have s_t1 := same_new (o := .tup [.str "first", .ref c1, .ref p2, .int m]) n_t1
      have e_t1 : (upd G2 t1 (.tup [.str "first", .ref c1, .ref p2, .int m])) t1 = some (.tup [.str "first", .ref c1, .ref p2, .int m]) := upd_same
      generalize upd G2 t1 (.tup [.str "first", .ref c1, .ref p2, .int m]) = G3 at s_t1 e_t1
      have e1 := s_t1 _ _ e1
      have e2 := s_t1 _ _ e2
      have e_l1 := s_t1 _ _ e_l1
      have e_c1 := s_t1 _ _ e_c1
      have z := z.trans s_t1
      refine ⟨_, rfl, by show 2 ≤ sizeLine; decide, fun l2 n_l2 => ?_⟩
      have s_l2 := same_new (o := .lst [.int 0, .non]) n_l2
      have e_l2 : (upd G3 l2 (.lst [.int 0, .non])) l2 = some (.lst [.int 0, .non]) := upd_same
      generalize upd G3 l2 (.lst [.int 0, .non]) = G4 at s_l2 e_l2
      have e1 := s_l2 _ _ e1
      have e2 := s_l2 _ _ e2
      have e_l1 := s_l2 _ _ e_l1
      have e_c1 := s_l2 _ _ e_c1
      have e_t1 := s_l2 _ _ e_t1
      have z := z.trans s_l2
      refine ⟨p1, l2, _, _, rfl, rfl, e1, e_l2, (by simp only [List.length_append, List.length_cons, List.length_nil, List.length_map]; exact Nat.le_trans (show _ ≤ 1000 by omega) (by decide)), fun c2 n_c2 => ?_⟩
      have s_c2 := same_new (o := .lst (fs ++ [.int 0, .non])) n_c2
      have e_c2 : (upd G4 c2 (.lst (fs ++ [.int 0, .non]))) c2 = some (.lst (fs ++ [.int 0, .non])) := upd_same
      generalize upd G4 c2 (.lst (fs ++ [.int 0, .non])) = G5 at s_c2 e_c2
      have e1 := s_c2 _ _ e1
      have e2 := s_c2 _ _ e2
      have e_l1 := s_c2 _ _ e_l1
      have e_c1 := s_c2 _ _ e_c1
      have e_t1 := s_c2 _ _ e_t1
      have e_l2 := s_c2 _ _ e_l2
      have z := z.trans s_c2
      refine ⟨_, rfl, _, rfl, by show 4 ≤ sizeLine; decide, fun t2 n_t2 => ?_⟩
      have s_t2 := same_new (o := .tup [.str "first", .ref c2, .ref p2, .int m]) n_t2
      have e_t2 : (upd G5 t2 (.tup [.str "first", .ref c2, .ref p2, .int m])) t2 = some (.tup [.str "first", .ref c2, .ref p2, .int m]) := upd_same
      generalize upd G5 t2 (.tup [.str "first", .ref c2, .ref p2, .int m]) = G6 at s_t2 e_t2
      have e1 := s_t2 _ _ e1
      have e2 := s_t2 _ _ e2
      have e_l1 := s_t2 _ _ e_l1
      have e_c1 := s_t2 _ _ e_c1
      have e_t1 := s_t2 _ _ e_t1
      have e_l2 := s_t2 _ _ e_l2
      have e_c2 := s_t2 _ _ e_c2
      have z := z.trans s_t2
      refine ⟨by show 2 ≤ sizeLine; decide, fun LL n_LL => ?_⟩
      have s_LL := same_new (o := .lst [.ref t1, .ref t2]) n_LL
      have e_LL : (upd G6 LL (.lst [.ref t1, .ref t2])) LL = some (.lst [.ref t1, .ref t2]) := upd_same
      generalize upd G6 LL (.lst [.ref t1, .ref t2]) = G7 at s_LL e_LL
      have e1 := s_LL _ _ e1
      have e2 := s_LL _ _ e2
      have e_l1 := s_LL _ _ e_l1
      have e_c1 := s_LL _ _ e_c1
      have e_t1 := s_LL _ _ e_t1
      have e_l2 := s_LL _ _ e_l2
      have e_c2 := s_LL _ _ e_c2
      have e_t2 := s_LL _ _ e_t2
      have z := z.trans s_LL
      have b_t1 : Bad K G7 t1 := ⟨"first", .ref c1, .ref p2, .int m, _, _, _, e_t1, arg_l e_c1 (by rw [List.length_append]; show fs.length + 2 ≤ 20000; omega) (simp_app hfs (simp_cons rfl (simp_cons rfl (simp_nil)))), arg_l e2 (by rw [List.length_map]; omega) hag, hasT_int _, w_fall hll⟩
      have b_t2 : Bad K G7 t2 := ⟨"first", .ref c2, .ref p2, .int m, _, _, _, e_t2, arg_l e_c2 (by rw [List.length_append]; show fs.length + 2 ≤ 20000; omega) (simp_app hfs (simp_cons rfl (simp_cons rfl (simp_nil)))), arg_l e2 (by rw [List.length_map]; omega) hag, hasT_int _, w_none⟩
      refine ⟨LL, [t1, t2], rfl, z, e_LL, Nat.le_refl _, fun t ht => ?_⟩
      simp only [List.mem_cons, List.not_mem_nil, or_false] at ht
      rcases ht with rfl | rfl
      · exact b_t1
      · exact b_t2
    have e1_ := e1
    have e2_ := e2
    rintro σ Hc ⟨L, ts, rfl, z, eL, tl, bad⟩
    have e1 := z _ _ e1_
    have e2 := z _ _ e2_
    refine ⟨fun σ Hc => ∃ (L : Addr) (ts : List Addr), σ = [some (.ref b), some (.ref p), some (.ref p1), some (.ref p2), some (.int m), some (.int low), some (.ref L), none, none, none, none] ∧ Same H0 Hc ∧ Hc L = some (.lst (ts.map V.ref)) ∧ ts.length ≤ 5 ∧ ∀ t ∈ ts, Bad K Hc t, ?_, ?_⟩
    · have dmy := True.intro
      refine ⟨_, rfl, by show 1 ≤ sizeLine; decide, fun l1 n_l1 => ?_⟩
      have s_l1 := same_new (o := .lst [.bl true]) n_l1
      have e_l1 : (upd Hc l1 (.lst [.bl true])) l1 = some (.lst [.bl true]) := upd_same
      generalize upd Hc l1 (.lst [.bl true]) = G1 at s_l1 e_l1
      have e1 := s_l1 _ _ e1
      have e2 := s_l1 _ _ e2
      have eL := s_l1 _ _ eL
      have bad := fun t ht => Bad.ex s_l1 (bad t ht)
      have z := z.trans s_l1
      refine ⟨_, rfl, l1, p1, _, _, rfl, rfl, e_l1, e1, (by simp only [List.length_append, List.length_cons, List.length_nil, List.length_map]; exact Nat.le_trans (show _ ≤ 1000 by omega) (by decide)), fun c1 n_c1 => ?_⟩
      have s_c1 := same_new (o := .lst ([.bl true] ++ fs)) n_c1
      have e_c1 : (upd G1 c1 (.lst ([.bl true] ++ fs))) c1 = some (.lst ([.bl true] ++ fs)) := upd_same
      generalize upd G1 c1 (.lst ([.bl true] ++ fs)) = G2 at s_c1 e_c1
      have e1 := s_c1 _ _ e1
      have e2 := s_c1 _ _ e2
      have eL := s_c1 _ _ eL
      have e_l1 := s_c1 _ _ e_l1
      have bad := fun t ht => Bad.ex s_c1 (bad t ht)
      have z := z.trans s_c1
      refine ⟨_, rfl, _, rfl, by show 4 ≤ sizeLine; decide, fun t1 n_t1 => ?_⟩
      have s_t1 := same_new (o := .tup [.str "first", .ref c1, .ref p2, .int m]) n_t1
      have e_t1 : (upd G2 t1 (.tup [.str "first", .ref c1, .ref p2, .int m])) t1 = some (.tup [.str "first", .ref c1, .ref p2, .int m]) := upd_same
      generalize upd G2 t1 (.tup [.str "first", .ref c1, .ref p2, .int m]) = G3 at s_t1 e_t1
      have e1 := s_t1 _ _ e1
      have e2 := s_t1 _ _ e2
      have eL := s_t1 _ _ eL
      have e_l1 := s_t1 _ _ e_l1
      have e_c1 := s_t1 _ _ e_c1
      have bad := fun t ht => Bad.ex s_t1 (bad t ht)
      have z := z.trans s_t1
      refine ⟨_, rfl, _, rfl, by show 4 ≤ sizeLine; decide, fun t2 n_t2 => ?_⟩
      have s_t2 := same_new (o := .tup [.str "first", .str "ab", .ref p2, .int m]) n_t2
      have e_t2 : (upd G3 t2 (.tup [.str "first", .str "ab", .ref p2, .int m])) t2 = some (.tup [.str "first", .str "ab", .ref p2, .int m]) := upd_same
      generalize upd G3 t2 (.tup [.str "first", .str "ab", .ref p2, .int m]) = G4 at s_t2 e_t2
      have e1 := s_t2 _ _ e1
      have e2 := s_t2 _ _ e2
      have eL := s_t2 _ _ eL
      have e_l1 := s_t2 _ _ e_l1
      have e_c1 := s_t2 _ _ e_c1
      have e_t1 := s_t2 _ _ e_t1
      have bad := fun t ht => Bad.ex s_t2 (bad t ht)
      have z := z.trans s_t2
      refine ⟨_, rfl, _, rfl, by show 4 ≤ sizeLine; decide, fun t3 n_t3 => ?_⟩
      have s_t3 := same_new (o := .tup [.str "first", .non, .ref p2, .int m]) n_t3
      have e_t3 : (upd G4 t3 (.tup [.str "first", .non, .ref p2, .int m])) t3 = some (.tup [.str "first", .non, .ref p2, .int m]) := upd_same
      generalize upd G4 t3 (.tup [.str "first", .non, .ref p2, .int m]) = G5 at s_t3 e_t3
      have e1 := s_t3 _ _ e1
      have e2 := s_t3 _ _ e2
      have eL := s_t3 _ _ eL
      have e_l1 := s_t3 _ _ e_l1
      have e_c1 := s_t3 _ _ e_c1
      have e_t1 := s_t3 _ _ e_t1
      have e_t2 := s_t3 _ _ e_t2
      have bad := fun t ht => Bad.ex s_t3 (bad t ht)
      have z := z.trans s_t3
      refine ⟨by show 3 ≤ sizeLine; decide, fun LB n_LB => ?_⟩
      have s_LB := same_new (o := .lst [.ref t1, .ref t2, .ref t3]) n_LB
      have e_LB : (upd G5 LB (.lst [.ref t1, .ref t2, .ref t3])) LB = some (.lst [.ref t1, .ref t2, .ref t3]) := upd_same
      generalize upd G5 LB (.lst [.ref t1, .ref t2, .ref t3]) = G6 at s_LB e_LB
      have e1 := s_LB _ _ e1
      have e2 := s_LB _ _ e2
      have eL := s_LB _ _ eL
      have e_l1 := s_LB _ _ e_l1
      have e_c1 := s_LB _ _ e_c1
      have e_t1 := s_LB _ _ e_t1
      have e_t2 := s_LB _ _ e_t2
      have e_t3 := s_LB _ _ e_t3
      have bad := fun t ht => Bad.ex s_LB (bad t ht)
      have z := z.trans s_LB
      refine ⟨L, LB, _, _, rfl, rfl, eL, e_LB, (by simp only [List.length_append, List.length_cons, List.length_nil, List.length_map]; exact Nat.le_trans (show _ ≤ 1000 by omega) (by decide)), fun LL n_LL => ?_⟩
      have s_LL := same_new (o := .lst (ts.map V.ref ++ [.ref t1, .ref t2, .ref t3])) n_LL
      have e_LL : (upd G6 LL (.lst (ts.map V.ref ++ [.ref t1, .ref t2, .ref t3]))) LL = some (.lst (ts.map V.ref ++ [.ref t1, .ref t2, .ref t3])) := upd_same
      generalize upd G6 LL (.lst (ts.map V.ref ++ [.ref t1, .ref t2, .ref t3])) = G7 at s_LL e_LL
      have e1 := s_LL _ _ e1
      have e2 := s_LL _ _ e2
      have eL := s_LL _ _ eL
      have e_l1 := s_LL _ _ e_l1
      have e_c1 := s_LL _ _ e_c1
      have e_t1 := s_LL _ _ e_t1
      have e_t2 := s_LL _ _ e_t2
      have e_t3 := s_LL _ _ e_t3
      have e_LB := s_LL _ _ e_LB
      have bad := fun t ht => Bad.ex s_LL (bad t ht)
      have z := z.trans s_LL
      have b_t1 : Bad K G7 t1 := ⟨"first", .ref c1, .ref p2, .int m, _, _, _, e_t1, arg_l e_c1 (by rw [List.length_append]; show 1 + fs.length ≤ 20000; omega) (simp_app (simp_cons rfl (simp_nil)) hfs), arg_l e2 (by rw [List.length_map]; omega) hag, hasT_int _, w_odd rfl⟩
      have b_t2 : Bad K G7 t2 := ⟨"first", .str "ab", .ref p2, .int m, _, _, _, e_t2, arg_s rfl, arg_l e2 (by rw [List.length_map]; omega) hag, hasT_int _, rfl⟩
      have b_t3 : Bad K G7 t3 := ⟨"first", .non, .ref p2, .int m, _, _, _, e_t3, arg_s rfl, arg_l e2 (by rw [List.length_map]; omega) hag, hasT_int _, rfl⟩
      refine ⟨LL, ts ++ [t1, t2, t3], rfl, z, by rw [e_LL, List.map_append]; rfl, by rw [List.length_append]; show ts.length + 3 ≤ 5; omega, fun t ht => ?_⟩
      rcases List.mem_append.mp ht with ht | ht
      · exact bad t ht
      · simp only [List.mem_cons, List.not_mem_nil, or_false] at ht
        rcases ht with rfl | rfl | rfl
        · exact b_t1
        · exact b_t2
        · exact b_t3
    rintro σ Hc ⟨L, ts, rfl, z, eL, tl, bad⟩
    have e1 := z _ _ e1_
    have e2 := z _ _ e2_
    refine ⟨fun σ Hc => ∃ (L : Addr) (ts : List Addr), σ = [some (.ref b), some (.ref p), some (.ref p1), some (.ref p2), some (.int m), some (.int low), some (.ref L), none, none, none, none] ∧ Same H0 Hc ∧ Hc L = some (.lst (ts.map V.ref)) ∧ ts.length ≤ 7 ∧ ∀ t ∈ ts, Bad K Hc t, ?_, ?_⟩
    · have dmy := True.intro
      refine ⟨_, rfl, _, rfl, _, rfl, p2, _, _, _, rfl, rfl, .l e2, at0, _, _, rfl, rfl, by show 1 ≤ sizeLine; decide, fun l1 n_l1 => ?_⟩
      have s_l1 := same_new (o := .lst [.int (ag.getD 0 0 + 1)]) n_l1
      have e_l1 : (upd Hc l1 (.lst [.int (ag.getD 0 0 + 1)])) l1 = some (.lst [.int (ag.getD 0 0 + 1)]) := upd_same
      generalize upd Hc l1 (.lst [.int (ag.getD 0 0 + 1)]) = G1 at s_l1 e_l1
      have e1 := s_l1 _ _ e1
      have e2 := s_l1 _ _ e2
      have eL := s_l1 _ _ eL
      have bad := fun t ht => Bad.ex s_l1 (bad t ht)
      have z := z.trans s_l1
      refine ⟨p1, l1, _, _, rfl, rfl, e1, e_l1, (by simp only [List.length_append, List.length_cons, List.length_nil, List.length_map]; exact Nat.le_trans (show _ ≤ 1000 by omega) (by decide)), fun c1 n_c1 => ?_⟩
      have s_c1 := same_new (o := .lst (fs ++ [.int (ag.getD 0 0 + 1)])) n_c1
      have e_c1 : (upd G1 c1 (.lst (fs ++ [.int (ag.getD 0 0 + 1)]))) c1 = some (.lst (fs ++ [.int (ag.getD 0 0 + 1)])) := upd_same
      generalize upd G1 c1 (.lst (fs ++ [.int (ag.getD 0 0 + 1)])) = G2 at s_c1 e_c1
      have e1 := s_c1 _ _ e1
      have e2 := s_c1 _ _ e2
      have eL := s_c1 _ _ eL
      have e_l1 := s_c1 _ _ e_l1
      have bad := fun t ht => Bad.ex s_c1 (bad t ht)
      have z := z.trans s_c1
      refine ⟨_, rfl, _, rfl, by show 4 ≤ sizeLine; decide, fun t1 n_t1 => ?_⟩
      have s_t1 := same_new (o := .tup [.str "again", .ref c1, .ref p2, .int m]) n_t1
      have e_t1 : (upd G2 t1 (.tup [.str "again", .ref c1, .ref p2, .int m])) t1 = some (.tup [.str "again", .ref c1, .ref p2, .int m]) := upd_same
      generalize upd G2 t1 (.tup [.str "again", .ref c1, .ref p2, .int m]) = G3 at s_t1 e_t1
      have e1 := s_t1 _ _ e1
      have e2 := s_t1 _ _ e2
      have eL := s_t1 _ _ eL
      have e_l1 := s_t1 _ _ e_l1
      have e_c1 := s_t1 _ _ e_c1
      have bad := fun t ht => Bad.ex s_t1 (bad t ht)
      have z := z.trans s_t1
      refine ⟨_, rfl, by show 0 ≤ sizeLine; decide, fun l2 n_l2 => ?_⟩
      have s_l2 := same_new (o := .lst []) n_l2
      have e_l2 : (upd G3 l2 (.lst [])) l2 = some (.lst []) := upd_same
      generalize upd G3 l2 (.lst []) = G4 at s_l2 e_l2
      have e1 := s_l2 _ _ e1
      have e2 := s_l2 _ _ e2
      have eL := s_l2 _ _ eL
      have e_l1 := s_l2 _ _ e_l1
      have e_c1 := s_l2 _ _ e_c1
      have e_t1 := s_l2 _ _ e_t1
      have bad := fun t ht => Bad.ex s_l2 (bad t ht)
      have z := z.trans s_l2
      refine ⟨_, rfl, by show 4 ≤ sizeLine; decide, fun t2 n_t2 => ?_⟩
      have s_t2 := same_new (o := .tup [.str "again", .ref p1, .ref l2, .int m]) n_t2
      have e_t2 : (upd G4 t2 (.tup [.str "again", .ref p1, .ref l2, .int m])) t2 = some (.tup [.str "again", .ref p1, .ref l2, .int m]) := upd_same
      generalize upd G4 t2 (.tup [.str "again", .ref p1, .ref l2, .int m]) = G5 at s_t2 e_t2
      have e1 := s_t2 _ _ e1
      have e2 := s_t2 _ _ e2
      have eL := s_t2 _ _ eL
      have e_l1 := s_t2 _ _ e_l1
      have e_c1 := s_t2 _ _ e_c1
      have e_t1 := s_t2 _ _ e_t1
      have e_l2 := s_t2 _ _ e_l2
      have bad := fun t ht => Bad.ex s_t2 (bad t ht)
      have z := z.trans s_t2
      refine ⟨by show 2 ≤ sizeLine; decide, fun LB n_LB => ?_⟩
      have s_LB := same_new (o := .lst [.ref t1, .ref t2]) n_LB
      have e_LB : (upd G5 LB (.lst [.ref t1, .ref t2])) LB = some (.lst [.ref t1, .ref t2]) := upd_same
      generalize upd G5 LB (.lst [.ref t1, .ref t2]) = G6 at s_LB e_LB
      have e1 := s_LB _ _ e1
      have e2 := s_LB _ _ e2
      have eL := s_LB _ _ eL
      have e_l1 := s_LB _ _ e_l1
      have e_c1 := s_LB _ _ e_c1
      have e_t1 := s_LB _ _ e_t1
      have e_l2 := s_LB _ _ e_l2
      have e_t2 := s_LB _ _ e_t2
      have bad := fun t ht => Bad.ex s_LB (bad t ht)
      have z := z.trans s_LB
      refine ⟨L, LB, _, _, rfl, rfl, eL, e_LB, (by simp only [List.length_append, List.length_cons, List.length_nil, List.length_map]; exact Nat.le_trans (show _ ≤ 1000 by omega) (by decide)), fun LL n_LL => ?_⟩
      have s_LL := same_new (o := .lst (ts.map V.ref ++ [.ref t1, .ref t2])) n_LL
      have e_LL : (upd G6 LL (.lst (ts.map V.ref ++ [.ref t1, .ref t2]))) LL = some (.lst (ts.map V.ref ++ [.ref t1, .ref t2])) := upd_same
      generalize upd G6 LL (.lst (ts.map V.ref ++ [.ref t1, .ref t2])) = G7 at s_LL e_LL
      have e1 := s_LL _ _ e1
      have e2 := s_LL _ _ e2
      have eL := s_LL _ _ eL
      have e_l1 := s_LL _ _ e_l1
      have e_c1 := s_LL _ _ e_c1
      have e_t1 := s_LL _ _ e_t1
      have e_l2 := s_LL _ _ e_l2
      have e_t2 := s_LL _ _ e_t2
      have e_LB := s_LL _ _ e_LB
      have bad := fun t ht => Bad.ex s_LL (bad t ht)
      have z := z.trans s_LL
      have b_t1 : Bad K G7 t1 := ⟨"again", .ref c1, .ref p2, .int m, _, _, _, e_t1, arg_l e_c1 (by rw [List.length_append]; show fs.length + 1 ≤ 20000; omega) (simp_app hfs (simp_cons rfl (simp_nil))), arg_l e2 (by rw [List.length_map]; omega) hag, hasT_int _, dr.ahead⟩
      have b_t2 : Bad K G7 t2 := ⟨"again", .ref p1, .ref l2, .int m, _, _, _, e_t2, arg_l e1 (by omega) hfs, arg_l e_l2 (by decide) simp_nil, hasT_int _, dr.less⟩
      refine ⟨LL, ts ++ [t1, t2], rfl, z, by rw [e_LL, List.map_append]; rfl, by rw [List.length_append]; show ts.length + 2 ≤ 7; omega, fun t ht => ?_⟩
      rcases List.mem_append.mp ht with ht | ht
      · exact bad t ht
      · simp only [List.mem_cons, List.not_mem_nil, or_false] at ht
        rcases ht with rfl | rfl
        · exact b_t1
        · exact b_t2
    rintro σ Hc ⟨L, ts, rfl, z, eL, tl, bad⟩
    have e1 := z _ _ e1_
    have e2 := z _ _ e2_
    refine ⟨fun σ Hc => ∃ (L : Addr) (ts : List Addr), σ = [some (.ref b), some (.ref p), some (.ref p1), some (.ref p2), some (.int m), some (.int low), some (.ref L), none, none, none, none] ∧ Same H0 Hc ∧ Hc L = some (.lst (ts.map V.ref)) ∧ ts.length ≤ 8 ∧ ∀ t ∈ ts, Bad K Hc t, ?_, ?_⟩
    · have dmy := True.intro
      refine ⟨_, rfl, _, rfl, _, rfl, by show 4 ≤ sizeLine; decide, fun t1 n_t1 => ?_⟩
      have s_t1 := same_new (o := .tup [.str "again", .ref p1, .non, .int m]) n_t1
      have e_t1 : (upd Hc t1 (.tup [.str "again", .ref p1, .non, .int m])) t1 = some (.tup [.str "again", .ref p1, .non, .int m]) := upd_same
      generalize upd Hc t1 (.tup [.str "again", .ref p1, .non, .int m]) = G1 at s_t1 e_t1
      have e1 := s_t1 _ _ e1
      have e2 := s_t1 _ _ e2
      have eL := s_t1 _ _ eL
      have bad := fun t ht => Bad.ex s_t1 (bad t ht)
      have z := z.trans s_t1
      refine ⟨by show 1 ≤ sizeLine; decide, fun LB n_LB => ?_⟩
      have s_LB := same_new (o := .lst [.ref t1]) n_LB
      have e_LB : (upd G1 LB (.lst [.ref t1])) LB = some (.lst [.ref t1]) := upd_same
      generalize upd G1 LB (.lst [.ref t1]) = G2 at s_LB e_LB
      have e1 := s_LB _ _ e1
      have e2 := s_LB _ _ e2
      have eL := s_LB _ _ eL
      have e_t1 := s_LB _ _ e_t1
      have bad := fun t ht => Bad.ex s_LB (bad t ht)
      have z := z.trans s_LB
      refine ⟨L, LB, _, _, rfl, rfl, eL, e_LB, (by simp only [List.length_append, List.length_cons, List.length_nil, List.length_map]; exact Nat.le_trans (show _ ≤ 1000 by omega) (by decide)), fun LL n_LL => ?_⟩
      have s_LL := same_new (o := .lst (ts.map V.ref ++ [.ref t1])) n_LL
      have e_LL : (upd G2 LL (.lst (ts.map V.ref ++ [.ref t1]))) LL = some (.lst (ts.map V.ref ++ [.ref t1])) := upd_same
      generalize upd G2 LL (.lst (ts.map V.ref ++ [.ref t1])) = G3 at s_LL e_LL
      have e1 := s_LL _ _ e1
      have e2 := s_LL _ _ e2
      have eL := s_LL _ _ eL
      have e_t1 := s_LL _ _ e_t1
      have e_LB := s_LL _ _ e_LB
      have bad := fun t ht => Bad.ex s_LL (bad t ht)
      have z := z.trans s_LL
      have b_t1 : Bad K G3 t1 := ⟨"again", .ref p1, .non, .int m, _, _, _, e_t1, arg_l e1 (by omega) hfs, arg_s rfl, hasT_int _, dr.gone⟩
      refine ⟨LL, ts ++ [t1], rfl, z, by rw [e_LL, List.map_append]; rfl, by rw [List.length_append]; show ts.length + 1 ≤ 8; omega, fun t ht => ?_⟩
      rcases List.mem_append.mp ht with ht | ht
      · exact bad t ht
      · simp only [List.mem_cons, List.not_mem_nil, or_false] at ht
        rw [ht]
        exact b_t1
    rintro σ Hc ⟨L, ts, rfl, z, eL, tl, bad⟩
    have e1 := z _ _ e1_
    have e2 := z _ _ e2_
    refine ⟨fun σ Hc => ∃ (L : Addr) (ts : List Addr), σ = [some (.ref b), some (.ref p), some (.ref p1), some (.ref p2), some (.int m), some (.int low), some (.ref L), none, none, none, none] ∧ Same H0 Hc ∧ Hc L = some (.lst (ts.map V.ref)) ∧ ts.length ≤ 10 ∧ ∀ t ∈ ts, Bad K Hc t, ?_, ?_⟩
    · have dmy := True.intro
      refine ⟨_, rfl, _, rfl, _, rfl, _, rfl, by show 1 ≤ sizeLine; decide, fun l1 n_l1 => ?_⟩
      have s_l1 := same_new (o := .lst [.int low]) n_l1
      have e_l1 : (upd Hc l1 (.lst [.int low])) l1 = some (.lst [.int low]) := upd_same
      generalize upd Hc l1 (.lst [.int low]) = G1 at s_l1 e_l1
      have e1 := s_l1 _ _ e1
      have e2 := s_l1 _ _ e2
      have eL := s_l1 _ _ eL
      have bad := fun t ht => Bad.ex s_l1 (bad t ht)
      have z := z.trans s_l1
      refine ⟨p2, l1, _, _, rfl, rfl, e2, e_l1, (by simp only [List.length_append, List.length_cons, List.length_nil, List.length_map]; exact Nat.le_trans (show _ ≤ 1000 by omega) (by decide)), fun c1 n_c1 => ?_⟩
      have s_c1 := same_new (o := .lst (ag.map V.int ++ [.int low])) n_c1
      have e_c1 : (upd G1 c1 (.lst (ag.map V.int ++ [.int low]))) c1 = some (.lst (ag.map V.int ++ [.int low])) := upd_same
      generalize upd G1 c1 (.lst (ag.map V.int ++ [.int low])) = G2 at s_c1 e_c1
      have e1 := s_c1 _ _ e1
      have e2 := s_c1 _ _ e2
      have eL := s_c1 _ _ eL
      have e_l1 := s_c1 _ _ e_l1
      have bad := fun t ht => Bad.ex s_c1 (bad t ht)
      have z := z.trans s_c1
      refine ⟨_, rfl, by show 4 ≤ sizeLine; decide, fun t1 n_t1 => ?_⟩
      have s_t1 := same_new (o := .tup [.str "again", .ref p1, .ref c1, .int m]) n_t1
      have e_t1 : (upd G2 t1 (.tup [.str "again", .ref p1, .ref c1, .int m])) t1 = some (.tup [.str "again", .ref p1, .ref c1, .int m]) := upd_same
      generalize upd G2 t1 (.tup [.str "again", .ref p1, .ref c1, .int m]) = G3 at s_t1 e_t1
      have e1 := s_t1 _ _ e1
      have e2 := s_t1 _ _ e2
      have eL := s_t1 _ _ eL
      have e_l1 := s_t1 _ _ e_l1
      have e_c1 := s_t1 _ _ e_c1
      have bad := fun t ht => Bad.ex s_t1 (bad t ht)
      have z := z.trans s_t1
      refine ⟨_, rfl, _, rfl, by show 1 ≤ sizeLine; decide, fun l2 n_l2 => ?_⟩
      have s_l2 := same_new (o := .lst [.non]) n_l2
      have e_l2 : (upd G3 l2 (.lst [.non])) l2 = some (.lst [.non]) := upd_same
      generalize upd G3 l2 (.lst [.non]) = G4 at s_l2 e_l2
      have e1 := s_l2 _ _ e1
      have e2 := s_l2 _ _ e2
      have eL := s_l2 _ _ eL
      have e_l1 := s_l2 _ _ e_l1
      have e_c1 := s_l2 _ _ e_c1
      have e_t1 := s_l2 _ _ e_t1
      have bad := fun t ht => Bad.ex s_l2 (bad t ht)
      have z := z.trans s_l2
      refine ⟨p2, l2, _, _, rfl, rfl, e2, e_l2, (by simp only [List.length_append, List.length_cons, List.length_nil, List.length_map]; exact Nat.le_trans (show _ ≤ 1000 by omega) (by decide)), fun c2 n_c2 => ?_⟩
      have s_c2 := same_new (o := .lst (ag.map V.int ++ [.non])) n_c2
      have e_c2 : (upd G4 c2 (.lst (ag.map V.int ++ [.non]))) c2 = some (.lst (ag.map V.int ++ [.non])) := upd_same
      generalize upd G4 c2 (.lst (ag.map V.int ++ [.non])) = G5 at s_c2 e_c2
      have e1 := s_c2 _ _ e1
      have e2 := s_c2 _ _ e2
      have eL := s_c2 _ _ eL
      have e_l1 := s_c2 _ _ e_l1
      have e_c1 := s_c2 _ _ e_c1
      have e_t1 := s_c2 _ _ e_t1
      have e_l2 := s_c2 _ _ e_l2
      have bad := fun t ht => Bad.ex s_c2 (bad t ht)
      have z := z.trans s_c2
      refine ⟨_, rfl, by show 4 ≤ sizeLine; decide, fun t2 n_t2 => ?_⟩
      have s_t2 := same_new (o := .tup [.str "again", .ref p1, .ref c2, .int m]) n_t2
      have e_t2 : (upd G5 t2 (.tup [.str "again", .ref p1, .ref c2, .int m])) t2 = some (.tup [.str "again", .ref p1, .ref c2, .int m]) := upd_same
      generalize upd G5 t2 (.tup [.str "again", .ref p1, .ref c2, .int m]) = G6 at s_t2 e_t2
      have e1 := s_t2 _ _ e1
      have e2 := s_t2 _ _ e2
      have eL := s_t2 _ _ eL
      have e_l1 := s_t2 _ _ e_l1
      have e_c1 := s_t2 _ _ e_c1
      have e_t1 := s_t2 _ _ e_t1
      have e_l2 := s_t2 _ _ e_l2
      have e_c2 := s_t2 _ _ e_c2
      have bad := fun t ht => Bad.ex s_t2 (bad t ht)
      have z := z.trans s_t2
      refine ⟨by show 2 ≤ sizeLine; decide, fun LB n_LB => ?_⟩
      have s_LB := same_new (o := .lst [.ref t1, .ref t2]) n_LB
      have e_LB : (upd G6 LB (.lst [.ref t1, .ref t2])) LB = some (.lst [.ref t1, .ref t2]) := upd_same
      generalize upd G6 LB (.lst [.ref t1, .ref t2]) = G7 at s_LB e_LB
      have e1 := s_LB _ _ e1
      have e2 := s_LB _ _ e2
      have eL := s_LB _ _ eL
      have e_l1 := s_LB _ _ e_l1
      have e_c1 := s_LB _ _ e_c1
      have e_t1 := s_LB _ _ e_t1
      have e_l2 := s_LB _ _ e_l2
      have e_c2 := s_LB _ _ e_c2
      have e_t2 := s_LB _ _ e_t2
      have bad := fun t ht => Bad.ex s_LB (bad t ht)
      have z := z.trans s_LB
      refine ⟨L, LB, _, _, rfl, rfl, eL, e_LB, (by simp only [List.length_append, List.length_cons, List.length_nil, List.length_map]; exact Nat.le_trans (show _ ≤ 1000 by omega) (by decide)), fun LL n_LL => ?_⟩
      have s_LL := same_new (o := .lst (ts.map V.ref ++ [.ref t1, .ref t2])) n_LL
      have e_LL : (upd G7 LL (.lst (ts.map V.ref ++ [.ref t1, .ref t2]))) LL = some (.lst (ts.map V.ref ++ [.ref t1, .ref t2])) := upd_same
      generalize upd G7 LL (.lst (ts.map V.ref ++ [.ref t1, .ref t2])) = G8 at s_LL e_LL
      have e1 := s_LL _ _ e1
      have e2 := s_LL _ _ e2
      have eL := s_LL _ _ eL
      have e_l1 := s_LL _ _ e_l1
      have e_c1 := s_LL _ _ e_c1
      have e_t1 := s_LL _ _ e_t1
      have e_l2 := s_LL _ _ e_l2
      have e_c2 := s_LL _ _ e_c2
      have e_t2 := s_LL _ _ e_t2
      have e_LB := s_LL _ _ e_LB
      have bad := fun t ht => Bad.ex s_LL (bad t ht)
      have z := z.trans s_LL
      have b_t1 : Bad K G8 t1 := ⟨"again", .ref p1, .ref c1, .int m, _, _, _, e_t1, arg_l e1 (by omega) hfs, arg_l e_c1 (by rw [List.length_append, List.length_map]; show ag.length + 1 ≤ 20000; omega) (simp_app hag (simp_cons rfl (simp_nil))), hasT_int _, dr.behind (decide_eq_true (show low < lastI ag by omega))⟩
      have b_t2 : Bad K G8 t2 := ⟨"again", .ref p1, .ref c2, .int m, _, _, _, e_t2, arg_l e1 (by omega) hfs, arg_l e_c2 (by rw [List.length_append, List.length_map]; show ag.length + 1 ≤ 20000; omega) (simp_app hag (simp_cons rfl (simp_nil))), hasT_int _, dr.behind rfl⟩
      refine ⟨LL, ts ++ [t1, t2], rfl, z, by rw [e_LL, List.map_append]; rfl, by rw [List.length_append]; show ts.length + 2 ≤ 10; omega, fun t ht => ?_⟩
      rcases List.mem_append.mp ht with ht | ht
      · exact bad t ht
      · simp only [List.mem_cons, List.not_mem_nil, or_false] at ht
        rcases ht with rfl | rfl
        · exact b_t1
        · exact b_t2
    rintro σ Hc ⟨L, ts, rfl, z, eL, tl, bad⟩
    have e1 := z _ _ e1_
    have e2 := z _ _ e2_
    refine ⟨fun σ Hc => ∃ (L : Addr) (ts : List Addr), σ = [some (.ref b), some (.ref p), some (.ref p1), some (.ref p2), some (.int m), some (.int low), some (.ref L), none, none, none, none] ∧ Same H0 Hc ∧ Hc L = some (.lst (ts.map V.ref)) ∧ ts.length ≤ 13 ∧ ∀ t ∈ ts, Bad K Hc t, ?_, ?_⟩
    · have dmy := True.intro
      refine ⟨_, rfl, by show 1 ≤ sizeLine; decide, fun l1 n_l1 => ?_⟩
      have s_l1 := same_new (o := .lst [.int 0]) n_l1
      have e_l1 : (upd Hc l1 (.lst [.int 0])) l1 = some (.lst [.int 0]) := upd_same
      generalize upd Hc l1 (.lst [.int 0]) = G1 at s_l1 e_l1
      have e1 := s_l1 _ _ e1
      have e2 := s_l1 _ _ e2
      have eL := s_l1 _ _ eL
      have bad := fun t ht => Bad.ex s_l1 (bad t ht)
      have z := z.trans s_l1
      refine ⟨by show 1 ≤ sizeLine; decide, fun c1 n_c1 => ?_⟩
      have s_c1 := same_new (o := .lst [.non]) n_c1
      have e_c1 : (upd G1 c1 (.lst [.non])) c1 = some (.lst [.non]) := upd_same
      generalize upd G1 c1 (.lst [.non]) = G2 at s_c1 e_c1
      have e1 := s_c1 _ _ e1
      have e2 := s_c1 _ _ e2
      have eL := s_c1 _ _ eL
      have e_l1 := s_c1 _ _ e_l1
      have bad := fun t ht => Bad.ex s_c1 (bad t ht)
      have z := z.trans s_c1
      refine ⟨by show 4 ≤ sizeLine; decide, fun t1 n_t1 => ?_⟩
      have s_t1 := same_new (o := .tup [.str "again", .ref l1, .ref c1, .int 0]) n_t1
      have e_t1 : (upd G2 t1 (.tup [.str "again", .ref l1, .ref c1, .int 0])) t1 = some (.tup [.str "again", .ref l1, .ref c1, .int 0]) := upd_same
      generalize upd G2 t1 (.tup [.str "again", .ref l1, .ref c1, .int 0]) = G3 at s_t1 e_t1
      have e1 := s_t1 _ _ e1
      have e2 := s_t1 _ _ e2
      have eL := s_t1 _ _ eL
      have e_l1 := s_t1 _ _ e_l1
      have e_c1 := s_t1 _ _ e_c1
      have bad := fun t ht => Bad.ex s_t1 (bad t ht)
      have z := z.trans s_t1
      refine ⟨by show 0 ≤ sizeLine; decide, fun l2 n_l2 => ?_⟩
      have s_l2 := same_new (o := .lst []) n_l2
      have e_l2 : (upd G3 l2 (.lst [])) l2 = some (.lst []) := upd_same
      generalize upd G3 l2 (.lst []) = G4 at s_l2 e_l2
      have e1 := s_l2 _ _ e1
      have e2 := s_l2 _ _ e2
      have eL := s_l2 _ _ eL
      have e_l1 := s_l2 _ _ e_l1
      have e_c1 := s_l2 _ _ e_c1
      have e_t1 := s_l2 _ _ e_t1
      have bad := fun t ht => Bad.ex s_l2 (bad t ht)
      have z := z.trans s_l2
      refine ⟨by show 2 ≤ sizeLine; decide, fun c2 n_c2 => ?_⟩
      have s_c2 := same_new (o := .lst [.non, .int 0]) n_c2
      have e_c2 : (upd G4 c2 (.lst [.non, .int 0])) c2 = some (.lst [.non, .int 0]) := upd_same
      generalize upd G4 c2 (.lst [.non, .int 0]) = G5 at s_c2 e_c2
      have e1 := s_c2 _ _ e1
      have e2 := s_c2 _ _ e2
      have eL := s_c2 _ _ eL
      have e_l1 := s_c2 _ _ e_l1
      have e_c1 := s_c2 _ _ e_c1
      have e_t1 := s_c2 _ _ e_t1
      have e_l2 := s_c2 _ _ e_l2
      have bad := fun t ht => Bad.ex s_c2 (bad t ht)
      have z := z.trans s_c2
      refine ⟨by show 4 ≤ sizeLine; decide, fun t2 n_t2 => ?_⟩
      have s_t2 := same_new (o := .tup [.str "again", .ref l2, .ref c2, .int 0]) n_t2
      have e_t2 : (upd G5 t2 (.tup [.str "again", .ref l2, .ref c2, .int 0])) t2 = some (.tup [.str "again", .ref l2, .ref c2, .int 0]) := upd_same
      generalize upd G5 t2 (.tup [.str "again", .ref l2, .ref c2, .int 0]) = G6 at s_t2 e_t2
      have e1 := s_t2 _ _ e1
      have e2 := s_t2 _ _ e2
      have eL := s_t2 _ _ eL
      have e_l1 := s_t2 _ _ e_l1
      have e_c1 := s_t2 _ _ e_c1
      have e_t1 := s_t2 _ _ e_t1
      have e_l2 := s_t2 _ _ e_l2
      have e_c2 := s_t2 _ _ e_c2
      have bad := fun t ht => Bad.ex s_t2 (bad t ht)
      have z := z.trans s_t2
      refine ⟨by show 0 ≤ sizeLine; decide, fun l3 n_l3 => ?_⟩
      have s_l3 := same_new (o := .lst []) n_l3
      have e_l3 : (upd G6 l3 (.lst [])) l3 = some (.lst []) := upd_same
      generalize upd G6 l3 (.lst []) = G7 at s_l3 e_l3
      have e1 := s_l3 _ _ e1
      have e2 := s_l3 _ _ e2
      have eL := s_l3 _ _ eL
      have e_l1 := s_l3 _ _ e_l1
      have e_c1 := s_l3 _ _ e_c1
      have e_t1 := s_l3 _ _ e_t1
      have e_l2 := s_l3 _ _ e_l2
      have e_c2 := s_l3 _ _ e_c2
      have e_t2 := s_l3 _ _ e_t2
      have bad := fun t ht => Bad.ex s_l3 (bad t ht)
      have z := z.trans s_l3
      refine ⟨by show 2 ≤ sizeLine; decide, fun c3 n_c3 => ?_⟩
      have s_c3 := same_new (o := .lst [.bl false, .int 2]) n_c3
      have e_c3 : (upd G7 c3 (.lst [.bl false, .int 2])) c3 = some (.lst [.bl false, .int 2]) := upd_same
      generalize upd G7 c3 (.lst [.bl false, .int 2]) = G8 at s_c3 e_c3
      have e1 := s_c3 _ _ e1
      have e2 := s_c3 _ _ e2
      have eL := s_c3 _ _ eL
      have e_l1 := s_c3 _ _ e_l1
      have e_c1 := s_c3 _ _ e_c1
      have e_t1 := s_c3 _ _ e_t1
      have e_l2 := s_c3 _ _ e_l2
      have e_c2 := s_c3 _ _ e_c2
      have e_t2 := s_c3 _ _ e_t2
      have e_l3 := s_c3 _ _ e_l3
      have bad := fun t ht => Bad.ex s_c3 (bad t ht)
      have z := z.trans s_c3
      refine ⟨by show 4 ≤ sizeLine; decide, fun t3 n_t3 => ?_⟩
      have s_t3 := same_new (o := .tup [.str "again", .ref l3, .ref c3, .int 3]) n_t3
      have e_t3 : (upd G8 t3 (.tup [.str "again", .ref l3, .ref c3, .int 3])) t3 = some (.tup [.str "again", .ref l3, .ref c3, .int 3]) := upd_same
      generalize upd G8 t3 (.tup [.str "again", .ref l3, .ref c3, .int 3]) = G9 at s_t3 e_t3
      have e1 := s_t3 _ _ e1
      have e2 := s_t3 _ _ e2
      have eL := s_t3 _ _ eL
      have e_l1 := s_t3 _ _ e_l1
      have e_c1 := s_t3 _ _ e_c1
      have e_t1 := s_t3 _ _ e_t1
      have e_l2 := s_t3 _ _ e_l2
      have e_c2 := s_t3 _ _ e_c2
      have e_t2 := s_t3 _ _ e_t2
      have e_l3 := s_t3 _ _ e_l3
      have e_c3 := s_t3 _ _ e_c3
      have bad := fun t ht => Bad.ex s_t3 (bad t ht)
      have z := z.trans s_t3
      refine ⟨by show 3 ≤ sizeLine; decide, fun LB n_LB => ?_⟩
      have s_LB := same_new (o := .lst [.ref t1, .ref t2, .ref t3]) n_LB
      have e_LB : (upd G9 LB (.lst [.ref t1, .ref t2, .ref t3])) LB = some (.lst [.ref t1, .ref t2, .ref t3]) := upd_same
      generalize upd G9 LB (.lst [.ref t1, .ref t2, .ref t3]) = G10 at s_LB e_LB
      have e1 := s_LB _ _ e1
      have e2 := s_LB _ _ e2
      have eL := s_LB _ _ eL
      have e_l1 := s_LB _ _ e_l1
      have e_c1 := s_LB _ _ e_c1
      have e_t1 := s_LB _ _ e_t1
      have e_l2 := s_LB _ _ e_l2
      have e_c2 := s_LB _ _ e_c2
      have e_t2 := s_LB _ _ e_t2
      have e_l3 := s_LB _ _ e_l3
      have e_c3 := s_LB _ _ e_c3
      have e_t3 := s_LB _ _ e_t3
      have bad := fun t ht => Bad.ex s_LB (bad t ht)
      have z := z.trans s_LB
      refine ⟨L, LB, _, _, rfl, rfl, eL, e_LB, (by simp only [List.length_append, List.length_cons, List.length_nil, List.length_map]; exact Nat.le_trans (show _ ≤ 1000 by omega) (by decide)), fun LL n_LL => ?_⟩
      have s_LL := same_new (o := .lst (ts.map V.ref ++ [.ref t1, .ref t2, .ref t3])) n_LL
      have e_LL : (upd G10 LL (.lst (ts.map V.ref ++ [.ref t1, .ref t2, .ref t3]))) LL = some (.lst (ts.map V.ref ++ [.ref t1, .ref t2, .ref t3])) := upd_same
      generalize upd G10 LL (.lst (ts.map V.ref ++ [.ref t1, .ref t2, .ref t3])) = G11 at s_LL e_LL
      have e1 := s_LL _ _ e1
      have e2 := s_LL _ _ e2
      have eL := s_LL _ _ eL
      have e_l1 := s_LL _ _ e_l1
      have e_c1 := s_LL _ _ e_c1
      have e_t1 := s_LL _ _ e_t1
      have e_l2 := s_LL _ _ e_l2
      have e_c2 := s_LL _ _ e_c2
      have e_t2 := s_LL _ _ e_t2
      have e_l3 := s_LL _ _ e_l3
      have e_c3 := s_LL _ _ e_c3
      have e_t3 := s_LL _ _ e_t3
      have e_LB := s_LL _ _ e_LB
      have bad := fun t ht => Bad.ex s_LL (bad t ht)
      have z := z.trans s_LL
      have b_t1 : Bad K G11 t1 := ⟨"again", .ref l1, .ref c1, .int 0, _, _, _, e_t1, arg_l e_l1 (by decide) (simp_cons rfl (simp_nil)), arg_l e_c1 (by decide) (simp_cons rfl (simp_nil)), hasT_int _, by decide +kernel⟩
      have b_t2 : Bad K G11 t2 := ⟨"again", .ref l2, .ref c2, .int 0, _, _, _, e_t2, arg_l e_l2 (by decide) (simp_nil), arg_l e_c2 (by decide) (simp_cons rfl (simp_cons rfl (simp_nil))), hasT_int _, by decide +kernel⟩
      have b_t3 : Bad K G11 t3 := ⟨"again", .ref l3, .ref c3, .int 3, _, _, _, e_t3, arg_l e_l3 (by decide) (simp_nil), arg_l e_c3 (by decide) (simp_cons rfl (simp_cons rfl (simp_nil))), hasT_int _, by decide +kernel⟩
      refine ⟨LL, ts ++ [t1, t2, t3], rfl, z, by rw [e_LL, List.map_append]; rfl, by rw [List.length_append]; show ts.length + 3 ≤ 13; omega, fun t ht => ?_⟩
      rcases List.mem_append.mp ht with ht | ht
      · exact bad t ht
      · simp only [List.mem_cons, List.not_mem_nil, or_false] at ht
        rcases ht with rfl | rfl | rfl
        · exact b_t1
        · exact b_t2
        · exact b_t3
    rintro σ Hc ⟨L, ts, rfl, z, eL, tl, bad⟩
    have e1 := z _ _ e1_
    have e2 := z _ _ e2_
    refine ⟨fun σ Hc => ∃ (L : Addr) (ts : List Addr), σ = [some (.ref b), some (.ref p), some (.ref p1), some (.ref p2), some (.int m), some (.int low), some (.ref L), none, none, none, none] ∧ Same H0 Hc ∧ Hc L = some (.lst (ts.map V.ref)) ∧ ts.length ≤ 15 ∧ ∀ t ∈ ts, Bad K Hc t, ?_, ?_⟩
    · have dmy := True.intro
      refine ⟨_, rfl, _, rfl, _, rfl, _, rfl, 1, rfl, p2, _, _, _, rfl, rfl, .l e2, atL, _, rfl, p2, _, _, _, rfl, rfl, .l e2, at0, _, _, rfl, rfl, _, _, rfl, rfl, by show 4 ≤ sizeLine; decide, fun t1 n_t1 => ?_⟩
      have s_t1 := same_new (o := .tup [.str "more", .ref p1, .ref p2, .int (lastI ag - ag.getD 0 0 - 1)]) n_t1
      have e_t1 : (upd Hc t1 (.tup [.str "more", .ref p1, .ref p2, .int (lastI ag - ag.getD 0 0 - 1)])) t1 = some (.tup [.str "more", .ref p1, .ref p2, .int (lastI ag - ag.getD 0 0 - 1)]) := upd_same
      generalize upd Hc t1 (.tup [.str "more", .ref p1, .ref p2, .int (lastI ag - ag.getD 0 0 - 1)]) = G1 at s_t1 e_t1
      have e1 := s_t1 _ _ e1
      have e2 := s_t1 _ _ e2
      have eL := s_t1 _ _ eL
      have bad := fun t ht => Bad.ex s_t1 (bad t ht)
      have z := z.trans s_t1
      refine ⟨_, rfl, _, rfl, by show 4 ≤ sizeLine; decide, fun t2 n_t2 => ?_⟩
      have s_t2 := same_new (o := .tup [.str "more", .ref p1, .ref p2, .non]) n_t2
      have e_t2 : (upd G1 t2 (.tup [.str "more", .ref p1, .ref p2, .non])) t2 = some (.tup [.str "more", .ref p1, .ref p2, .non]) := upd_same
      generalize upd G1 t2 (.tup [.str "more", .ref p1, .ref p2, .non]) = G2 at s_t2 e_t2
      have e1 := s_t2 _ _ e1
      have e2 := s_t2 _ _ e2
      have eL := s_t2 _ _ eL
      have e_t1 := s_t2 _ _ e_t1
      have bad := fun t ht => Bad.ex s_t2 (bad t ht)
      have z := z.trans s_t2
      refine ⟨by show 2 ≤ sizeLine; decide, fun LB n_LB => ?_⟩
      have s_LB := same_new (o := .lst [.ref t1, .ref t2]) n_LB
      have e_LB : (upd G2 LB (.lst [.ref t1, .ref t2])) LB = some (.lst [.ref t1, .ref t2]) := upd_same
      generalize upd G2 LB (.lst [.ref t1, .ref t2]) = G3 at s_LB e_LB
      have e1 := s_LB _ _ e1
      have e2 := s_LB _ _ e2
      have eL := s_LB _ _ eL
      have e_t1 := s_LB _ _ e_t1
      have e_t2 := s_LB _ _ e_t2
      have bad := fun t ht => Bad.ex s_LB (bad t ht)
      have z := z.trans s_LB
      refine ⟨L, LB, _, _, rfl, rfl, eL, e_LB, (by simp only [List.length_append, List.length_cons, List.length_nil, List.length_map]; exact Nat.le_trans (show _ ≤ 1000 by omega) (by decide)), fun LL n_LL => ?_⟩
      have s_LL := same_new (o := .lst (ts.map V.ref ++ [.ref t1, .ref t2])) n_LL
      have e_LL : (upd G3 LL (.lst (ts.map V.ref ++ [.ref t1, .ref t2]))) LL = some (.lst (ts.map V.ref ++ [.ref t1, .ref t2])) := upd_same
      generalize upd G3 LL (.lst (ts.map V.ref ++ [.ref t1, .ref t2])) = G4 at s_LL e_LL
      have e1 := s_LL _ _ e1
      have e2 := s_LL _ _ e2
      have eL := s_LL _ _ eL
      have e_t1 := s_LL _ _ e_t1
      have e_t2 := s_LL _ _ e_t2
      have e_LB := s_LL _ _ e_LB
      have bad := fun t ht => Bad.ex s_LL (bad t ht)
      have z := z.trans s_LL
      have b_t1 : Bad K G4 t1 := ⟨"more", .ref p1, .ref p2, .int (lastI ag - ag.getD 0 0 - 1), _, _, _, e_t1, arg_l e1 (by omega) hfs, arg_l e2 (by rw [List.length_map]; omega) hag, hasT_int _, dr.more (.inr ⟨_, rfl, by omega⟩)⟩
      have b_t2 : Bad K G4 t2 := ⟨"more", .ref p1, .ref p2, .non, _, _, _, e_t2, arg_l e1 (by omega) hfs, arg_l e2 (by rw [List.length_map]; omega) hag, hasT_non, dr.more (.inl rfl)⟩
      refine ⟨LL, ts ++ [t1, t2], rfl, z, by rw [e_LL, List.map_append]; rfl, by rw [List.length_append]; show ts.length + 2 ≤ 15; omega, fun t ht => ?_⟩
      rcases List.mem_append.mp ht with ht | ht
      · exact bad t ht
      · simp only [List.mem_cons, List.not_mem_nil, or_false] at ht
        rcases ht with rfl | rfl
        · exact b_t1
        · exact b_t2
    rintro σ Hc ⟨L, ts, rfl, z, eL, tl, bad⟩
    have e1 := z _ _ e1_
    have e2 := z _ _ e2_
    refine ⟨fun σ Hc => ∃ (L : Addr) (ts : List Addr), σ = [some (.ref b), some (.ref p), some (.ref p1), some (.ref p2), some (.int m), some (.int low), some (.ref L), none, none, none, none] ∧ Same H0 Hc ∧ Hc L = some (.lst (ts.map V.ref)) ∧ ts.length ≤ 18 ∧ ∀ t ∈ ts, Bad K Hc t, ?_, ?_⟩
    · have dmy := True.intro
      refine ⟨_, rfl, _, rfl, _, rfl, by show 4 ≤ sizeLine; decide, fun t1 n_t1 => ?_⟩
      have s_t1 := same_new (o := .tup [.str "more", .ref p1, .ref p2, .bl true]) n_t1
      have e_t1 : (upd Hc t1 (.tup [.str "more", .ref p1, .ref p2, .bl true])) t1 = some (.tup [.str "more", .ref p1, .ref p2, .bl true]) := upd_same
      generalize upd Hc t1 (.tup [.str "more", .ref p1, .ref p2, .bl true]) = G1 at s_t1 e_t1
      have e1 := s_t1 _ _ e1
      have e2 := s_t1 _ _ e2
      have eL := s_t1 _ _ eL
      have bad := fun t ht => Bad.ex s_t1 (bad t ht)
      have z := z.trans s_t1
      refine ⟨_, rfl, _, rfl, by show 4 ≤ sizeLine; decide, fun t2 n_t2 => ?_⟩
      have s_t2 := same_new (o := .tup [.str "more", .ref p1, .ref p2, .str "2"]) n_t2
      have e_t2 : (upd G1 t2 (.tup [.str "more", .ref p1, .ref p2, .str "2"])) t2 = some (.tup [.str "more", .ref p1, .ref p2, .str "2"]) := upd_same
      generalize upd G1 t2 (.tup [.str "more", .ref p1, .ref p2, .str "2"]) = G2 at s_t2 e_t2
      have e1 := s_t2 _ _ e1
      have e2 := s_t2 _ _ e2
      have eL := s_t2 _ _ eL
      have e_t1 := s_t2 _ _ e_t1
      have bad := fun t ht => Bad.ex s_t2 (bad t ht)
      have z := z.trans s_t2
      refine ⟨by show 0 ≤ sizeLine; decide, fun l3 n_l3 => ?_⟩
      have s_l3 := same_new (o := .lst []) n_l3
      have e_l3 : (upd G2 l3 (.lst [])) l3 = some (.lst []) := upd_same
      generalize upd G2 l3 (.lst []) = G3 at s_l3 e_l3
      have e1 := s_l3 _ _ e1
      have e2 := s_l3 _ _ e2
      have eL := s_l3 _ _ eL
      have e_t1 := s_l3 _ _ e_t1
      have e_t2 := s_l3 _ _ e_t2
      have bad := fun t ht => Bad.ex s_l3 (bad t ht)
      have z := z.trans s_l3
      refine ⟨by show 1 ≤ sizeLine; decide, fun c3 n_c3 => ?_⟩
      have s_c3 := same_new (o := .lst [.non]) n_c3
      have e_c3 : (upd G3 c3 (.lst [.non])) c3 = some (.lst [.non]) := upd_same
      generalize upd G3 c3 (.lst [.non]) = G4 at s_c3 e_c3
      have e1 := s_c3 _ _ e1
      have e2 := s_c3 _ _ e2
      have eL := s_c3 _ _ eL
      have e_t1 := s_c3 _ _ e_t1
      have e_t2 := s_c3 _ _ e_t2
      have e_l3 := s_c3 _ _ e_l3
      have bad := fun t ht => Bad.ex s_c3 (bad t ht)
      have z := z.trans s_c3
      refine ⟨by show 4 ≤ sizeLine; decide, fun t3 n_t3 => ?_⟩
      have s_t3 := same_new (o := .tup [.str "more", .ref l3, .ref c3, .int 1]) n_t3
      have e_t3 : (upd G4 t3 (.tup [.str "more", .ref l3, .ref c3, .int 1])) t3 = some (.tup [.str "more", .ref l3, .ref c3, .int 1]) := upd_same
      generalize upd G4 t3 (.tup [.str "more", .ref l3, .ref c3, .int 1]) = G5 at s_t3 e_t3
      have e1 := s_t3 _ _ e1
      have e2 := s_t3 _ _ e2
      have eL := s_t3 _ _ eL
      have e_t1 := s_t3 _ _ e_t1
      have e_t2 := s_t3 _ _ e_t2
      have e_l3 := s_t3 _ _ e_l3
      have e_c3 := s_t3 _ _ e_c3
      have bad := fun t ht => Bad.ex s_t3 (bad t ht)
      have z := z.trans s_t3
      refine ⟨by show 3 ≤ sizeLine; decide, fun LB n_LB => ?_⟩
      have s_LB := same_new (o := .lst [.ref t1, .ref t2, .ref t3]) n_LB
      have e_LB : (upd G5 LB (.lst [.ref t1, .ref t2, .ref t3])) LB = some (.lst [.ref t1, .ref t2, .ref t3]) := upd_same
      generalize upd G5 LB (.lst [.ref t1, .ref t2, .ref t3]) = G6 at s_LB e_LB
      have e1 := s_LB _ _ e1
      have e2 := s_LB _ _ e2
      have eL := s_LB _ _ eL
      have e_t1 := s_LB _ _ e_t1
      have e_t2 := s_LB _ _ e_t2
      have e_l3 := s_LB _ _ e_l3
      have e_c3 := s_LB _ _ e_c3
      have e_t3 := s_LB _ _ e_t3
      have bad := fun t ht => Bad.ex s_LB (bad t ht)
      have z := z.trans s_LB
      refine ⟨L, LB, _, _, rfl, rfl, eL, e_LB, (by simp only [List.length_append, List.length_cons, List.length_nil, List.length_map]; exact Nat.le_trans (show _ ≤ 1000 by omega) (by decide)), fun LL n_LL => ?_⟩
      have s_LL := same_new (o := .lst (ts.map V.ref ++ [.ref t1, .ref t2, .ref t3])) n_LL
      have e_LL : (upd G6 LL (.lst (ts.map V.ref ++ [.ref t1, .ref t2, .ref t3]))) LL = some (.lst (ts.map V.ref ++ [.ref t1, .ref t2, .ref t3])) := upd_same
      generalize upd G6 LL (.lst (ts.map V.ref ++ [.ref t1, .ref t2, .ref t3])) = G7 at s_LL e_LL
      have e1 := s_LL _ _ e1
      have e2 := s_LL _ _ e2
      have eL := s_LL _ _ eL
      have e_t1 := s_LL _ _ e_t1
      have e_t2 := s_LL _ _ e_t2
      have e_l3 := s_LL _ _ e_l3
      have e_c3 := s_LL _ _ e_c3
      have e_t3 := s_LL _ _ e_t3
      have e_LB := s_LL _ _ e_LB
      have bad := fun t ht => Bad.ex s_LL (bad t ht)
      have z := z.trans s_LL
      have b_t1 : Bad K G7 t1 := ⟨"more", .ref p1, .ref p2, .bl true, _, _, _, e_t1, arg_l e1 (by omega) hfs, arg_l e2 (by rw [List.length_map]; omega) hag, hasT_bl true, dr.more (.inl rfl)⟩
      have b_t2 : Bad K G7 t2 := ⟨"more", .ref p1, .ref p2, .str "2", _, _, _, e_t2, arg_l e1 (by omega) hfs, arg_l e2 (by rw [List.length_map]; omega) hag, hasT_str _, dr.more (.inl rfl)⟩
      have b_t3 : Bad K G7 t3 := ⟨"more", .ref l3, .ref c3, .int 1, _, _, _, e_t3, arg_l e_l3 (by decide) (simp_nil), arg_l e_c3 (by decide) (simp_cons rfl (simp_nil)), hasT_int _, by decide +kernel⟩
      refine ⟨LL, ts ++ [t1, t2, t3], rfl, z, by rw [e_LL, List.map_append]; rfl, by rw [List.length_append]; show ts.length + 3 ≤ 18; omega, fun t ht => ?_⟩
      rcases List.mem_append.mp ht with ht | ht
      · exact bad t ht
      · simp only [List.mem_cons, List.not_mem_nil, or_false] at ht
        rcases ht with rfl | rfl | rfl
        · exact b_t1
        · exact b_t2
        · exact b_t3
    rintro σ Hc ⟨L, ts, rfl, z, eL, tl, bad⟩
    refine q_seq ?_
    refine ⟨_, rfl, L, rfl, .inl ⟨⟨_, .inl (.inl eL)⟩, ?_⟩⟩
    refine for_list (K := K) (a := L) (xs := ts.map V.ref) (fun i σ H1 => ∃ v7 v8 v9 v10, σ = [some (.ref b), some (.ref p), some (.ref p1), some (.ref p2), some (.int m), some (.int low), some (.ref L), v7, v8, v9, v10] ∧ Same Hc H1) ⟨none, none, none, none, rfl, Same.refl Hc⟩ (fun i σ H1 _ h => ?_) ?_ ?_
    · obtain ⟨_, _, _, _, _, s1⟩ := h
      exact .inl (.inl (s1 _ _ eL))
    · rintro i y σ H1 hy ⟨v7, v8, v9, v10, rfl, s1⟩
      rw [List.getElem?_map] at hy
      obtain ⟨t, ht, rfl⟩ := Option.map_eq_some_iff.mp hy
      obtain ⟨zz, w1, w2, w3, o1, o2, sq, g0, g1, g2, g3, g4⟩ := (bad t (List.mem_of_getElem? ht)).ex s1
      refine ⟨t, _, rfl, .inl (.inl g0), rfl, _, _, rfl, _, _, rfl, _, _, rfl, _, _, rfl, rfl, ?_⟩
      refine ⟨_, rfl, _, rfl, _, rfl, w1, w2, w3, o1, o2, sq, rfl, g1, g2, g3, fun H2 s2 => ?_⟩
      rw [g4]
      refine ⟨_, rfl, rfl, _, rfl, ?_⟩
      rw [decide_eq_true rfl]
      exact ⟨_, _, _, _, rfl, s1.trans s2⟩
    · rintro σ H1 ⟨v7, v8, v9, v10, rfl, s1⟩
      exact q H1 (sb0.trans (.of (z.trans s1))) (hb0.ex (z.trans s1))
end
end WW

set_option Elab.async false
set_option linter.all false
set_option maxRecDepth 100000
set_option maxHeartbeats 4000000
namespace WW
open PySem PySem.Spec PyProof.Rows L2
theorem w_more {v : V} (h : isNumV v = false) : wrongW (some []) (some [.int 0]) v = .str "more" := by
  rw [wrong_good (by decide)]
  show wrongA [] [.int 0] v = .str "more"
  unfold wrongA
  rw [if_neg (by decide), if_neg (by decide), if_pos h]
theorem w_any {o : Option (List V)} : wrongW o none .non = .str "first" ∨ wrongW o none .non = .str "again" := by
  cases o with
  | none => exact .inl rfl
  | some xs =>
    unfold wrongW
    dsimp only
    split
    · exact .inr rfl
    · exact .inl rfl
theorem w_nones : ∀ i, i < 3 → ∀ j, j < 4 → 0 < j → wrongW (some (List.replicate i [V.non]).flatten) (some (List.replicate j [V.non]).flatten) (.int 0) = .non := by decide +kernel
theorem nones_simp (n : Nat) : (∀ y ∈ (List.replicate n [V.non]).flatten, simpV y = true) ∧ (List.replicate n [V.non]).flatten.length = n := by
  induction n with
  | zero => exact ⟨(fun y hy => absurd hy List.not_mem_nil), rfl⟩
  | succ n ih =>
    rw [List.replicate_succ, List.flatten_cons]
    refine ⟨fun y hy => ?_, by rw [List.length_append, ih.2]; show 1 + n = n + 1; omega⟩
    rcases List.mem_append.mp hy with h | h
    · rw [List.mem_singleton.mp h]
      rfl
    · exact ih.1 y h
section
variable {P : Program} {w : World} {K : PySem.W.Frag} {mg : Str → Option Value} {base : Heap} {f : Addr} {fd : FuncData}
theorem op_notInK {X : Cx} (K : PySem.W.Frag) (h : X.K = K := by rfl) : OpR X (compareOp .NotIn) (rIn K true) := by
  subst h
  exact op_notIn_seq
theorem rowTy {C : Addr} {H : Hp} {x : Addr} {fs ys : List V} {m : Int} (RR : RowC K C) (T : TyC K C) (h : RowAt C H x fs ys m) : TyX K H (.ref x) (.ref C) := by
  obtain ⟨dx, p1, p2, hx, _⟩ := h
  exact .base (.ins hx RR.cls T.cl T.ge T.tk T.ob)
theorem RowAt.sb' {C : Addr} {H H' : Hp} {x b : Addr} {fs ys : List V} {m : Int} (hb : Box H b) (e : SameBut b H H') (h : RowAt C H x fs ys m) : RowAt C H' x fs ys m := by
  obtain ⟨dx, p1, p2, h1, h2, h3⟩ := h
  obtain ⟨u, v, z, hb⟩ := hb
  have n : ∀ {a o}, H a = some o → (∀ xs, o ≠ .lst xs) → a ≠ b := fun ha hn z => by
    rw [z, hb] at ha
    exact hn _ (Option.some.inj ha).symm
  exact ⟨dx, p1, p2, e _ _ (n h1 fun _ z => nomatch z) h1, e _ _ (n h2 fun _ z => nomatch z) h2, e _ _ (n h3 fun _ z => nomatch z) h3⟩
def spLaw (K : PySem.W.Frag) : Sp := fun vs H Q _ => ∃ (a : Addr) (ns : List Int), vs = [.ref a] ∧ SqL K H a (ns.map V.int) ∧ ns.length ≤ 63 ∧ ∀ H', Q (.bl true) H'
abbrev s_law : Stmt := top 36
abbrev N_law : List Str := ["_law_script", "_law_box_here", "_law_turn", "_law_told", "_law_odd"]
theorem sc_law : FnScope N_law ["_law_script"] (defScope s_law) := ⟨rfl, rfl, rfl, by decide +kernel, rfl, by decide +kernel, by decide +kernel⟩

theorem ok_law (F : FnP K "law" s_law f fd) (m_range : mg "range" = none) (m_tuple : mg "tuple" = none) (RR : RowC K (He.ga K "Row")) (T : TyC K (He.ga K "Row"))
    (kI : PySem.W.kitOne K (.ref (He.ga K "Row")) (.type "int") = some false) (kB : PySem.W.kitOne K (.ref (He.ga K "Row")) (.type "bool") = some false) (kS : PySem.W.kitAny K (.ref (He.ga K "Row")) [.type "list", .type "tuple"] = some false)
    (g_l_box : FnAt P w K mg base CX0 1 "_law_box" ["_law_script", "_law_k"] (spBox K)) (g_l_take : FnAt P w K mg base CX0 1 "_law_take" ["_law_box_here", "_law_many"] spTake) (g_l_pick : FnAt P w K mg base CX0 2 "_law_pick" ["_law_box_here", "_law_some"] (spPick K)) (g_l_row : FnAt P w K mg base CX0 3 "_law_row" ["_law_box_here", "_law_is_low"] spRow)
    (g_Row2 : MkAt P w K mg base CX0 4 "Row" ["self", "first", "again", "more"] (spInit K (He.ga K "Row")) [.int 0]) (g_l_heard : FnAt P w K mg base CX0 6 "_law_heard" ["_law_first", "_law_again", "_law_more"] (spHeard K)) (g_l_bent_right : FnAt P w K mg base CX0 7 "_law_bent_right" ["_law_box_here", "_law_told"] spBent)
    (g_l_any : FnAt P w K mg base CX0 9 "_law_any" ["_law_box_here", "_law_deep"] (spAny 6)) : FnOk P w K mg base CX0 10 f fd ["_law_script"] (spLaw K) := by
  refine F.ok sc_law (fun vs H Q E h => ?_) (fun cdv A outer s H vs Q E hr h => ?_)
  · obtain ⟨a, ns, rfl, _⟩ := h
    rfl
  · obtain ⟨a, ns, rfl, hq, hl, q⟩ := h
    refine ⟨_, PSs.nox (pss_cons (ps_set (i := 1) sc_law.nd rfl (.inl rfl) (pe_fn g_l_box hr rfl (pa_cons (pv 0) (pa_cons (pe_int) (pa_nil)))))
 (pss_cons (ps_for PassesOwn.never rfl (pi_range1 rfl m_range (pa_cons (pe_int) (pa_nil))) (pg_name (i := 2) sc_law.nd rfl (.inl rfl)) (pss_cons (ps_set (i := 3) sc_law.nd rfl (.inl rfl) (pe_fn g_l_row hr rfl (pa_cons (pv 1) (pa_cons (pe_cmpR op_eq (pe_op op_mod (pv 2) (pe_int)) (pe_int) (nomark _)) (pa_nil)))))
 (pss_cons (ps_if (PW.pt (pw_or (pt_cmpR op_notN (pe_fn g_l_heard hr rfl (pa_cons (pe_ix (ix_sqK K) (pv 3) (pe_int) (fun _ _ => rfl)) (pa_cons (pe_callTy (call_tupleK K) rfl m_tuple (by decide +kernel) (pa_cons (pe_ix (ix_sqK K) (pv 3) (pe_int) (fun _ _ => rfl)) (pa_nil))) (pa_cons (pe_ix (ix_sqK K) (pv 3) (pe_int) (fun _ _ => rfl)) (pa_nil))))) (pe_non) (nomark _)) (pw_or1 (pt_not (pt_val (pe_fn g_l_bent_right hr rfl (pa_cons (pv 1) (pa_cons (pv 3) (pa_nil))))))))) (pss_one (ps_ret (pe_bl))) (pss_nil))
 (pss_cons (ps_set (i := 4) sc_law.nd rfl (.inl rfl) (pe_fn g_l_pick hr rfl (pa_cons (pv 1) (pa_cons (pe_lst (pa_cons (pe_non) (pa_cons (pe_int) (pa_cons (pe_str) (pa_cons (pe_bl) (pa_cons (pe_mkr g_Row2 hr rfl (pa_cons (pe_lst (pa_nil)) (pa_cons (pe_lst (pa_cons (pe_int) (pa_nil))) (pa_nil)))) (pa_nil))))))) (pa_nil)))))
 (pss_cons (ps_if (PW.pt (pw_or (pt_cmpR op_ne (pe_fn g_l_heard hr rfl (pa_cons (pv 4) (pa_cons (pe_non) (pa_cons (pe_non) (pa_nil))))) (pe_str) (nomark _)) (pw_or1 (pt_cmpR op_ne (pe_fn g_l_heard hr rfl (pa_cons (pe_lst (pa_nil)) (pa_cons (pv 4) (pa_cons (pe_non) (pa_nil))))) (pe_str) (nomark _))))) (pss_one (ps_ret (pe_bl))) (pss_nil))
 (pss_cons (ps_if (pt_cmpR (op_notInK K) (pe_fn g_l_heard hr rfl (pa_cons (pe_fn g_l_any hr rfl (pa_cons (pv 1) (pa_cons (pe_int) (pa_nil)))) (pa_cons (pe_non) (pa_cons (pe_non) (pa_nil))))) (pe_tup (pa_cons (pe_str) (pa_cons (pe_str) (pa_nil)))) rfl) (pss_one (ps_ret (pe_bl))) (pss_nil))
 (pss_cons (ps_if (pt_cmpR op_ne (pe_fn g_l_heard hr rfl (pa_cons (pe_lst (pa_cons (pe_fn g_l_any hr rfl (pa_cons (pv 1) (pa_cons (pe_int) (pa_nil)))) (pa_cons (pe_lst (pa_nil)) (pa_nil)))) (pa_cons (pe_lst (pa_cons (pe_int) (pa_nil))) (pa_cons (pe_int) (pa_nil))))) (pe_str) (nomark _)) (pss_one (ps_ret (pe_bl))) (pss_nil))
 (pss_cons (ps_if (pt_cmpR op_ne (pe_fn g_l_heard hr rfl (pa_cons (pe_lst (pa_nil)) (pa_cons (pe_lst (pa_cons (pe_int) (pa_nil))) (pa_cons (pe_fn g_l_pick hr rfl (pa_cons (pv 1) (pa_cons (pe_lst (pa_cons (pe_non) (pa_cons (pe_un un_neg (pe_int)) (pa_cons (pe_str) (pa_cons (pe_tup (pa_nil)) (pa_nil)))))) (pa_nil)))) (pa_nil))))) (pe_str) (nomark _)) (pss_one (ps_ret (pe_bl))) (pss_nil))
 (pss_one (ps_if (pt_cmpR op_notN (pe_fn g_l_heard hr rfl (pa_cons (pe_op op_rep (pe_lst (pa_cons (pe_non) (pa_nil))) (pe_fn g_l_take hr rfl (pa_cons (pv 1) (pa_cons (pe_int) (pa_nil))))) (pa_cons (pe_op op_rep (pe_lst (pa_cons (pe_non) (pa_nil))) (pe_op op_add (pe_int) (pe_fn g_l_take hr rfl (pa_cons (pv 1) (pa_cons (pe_int) (pa_nil)))))) (pa_cons (pe_int) (pa_nil))))) (pe_non) (nomark _)) (pss_one (ps_ret (pe_bl))) (pss_nil)))))))))))
 (pss_one (ps_ret (pe_bl))))), ?_⟩
    refine ⟨_, rfl, a, ns, 0, rfl, hq, by decide, by omega, fun b H1 s1 nb hb => ?_⟩
    refine q_name ?_
    refine q_seq ?_
    refine ⟨8, rfl, by decide, by decide, ?_⟩
    refine for_range (fun i σ Hc => ∃ (v2 v3 v4 : Option V), σ = [some (.ref a), some (.ref b), v2, v3, v4] ∧ Box Hc b) ⟨_, _, _, rfl, hb⟩ ?_ ?_
    · rintro j σ H2 hj ⟨v2, v3, v4, rfl, hb2⟩
      rw [show (0 : Int) + (j : Int) = (j : Int) by omega]
      refine q_name ?_
      -- told
      refine ⟨_, rfl, _, rfl, _, _, rfl, rfl, (by show (0 : Int) < 2; decide), rfl, b, _, rfl, hb2, fun p H3 fs ag m dr sb3 hb3 t => ?_⟩
      obtain ⟨p1, p2, hp, hp1, hp2, np, np1, np2⟩ := t
      obtain ⟨ndr, is, efs, hn2, hi3, _, _⟩ := dr.ex
      have l1 := dr.l1
      have l3 := dr.l3
      have fl : fs.length ≤ 5 := by
        rw [efs, List.length_append, List.length_replicate, List.length_map]
        omega
      have hfs : ∀ y ∈ fs, simpV y = true := fun y hy => by
        rw [efs] at hy
        rcases List.mem_append.mp hy with hy | hy
        · rw [List.eq_of_mem_replicate hy]
          rfl
        · obtain ⟨i, _, rfl⟩ := List.mem_map.mp hy
          rfl
      have hag : ∀ y ∈ ag.map V.int, simpV y = true := fun y hy => by
        obtain ⟨i, _, rfl⟩ := List.mem_map.mp hy
        rfl
      refine q_name ?_
      dsimp only
      refine q_seq (q_if ?_)
      refine ⟨_, rfl, p, _, _, _, rfl, rfl, .t hp, rfl, _, rfl, p, _, _, _, rfl, rfl, .t hp, rfl, tupq (.l hp2) fun tp H4 s4 htp => ?_⟩
      refine ⟨_, rfl, p, _, _, _, rfl, rfl, .t (s4 _ _ hp), rfl, .ref p1, .ref tp, .int m, some fs, some (ag.map V.int), false, rfl, arg_l (s4 _ _ hp1) (by omega) hfs, ⟨tp, rfl, htp, by rw [List.length_map]; omega, fun y hy => ⟨_, hasT_simp (hag y hy)⟩⟩, hasT_int m, fun H5 s5 => ?_⟩
      rw [dr.let_]
      refine ⟨rfl, _, rfl, ?_⟩
      have s45 := s4.trans s5
      refine ⟨_, rfl, _, rfl, b, p, p1, p2, fs, ag, m, rfl, hb3.ex s45, dr, s45 _ _ hp, s45 _ _ hp1, s45 _ _ hp2, np, np1, np2, fun H6 sb6 hb6 => ⟨true, rfl, ?_⟩⟩
      refine q_no rfl ?_
      dsimp only
      -- odd
      refine q_seq (q_asg ?_)
      refine ⟨_, rfl, by show 0 ≤ sizeLine; decide, fun l1' nl1 => ⟨by show 1 ≤ sizeLine; decide, fun l2' nl2 => ?_⟩⟩
      have sA := (same_new (o := .lst []) nl1).trans (same_new (o := .lst [.int 0]) nl2)
      have eA1 := same_new (o := .lst [.int 0]) nl2 _ _ (upd_same (H := H6) (a := l1') (o := .lst []))
      have eA2 : (upd (upd H6 l1' (.lst [])) l2' (.lst [.int 0])) l2' = some (.lst [.int 0]) := upd_same
      generalize upd (upd H6 l1' (.lst [])) l2' (.lst [.int 0]) = H7 at sA eA1 eA2
      refine fun x dx nx ndx hn => ?_
      have sB : Same H7 (upd (upd H7 dx (.own x)) x (.ins (He.ga K "Row") dx [])) := (same_new ndx).trans (same_new ((upd_ne (Ne.symm hn)).trans nx))
      refine ⟨x, dx, .ref l1', .ref l2', [], [.int 0], 0, rfl, upd_same, arg_l (sB _ _ eA1) (by decide) simp_nil, arg_l (sB _ _ eA2) (by decide) (simp_cons rfl simp_nil), by decide +kernel, fun H8 sb8 hr8 => ⟨rfl, ?_⟩⟩
      have s78 := made_rowH nx ndx hn sb8
      refine ⟨by show 5 ≤ sizeLine; decide, fun lo nlo => ?_⟩
      have sC := same_new (o := .lst [.non, .int 3, .str "", .bl true, .ref x]) nlo
      have eC : (upd H8 lo (.lst [.non, .int 3, .str "", .bl true, .ref x])) lo = some (.lst [.non, .int 3, .str "", .bl true, .ref x]) := upd_same
      have hb8 : Box H8 b := (hb6.ex sA).ex s78
      have nlb : lo ≠ b := Box.ne hb8 nlo
      have hrow := RowAt.ex sC hr8
      generalize upd H8 lo (.lst [.non, .int 3, .str "", .bl true, .ref x]) = H9 at sC eC hrow
      refine ⟨b, lo, _, rfl, hb8.ex sC, .l eC, nlb, by show 0 < 5; decide, by show 5 < 1000; decide, fun x' y' z' v hv => ?_⟩
      have hb10 : Box (upd H9 b (bx x' y' z')) b := ⟨_, _, _, upd_same⟩
      have hrow10 := RowAt.sb' (hb8.ex sC) (SameBut.upd b H9 (bx x' y' z')) hrow
      generalize upd H9 b (bx x' y' z') = H10 at hb10 hrow10
      have hv10 : HasT K H10 v false := by
        simp only [List.mem_cons, List.not_mem_nil, or_false] at hv
        rcases hv with rfl | rfl | rfl | rfl | rfl
        · exact hasT_non
        · exact hasT_int _
        · exact hasT_str _
        · exact hasT_bl _
        · exact ⟨_, false, false, rowTy RR T hrow10, kI, kB, rfl, kS⟩
      clear hv hrow10 hrow eC sC nlb hb8 s78 sb8 hr8
      refine q_name ?_
      dsimp only
      -- refused as first, as again
      refine q_seq (q_if ?_)
      refine ⟨_, rfl, v, .non, .non, none, none, false, rfl, hv10, hasT_non, hasT_non, fun H11 s11 => ?_⟩
      refine ⟨rfl, _, rfl, ?_⟩
      rw [decide_eq_true (show wrongW none none V.non = V.str "first" from rfl)]
      refine ⟨by show 0 ≤ sizeLine; decide, fun l3 nl3 => ?_⟩
      have s12 := same_new (o := .lst []) nl3
      have e12 : (upd H11 l3 (.lst [])) l3 = some (.lst []) := upd_same
      generalize upd H11 l3 (.lst []) = H12 at s12 e12
      refine ⟨_, rfl, .ref l3, v, .non, some [], none, false, rfl, arg_l e12 (by decide) simp_nil, (hv10.ex s11).ex s12, hasT_non, fun H13 s13 => ?_⟩
      refine ⟨rfl, _, rfl, ?_⟩
      rw [decide_eq_true (show wrongW (some []) none V.non = V.str "again" by decide +kernel)]
      refine q_no rfl ?_
      dsimp only
      have hb13 : Box H13 b := ((hb10.ex s11).ex s12).ex s13
      -- any values
      refine q_seq (q_if ?_)
      refine ⟨_, rfl, b, rfl, hb13, fun u H14 sb14 hb14 av => ?_⟩
      obtain ⟨o, ho⟩ := av.arg (K := K)
      refine ⟨u, .non, .non, o, none, false, rfl, ho, hasT_non, hasT_non, fun H15 s15 => ⟨by show 2 ≤ sizeLine; decide, fun tq ntq => ?_⟩⟩
      have s16 := same_new (o := .tup [.str "first", .str "again"]) ntq
      have e16 : (upd H15 tq (.tup [.str "first", .str "again"])) tq = some (.tup [.str "first", .str "again"]) := upd_same
      generalize upd H15 tq (.tup [.str "first", .str "again"]) = H16 at s16 e16
      have hin : flatV (wrongW o none V.non) = true ∧ (!inV (wrongW o none V.non) [.str "first", .str "again"]) = false := by
        rcases w_any (o := o) with h | h <;> rw [h] <;> exact ⟨rfl, by decide +kernel⟩
      refine ⟨tq, _, rfl, .inr (.inl (.inl e16)), hin.1, rfl, _, rfl, ?_⟩
      rw [show (if true = true then !inV (wrongW o none V.non) [V.str "first", V.str "again"] else inV (wrongW o none V.non) [V.str "first", V.str "again"]) = false from hin.2]
      refine q_no rfl ?_
      dsimp only
      have hb16 : Box H16 b := (hb14.ex s15).ex s16
      -- in a list
      refine q_seq (q_if ?_)
      refine ⟨_, rfl, b, rfl, hb16, fun u2 H17 sb17 hb17 av2 => ?_⟩
      obtain ⟨sq2, hu2⟩ := av2.ev.hasT (K := K)
      refine ⟨by show 0 ≤ sizeLine; decide, fun l4 nl4 => ⟨by show 2 ≤ sizeLine; decide, fun l5 nl5 => ⟨by show 1 ≤ sizeLine; decide, fun l6 nl6 => ?_⟩⟩⟩
      have t1 := same_new (o := .lst []) nl4
      have t2 := same_new (o := .lst [u2, .ref l4]) nl5
      have t3 := same_new (o := .lst [.int 0]) nl6
      have f4 := t3 _ _ (t2 _ _ (upd_same (H := H17) (a := l4) (o := .lst [])))
      have f5 := t3 _ _ (upd_same (H := upd H17 l4 (.lst [])) (a := l5) (o := .lst [u2, .ref l4]))
      have f6 : (upd (upd (upd H17 l4 (.lst [])) l5 (.lst [u2, .ref l4])) l6 (.lst [.int 0])) l6 = some (.lst [.int 0]) := upd_same
      have t13 := (t1.trans t2).trans t3
      generalize upd (upd (upd H17 l4 (.lst [])) l5 (.lst [u2, .ref l4])) l6 (.lst [.int 0]) = H18 at t13 f4 f5 f6
      refine ⟨.ref l5, .ref l6, .int 0, some [u2, .ref l4], some [.int 0], false, rfl, ⟨l5, rfl, .l f5, by show 2 ≤ 20000; decide, fun y hy => ?_⟩, arg_l f6 (by decide) (simp_cons rfl simp_nil), hasT_int 0, fun H19 s19 => ?_⟩
      · simp only [List.mem_cons, List.not_mem_nil, or_false] at hy
        rcases hy with rfl | rfl
        · exact ⟨_, hu2.ex t13⟩
        · exact ⟨_, Sq.hasT (.l f4)⟩
      rw [w_odd2 rfl]
      refine ⟨rfl, _, rfl, ?_⟩
      rw [decide_eq_true rfl]
      refine q_no rfl ?_
      dsimp only
      have hb19 : Box H19 b := (hb17.ex t13).ex s19
      -- more
      refine q_seq (q_if ?_)
      refine ⟨by show 0 ≤ sizeLine; decide, fun l7 nl7 => ⟨by show 1 ≤ sizeLine; decide, fun l8 nl8 => ?_⟩⟩
      have r1 := same_new (o := .lst []) nl7
      have r2 := same_new (o := .lst [.int 0]) nl8
      have g7 := r2 _ _ (upd_same (H := H19) (a := l7) (o := .lst []))
      have g8 : (upd (upd H19 l7 (.lst [])) l8 (.lst [.int 0])) l8 = some (.lst [.int 0]) := upd_same
      have n7 : l7 ≠ b := Box.ne hb19 nl7
      have n8 : l8 ≠ b := Box.ne (hb19.ex r1) nl8
      have r12 := r1.trans r2
      generalize upd (upd H19 l7 (.lst [])) l8 (.lst [.int 0]) = H20 at r12 g7 g8
      have hb20 := hb19.ex r12
      refine ⟨_, rfl, 1, rfl, by show 0 ≤ sizeLine; decide, fun t9 nt9 => ⟨by show 4 ≤ sizeLine; decide, fun l9 nl9 => ?_⟩⟩
      have r3 := same_new (o := .tup []) nt9
      have r4 := same_new (o := .lst [.non, .int (-1), .str "", .ref t9]) nl9
      have g9 := r4 _ _ (upd_same (H := H20) (a := t9) (o := .tup []))
      have g10 : (upd (upd H20 t9 (.tup [])) l9 (.lst [.non, .int (-1), .str "", .ref t9])) l9 = some (.lst [.non, .int (-1), .str "", .ref t9]) := upd_same
      have n9 : t9 ≠ b := Box.ne hb20 nt9
      have n10 : l9 ≠ b := Box.ne (hb20.ex r3) nl9
      have r34 := r3.trans r4
      generalize upd (upd H20 t9 (.tup [])) l9 (.lst [.non, .int (-1), .str "", .ref t9]) = H21 at r34 g9 g10
      have hb21 := hb20.ex r34
      refine ⟨b, l9, _, rfl, hb21, .l g10, n10, by show 0 < 4; decide, by show 4 < 1000; decide, fun x2 y2 z2 u3 hu3 => ?_⟩
      have hb22 : Box (upd H21 b (bx x2 y2 z2)) b := ⟨_, _, _, upd_same⟩
      have sb22 : SameBut b H21 (upd H21 b (bx x2 y2 z2)) := SameBut.upd b _ _
      generalize upd H21 b (bx x2 y2 z2) = H22 at hb22 sb22
      have h3 : isNumV u3 = false ∧ ∃ sq, HasT K H22 u3 sq := by
        simp only [List.mem_cons, List.not_mem_nil, or_false] at hu3
        rcases hu3 with rfl | rfl | rfl | rfl
        · exact ⟨rfl, _, hasT_non⟩
        · exact ⟨rfl, _, hasT_int _⟩
        · exact ⟨rfl, _, hasT_str _⟩
        · exact ⟨rfl, _, Sq.hasT (.t (sb22 _ _ n9 g9))⟩
      obtain ⟨h3n, sq3, h3⟩ := h3
      refine ⟨.ref l7, .ref l8, u3, some [], some [.int 0], sq3, rfl, arg_l (sb22 _ _ n7 (r34 _ _ g7)) (by decide) simp_nil, arg_l (sb22 _ _ n8 (r34 _ _ g8)) (by decide) (simp_cons rfl simp_nil), h3, fun H23 s23 => ?_⟩
      rw [w_more h3n]
      refine ⟨rfl, _, rfl, ?_⟩
      rw [decide_eq_true rfl]
      refine q_no rfl ?_
      dsimp only
      have hb23 : Box H23 b := hb22.ex s23
      -- nothing at all
      refine q_if ?_
      refine ⟨by show 1 ≤ sizeLine; decide, fun k1 nk1 => ?_⟩
      have d1 := same_new (o := .lst [.non]) nk1
      have i1 : (upd H23 k1 (.lst [.non])) k1 = some (.lst [.non]) := upd_same
      have m1 : k1 ≠ b := Box.ne hb23 nk1
      generalize upd H23 k1 (.lst [.non]) = H24 at d1 i1
      refine ⟨_, rfl, b, 3, rfl, hb23.ex d1, by decide, by decide, fun x3 y3 z3 c1 cl1 cu1 => ?_⟩
      have hb25 : Box (upd H24 b (bx x3 y3 z3)) b := ⟨_, _, _, upd_same⟩
      have i2 : (upd H24 b (bx x3 y3 z3)) k1 = some (.lst [.non]) := (upd_ne m1).trans i1
      generalize upd H24 b (bx x3 y3 z3) = H25 at hb25 i2
      refine ⟨k1, c1, _, rfl, rfl, i2, by omega, by omega, Nat.le_trans (show 1 * c1.toNat ≤ 3 by omega) (by decide), fun k2 nk2 => ?_⟩
      have d2 := same_new (o := .lst (List.replicate c1.toNat [V.non]).flatten) nk2
      have i3 : (upd H25 k2 (.lst (List.replicate c1.toNat [V.non]).flatten)) k2 = some (.lst (List.replicate c1.toNat [V.non]).flatten) := upd_same
      have m2 : k2 ≠ b := Box.ne hb25 nk2
      generalize upd H25 k2 (.lst (List.replicate c1.toNat [V.non]).flatten) = H26 at d2 i3
      have hb26 := hb25.ex d2
      refine ⟨by show 1 ≤ sizeLine; decide, fun k3 nk3 => ?_⟩
      have d3 := same_new (o := .lst [.non]) nk3
      have i4 : (upd H26 k3 (.lst [.non])) k3 = some (.lst [.non]) := upd_same
      have m3 : k3 ≠ b := Box.ne hb26 nk3
      generalize upd H26 k3 (.lst [.non]) = H27 at d3 i4
      refine ⟨_, rfl, b, 3, rfl, hb26.ex d3, by decide, by decide, fun x4 y4 z4 c2 cl2 cu2 => ⟨_, _, rfl, rfl, ?_⟩⟩
      have hb28 : Box (upd H27 b (bx x4 y4 z4)) b := ⟨_, _, _, upd_same⟩
      have i5 : (upd H27 b (bx x4 y4 z4)) k3 = some (.lst [.non]) := (upd_ne m3).trans i4
      have i6 : (upd H27 b (bx x4 y4 z4)) k2 = some (.lst (List.replicate c1.toNat [V.non]).flatten) := (upd_ne m2).trans (d3 _ _ i3)
      generalize upd H27 b (bx x4 y4 z4) = H28 at hb28 i5 i6
      refine ⟨k3, 1 + c2, _, rfl, rfl, i5, by omega, by omega, Nat.le_trans (show 1 * (1 + c2).toNat ≤ 3 by omega) (by decide), fun k4 nk4 => ?_⟩
      have d4 := same_new (o := .lst (List.replicate (1 + c2).toNat [V.non]).flatten) nk4
      have i7 : (upd H28 k4 (.lst (List.replicate (1 + c2).toNat [V.non]).flatten)) k4 = some (.lst (List.replicate (1 + c2).toNat [V.non]).flatten) := upd_same
      generalize upd H28 k4 (.lst (List.replicate (1 + c2).toNat [V.non]).flatten) = H29 at d4 i7
      have ns1 := nones_simp c1.toNat
      have ns2 := nones_simp (1 + c2).toNat
      refine ⟨.ref k2, .ref k4, .int 0, some (List.replicate c1.toNat [V.non]).flatten, some (List.replicate (1 + c2).toNat [V.non]).flatten, false, rfl, arg_l (d4 _ _ i6) (by rw [ns1.2]; omega) ns1.1, arg_l i7 (by rw [ns2.2]; omega) ns2.1, hasT_int 0, fun H30 s30 => ?_⟩
      rw [w_nones c1.toNat (by omega) (1 + c2).toNat (by omega) (by omega)]
      refine ⟨rfl, _, rfl, ?_⟩
      exact q_no rfl ⟨_, _, _, rfl, (hb28.ex d4).ex s30⟩
    · rintro σ Hc ⟨v2, v3, v4, rfl, _⟩
      exact q Hc
end
end WW

set_option Elab.async false
set_option linter.all false
set_option maxRecDepth 100000
set_option maxHeartbeats 4000000
namespace WW
open PySem PySem.Spec PyProof.Rows L2
/-! ### the head's facts of own exceptions -/
def oexB (K : PySem.W.Frag) (C : Addr) : Bool :=
  (match K.lookup C with
    | some ⟨.type "type", _, .cls cd, sl⟩ => (match cd.mro, sl.toList with
      | .ref C' :: bm, [_, _, _, _, some (.builtin n), _] => C' == C && n == "ValueError.__new__" && !cd.hasDel && cd.hasDict && PySem.HandSPX.refsVE bm
      | _, _ => false)
    | _ => false) && (He.eqO (PySem.W.findIn K (.ref C) "__setattr__") (some (some (.builtin "object.__setattr__"))) && (decide (PySem.W.subIn K (.ref C) (.type "BaseException") = some true) && (decide (PySem.W.typeIn K (.ref C) = some (.type "type")) && PySem.W.keepIn K (.ref C))))
theorem oexB_ok {K : PySem.W.Frag} {C : Addr} (h : oexB K C = true) : OexC K C := by
  obtain ⟨h0, h⟩ := He.ba h
  obtain ⟨h1, h⟩ := He.ba h
  obtain ⟨h2, h⟩ := He.ba h
  obtain ⟨h3, h4⟩ := He.ba h
  refine ⟨?_, He.eqO_ok h1, of_decide_eq_true h2, of_decide_eq_true h3, h4⟩
  split at h0
  · rename_i dd cd sl ho
    split at h0
    · rename_i C' bm k0 k1 k2 k3 n k5 hm hs
      simp only [Bool.and_eq_true, beq_iff_eq, Bool.not_eq_true'] at h0
      obtain ⟨⟨⟨⟨rfl, rfl⟩, hdel⟩, hdct⟩, ht⟩ := h0
      obtain ⟨nm, bs, mro, ns, qn, hd, sn, sub, ab, col, del⟩ := cd
      dsimp only at hm hdel hdct
      subst hm hdel hdct
      have hsl : sl = #[k0, k1, k2, k3, some (.builtin "ValueError.__new__"), k5] := by
        obtain ⟨l⟩ := sl
        simp only at hs
        rw [hs]
      subst hsl
      exact ⟨nm, qn, ns, bs, bm, sn, sub, ab, col, dd, k0, k1, k2, k3, k5, ho, ht⟩
    · cases h0
  · cases h0
/-- the __init__ of a class, as it stands -/
abbrev SupV : Type := Option (Str × Arguments × FuncBody × Scope × Addr × Addr)
def supO (K : PySem.W.Frag) (C : Addr) : SupV := match K.lookup (He.ma K C "__init__") with
  | some ⟨_, _, .func fd, _⟩ => some (fd.qualname, fd.params, fd.body, fd.scope, fd.globals, fd.builtins)
  | _ => none
def supB (K : PySem.W.Frag) (file : Str) (C : Addr) : Bool :=
  (match K.lookup (He.ma K C "__init__") with
    | some ⟨_, _, .func fd, _⟩ => (match fd.closure, fd.code with
      | [(n, cc)], .ref cda => ((n == ("__class__" : Str)) && (fd.defaults == Value.none)) && (PySem.W.codeIn K (.ref cda) fd.qualname && ((match K.lookup cc with
          | some ⟨_, _, .cell (some (.ref D)), _⟩ => D == C
          | _ => false) && (match K.lookup cda with
          | some ⟨_, _, .fields vs, _⟩ => (match (vs : Array Value)[2]? with
            | some (Value.str fl _) => file == fl
            | _ => false)
          | _ => false)))
      | _, _ => false)
    | _ => false) && (oexB K C && (He.eqO (PySem.W.findIn K (.ref C) "__init__") (some (some (.ref (He.ma K C "__init__")))) && (decide (PySem.W.typeIn K (.ref (He.ma K C "__init__")) = some (.type "function")) && (He.eqO (PySem.W.ks_superIn K C C "__init__") (some (some (.builtin "ValueError.__init__"))) &&
      (decide (PySem.W.mroIn K C (.ref C) = some true) && (decide (PySem.W.subIn K (.ref C) (.type "ValueError") = some true) && He.eqO (PySem.W.nsIn K cStatics "thirdparty.any") (some none)))))))
theorem supB_ok {P : Program} {K : PySem.W.Frag} {C : Addr} {qual : Str} {params : Arguments} {body : List Stmt} {scope : Scope} (h : supB K P.main.file C = true) (e : supO K C = some (qual, params, .stmts body, scope, mainGlobals, builtinsNs)) (top : (P.main.scope.names.lookup ("super" : Str)).isSome = false) : SupC P K C (He.ma K C "__init__") qual params body scope := by
  obtain ⟨h0, h⟩ := He.ba h
  obtain ⟨h1, h⟩ := He.ba h
  obtain ⟨h2, h⟩ := He.ba h
  obtain ⟨h3, h⟩ := He.ba h
  obtain ⟨h4, h⟩ := He.ba h
  obtain ⟨h5, h⟩ := He.ba h
  obtain ⟨h6, h7⟩ := He.ba h
  refine ⟨oexB_ok h1, He.eqO_ok h2, of_decide_eq_true h3, ?_, He.eqO_ok h4, of_decide_eq_true h5, of_decide_eq_true h6, He.eqO_ok h7, top⟩
  unfold supO at e
  split at h0
  · rename_i oc od fd osl ho
    rw [ho] at e
    obtain ⟨n1, n2, n3, n4, n5, n6, n7, n8, n9, n10, n11, n12, n13, n14, n15⟩ := fd
    have e2 : (some (n2, n3, n4, n5, n6, n15) : SupV) = some (qual, params, .stmts body, scope, mainGlobals, builtinsNs) := e
    simp only [Option.some.injEq, Prod.mk.injEq] at e2
    obtain ⟨q1, q2, q3, q4, q5, q6⟩ := e2
    subst q1 q2 q3 q4 q5 q6
    split at h0
    · rename_i n cc cda hcl hcd
      dsimp only at hcl hcd
      subst hcl hcd
      obtain ⟨g1, h0⟩ := He.ba h0
      obtain ⟨g2, h0⟩ := He.ba h0
      obtain ⟨g3, g4⟩ := He.ba h0
      obtain ⟨g1, g0⟩ := He.ba g1
      rw [beq_iff_eq] at g1 g0
      subst g1 g0
      split at g3
      · rename_i cl cld D csl hcc
        rw [beq_iff_eq] at g3
        subst g3
        split at g4
        · rename_i ccl cdd vs ccs hcode
          split at g4
          · rename_i fl tf hvs
            exact ⟨n1, oc, od, n9, n10, n11, n12, cda, cc, n14, osl, ccl, cdd, vs, ccs, fl, tf, cl, cld, csl, ho, g2, hcode, hvs, g4, hcc⟩
          · cases g4
        · cases g4
      · cases g3
    · cases h0
  · cases h0
/-- what must be said of a class so that its caught instances are asked rightly -/
def excCB (K : PySem.W.Frag) (C : Addr) : Bool :=
  He.eqO (PySem.W.findIn K (.ref C) "__getattribute__") (some (some (.builtin "BaseException.__getattribute__"))) && (He.eqO (PySem.W.findIn K (.ref C) "__getattr__") (some none) && (decide (PySem.W.subIn K (.ref C) (.type "BaseException") = some true) && (PySem.W.hasDictIn K C && (He.eqO (PySem.W.findIn K (.ref C) "__class__") (some (some (.builtin "object.__class__"))) &&
    (He.eqO (PySem.W.specialIn K (.builtin "object.__class__") "__get__") (some (some (.builtin "getset_descriptor.__get__"))) && (decide (PySem.W.takesIn K (.builtin "object.__class__") = some true) && decide (PySem.W.mroIn K C (.type "object") = some true)))))))
theorem excCB_ok {K : PySem.W.Frag} {C : Addr} (h : excCB K C = true) : ExcC K C ∧ XfC K C := by
  obtain ⟨h1, h⟩ := He.ba h
  obtain ⟨h2, h⟩ := He.ba h
  obtain ⟨h3, h⟩ := He.ba h
  obtain ⟨h4, h⟩ := He.ba h
  obtain ⟨h5, h⟩ := He.ba h
  obtain ⟨h6, h⟩ := He.ba h
  obtain ⟨h7, h8⟩ := He.ba h
  exact ⟨⟨He.eqO_ok h1, He.eqO_ok h2, of_decide_eq_true h3, h4, He.eqO_ok h5, He.eqO_ok h6, of_decide_eq_true h7, of_decide_eq_true h8⟩, ⟨He.eqO_ok h1, He.eqO_ok h2, of_decide_eq_true h3, h4⟩⟩
/-! ### the hook with the __init__s of exception classes -/
section
variable (n : Nat) (fa : List He.Fa) (fn : List He5.DefA) (ex : PySem.W.Frag → Bool) (cs : List Str) (vs : List SupV)
def obsS (g : Addr → Option Obj) : (He.AlD × Bool) × List SupV := ((He5.obsA fa fn (He.frG g (He5.asA g n)), ex (He.frG g (He5.asA g n))), cs.map fun x => supO (He.frG g (He5.asA g n)) (He.ga (He.frG g (He5.asA g n)) x))
def SaysS (K : PySem.W.Frag) : Prop := SaysW fa fn ex K ∧ (cs.map fun x => supO K (He.ga K x)) = vs
def hookS : PySem.W.Hook where
  α := (He.AlD × Bool) × List SupV
  obs := fun s => obsS n fa fn ex cs s.heap.get?
  val := fun _ => ((He5.valA fn, true), vs)
  says := fun _ h => ∃ K : PySem.W.Frag, K.In h ∧ SaysS fa fn ex cs vs K
  of := fun _ s e => ⟨He.frG s.heap.get? (He5.asA s.heap.get? n), He.frG_in, ⟨congrArg (fun z : (He.AlD × Bool) × List SupV => z.1.1) e, congrArg (fun z : (He.AlD × Bool) × List SupV => z.1.2) e⟩, congrArg (fun z : (He.AlD × Bool) × List SupV => z.2) e⟩
  keeps := fun _ _ _ ⟨K, hK, c⟩ k => ⟨K, PySem.W.Frag.In.keeps hK k, c⟩
end
theorem obsS_eq {n : Nat} {fa : List He.Fa} {fn : List He5.DefA} {ex : PySem.W.Frag → Bool} {cs : List Str} {vs : List SupV} {g : Addr → Option Obj} {s : Shared} (h : ∀ a, g a = s.heap.get? a) : obsS n fa fn ex cs g = (hookS n fa fn ex cs vs).obs s := by
  rw [show g = s.heap.get? from funext h]
  rfl
end WW

set_option Elab.async false
set_option linter.all false
set_option maxRecDepth 100000
set_option maxHeartbeats 0
namespace WW
open PySem PySem.Spec PyProof.Rows L2
def d_l_take : He5.DefA := ⟨fun K => He.fAd K ("_law_take", none), "_law_take", "_law_take", defArgs s_l_take, defBody s_l_take, defScope s_l_take, [], []⟩
def d_l_pick : He5.DefA := ⟨fun K => He.fAd K ("_law_pick", none), "_law_pick", "_law_pick", defArgs s_l_pick, defBody s_l_pick, defScope s_l_pick, [], []⟩
def d_is_integer : He5.DefA := ⟨fun K => He.fAd K ("is_integer", none), "is_integer", "is_integer", defArgs s_is_integer, defBody s_is_integer, defScope s_is_integer, [], []⟩
def d_is_number : He5.DefA := ⟨fun K => He.fAd K ("is_number", none), "is_number", "is_number", defArgs s_is_number, defBody s_is_number, defScope s_is_number, [], []⟩
def d_is_sequence : He5.DefA := ⟨fun K => He.fAd K ("is_sequence", none), "is_sequence", "is_sequence", defArgs s_is_sequence, defBody s_is_sequence, defScope s_is_sequence, [], []⟩
def d_is_thing : He5.DefA := ⟨fun K => He.fAd K ("is_thing", none), "is_thing", "is_thing", defArgs s_is_thing, defBody s_is_thing, defScope s_is_thing, [], []⟩
def d_is_below : He5.DefA := ⟨fun K => He.fAd K ("is_below", none), "is_below", "is_below", defArgs s_is_below, defBody s_is_below, defScope s_is_below, [], []⟩
def d_are_rising : He5.DefA := ⟨fun K => He.fAd K ("are_rising", none), "are_rising", "are_rising", defArgs s_are_rising, defBody s_are_rising, defScope s_are_rising, [], []⟩
def d_wrong_word : He5.DefA := ⟨fun K => He.fAd K ("wrong_word", none), "wrong_word", "wrong_word", defArgs s_wrong_word, defBody s_wrong_word, defScope s_wrong_word, [], []⟩
def d_is_turn : He5.DefA := ⟨fun K => He.fAd K ("is_turn", none), "is_turn", "is_turn", defArgs s_is_turn, defBody s_is_turn, defScope s_is_turn, [], []⟩
def d_least_form : He5.DefA := ⟨fun K => He.fAd K ("least_form", none), "least_form", "least_form", defArgs s_least_form, defBody s_least_form, defScope s_least_form, [], []⟩
def d_Row___init__ : He5.DefA := ⟨fun K => He.fAd K ("Row", some "__init__"), "__init__", "Row.__init__", defArgs s_Row___init__, defBody s_Row___init__, defScope s_Row___init__, [.int 0], []⟩
def d_l_box : He5.DefA := ⟨fun K => He.fAd K ("_law_box", none), "_law_box", "_law_box", defArgs s_l_box, defBody s_l_box, defScope s_l_box, [], []⟩
def d_l_row : He5.DefA := ⟨fun K => He.fAd K ("_law_row", none), "_law_row", "_law_row", defArgs s_l_row, defBody s_l_row, defScope s_l_row, [], []⟩
def d_l_any : He5.DefA := ⟨fun K => He.fAd K ("_law_any", none), "_law_any", "_law_any", defArgs s_l_any, defBody s_l_any, defScope s_l_any, [], []⟩
def d_l_heard : He5.DefA := ⟨fun K => He.fAd K ("_law_heard", none), "_law_heard", "_law_heard", defArgs s_l_heard, defBody s_l_heard, defScope s_l_heard, [], []⟩
def d_l_bent_right : He5.DefA := ⟨fun K => He.fAd K ("_law_bent_right", none), "_law_bent_right", "_law_bent_right", defArgs s_l_bent_right, defBody s_l_bent_right, defScope s_l_bent_right, [], []⟩
def d_law : He5.DefA := ⟨fun K => He.fAd K ("law", none), "law", "law", defArgs s_law, defBody s_law, defScope s_law, [], []⟩
def steps : Nat := 4000
def fn : List He5.DefA := ([d_l_take, d_l_pick, d_is_integer, d_is_number, d_is_sequence, d_is_thing, d_is_below, d_are_rising, d_wrong_word, d_is_turn, d_least_form, d_Row___init__] : List He5.DefA) ++ ([d_l_box, d_l_row, d_l_any, d_l_heard, d_l_bent_right, d_law] : List He5.DefA)
def fa : List He.Fa := ([.glo "_law_take", .glo "_law_pick", .glo "is_integer", .glo "is_number", .glo "is_sequence", .glo "is_thing", .glo "is_below", .glo "are_rising", .glo "wrong_word", .glo "is_turn", .glo "least_form", .glo "_law_box"] : List He.Fa) ++ ([.glo "_law_row", .glo "_law_any", .glo "_law_heard", .glo "_law_bent_right", .glo "law", .free "int", .free "len", .free "isinstance", .free "bool", .free "list", .free "tuple", .free "any"] : List He.Fa) ++ ([.free "all", .free "range", .free "abs", .free "super", .cls "Row", .noat "Row" "first", .noat "Row" "again", .noat "Row" "more", .mkr "Row", .glo "Row", .glo "InvalidRow", .glo "WaitError"] : List He.Fa) ++ ([.glo "InvalidModule", .glo "InvalidText"] : List He.Fa)
def loose : List Str := (["_wall", "WaitError", "InvalidRow", "InvalidModule", "InvalidText", "DIGITS", "is_integer", "is_number", "is_sequence", "number_in", "integer_in", "MOST_DIGITS"] : List Str) ++ (["is_thing", "is_below", "are_rising", "wrong_word", "is_turn", "least_form", "Row", "word_of", "things_in", "_law_box", "_law_take", "_law_pick"] : List Str) ++ (["_law_mixed", "_law_row", "_law_time", "_law_times", "_law_made", "_law_any", "_law_heard", "_law_bent_right"] : List Str)
abbrev R : PySem.W.OpenRow := PySem.W.OpenLaw.row PySem.Challenge.rw_waitworks_k03_rows_refused
def fileS : Str := R.prog.main.file
def exK (K : PySem.W.Frag) : Bool := tyB K (He.ga K "Row") && (supB K fileS (He.ga K "InvalidRow") && (excCB K (He.ga K "InvalidRow") && (He.eqO (PySem.W.findIn K (.ref (He.ga K "InvalidRow")) "word") (some none) && (decide (PySem.W.kitOne K (.ref (He.ga K "InvalidRow")) (.ref (He.ga K "WaitError")) = some true) && (decide (PySem.W.kitAny K (.ref (He.ga K "InvalidRow")) [.ref (He.ga K "InvalidModule"), .ref (He.ga K "InvalidText")] = some false) && (decide (PySem.W.exmOne K (.ref (He.ga K "InvalidRow")) (.ref (He.ga K "InvalidRow")) = some true) && (decide (PySem.W.kitOne K (.ref (He.ga K "Row")) (.type "int") = some false) && (decide (PySem.W.kitOne K (.ref (He.ga K "Row")) (.type "bool") = some false) && (decide (PySem.W.kitAny K (.ref (He.ga K "Row")) [.type "list", .type "tuple"] = some false))))))))))
abbrev st_IR : Stmt := inClass (top 3) 0
def cs : List Str := ["InvalidRow"]
def vsS : List SupV := [some ("InvalidRow.__init__", defArgs st_IR, .stmts (defBody st_IR), defScope st_IR, mainGlobals, builtinsNs)]
abbrev hk : PySem.W.Hook := hookS 10 fa fn exK cs vsS
def ob (s : PySem.W.SharedT) : (He.AlD × Bool) × List SupV := obsS 10 fa fn exK cs (HandSHeadRun.getT s)
theorem ob_eq (s : PySem.W.SharedT) : ob s = hk.obs s.abs := obsS_eq (HandSHeadRun.getT_eq s)
theorem run (w : World) : HandSHeadRun.RunEq R (PySem.W.view R.prog [36]) hk ob steps loose w := by
  intro os
  kernel_rfl
/-- Row(a, b, c): every parameter is written, a default stands behind -/
theorem init_binds {K : PySem.W.Frag} {f : Addr} {fd : FuncData} (F : FunD K "__init__" "Row.__init__" (defArgs s_Row___init__) (defBody s_Row___init__) (defScope s_Row___init__) [.int 0] [] f fd) : Binds K fd ["self", "first", "again", "more"] [] := by
  obtain ⟨ds, v, b⟩ := F.binds1 (ps := ["self", "first", "again", "more"]) 4 1 (List.cons_ne_nil _ _) rfl fun T kV doc pm an cdv ct us its hu hi => by
    match us, hu, its, hi with
    | [u1, u2, u3, u4], _, [i1], _ => exact ⟨_, rfl, rfl⟩
  cases v
  exact b
/-- Row(a, b): the growth is the default -/
theorem init_binds2 {K : PySem.W.Frag} {f : Addr} {fd : FuncData} (F : FunD K "__init__" "Row.__init__" (defArgs s_Row___init__) (defBody s_Row___init__) (defScope s_Row___init__) [.int 0] [] f fd) : ∃ ds, Vals [.int 0] ds ∧ Binds K fd ["self", "first", "again", "more"] ds :=
  F.binds1 (ps := ["self", "first", "again", "more"]) 3 0 (List.cons_ne_nil _ _) rfl fun T kV doc pm an cdv ct us its hu hi => by
    match us, hu, its, hi with
    | [u1, u2, u3], _, [i1], _ => exact ⟨_, rfl, rfl⟩
theorem facts {P : Program} {w : World} {K : PySem.W.Frag} {h : Heap} {mg : Str → Option Value} {f : Addr} (X : K.In h) (G : h.Ns mainGlobals mg) (hfa : mg ("law" : Str) = some (.ref f)) (c : SaysS fa fn exK cs vsS K) (hP1 : (P.main.file : Str) = fileS) (hP2 : (P.main.scope.names.lookup ("super" : Str)).isSome = false) :
    ∃ fd : FuncData, (∀ (s : Shared) (v : Value), BindsTo s fd ⟨[v], []⟩ [("_law_script", v)]) ∧ ∀ base : Heap, K.In base → base.Ns mainGlobals mg → FnOk P w K mg base CX0 10 f fd ["_law_script"] (spLaw K) := by
  obtain ⟨⟨c, cx⟩, cv⟩ := c
  obtain ⟨x_ty, cx⟩ := He.ba cx
  obtain ⟨x_sup, cx⟩ := He.ba cx
  obtain ⟨x_exc, cx⟩ := He.ba cx
  obtain ⟨x_nf, cx⟩ := He.ba cx
  obtain ⟨x_k1, cx⟩ := He.ba cx
  obtain ⟨x_k2, cx⟩ := He.ba cx
  obtain ⟨x_k3, cx⟩ := He.ba cx
  obtain ⟨x_kI, cx⟩ := He.ba cx
  obtain ⟨x_kB, cx⟩ := He.ba cx
  have x_kS := cx
  have m_int := He.free_ok X G (c.fact 17 (f := .free "int") rfl)
  have m_len := He.free_ok X G (c.fact 18 (f := .free "len") rfl)
  have m_isinstance := He.free_ok X G (c.fact 19 (f := .free "isinstance") rfl)
  have m_bool := He.free_ok X G (c.fact 20 (f := .free "bool") rfl)
  have m_list := He.free_ok X G (c.fact 21 (f := .free "list") rfl)
  have m_tuple := He.free_ok X G (c.fact 22 (f := .free "tuple") rfl)
  have m_any := He.free_ok X G (c.fact 23 (f := .free "any") rfl)
  have m_all := He.free_ok X G (c.fact 24 (f := .free "all") rfl)
  have m_range := He.free_ok X G (c.fact 25 (f := .free "range") rfl)
  have m_abs := He.free_ok X G (c.fact 26 (f := .free "abs") rfl)
  have m_super := He.free_ok X G (c.fact 27 (f := .free "super") rfl)
  have m_Row := He.glo_ok X G (c.fact 33 (f := .glo "Row") rfl)
  have RR : RowC K (He.ga K "Row") := ⟨He.cls_ok (c.fact 28 (f := .cls "Row") rfl), He.noat_ok (c.fact 29 (f := .noat "Row" "first") rfl), He.noat_ok (c.fact 30 (f := .noat "Row" "again") rfl), He.noat_ok (c.fact 31 (f := .noat "Row" "more") rfl)⟩
  have tyc := tyB_ok x_ty
  have cv0 : supO K (He.ga K "InvalidRow") = some (("InvalidRow.__init__" : Str), defArgs st_IR, .stmts (defBody st_IR), defScope st_IR, mainGlobals, builtinsNs) := (List.cons.inj cv).1
  have scI := supB_ok (P := P) (by rw [hP1]; exact x_sup) cv0 hP2
  have xc := excCB_ok x_exc
  have x_nf := He.eqO_ok x_nf
  have x_k1 := of_decide_eq_true x_k1
  have x_k2 := of_decide_eq_true x_k2
  have x_k3 := of_decide_eq_true x_k3
  have x_kI := of_decide_eq_true x_kI
  have x_kB := of_decide_eq_true x_kB
  have x_kS := of_decide_eq_true x_kS
  have m_InvalidRow := He.glo_ok X G (c.fact 34 (f := .glo "InvalidRow") rfl)
  have S_InvalidRow : SupAt P K mg "InvalidRow" "word" := ⟨⟨_, _, _, _, _, _, _, _, _, _, _, _, _, _, _, _, _, _, scI, ⟨rfl, rfl, rfl, rfl, rfl, rfl, rfl, by decide +kernel, ⟨_, rfl, rfl⟩, by decide, by decide⟩, fun _ => rfl, fun _ _ _ _ _ _ _ _ us hl => match us, hl with | [_, _], _ => rfl⟩, x_nf, m_InvalidRow, m_super⟩
  have m_WaitError := He.glo_ok X G (c.fact 35 (f := .glo "WaitError") rfl)
  have m_InvalidModule := He.glo_ok X G (c.fact 36 (f := .glo "InvalidModule") rfl)
  have m_InvalidText := He.glo_ok X G (c.fact 37 (f := .glo "InvalidText") rfl)
  obtain ⟨fd_l_take, F_l_take⟩ := c.def_ 0 (d := d_l_take) rfl
  obtain ⟨fd_l_pick, F_l_pick⟩ := c.def_ 1 (d := d_l_pick) rfl
  obtain ⟨fd_is_integer, F_is_integer⟩ := c.def_ 2 (d := d_is_integer) rfl
  obtain ⟨fd_is_number, F_is_number⟩ := c.def_ 3 (d := d_is_number) rfl
  obtain ⟨fd_is_sequence, F_is_sequence⟩ := c.def_ 4 (d := d_is_sequence) rfl
  obtain ⟨fd_is_thing, F_is_thing⟩ := c.def_ 5 (d := d_is_thing) rfl
  obtain ⟨fd_is_below, F_is_below⟩ := c.def_ 6 (d := d_is_below) rfl
  obtain ⟨fd_are_rising, F_are_rising⟩ := c.def_ 7 (d := d_are_rising) rfl
  obtain ⟨fd_wrong_word, F_wrong_word⟩ := c.def_ 8 (d := d_wrong_word) rfl
  obtain ⟨fd_is_turn, F_is_turn⟩ := c.def_ 9 (d := d_is_turn) rfl
  obtain ⟨fd_least_form, F_least_form⟩ := c.def_ 10 (d := d_least_form) rfl
  obtain ⟨fd_Row___init__, F_Row___init__⟩ := c.def_ 11 (d := d_Row___init__) rfl
  obtain ⟨fd_l_box, F_l_box⟩ := c.def_ 12 (d := d_l_box) rfl
  obtain ⟨fd_l_row, F_l_row⟩ := c.def_ 13 (d := d_l_row) rfl
  obtain ⟨fd_l_any, F_l_any⟩ := c.def_ 14 (d := d_l_any) rfl
  obtain ⟨fd_l_heard, F_l_heard⟩ := c.def_ 15 (d := d_l_heard) rfl
  obtain ⟨fd_l_bent_right, F_l_bent_right⟩ := c.def_ 16 (d := d_l_bent_right) rfl
  obtain ⟨fd_law, F_law⟩ := c.def_ 17 (d := d_law) rfl
  have e := hfa.symm.trans (He.glo_ok X G (c.fact 16 (f := .glo "law") rfl))
  cases e
  have bL := FunD.bindsA (ps := ["_law_script"]) F_law fun _ _ _ _ _ _ us hl => match us, hl with | [_], _ => rfl
  refine ⟨fd_law, fun s v => bL s [v] rfl, fun base _ _ => ?_⟩
  have g__law_take : FnAt P w K mg base CX0 1 "_law_take" ["_law_box_here", "_law_many"] (spTake) := ⟨⟨_, ok_take F_l_take m_int, F_l_take.bindsN fun _ _ _ _ _ _ us hl => match us, hl with | [_, _], _ => rfl⟩, F_l_take.kp, He.glo_ok X G (c.fact 0 (f := .glo "_law_take") rfl)⟩
  have g__law_pick : FnAt P w K mg base CX0 2 "_law_pick" ["_law_box_here", "_law_some"] (spPick K) := ⟨⟨_, ok_pick F_l_pick m_len g__law_take, F_l_pick.bindsN fun _ _ _ _ _ _ us hl => match us, hl with | [_, _], _ => rfl⟩, F_l_pick.kp, He.glo_ok X G (c.fact 1 (f := .glo "_law_pick") rfl)⟩
  have g_is_integer : FnAt P w K mg base CX0 1 "is_integer" ["value"] (spInteger K) := ⟨⟨_, ok_is_integer F_is_integer m_isinstance m_int m_bool, F_is_integer.bindsN fun _ _ _ _ _ _ us hl => match us, hl with | [_], _ => rfl⟩, F_is_integer.kp, He.glo_ok X G (c.fact 2 (f := .glo "is_integer") rfl)⟩
  have g_is_number : FnAt P w K mg base CX0 2 "is_number" ["value"] (spNumber K) := ⟨⟨_, ok_is_number F_is_number g_is_integer, F_is_number.bindsN fun _ _ _ _ _ _ us hl => match us, hl with | [_], _ => rfl⟩, F_is_number.kp, He.glo_ok X G (c.fact 3 (f := .glo "is_number") rfl)⟩
  have g_is_sequence : FnAt P w K mg base CX0 1 "is_sequence" ["value"] (spSequence K) := ⟨⟨_, ok_is_sequence F_is_sequence m_isinstance m_list m_tuple, F_is_sequence.bindsN fun _ _ _ _ _ _ us hl => match us, hl with | [_], _ => rfl⟩, F_is_sequence.kp, He.glo_ok X G (c.fact 4 (f := .glo "is_sequence") rfl)⟩
  have g_is_thing : FnAt P w K mg base CX0 2 "is_thing" ["value"] (spThing K) := ⟨⟨_, ok_is_thing F_is_thing g_is_integer, F_is_thing.bindsN fun _ _ _ _ _ _ us hl => match us, hl with | [_], _ => rfl⟩, F_is_thing.kp, He.glo_ok X G (c.fact 5 (f := .glo "is_thing") rfl)⟩
  have g_is_below : FnAt P w K mg base CX0 1 "is_below" ["one", "other"] (spBelow) := ⟨⟨_, ok_is_below F_is_below , F_is_below.bindsN fun _ _ _ _ _ _ us hl => match us, hl with | [_, _], _ => rfl⟩, F_is_below.kp, He.glo_ok X G (c.fact 6 (f := .glo "is_below") rfl)⟩
  have g_are_rising : FnAt P w K mg base CX0 2 "are_rising" ["some"] (spRising K) := ⟨⟨_, ok_are_rising F_are_rising m_any m_len m_range g_is_below, F_are_rising.bindsN fun _ _ _ _ _ _ us hl => match us, hl with | [_], _ => rfl⟩, F_are_rising.kp, He.glo_ok X G (c.fact 7 (f := .glo "are_rising") rfl)⟩
  have g_wrong_word : FnAt P w K mg base CX0 3 "wrong_word" ["first", "again", "more"] (spWrong K) := ⟨⟨_, ok_wrong_word F_wrong_word m_all m_len g_is_sequence g_is_thing g_is_number g_are_rising, F_wrong_word.bindsN fun _ _ _ _ _ _ us hl => match us, hl with | [_, _, _], _ => rfl⟩, F_wrong_word.kp, He.glo_ok X G (c.fact 8 (f := .glo "wrong_word") rfl)⟩
  have g_is_turn : FnAt P w K mg base CX0 1 "is_turn" ["again", "more", "turn"] (spTurn K) := ⟨⟨_, ok_is_turn F_is_turn m_all m_len m_range, F_is_turn.bindsN fun _ _ _ _ _ _ us hl => match us, hl with | [_, _, _], _ => rfl⟩, F_is_turn.kp, He.glo_ok X G (c.fact 9 (f := .glo "is_turn") rfl)⟩
  have g_least_form : FnAt P w K mg base CX0 2 "least_form" ["first", "again", "more"] (spLeast K) := ⟨⟨_, ok_least_form F_least_form m_list m_len m_range m_tuple g_is_turn, F_least_form.bindsN fun _ _ _ _ _ _ us hl => match us, hl with | [_, _, _], _ => rfl⟩, F_least_form.kp, He.glo_ok X G (c.fact 10 (f := .glo "least_form") rfl)⟩
  have b_init := init_binds F_Row___init__
  have g_Row : MkAt P w K mg base CX0 4 "Row" ["self", "first", "again", "more"] (spInit K (He.ga K "Row")) [] := ⟨⟨_, _, [], He.mkr_ok (c.fact 32 (f := .mkr "Row") rfl), ok_Row_init F_Row___init__ RR m_tuple g_wrong_word g_least_form, .nil, b_init⟩, m_Row⟩
  have gX_Row : MkAtX P w K mg base 4 "Row" ["self", "first", "again", "more"] (spInitX K (He.ga K "Row") (He.ga K "InvalidRow")) [] := ⟨⟨_, _, [], He.mkr_ok (c.fact 32 (f := .mkr "Row") rfl), ok_Row_initX F_Row___init__ RR m_tuple g_wrong_word g_least_form S_InvalidRow, .nil, b_init⟩, m_Row⟩
  obtain ⟨ds2, v2, b2⟩ := init_binds2 F_Row___init__
  have g_Row2 : MkAt P w K mg base CX0 4 "Row" ["self", "first", "again", "more"] (spInit K (He.ga K "Row")) [.int 0] := ⟨⟨_, _, ds2, He.mkr_ok (c.fact 32 (f := .mkr "Row") rfl), ok_Row_init F_Row___init__ RR m_tuple g_wrong_word g_least_form, v2, b2⟩, m_Row⟩
  have g__law_box : FnAt P w K mg base CX0 1 "_law_box" ["_law_script", "_law_k"] (spBox K) := ⟨⟨_, ok_box F_l_box m_int m_len m_abs, F_l_box.bindsN fun _ _ _ _ _ _ us hl => match us, hl with | [_, _], _ => rfl⟩, F_l_box.kp, He.glo_ok X G (c.fact 11 (f := .glo "_law_box") rfl)⟩
  have g__law_row : FnAt P w K mg base CX0 3 "_law_row" ["_law_box_here", "_law_is_low"] (spRow) := ⟨⟨_, ok_row F_l_row m_int m_range g__law_take g__law_pick, F_l_row.bindsN fun _ _ _ _ _ _ us hl => match us, hl with | [_, _], _ => rfl⟩, F_l_row.kp, He.glo_ok X G (c.fact 12 (f := .glo "_law_row") rfl)⟩
  have bA : Binds K fd_l_any ["_law_box_here", "_law_deep"] [] := F_l_any.bindsN fun _ _ _ _ _ _ us hl => match us, hl with | [_, _], _ => rfl
  have gA := He.glo_ok X G (c.fact 13 (f := .glo "_law_any") rfl)
  have g__law_any : FnAt P w K mg base CX0 9 "_law_any" ["_law_box_here", "_law_deep"] (spAny 6) := ⟨⟨_, ok_any F_l_any bA F_l_any.kp rfl gA m_range m_tuple g__law_take g__law_pick 6, bA⟩, F_l_any.kp, gA⟩
  have g__law_heard : FnAt P w K mg base CX0 6 "_law_heard" ["_law_first", "_law_again", "_law_more"] (spHeard K) := ⟨⟨_, ok_heard F_l_heard m_isinstance m_InvalidRow m_WaitError m_InvalidModule m_InvalidText xc.1 xc.2 x_nf x_k1 x_k2 x_k3 gX_Row, F_l_heard.bindsN fun _ _ _ _ _ _ us hl => match us, hl with | [_, _, _], _ => rfl⟩, F_l_heard.kp, He.glo_ok X G (c.fact 14 (f := .glo "_law_heard") rfl)⟩
  have g__law_bent_right : FnAt P w K mg base CX0 7 "_law_bent_right" ["_law_box_here", "_law_told"] (spBent) := ⟨⟨_, ok_bent F_l_bent_right g__law_take g__law_heard, F_l_bent_right.bindsN fun _ _ _ _ _ _ us hl => match us, hl with | [_, _], _ => rfl⟩, F_l_bent_right.kp, He.glo_ok X G (c.fact 15 (f := .glo "_law_bent_right") rfl)⟩
  exact ok_law F_law m_range m_tuple RR tyc x_kI x_kB x_kS g__law_box g__law_take g__law_pick g__law_row g_Row2 g__law_heard g__law_bent_right g__law_any
end WW

open PySem PySem.W PySem.Calls PyProof.Rows
set_option maxRecDepth 100000 in
set_option maxHeartbeats 0 in
theorem PySem.Challenge.cw_waitworks_k03_rows_refused_holds : PySem.Challenge.rw_waitworks_k03_rows_refused.Holds := by
  w_on; o_law
  refine HandSHeadRun.head_any (r := OpenLaw.row PySem.Challenge.rw_waitworks_k03_rows_refused) (q := view (OpenLaw.row PySem.Challenge.rw_waitworks_k03_rows_refused).prog [36]) (H := WW.hk) (ob := WW.ob) (M := WW.steps) (loose := WW.loose) (d := HandSHeadRun.topDef (OpenLaw.row PySem.Challenge.rw_waitworks_k03_rows_refused).prog 36) (kwd := []) WW.ob_eq
    (by kernel_rfl) (fun s => by kernel_rfl) WW.run (by kernel_rfl) (by kernel_rfl) (by kernel_rfl) (by rfl) (by first | assumption | decide +kernel) (by decide +kernel) ⟨rfl, rfl, rfl, rfl, rfl, by decide +kernel⟩ ?hw ?hc
  case hw => w_witness2
  case hc =>
    refine L2.walk_ofE (l := PySem.Challenge.rw_waitworks_k03_rows_refused) (n := 63) (k := 10) (x := "_law_script") (CX := L2.CX0) rfl (by decide) (by kernel_rfl) ⟨rfl, by decide, by decide⟩ ?F (fun _ _ _ _ z => z)
    intro w mg fa h Y G hmg0
    obtain ⟨K, KX, c⟩ := Y
    have hmg : mg ("law" : PySem.Str) = some (.ref fa) := by
      have e : (HandSHeadRun.topDef (OpenLaw.row PySem.Challenge.rw_waitworks_k03_rows_refused).prog 36).name = ("law" : PySem.Str) := by kernel_rfl
      rw [← e]
      exact hmg0
    obtain ⟨fd, hb, hF⟩ := WW.facts (P := (PySem.Challenge.rw_waitworks_k03_rows_refused).prog) (w := w) KX G hmg c rfl (by kernel_rfl)
    exact ⟨K, fd, WW.spLaw K, KX, hb, fun H a ns hl _ hS => ⟨a, ns, rfl, hS, hl, fun _ => rfl⟩, hF⟩

