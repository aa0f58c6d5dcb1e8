import PyProof.Rows.All
import Wide.All
import OpenK.AllK
import Wide.FinOn
import KE.KStateDown
import HandS.ForMost
import HandS.Defaults
import HandS.Property
import HandS.IsInst
import HandS.Star
import HandS.Evl
import HandS.Steps
import HandS.More
import HandS.Head0
import HandS.Head1
import HandS.Head2
import HandS.HeadEnd
import HandS.HeadHook1
import HandS.HeadHook2
import HandS.HeadHook3
import HandS.HeadHook4
import HandS.HeadNt
import KE.KCallOwn
import HandS.Text
import HandS.ExcInit
import HandS.ExcField
import HandS.ExcIs
import HandS.ExcSuper
import KE.KExcSuper
import KE.KSuper
import HandS.ExcOwn
import KE.KExcIs
import HandS.Style
import HandS.SortInts
import HandS.ClsMeth
import HandS.SetFor
import HandS.Deep
import HandS.TryMany
import PyProof.Rows.FactsExc_KeyError
import HandS.Iter
import HandS.Strs
import HandS.SortRule
import KE.DatumOrd
import PyProof.Rows.StrMeet
import HandS.FStr
import HandS.DictComp
import HandS.MakeKwOnly
import HandS.ExcValue
import HandS.TupAny
import PyProof.ReprLen
import PyProof.ReprRoads
import PySem.Challenge.RW_waitworks_k01_errors_and_what_they_keep
set_option Elab.async false
set_option linter.all false
set_option maxRecDepth 100000
set_option maxHeartbeats 4000000
namespace WW
open PySem PySem.Spec PyProof.Rows L2

/-! ### defs of the module by name -/
structure FnAt (P : Program) (w : World) (K : PySem.W.Frag) (mg : Str → Option Value) (base : Heap) (CX : CXT) (k : Nat) (x : Str) (ps : List Str) (sp : Sp) : Prop where
  ex : ∃ fd, FnOk P w K mg base CX k (He.ga K x) fd ps sp ∧ Binds K fd ps []
  kp : PySem.W.keepIn K (.ref (He.ga K x)) = true
  g : mg x = some (.ref (He.ga K x))
section
variable {X : Cx} {CX : CXT} {k j : Nat} {x : Str} {ps : List Str} {sp : Sp} {e : Expr} {es : List Expr} {t : TA} {p pos : Pos}
theorem pe_fn (F : FnAt X.prog X.w X.K X.mg X.base CX0 k x ps sp) (hr : Room j X.A) (hg : Gl X x) (ha : PA X (e :: es) t) (hk : k ≤ j := by decide)
    (hdb : (x == ("__debug__" : Str)) = false := by decide) (he : starEach (e :: es) X.env = (false, eval e X.env) :: starEach es X.env := by rfl) (hpl : (backTo pos (starEach es X.env)).any (·.1) = false := by rfl) :
    PE X (.Call (.Name x p) (e :: es) [] pos) (tCall sp [] E0 t) := by
  obtain ⟨fd, F1, b⟩ := F.ex
  exact pe_call F1 (hr.mono hk) hg F.g F.kp b .nil pass0 ha hdb he hpl
theorem pe_fn0 (F : FnAt X.prog X.w X.K X.mg X.base CX0 k x ps sp) (hr : Room j X.A) (hg : Gl X x) (hk : k ≤ j := by decide)
    (hdb : (x == ("__debug__" : Str)) = false := by decide) :
    PE X (.Call (.Name x p) [] [] pos) (tCall sp [] E0 tNil) := by
  obtain ⟨fd, F1, b⟩ := F.ex
  exact pe_call0 F1 (hr.mono hk) hg F.g F.kp b .nil pass0 hdb
end
/-! ### lists or tuples -/
def Sq (K : PySem.W.Frag) (H : Hp) (a : Addr) (xs : List V) : Prop := SqL K H a xs ∨ SqT K H a xs
theorem Sq.ex {K : PySem.W.Frag} {H H' : Hp} {a : Addr} {xs : List V} (e : Same H H') (h : Sq K H a xs) : Sq K H' a xs := by
  rcases h with h | h
  · exact .inl (Evl.ex_l e h)
  · exact .inr (Evl.ex_t e h)
theorem Sq.l {K : PySem.W.Frag} {H : Hp} {a : Addr} {xs : List V} (h : H a = some (.lst xs)) : Sq K H a xs := .inl (Evl.sq_of h)
theorem Sq.t {K : PySem.W.Frag} {H : Hp} {a : Addr} {xs : List V} (h : H a = some (.tup xs)) : Sq K H a xs := .inr (Evl.st_of h)
def rIxQ (K : PySem.W.Frag) : R2 := fun x y H Q => ∃ p xs i v, x = .ref p ∧ y = .int i ∧ Sq K H p xs ∧ atI xs i = some v ∧ Q v H
section
variable {X : Cx}
theorem ix_sq : IxR X (rIxQ X.K) := by
  intro value slice pins s σ H x y v u Q I rx ry h hs
  obtain ⟨p, xs, i, z, ex, ey, hq | hq, he, q⟩ := h
  · exact ix_list value slice pins s σ H x y v u Q I rx ry ⟨p, xs, i, z, ex, ey, hq, he, q⟩ hs
  · exact ix_tup value slice pins s σ H x y v u Q I rx ry ⟨p, xs, i, z, ex, ey, hq, he, q⟩ hs
/-- for .. in a list or a tuple -/
def iSeq (K : PySem.W.Frag) (tl : TE) : TI := fun σ H R => tl σ H fun x H1 => ∃ a, x = .ref a ∧ (((∃ xs, SqL K H1 a xs) ∧ R (Itl K a) H1) ∨ ((∃ xs, SqT K H1 a xs) ∧ R (Itt K a) H1))
theorem pi_seq {tg l : Expr} {tl : TE} (hl : PE X l tl) : PI X tg l (iSeq X.K tl) := by
  refine ⟨fun pins s0 σ H R I0 h0 => thn (hl.run pins s0 σ H _ I0 h0) fun v s ⟨x, Hx, I, rx, a, ex, qa⟩ => ?_⟩
  subst ex
  cases rx
  have sz : ∀ b ∈ [s.heap.objs.size], FpOk X pins Hx b := fun b hb => by
    rw [List.mem_singleton.mp hb]
    exact I.fpOk (Nat.le_refl _) (I.hok.fresh (Nat.le_refl _))
  rcases qa with ⟨⟨xs, hq⟩, qa⟩ | ⟨⟨xs, hq⟩, qa⟩
  · obtain ⟨its, _, pl, _⟩ := I.list hq
    exact wpAny_pyIter_list pl.isList ⟨_, [s.heap.objs.size], _, _, Hx, rfl, I.kept (t' := s.toks) fun b o eo => Heap.get?_push_of_some _ eo, turn_list a _, ⟨_, Heap.get?_push_size _ rfl, rfl, rfl⟩, sz, qa⟩
  · obtain ⟨its, _, pl, _⟩ := I.tuple hq
    exact wpAny_pyIter_tuple (show s.heap.IsTuple a its.toArray from pl) ⟨_, [s.heap.objs.size], _, _, Hx, rfl, I.kept (t' := s.toks) fun b o eo => Heap.get?_push_of_some _ eo, turn_tuple a _, ⟨_, Heap.get?_push_size _ rfl, rfl, rfl⟩, sz, qa⟩
end
theorem at_toNat {α : Type} {xs : List α} {d : Int} (h0 : 0 ≤ d) (h : d.toNat < xs.length) : atI xs d = some xs[d.toNat] := by
  have e : d = (d.toNat : Int) := by omega
  have q : atI xs (d.toNat : Int) = some xs[d.toNat] := atI_nat (List.getElem?_eq_getElem h)
  rw [← e] at q
  exact q
/-! ### a tuple's whole slice is the tuple -/
section
variable {prog : Program} {w : World} {A : Around} {E : Value → Shared → Prop} {s : Shared}
theorem tup_all {a c : Addr} {its : Array Value} {u1 u2 : Value} {lo hi : Option Int} {R : Value → Shared → Prop} (hT : IsTup s.heap a its) (hc : s.heap.IsSliceOf c u1 u2 .none) (p1 : IsPart u1 lo) (p2 : IsPart u2 hi)
    (hall : HT.sIx its.size 0 lo = 0 ∧ HT.sIx its.size its.size hi = its.size) (q : R (.ref a) s) : wpAny (model prog w) A (getItem (.ref a) (.ref c)) R E s := by
  obtain ⟨oc, e1, e2, e3⟩ := id hc
  have tc : s.TypeIs (.ref c) "slice" := ⟨oc, e1, e2⟩
  unfold getItem
  try with_reducible refine wpAny_holding ?_
  first | (refine wpAny_bind (wpAny_pure ?_)) | skip
  refine wpAny_bind (wpAny_sequenceKey hT.typeIs (by decide) ?_)
  refine wpAny_bind (wpAny_callSpecial?_slot (name := Str.ofString "__getitem__") hT.typeIs slot_tuple_getitem
    (wpAny_call_entry slot_tuple_getitem hT.typeIs PyProof.Rows.entry_tuple_getitem ?_ (PyProof.Rows.args_tuple_getitem _ _)))
  show wpAny _ _ (Builtin.Tuple.tupleItemsOf (.ref a) >>= _) _ _ s
  refine wpAny_bind (tupleItemsOf_ hT (wpAny_bind (wpAny_typeOf tc ?_)))
  rw [if_pos (by decide)]
  refine wpAny_bind (HT.sliceApplied_gen hc p1 p2 ?_)
  have hy : (((HT.sIx its.size 0 lo : Nat) : Int) == 0 && (1 : Int) == 1 && (HT.sIx its.size its.size hi - HT.sIx its.size 0 lo) == its.size) = true := by
    rw [hall.1, hall.2]
    simp
  show wpAny _ _ (if (((HT.sIx its.size 0 lo : Nat) : Int) == 0 && (1 : Int) == 1 && (HT.sIx its.size its.size hi - HT.sIx its.size 0 lo) == its.size) = true then _ else _) _ _ s
  rw [if_pos hy]
  unfold Builtin.Tuple.tupleIsExact
  refine wpAny_bind (wpAny_bind (wpAny_typeOf hT.typeIs (wpAny_pure ?_)))
  rw [if_pos (by decide)]
  refine wpAny_bind (wpAny_rule ?_)
  exact wpAny_pure ⟨_, rfl, wpAny_pure q⟩
end
/-! ### rules with the written part named -/
def rSlW (K : PySem.W.Frag) : V → Option Int → Option Int → Hp → VK → Prop := fun x lo hi H Q => ∃ a xs, x = .ref a ∧ SqT K H a xs ∧
  (HT.sIx xs.length 0 lo = 0 ∧ HT.sIx xs.length xs.length hi = xs.length) ∧ Q (.ref a) H
def rSlQ (K : PySem.W.Frag) : V → Option Int → Option Int → Hp → VK → Prop := fun x lo hi H Q => rSlL K x lo hi H Q ∨ rSlT K x lo hi H Q ∨ rSlW K x lo hi H Q
def rLenQ (K : PySem.W.Frag) : List V → Hp → VK → Prop := fun xs H Q => ∃ p ys, xs = [.ref p] ∧ Sq K H p ys ∧ Q (.int ys.length) H
def rListQ (K : PySem.W.Frag) : List V → Hp → VK → Prop := fun xs H Q => ∃ p ys, xs = [.ref p] ∧ Sq K H p ys ∧ ∀ l, H l = none → Q (.ref l) (upd H l (.lst ys))
inductive rTupQ (K : PySem.W.Frag) (xs : List V) (H : Hp) (Q : VK) : Prop
  | mk (h : ∃ p ys, xs = [.ref p] ∧ ((SqL K H p ys ∧ ∀ l, H l = none → Q (.ref l) (upd H l (.tup ys))) ∨ (SqT K H p ys ∧ Q (.ref p) H))) : rTupQ K xs H Q
section
variable {X : Cx}
theorem sl_whole : SlR X (rSlW X.K) := by
  intro pins s σ H x v vl vu lo hi sl Q I rx hs pl pu h
  obtain ⟨a, xs, rfl, hx, hw, q⟩ := h
  cases rx
  obtain ⟨its, r, hT, hz⟩ := I.tuple hx
  have hn : its.toArray.size = xs.length := by rw [List.size_toArray]; exact r.length.symm
  refine ⟨"tuple", _, slot_tuple_getitem.lookup, hT.typeIs, ?_⟩
  exact tup_all hT hs pl pu (by rw [hn]; exact hw) ⟨.ref a, H, I, rfl, q⟩
variable (K : PySem.W.Frag)
theorem ix_sqK (h : X.K = K := by rfl) : IxR X (rIxQ K) := by
  subst h
  exact ix_sq
theorem sl_sqK (h : X.K = K := by rfl) : SlR X (rSlQ K) := by
  subst h
  exact sl_list.or (sl_tup.or sl_whole)
theorem pi_seqK {tg l : Expr} {tl : TE} (hl : PE X l tl) (h : X.K = K := by rfl) : PI X tg l (iSeq K tl) := by
  subst h
  exact pi_seq hl
theorem call_lenK (h : X.K = K := by rfl) : CallR X (.builtin "len") (rLenQ K) := by
  subst h
  exact call_len_seq
theorem call_listK (h : X.K = K := by rfl) : CallR X (.type "list") (rListQ K) := by
  subst h
  exact call_list_of
theorem call_tupleK (h : X.K = K := by rfl) : CallR X (.type "tuple") (rTupQ K) := by
  subst h
  intro pins s σ H xs us Q I r ⟨q⟩
  exact call_tuple_of pins s σ H xs us Q I r q
theorem call_isiK1 (h : X.K = K := by rfl) : CallR X (.builtin "isinstance") (rIsi K) := by
  subst h
  exact call_isi
theorem call_isiTK (h : X.K = K := by rfl) : CallR X (.builtin "isinstance") (rIsiT K) := by
  subst h
  exact call_isiT
theorem cr_anyK (hc : X.calm = true := by rfl) (h : X.K = K := by rfl) : CallR X (.builtin "any") (rAny K) := by
  subst h
  exact cr_any hc
theorem cr_allK (hc : X.calm = true := by rfl) (h : X.K = K := by rfl) : CallR X (.builtin "all") (rAll K) := by
  subst h
  exact cr_all hc
theorem cr_maxK (hc : X.calm = true := by rfl) (h : X.K = K := by rfl) : CallR X (.builtin "max") (rMax K) := by
  subst h
  exact cr_max hc
theorem pa_starK {e : Expr} {es : List Expr} {p : Pos} {te : TE} {t : TA} (he : PE X e te) (hr : PA X es t) (h : X.K = K := by rfl) (hs : starEach (.Starred e p :: es) X.env = (true, eval e X.env) :: starEach es X.env := by rfl) : PA X (.Starred e p :: es) (StX.tStar K te t) := by
  subst h
  exact StX.pa_star he hr hs
theorem pe_fldK {e : Expr} {f : Str} {pos : Pos} {ta : TE} (he : PE X e ta) (hb : attributeBase e f X.env (eval e X.env) = eval e X.env) (h : X.K = K := by rfl) : PE X (.Attribute e f pos) (tFld K ta f) := by
  subst h
  exact pe_fld he hb
end
/-- o.f = .., as a target -/
def gFld (K : PySem.W.Frag) (ta : TE) (f : Str) : TG := fun v σ H Q => ta σ H fun x H1 => ∃ a C dx fs, x = .ref a ∧ H1 a = some (.ins C dx fs) ∧ Cls K C ∧ NoAttr K C f ∧ fs.length < 1000 ∧ Q σ (upd H1 a (.ins C dx (putF f v fs)))
theorem pg_fld {X : Cx} (K : PySem.W.Frag) {o : Expr} {f : Str} {pos : Pos} {ta : TE} (ho : PE X o ta) (hK : X.K = K := by rfl) : PG X (.Attribute o f pos) (gFld K ta f) := by
  subst hK
  refine ⟨fun pins s σ H v u Q I r h => ?_⟩
  rw [assign_Attribute]
  refine wpAny_bind (wpAny_holding (thn (ho.run pins s σ H _ I h) fun ov s1 ⟨x, H1, I1, r1, a, C, dx, fs, ex, ea, c, n, l, q⟩ => ?_))
  subst ex
  cases r1
  refine wpAny_bind (wpAny_standAt (wpAny_bind (wpAny_holding (setattr_ok I1 ea c n l r fun s2 I2 => ?_))))
  exact wpAny_release ⟨σ, _, I2, q⟩
theorem pg_tupK {X : Cx} (K : PySem.W.Frag) {es : List Expr} {k : Nat} {t : TGs} {n : Nat} {pos : Pos} (hc : X.calm = true) (h : PGs X es t)
    (hn : (assignEach es X.env).length = n := by rfl) (hst : (assignEach es X.env).findIdx? (·.1) = none := by rfl) (hK : X.K = K := by rfl) : PG X (.Tuple es k pos) (gTup K n t) := by
  subst hK
  exact pg_tup hc h hn hst
/-! ### making an object -/
structure MkAt (P : Program) (w : World) (K : PySem.W.Frag) (mg : Str → Option Value) (base : Heap) (CX : CXT) (k : Nat) (x : Str) (ps : List Str) (sp : Sp) (dvs : List V) : Prop where
  ex : ∃ f fd ds, Mk K (He.ga K x) f ∧ FnOk P w K mg base CX k f fd ps sp ∧ Vals dvs ds ∧ Binds K fd ps ds
  g : mg x = some (.ref (He.ga K x))
section
variable {X : Cx} {CX : CXT} {k j : Nat} {x : Str} {ps : List Str} {sp : Sp} {e : Expr} {es : List Expr} {t : TA} {p pos : Pos} {dvs : List V}
theorem pe_mkr (F : MkAt X.prog X.w X.K X.mg X.base CX0 k x ps sp dvs) (hr : Room j X.A) (hg : Gl X x) (ha : PA X (e :: es) t) (hk : k + 1 ≤ j := by decide)
    (hdb : (x == ("__debug__" : Str)) = false := by decide) (he : starEach (e :: es) X.env = (false, eval e X.env) :: starEach es X.env := by rfl) (hpl : (backTo pos (starEach es X.env)).any (·.1) = false := by rfl) :
    PE X (.Call (.Name x p) (e :: es) [] pos) (tMake (He.ga X.K x) sp dvs E0 t) := by
  obtain ⟨f, fd, ds, M, F1, v, b⟩ := F.ex
  exact pe_make M F1 (hr.mono hk) hg F.g b v pass0 ha hdb he hpl
end
/-! ### methods, properties -/
structure MthAt (P : Program) (w : World) (K : PySem.W.Frag) (mg : Str → Option Value) (base : Heap) (CX : CXT) (k : Nat) (C : Addr) (m : Str) (ps : List Str) (sp : Sp) : Prop where
  ex : ∃ f fd, Meth K C m f ∧ FnOk P w K mg base CX k f fd ps sp ∧ Binds K fd ps []
structure PrpAt (P : Program) (w : World) (K : PySem.W.Frag) (mg : Str → Option Value) (base : Heap) (CX : CXT) (k : Nat) (C : Addr) (m : Str) (ps : List Str) (sp : Sp) : Prop where
  ex : ∃ pr f fd, PropOf K C m pr f ∧ FnOk P w K mg base CX k f fd ps sp ∧ Binds K fd ps []
section
variable {X : Cx} {CX : CXT} {k j : Nat} {C : Addr} {m : Str} {ps : List Str} {sp : Sp} {o e : Expr} {es : List Expr} {ta : TE} {t : TA} {apos pos : Pos}
theorem pe_mth {pl : Sem Bool} (c : Cls X.K C) (F : MthAt X.prog X.w X.K X.mg X.base CX0 k C m ps sp) (hr : Room j X.A) (ho : PE X o ta) (ha : PA X (e :: es) t) (hk : k ≤ j := by decide)
    (hst : starEach (e :: es) X.env = (false, eval e X.env) :: starEach es X.env := by rfl) (hpl : (backTo pos (starEach es X.env)).any (·.1) = false := by rfl)
    (ht : eval (.Call (.Attribute o m apos) (e :: es) [] pos) X.env = (do let ov ← eval o X.env; standAt apos.atName; let (f, first) ← holding [ov] (getMethod ov m pl); callWith pos f first (backTo pos (starEach (e :: es) X.env)) (backToKw pos (keywordEach [] X.env))) := by rfl) : PE X (.Call (.Attribute o m apos) (e :: es) [] pos) (tMeth C m sp [] E0 ta t) := by
  obtain ⟨f, fd, M, F1, b⟩ := F.ex
  exact pe_meth ho c M F1 (hr.mono hk) b .nil pass0 ha hst hpl ht
theorem pe_mth0 {pl : Sem Bool} (c : Cls X.K C) (F : MthAt X.prog X.w X.K X.mg X.base CX0 k C m ps sp) (hr : Room j X.A) (ho : PE X o ta) (hk : k ≤ j := by decide)
    (ht : eval (.Call (.Attribute o m apos) [] [] pos) X.env = (do let ov ← eval o X.env; standAt apos.atName; let (f, first) ← holding [ov] (getMethod ov m pl); callWith pos f first (backTo pos (starEach [] X.env)) (backToKw pos (keywordEach [] X.env))) := by rfl) : PE X (.Call (.Attribute o m apos) [] [] pos) (tMeth C m sp [] E0 ta tNil) := by
  obtain ⟨f, fd, M, F1, b⟩ := F.ex
  exact pe_meth0 ho c M F1 (hr.mono hk) b .nil pass0 ht
theorem pe_prp (c : Cls X.K C) (F : PrpAt X.prog X.w X.K X.mg X.base CX0 k C m ps sp) (hr : Room j X.A) (ho : PE X o ta) (hk : k + 1 ≤ j := by decide)
    (hab : attributeBase o m X.env (eval o X.env) = eval o X.env := by rfl) : PE X (.Attribute o m pos) (tProp C sp [] E0 ta) := by
  obtain ⟨pr, f, fd, M, F1, b⟩ := F.ex
  exact pe_prop ho c M F1 (hr.mono hk) b .nil pass0 hab
theorem op_neDK (K : PySem.W.Frag) (hr : Room j X.A) (h : X.K = K := by rfl) : OpR X (compareOp .NotEq) (rNeD K) := by
  subst h
  exact op_neD (by have := hr.un; omega)
theorem op_eqDK (K : PySem.W.Frag) (hr : Room j X.A) (h : X.K = K := by rfl) : OpR X (compareOp .Eq) (rEqD K) := by
  subst h
  exact op_eqD (by have := hr.un; omega)
/-- repr of an integer, of nothing -/
inductive rRepr (xs : List V) (H : Hp) (Q : VK) : Prop
  | int (i : Int) (h : xs = [.int i]) (hz : i.natAbs.log2 < 1920) (q : Q (.str (toString i)) H) : rRepr xs H Q
  | non (h : xs = [.non]) (q : Q (.str "None") H) : rRepr xs H Q
theorem call_repr : CallR X (.builtin "repr") rRepr := by
  intro pins s σ H xs us Q I r h
  cases h with
  | int i h hz q =>
    subst h
    obtain ⟨u, rfl, t, rfl⟩ := vals1 r
    exact PySem.P.repr_of_int hz ⟨.str _, H, I.tok _, ⟨_, rfl⟩, q⟩
  | non h q =>
    subst h
    obtain ⟨u, rfl, rfl⟩ := vals1 r
    exact PySem.P.repr_of_none ⟨.str _, H, I.tok _, ⟨_, rfl⟩, q⟩
end
/-- a slice of a list or a tuple: some sequence of these items -/
theorem slq {K : PySem.W.Frag} {H : Hp} {a : Addr} {xs : List V} {lo hi : Option Int} {Q : VK} (h : Sq K H a xs) (k : ∀ p H', Same H H' → Sq K H' p (cutV xs lo hi) → Q (.ref p) H') : rSlQ K (.ref a) lo hi H Q := by
  have new : ∀ {o : HO} {p : Addr}, H p = none → Same H (upd H p o) := fun hp b u hb => (upd_ne (ne_of_none hb hp)).trans hb
  rcases h with h | h
  · exact .inl ⟨a, xs, rfl, h, fun p hp => k p _ (new hp) (.l upd_same)⟩
  · by_cases hw : HT.sIx xs.length 0 lo = 0 ∧ HT.sIx xs.length xs.length hi = xs.length
    · refine .inr (.inr ⟨a, xs, rfl, h, hw, k a H (Same.refl H) ?_⟩)
      have e : cutV xs lo hi = xs := by
        unfold cutV
        rw [hw.1, hw.2]
        simp
      rw [e]
      exact .inr h
    · exact .inr (.inl ⟨a, xs, rfl, h, hw, fun p hp => k p _ (new hp) (.t upd_same)⟩)
/-! ### the box of draws -/
def bx (x y z : Int) : HO := .lst [.int x, .int y, .int z]
def Box (H : Hp) (b : Addr) : Prop := ∃ x y z : Int, H b = some (bx x y z)
/-- take(box, many): a number below many; the box is another one -/
def spTake : Sp := fun vs H Q _ => ∃ (b : Addr) (m : Int), vs = [.ref b, .int m] ∧ Box H b ∧ 0 < m ∧ m < 1073741824 ∧
  ∀ x y z d : Int, 0 ≤ d → d < m → Q (.int d) (upd H b (bx x y z))
/-- pick(box, some) -/
def spPick (K : PySem.W.Frag) : Sp := fun vs H Q _ => ∃ (b l : Addr) (xs : List V), vs = [.ref b, .ref l] ∧ Box H b ∧ Sq K H l xs ∧ l ≠ b ∧ 0 < xs.length ∧ xs.length < 1000 ∧
  ∀ (x y z : Int) (v : V), v ∈ xs → Q v (upd H b (bx x y z))
theorem Sq.upd {K : PySem.W.Frag} {H : Hp} {a b : Addr} {o : HO} {xs : List V} (hn : a ≠ b) (h : Sq K H a xs) : Sq K (upd H b o) a xs := by
  rcases h with h | h
  · rcases h with h | h
    · refine .inl (.inl ?_)
      rcases h with h | ⟨u, h⟩
      · exact .inl ((upd_ne hn).trans h)
      · exact .inr ⟨u, (upd_ne hn).trans h⟩
    · exact .inl (.inr h)
  · rcases h with h | h
    · refine .inr (.inl ?_)
      rcases h with h | ⟨u, h⟩
      · exact .inl ((upd_ne hn).trans h)
      · exact .inr ⟨u, (upd_ne hn).trans h⟩
    · exact .inr (.inr h)

/-! ### values -/
def isIntV : V → Bool
  | .int _ => true
  | _ => false
/-- what isinstance tells of a value: whether it is an integer, whether it is a list or a tuple -/
def HasT (K : PySem.W.Frag) (H : Hp) (x : V) (sq : Bool) : Prop := ∃ (t : Value) (b1 b2 : Bool), TyX K H x t ∧ PySem.W.kitOne K t (.type "int") = some b1 ∧ PySem.W.kitOne K t (.type "bool") = some b2 ∧ (b1 && !b2) = isIntV x ∧
  PySem.W.kitAny K t [.type "list", .type "tuple"] = some sq
section
variable {K : PySem.W.Frag} {H : Hp}
theorem hasT_non : HasT K H .non false := ⟨_, false, false, .base .non, kit_ty (by decide +kernel), kit_ty (by decide +kernel), rfl, by rw [kitAny_cons (kit_ty (b := "list") (r := false) (by decide +kernel)) (fun _ => kitAny_cons (kit_ty (b := "tuple") (r := false) (by decide +kernel)) (fun _ => rfl) (fun z => nomatch z)) (fun z => nomatch z)]⟩
theorem hasT_bl (b : Bool) : HasT K H (.bl b) false := ⟨_, true, true, .base (.bl b), kit_ty (by decide +kernel), kit_ty (by decide +kernel), rfl, by rw [kitAny_cons (kit_ty (b := "list") (r := false) (by decide +kernel)) (fun _ => kitAny_cons (kit_ty (b := "tuple") (r := false) (by decide +kernel)) (fun _ => rfl) (fun z => nomatch z)) (fun z => nomatch z)]⟩
theorem hasT_int (i : Int) : HasT K H (.int i) false := ⟨_, true, false, .base (.int i), kit_ty (by decide +kernel), kit_ty (by decide +kernel), rfl, by rw [kitAny_cons (kit_ty (b := "list") (r := false) (by decide +kernel)) (fun _ => kitAny_cons (kit_ty (b := "tuple") (r := false) (by decide +kernel)) (fun _ => rfl) (fun z => nomatch z)) (fun z => nomatch z)]⟩
theorem hasT_str (z : Str) : HasT K H (.str z) false := ⟨_, false, false, .base (.str z), kit_ty (by decide +kernel), kit_ty (by decide +kernel), rfl, by rw [kitAny_cons (kit_ty (b := "list") (r := false) (by decide +kernel)) (fun _ => kitAny_cons (kit_ty (b := "tuple") (r := false) (by decide +kernel)) (fun _ => rfl) (fun z => nomatch z)) (fun z => nomatch z)]⟩
theorem hasT_l {x : V} (h : TyX K H x (.type "list")) (hx : isIntV x = false) : HasT K H x true := ⟨_, false, false, h, kit_ty (by decide +kernel), kit_ty (by decide +kernel), hx.symm, by rw [kitAny_cons (kit_ty (b := "list") (r := true) (by decide +kernel)) (fun z => nomatch z) (fun z => rfl)]⟩
theorem hasT_t {x : V} (h : TyX K H x (.type "tuple")) (hx : isIntV x = false) : HasT K H x true := ⟨_, false, false, h, kit_ty (by decide +kernel), kit_ty (by decide +kernel), hx.symm, by rw [kitAny_cons (kit_ty (b := "list") (r := false) (by decide +kernel)) (fun _ => kitAny_cons (kit_ty (b := "tuple") (r := true) (by decide +kernel)) (fun z => nomatch z) (fun z => rfl)) (fun z => nomatch z)]⟩
theorem Sq.hasT {a : Addr} {xs : List V} (h : Sq K H a xs) : HasT K H (.ref a) true := by
  rcases h with h | h
  · refine hasT_l ?_ rfl
    rcases h with (h | ⟨o, h⟩) | ⟨o, its, n, h1, h2, _⟩
    · exact .base (.lst h)
    · exact .base (.frz h)
    · exact .kList h1 h2
  · refine hasT_t ?_ rfl
    rcases h with (h | ⟨o, h⟩) | ⟨o, its, n, h1, h2, _⟩
    · exact .base (.tup h)
    · exact .fTuple h
    · exact .kTuple h1 h2
end
theorem tyx_same {K : PySem.W.Frag} {H H' : Hp} {x : V} {t : Value} (e : Same H H') (h : TyX K H x t) : TyX K H' x t := by
  cases h with
  | base b =>
    cases b with
    | non => exact .base .non
    | bl y => exact .base (.bl y)
    | int i => exact .base (.int i)
    | str y => exact .base (.str y)
    | flt y => exact .base (.flt y)
    | lst ea => exact .base (.lst (e _ _ ea))
    | frz ea => exact .base (.frz (e _ _ ea))
    | tup ea => exact .base (.tup (e _ _ ea))
    | dK ea => exact .base (.dK (e _ _ ea))
    | dT ea => exact .base (.dT (e _ _ ea))
    | ins ea cl ha hn htk hm => exact .base (.ins (e _ _ ea) cl ha hn htk hm)
  | byt y => exact .byt y
  | set ea => exact .set (e _ _ ea)
  | kList a c => exact .kList a c
  | kTuple a c => exact .kTuple a c
  | kDict a c => exact .kDict a c
  | fTuple ea => exact .fTuple (e _ _ ea)
  | fDict ea => exact .fDict (e _ _ ea)
theorem HasT.ex {K : PySem.W.Frag} {H H' : Hp} {x : V} {sq : Bool} (e : Same H H') (h : HasT K H x sq) : HasT K H' x sq := by
  obtain ⟨t, b1, b2, ty, r⟩ := h
  exact ⟨t, b1, b2, tyx_same e ty, r⟩
/-! ### readings opened one step -/
section
variable {σ : L2.St} {H : Hp} {Q : VK} {D : Ends} {te : TE} {t : TA} {tu tz : TS} {g : TG} {r : List V → Hp → VK → Prop}
theorem q_seq (h : tu { D with nx := tz D } σ H) : tSeq tu tz D σ H := h
theorem q_asg (h : te σ H (fun x H1 => g x σ H1 D.nx)) : tAsg te g D σ H := h
theorem q_if {tc : TT} (h : tc σ H (fun c H1 => if c = true then tu D σ H1 else tz D σ H1)) : tIfS tc tu tz D σ H := h
theorem q_name {i : Nat} {v : V} {R : L2.St → Hp → Prop} (h : R (σ.set i (some v)) H) : gName i v σ H R := h
theorem q_ret (h : te σ H D.rt) : tRet te D σ H := h
theorem q_cb (h : t σ H (fun vs H1 => r vs H1 Q)) : tCB r t σ H Q := h
theorem q_one {R : List V → Hp → Prop} (h : te σ H (fun x H1 => R [x] H1)) : tCons te tNil σ H R := h
theorem q_cons {R : List V → Hp → Prop} (h : te σ H (fun x H1 => t σ H1 fun xs H2 => R (x :: xs) H2)) : tCons te t σ H R := h
theorem q_call {sp : Sp} {dvs : List V} {E : XK} (h : t σ H (fun vs H1 => sp (vs ++ dvs) H1 Q E)) : tCall sp dvs E t σ H Q := h
end
/-! ### comprehensions -/
theorem wipe1 {σ : L2.St} {j : Nat} {x : Option V} : wipe ((wipe σ [j]).set j x) [j] = wipe σ [j] := by
  show ((σ.set j none).set j x).set j none = σ.set j none
  rw [List.set_set, List.set_set]
theorem same_app {H H' : Hp} {D : Addr} {xs : List V} (e : Same H H') (h : H D = none) : Same H (upd H' D (.lst xs)) := fun a o ha => by
  rw [upd_ne (ne_of_none ha h)]
  exact e a o ha
/-- [e for x in xs], e a value of x; xs evaluated on the way -/
theorem lc_sqG {K : PySem.W.Frag} {σ : L2.St} {H : Hp} {Q : VK} {tl te : TE} {j : Nat} {xs : List V} (φ : V → V) (hv : ∀ R : VK, (∀ a H', Same H H' → Sq K H' a xs → R (.ref a) H') → tl σ H R) (hl : xs.length ≤ 100000)
    (he : ∀ x ∈ xs, ∀ H1, Same H H1 → ∀ R : VK, (∀ H2, Same H1 H2 → R (φ x) H2) → te ((wipe σ [j]).set j (some x)) H1 R)
    (k : ∀ D H', Same H H' → H D = none → H' D = some (.lst (xs.map φ)) → Q (.ref D) H') : tLc (iSeq K tl) (gName j) tYes te [j] σ H Q := by
  refine hv _ fun a H0 s0 hq => ⟨a, rfl, ?_⟩
  have turn : ∀ (D : Addr), H0 D = none → ∀ i x Hc, xs[i]? = some x → (Same H0 Hc ∧ Hc D = some (.lst ((xs.take i).map φ))) → gName j x (wipe σ [j]) Hc fun σ2 H2 => wipe σ2 [j] = wipe σ [j] ∧ tYes σ2 H2 fun b H3 =>
      if b = true then te σ2 H3 fun y H4 => ∃ acc, H4 D = some (.lst acc) ∧ acc.length < sizeLine ∧ (Same H0 (upd H4 D (.lst (acc ++ [y]))) ∧ (upd H4 D (.lst (acc ++ [y]))) D = some (.lst ((xs.take (i + 1)).map φ))) else (Same H0 H3 ∧ H3 D = some (.lst ((xs.take (i + 1)).map φ))) := by
    intro D hD i x Hc hx ⟨sm, hd⟩
    refine ⟨wipe1, ?_⟩
    refine he x (List.mem_of_getElem? hx) Hc (s0.trans sm) _ fun H2 s2 => ⟨_, s2 _ _ hd, ?_, same_app (sm.trans s2) hD, ?_⟩
    · rw [List.length_map, List.length_take]
      exact Nat.lt_of_le_of_lt (Nat.le_trans (Nat.min_le_right _ _) hl) (by decide)
    · rw [upd_same, List.take_add_one, hx, List.map_append]
      rfl
  rcases hq with hq | hq
  · refine .inl ⟨⟨xs, hq⟩, fun D hD => ?_⟩
    refine lc_list (K := K) (a := a) (xs := xs) (fun i Hc => Same H0 Hc ∧ Hc D = some (.lst ((xs.take i).map φ))) ⟨same_app (Same.refl H0) hD, upd_same⟩ (fun i Hc _ p => Evl.ex_l p.1 hq) (turn D hD) fun Hc p => ?_
    rw [List.take_length] at p
    exact k D Hc (s0.trans p.1) (s0.free hD) p.2
  · refine .inr ⟨⟨xs, hq⟩, fun D hD => ?_⟩
    refine lc_tup (K := K) (a := a) (xs := xs) (fun i Hc => Same H0 Hc ∧ Hc D = some (.lst ((xs.take i).map φ))) ⟨same_app (Same.refl H0) hD, upd_same⟩ (fun i Hc _ p => Evl.ex_t p.1 hq) (turn D hD) fun Hc p => ?_
    rw [List.take_length] at p
    exact k D Hc (s0.trans p.1) (s0.free hD) p.2
theorem lc_sq {K : PySem.W.Frag} {σ : L2.St} {H : Hp} {Q : VK} {tl te : TE} {a : Addr} {j : Nat} {xs : List V} (φ : V → V) (hv : ∀ R : VK, R (.ref a) H → tl σ H R) (hq : Sq K H a xs) (hl : xs.length ≤ 100000)
    (he : ∀ x ∈ xs, ∀ H1, Same H H1 → ∀ R : VK, (∀ H2, Same H1 H2 → R (φ x) H2) → te ((wipe σ [j]).set j (some x)) H1 R)
    (k : ∀ D H', Same H H' → H D = none → H' D = some (.lst (xs.map φ)) → Q (.ref D) H') : tLc (iSeq K tl) (gName j) tYes te [j] σ H Q :=
  lc_sqG φ (fun R r => hv R (r a H (Same.refl H) hq)) hl he k
/-- [e for x in range(..)] -/
theorem lc_rg {σ : L2.St} {H : Hp} {Qd : Hp → Prop} {te : TE} {j n : Nat} {lo : Int} {D : Addr} (φ : Nat → V) (hl : n ≤ 100000) (hD : H D = none)
    (he : ∀ i, i < n → ∀ H1, Same H H1 → ∀ R : VK, (∀ H2, Same H1 H2 → R (φ i) H2) → te ((wipe σ [j]).set j (some (.int (lo + i)))) H1 R)
    (k : ∀ H', Same H H' → H' D = some (.lst ((List.range n).map φ)) → Qd H') :
    ∃ W : Nat → Nat → Hp → Prop, (∃ m, W 0 m (upd H D (.lst []))) ∧ ∀ i m H, W i m H →
      ((Itr lo n).stop i H ∧ Qd H) ∨ ((Itr lo n).go i H ∧ ∃ Nx : Hp → Prop, (∀ H', Nx H' → ∃ m', m' < m ∧ W (i + 1) m' H') ∧ ∀ x H', (Itr lo n).yld i H x H' → gName j x (wipe σ [j]) H' fun σ2 H2 => wipe σ2 [j] = wipe σ [j] ∧ tYes σ2 H2 fun b H3 =>
        if b = true then te σ2 H3 fun y H4 => ∃ acc, H4 D = some (.lst acc) ∧ acc.length < sizeLine ∧ Nx (upd H4 D (.lst (acc ++ [y]))) else Nx H3) := by
  refine lc_range (fun i Hc => Same H Hc ∧ Hc D = some (.lst ((List.range i).map φ))) ⟨same_app (Same.refl H) hD, upd_same⟩ (fun i Hc hi ⟨sm, hd⟩ => ⟨wipe1, ?_⟩) fun Hc p => k Hc p.1 p.2
  refine he i hi Hc sm _ fun H2 s2 => ⟨_, s2 _ _ hd, ?_, same_app (sm.trans s2) hD, ?_⟩
  · rw [List.length_map, List.length_range]
    exact Nat.lt_of_lt_of_le (Nat.lt_of_lt_of_le hi hl) (by decide)
  · rw [upd_same, List.range_succ, List.map_append]
    rfl
/-- [e for x in range(..) if test] -/
theorem lc_rgF {σ : L2.St} {H : Hp} {Qd : Hp → Prop} {tt : TT} {te : TE} {j n : Nat} {lo : Int} {D : Addr} (p : Nat → Bool) (φ : Nat → V) (hl : n ≤ 100000) (hD : H D = none)
    (ht : ∀ i, i < n → ∀ H1, Same H H1 → ∀ R : Bool → Hp → Prop, (∀ H2, Same H1 H2 → R (p i) H2) → tt ((wipe σ [j]).set j (some (.int (lo + i)))) H1 R)
    (he : ∀ i, i < n → ∀ H1, Same H H1 → ∀ R : VK, (∀ H2, Same H1 H2 → R (φ i) H2) → te ((wipe σ [j]).set j (some (.int (lo + i)))) H1 R)
    (k : ∀ H', Same H H' → H' D = some (.lst (((List.range n).filter p).map φ)) → Qd H') :
    ∃ W : Nat → Nat → Hp → Prop, (∃ m, W 0 m (upd H D (.lst []))) ∧ ∀ i m H, W i m H →
      ((Itr lo n).stop i H ∧ Qd H) ∨ ((Itr lo n).go i H ∧ ∃ Nx : Hp → Prop, (∀ H', Nx H' → ∃ m', m' < m ∧ W (i + 1) m' H') ∧ ∀ x H', (Itr lo n).yld i H x H' → gName j x (wipe σ [j]) H' fun σ2 H2 => wipe σ2 [j] = wipe σ [j] ∧ tt σ2 H2 fun b H3 =>
        if b = true then te σ2 H3 fun y H4 => ∃ acc, H4 D = some (.lst acc) ∧ acc.length < sizeLine ∧ Nx (upd H4 D (.lst (acc ++ [y]))) else Nx H3) := by
  refine lc_range (fun i Hc => Same H Hc ∧ Hc D = some (.lst (((List.range i).filter p).map φ))) ⟨same_app (Same.refl H) hD, upd_same⟩ (fun i Hc hi ⟨sm, hd⟩ => ⟨wipe1, ?_⟩) fun Hc q => k Hc q.1 q.2
  refine ht i hi Hc sm _ fun H1 s1 => ?_
  cases hp : p i with
  | false =>
    refine ⟨sm.trans s1, ?_⟩
    rw [List.range_succ, List.filter_append, List.filter_cons, if_neg (by rw [hp]; decide), List.filter_nil, List.append_nil]
    exact s1 _ _ hd
  | true =>
    refine he i hi H1 (sm.trans s1) _ fun H2 s2 => ⟨_, s2 _ _ (s1 _ _ hd), ?_, same_app ((sm.trans s1).trans s2) hD, ?_⟩
    · rw [List.length_map]
      have e := List.length_filter_le p (List.range i)
      rw [List.length_range] at e
      exact Nat.lt_of_le_of_lt e (Nat.lt_of_lt_of_le (Nat.lt_of_lt_of_le hi hl) (by decide))
    · rw [upd_same, List.range_succ, List.filter_append, List.filter_cons, if_pos hp, List.filter_nil, List.map_append]
      rfl
/-- [x for x in xs if test] -/
theorem lc_sqF {K : PySem.W.Frag} {σ : L2.St} {H : Hp} {Q : VK} {tl te : TE} {tt : TT} {j : Nat} {xs : List V} (p : V → Bool) (hv : ∀ R : VK, (∀ a H', Same H H' → Sq K H' a xs → R (.ref a) H') → tl σ H R) (hl : xs.length ≤ 100000)
    (ht : ∀ x ∈ xs, ∀ H1, Same H H1 → ∀ R : Bool → Hp → Prop, (∀ H2, Same H1 H2 → R (p x) H2) → tt ((wipe σ [j]).set j (some x)) H1 R)
    (he : ∀ x ∈ xs, ∀ H1, Same H H1 → ∀ R : VK, (∀ H2, Same H1 H2 → R x H2) → te ((wipe σ [j]).set j (some x)) H1 R)
    (k : ∀ D H', Same H H' → H D = none → H' D = some (.lst (xs.filter p)) → Q (.ref D) H') : tLc (iSeq K tl) (gName j) tt te [j] σ H Q := by
  refine hv _ fun a H0 s0 hq => ⟨a, rfl, ?_⟩
  have turn : ∀ (D : Addr), H0 D = none → ∀ i x Hc, xs[i]? = some x → (Same H0 Hc ∧ Hc D = some (.lst ((xs.take i).filter p))) → gName j x (wipe σ [j]) Hc fun σ2 H2 => wipe σ2 [j] = wipe σ [j] ∧ tt σ2 H2 fun b H3 =>
      if b = true then te σ2 H3 fun y H4 => ∃ acc, H4 D = some (.lst acc) ∧ acc.length < sizeLine ∧ (Same H0 (upd H4 D (.lst (acc ++ [y]))) ∧ (upd H4 D (.lst (acc ++ [y]))) D = some (.lst ((xs.take (i + 1)).filter p))) else (Same H0 H3 ∧ H3 D = some (.lst ((xs.take (i + 1)).filter p))) := by
    intro D hD i x Hc hx ⟨sm, hd⟩
    refine ⟨wipe1, ?_⟩
    have mx := List.mem_of_getElem? hx
    refine ht x mx Hc (s0.trans sm) _ fun H1 s1 => ?_
    cases hp : p x with
    | false =>
      refine ⟨sm.trans s1, ?_⟩
      rw [List.take_add_one, hx, List.filter_append]
      show H1 D = some (.lst ((xs.take i).filter p ++ [x].filter p))
      rw [List.filter_cons, if_neg (by rw [hp]; decide), List.filter_nil, List.append_nil]
      exact s1 _ _ hd
    | true =>
      refine he x mx H1 (s0.trans (sm.trans s1)) _ fun H2 s2 => ⟨_, s2 _ _ (s1 _ _ hd), ?_, same_app ((sm.trans s1).trans s2) hD, ?_⟩
      · have e := List.length_filter_le p (xs.take i)
        rw [List.length_take] at e
        exact Nat.lt_of_le_of_lt (Nat.le_trans e (Nat.le_trans (Nat.min_le_right _ _) hl)) (by decide)
      · rw [upd_same, List.take_add_one, hx, List.filter_append]
        show some (HO.lst ((xs.take i).filter p ++ [x])) = some (.lst ((xs.take i).filter p ++ [x].filter p))
        rw [List.filter_cons, if_pos hp, List.filter_nil]
  rcases hq with hq | hq
  · refine .inl ⟨⟨xs, hq⟩, fun D hD => ?_⟩
    refine lc_list (K := K) (a := a) (xs := xs) (fun i Hc => Same H0 Hc ∧ Hc D = some (.lst ((xs.take i).filter p))) ⟨same_app (Same.refl H0) hD, upd_same⟩ (fun i Hc _ r => Evl.ex_l r.1 hq) (turn D hD) fun Hc r => ?_
    rw [List.take_length] at r
    exact k D Hc (s0.trans r.1) (s0.free hD) r.2
  · refine .inr ⟨⟨xs, hq⟩, fun D hD => ?_⟩
    refine lc_tup (K := K) (a := a) (xs := xs) (fun i Hc => Same H0 Hc ∧ Hc D = some (.lst ((xs.take i).filter p))) ⟨same_app (Same.refl H0) hD, upd_same⟩ (fun i Hc _ r => Evl.ex_t r.1 hq) (turn D hD) fun Hc r => ?_
    rw [List.take_length] at r
    exact k D Hc (s0.trans r.1) (s0.free hD) r.2
theorem same_new {H : Hp} {p : Addr} {o : HO} (h : H p = none) : Same H (upd H p o) := fun _ _ ha => (upd_ne (ne_of_none ha h)).trans ha
/-! ### the head's facts -/
section
def obsW (n : Nat) (fa : List He.Fa) (fn : List He5.DefA) (ex : PySem.W.Frag → Bool) (g : Addr → Option Obj) : He.AlD × Bool := (He5.obsA fa fn (He.frG g (He.asD g n)), ex (He.frG g (He.asD g n)))
def SaysW (fa : List He.Fa) (fn : List He5.DefA) (ex : PySem.W.Frag → Bool) (K : PySem.W.Frag) : Prop := He5.SaysA fa fn K ∧ ex K = true
def hookW (n : Nat) (fa : List He.Fa) (fn : List He5.DefA) (ex : PySem.W.Frag → Bool) : PySem.W.Hook where
  α := He.AlD × Bool
  obs := fun s => obsW n fa fn ex s.heap.get?
  val := fun _ => (He5.valA fn, true)
  says := fun _ h => ∃ K : PySem.W.Frag, K.In h ∧ SaysW fa fn ex K
  of := fun _ s e => ⟨He.frG s.heap.get? (He.asD s.heap.get? n), He.frG_in, congrArg Prod.fst e, congrArg Prod.snd e⟩
  keeps := fun _ _ _ ⟨K, hK, c⟩ k => ⟨K, PySem.W.Frag.In.keeps hK k, c⟩
theorem obsW_eq {n : Nat} {fa : List He.Fa} {fn : List He5.DefA} {ex : PySem.W.Frag → Bool} {g : Addr → Option Obj} {s : Shared} (h : ∀ a, g a = s.heap.get? a) : obsW n fa fn ex g = (hookW n fa fn ex).obs s := by
  rw [show g = s.heap.get? from funext h]
  rfl
/-- a property of a class, as the head tells it -/
def propB (K : PySem.W.Frag) (C : Addr) (f : Str) : Bool :=
  He.eqO (PySem.W.findIn K (.ref C) f) (some (some (.ref (He.ma K C f)))) && (He.eqO (PySem.W.specialIn K (.ref (He.ma K C f)) "__get__") (some (some (.builtin "property.__get__"))) && (decide (PySem.W.takesIn K (.ref (He.ma K C f)) = some true) &&
    (match PySem.W.recIn K (He.ma K C f) "property" with
      | some (.ref _ :: _) => true
      | _ => false)))
theorem propB_ok {K : PySem.W.Frag} {C : Addr} {f : Str} (h : propB K C f = true) : PropOf K C f (He.ma K C f) (He5.wf K C "property" f) := by
  obtain ⟨h1, h⟩ := He.ba h
  obtain ⟨h2, h⟩ := He.ba h
  obtain ⟨h3, h4⟩ := He.ba h
  refine ⟨He.eqO_ok h1, He.eqO_ok h2, of_decide_eq_true h3, ?_⟩
  unfold He5.wf
  revert h4
  cases e : PySem.W.recIn K (He.ma K C f) "property" with
  | none => exact fun z => nomatch z
  | some l =>
    cases l with
    | nil => exact fun z => nomatch z
    | cons v r =>
      cases v with
      | ref g => exact fun _ => ⟨r, rfl⟩
      | _ => exact fun z => nomatch z
end
section
variable {X : Cx} {o e : Expr} {es : List Expr} {to : TE} {t : TA} {name : Str} {apos cpos : Pos} {T id : String} {r : V → List V → Hp → VK → Prop}
theorem pe_bm0K (K : PySem.W.Frag) (pa : PlainAttrs T) (slot : Slot T name id) (hty : typeOf (.builtin id) = pure (.type "method_descriptor")) (hm : MtR X id r) (ho : PE X o to)
    (hbase : attributeBase o name X.env (eval o X.env) = eval o X.env := by rfl) (hline : (apos.endLine == cpos.line) = true := by rfl) (hK : X.K = K := by rfl) : PE X (.Call (.Attribute o name apos) [] [] cpos) (tBM0 K T r to) := by
  subst hK
  exact pe_bm0 pa slot hty hm ho hbase hline
theorem pe_bmK (K : PySem.W.Frag) (pa : PlainAttrs T) (slot : Slot T name id) (hty : typeOf (.builtin id) = pure (.type "method_descriptor")) (hm : MtR X id r) (ho : PE X o to) (ha : PA X (e :: es) t)
    (hbase : attributeBase o name X.env (eval o X.env) = eval o X.env := by rfl)
    (hfew : ((backTo cpos (starEach (e :: es) X.env)).all (fun x => !x.1) && (backToKw cpos (keywordEach [] X.env)).all (fun x => x.1.isSome)
      && decide ((e :: es).length + ([] : List Keyword).length + (if ([] : List Keyword).isEmpty then 0 else 1) < 30)) = true := by rfl)
    (hline : (apos.endLine == cpos.line) = true := by rfl) (hs : starEach (e :: es) X.env = (false, eval e X.env) :: starEach es X.env := by rfl) (hplain : (backTo cpos (starEach es X.env)).any (·.1) = false := by rfl) (hK : X.K = K := by rfl) :
    PE X (.Call (.Attribute o name apos) (e :: es) [] cpos) (tBM K T r to t) := by
  subst hK
  exact pe_bm pa slot hty hm ho ha hbase hfew hline hs hplain
end
end WW

set_option Elab.async false
set_option linter.all false
set_option maxRecDepth 100000
set_option maxHeartbeats 4000000
namespace WW
open PySem PySem.Spec PyProof.Rows L2
/-! ### == and != by an own __eq__ -/
section
variable {X : Cx} {CX : CXT} {k : Nat} {C f : Addr} {fd : FuncData} {ps : List Str} {sp : Sp}
/-- the def at f called with two values, somewhere below the body -/
theorem run2 {A : Around} {pins : List (Addr × Obj)} {σ : L2.St} {H : Hp} {s : Shared} {Q : VK} {x y : V} {u v : Value} (F : FnOk X.prog X.w X.K X.mg X.base CX0 k f fd ps sp) (hA : Room k A) (hf : A.frames = X.A.frames) (b : Binds X.K fd ps [])
    (I : Inv X pins σ H s) (rx : RelV x u) (ry : RelV y v) (h : sp [x, y] H Q E0) : wpAny (model X.prog X.w) A (call (.ref f) [u, v]) (EP X pins σ Q) X.xe s := by
  have i0 := I.env0
  have i1 : Env0 X.prog X.w X.K X.mg X.base A X.stack s H := ⟨hf.trans i0.frames, i0.mod, i0.bs, i0.bsz, i0.funs, i0.frf, i0.hok, i0.bare⟩
  have n2 : [u, v].length = ps.length := (show [u, v].length = [x, y].length from rfl).trans (F.len _ _ _ _ h)
  have bt : BindsTo s fd ⟨[u, v], []⟩ (ps.zip [u, v]) := by
    have z := b s [u, v] I.kIn (by rw [List.append_nil]; exact n2)
    rw [List.append_nil] at z
    exact z
  refine wpAny_call (codeAny_mono (F.run A X.stack s H ⟨[u, v], []⟩ [u, v] [x, y] Q E0 hA i1 bt (.cons rx (.cons ry .nil)) h) fun r s' hq => ?_)
  cases r with
  | error e => exact (pass0 (X := X) pins σ H s e s' I hq)
  | ok fl =>
    cases fl with
    | ret z => exact I.after hq
    | next => exact hq.elim
    | brk => exact hq.elim
    | cont => exact hq.elim
/-- the class at C has its own __eq__ (at f) and no __ne__ -/
structure EqC (K : PySem.W.Frag) (C f : Addr) : Prop where
  eq : PySem.W.findIn K (.ref C) "__eq__" = some (some (.ref f))
  fn : PySem.W.isFn K (.ref f) = true
  ne : PySem.W.findIn K (.ref C) "__ne__" = some (some (.builtin "object.__ne__"))
  ob : PySem.W.mroIn K C (.type "object") = some true
structure EqAtC (P : Program) (w : World) (K : PySem.W.Frag) (mg : Str → Option Value) (base : Heap) (CX : CXT) (k : Nat) (C : Addr) (ps : List Str) (sp : Sp) : Prop where
  ex : ∃ f fd, EqC K C f ∧ FnOk P w K mg base CX k f fd ps sp ∧ Binds K fd ps []
/-- x == y, x != y, x an instance of the class at C -/
inductive rOwn (K : PySem.W.Frag) (C : Addr) (sp : Sp) (neg : Bool) (x y : V) (H : Hp) (Q : VK) : Prop
  | mk (a dx : Addr) (fs : List (Str × V)) (t : Value) (e : x = .ref a) (ha : H a = some (.ins C dx fs)) (ht : TyX K H y t) (hn : PySem.W.notFirst K C t = true) (h : sp [x, y] H (fun v H' => ∃ b, v = .bl b ∧ Q (.bl (if neg then !b else b)) H') E0) : rOwn K C sp neg x y H Q
theorem op_eqO (K : PySem.W.Frag) {j : Nat} (F : EqAtC X.prog X.w X.K X.mg X.base CX0 k C ps sp) (hr : Room j X.A) (hk : k ≤ j := by decide) (hK : X.K = K := by rfl) : OpR X (compareOp .Eq) (rOwn K C sp false) := by
  subst hK
  obtain ⟨f, fd, ec, FN, b⟩ := F.ex
  intro pins s σ H x y u v Q I rx ry h
  cases h with
  | mk a dx fs t e ha ht hn h =>
    subst e
    cases rx
    obtain ⟨mA, O, _⟩ := ins_get I.hok ha
    obtain ⟨od, J, _⟩ := O.look
    obtain ⟨Pk, Z, pz, _⟩ := kit_of I ry ht
    obtain ⟨m, hF⟩ := I.fr
    unfold compareOp
    refine PySem.W.cmp_K (op := .Eq) (tb := t) (by have := hr.un; omega) hF I.ok.mod.kin J (Z.ty _ _ I.kIn pz) hn ec.eq ec.fn (wpAny_mono (run2 (x := .ref a) FN (hr.mono hk) rfl b I rfl ry h) (fun z s' hz => ?_) fun _ _ e => e)
    obtain ⟨w1, H1, I1, r1, b1, rfl, q1⟩ := hz
    cases r1
    exact ⟨.bl b1, H1, I1, rfl, q1⟩
theorem ne_bound {M : Model} {A : Around} {E : Value → Shared → Prop} {s : Shared} {K : PySem.W.Frag} {x : Addr} {ox : Obj} {od : Option Obj} {rest : List Value} {R : Option Value → Shared → Prop} (hK : K.In s.heap) (J : PySem.W.InstAt s.heap x ox C od) (hc : PySem.W.findIn K (.ref C) "__ne__" = some (some (.builtin "object.__ne__")))
    (q : wpAny M A (call (.builtin "object.__ne__") (.ref x :: rest)) (fun v => R (some v)) E s) : wpAny M A (callSpecialIfBound? (.ref x) "__ne__" rest) R E s := by
  simp only [callSpecialIfBound?, bindSpecialIfBound?]
  refine wpAny_holding (wpAny_bind (wpAny_bind (wpAny_bind (J.type.here ((PySem.W.looks_findIn hK hc).here (wpAny_bind (wpAny_askSetting (wpAny_ite ?_))))))))
  have last : wpAny M A (call (.builtin "object.__ne__") ([.ref x] ++ rest) >>= fun v => pure (some v)) R E s := wpAny_bind (wpAny_mono q (fun v s' hv => wpAny_pure hv) fun _ _ z => z)
  split
  · exact wpAny_bind (wpAny_of_eq (F.cmp_object.ne.bind _) (wpAny_pure (by exact last)))
  · exact wpAny_tryCatch (wpAny_bind (wpAny_of_eq (F.cmp_object.ne.bind _) (wpAny_pure (by exact last))))
theorem ne_entry {prog : Program} {w : World} {A : Around} {E : Value → Shared → Prop} {s : Shared} {K : PySem.W.Frag} {x : Addr} {v : Value} {ox : Obj} {od : Option Obj} {R : Fin → Shared → Prop} (hu : A.units < cLine) (hK : K.In s.heap) (J : PySem.W.InstAt s.heap x ox C od) (ec : EqC K C f)
    (q : wpAny (model prog w) A (call (.ref f) [.ref x, v]) (fun r s' => ∃ b, r = .bool b ∧ R (.done (.ret (.bool (!b)))) s') E s) : wpAny (model prog w) A (Builtin.«object.__ne__» ⟨[.ref x, v], []⟩) R E s := by
  unfold Builtin.«object.__ne__»
  repeat (first
    | with_reducible refine wpAny_cRoomFor hu ?_
    | (refine wpAny_bind (m := callSpecialIfBound? (.ref x) (Str.ofString "__eq__") [v]) (PySem.W.ifBound_K hK J ec.eq ec.fn (wpAny_mono q (fun r s' hr => by
          obtain ⟨b, rfl, hq⟩ := hr
          repeat (first | exact hq | exact wpAny_pure hq | exact wpAny_truthy_bool hq | (refine wpAny_bind (m := truthy (.bool _)) (wpAny_truthy_bool ?_)) | wp_step)) fun _ _ e => e)))
    | wp_step)
theorem op_neO (K : PySem.W.Frag) {j : Nat} (F : EqAtC X.prog X.w X.K X.mg X.base CX0 k C ps sp) (hr : Room j X.A) (hk : k + 1 ≤ j := by decide) (hK : X.K = K := by rfl) : OpR X (compareOp .NotEq) (rOwn K C sp true) := by
  subst hK
  obtain ⟨f, fd, ec, FN, b⟩ := F.ex
  intro pins s σ H x y u v Q I rx ry h
  cases h with
  | mk a dx fs t e ha ht hn h =>
    subst e
    cases rx
    obtain ⟨mA, O, _⟩ := ins_get I.hok ha
    obtain ⟨od, J, _⟩ := O.look
    obtain ⟨Pk, Z, pz, _⟩ := kit_of I ry ht
    have hu : X.A.units + 1 < cLine := by have := hr.un; omega
    have go : wpAny (model X.prog X.w) X.A (tryCompare (.ref a) "__ne__" v) (fun r s' => ∃ b1, r = some (.bool (!b1)) ∧ EP X pins σ Q (.bool (!b1)) s') X.xe s := by
      unfold tryCompare
      refine wpAny_bind (ne_bound I.kIn J ec.ne (wpAny_call (codeAny_call_builtin PySem.F.cmp_object.ne.plain PySem.F.cmpEntry_ne (PySem.W.check_slot PySem.F.cmpKind_ne PySem.F.cmpSplit_ne (J.type.andThen (PySem.W.looks_mroIn I.kIn ec.ob)) (PySem.F.cmpArgs_ne _ _)
        (ne_entry (A := X.A.in1) hu I.kIn J ec (wpAny_mono (run2 (x := .ref a) FN (hr.mono hk).in1 rfl b I rfl ry h) (fun z s' hz => ?_) fun _ _ e => e))))))
      obtain ⟨w1, H1, I1, r1, b1, rfl, q1⟩ := hz
      cases r1
      exact ⟨b1, rfl, wpAny_pure ⟨b1, rfl, .bl (!b1), H1, I1, rfl, q1⟩⟩
    unfold compareOp richCompare
    simp only [oneThing_ref]
    refine wpAny_holding (wpAny_bind (wpAny_cRoomFor (by omega) ?_))
    refine wpAny_bind (J.type.here (wpAny_bind ((Z.ty _ _ I.kIn pz).here ?_)))
    split
    · rename_i c0
      have sf : PySem.W.subIn X.K t (.ref C) = some false := by
        rcases Bool.or_eq_true_iff.mp hn with e | e
        · rw [beq_iff_eq.mp e] at c0
          simp at c0
        · exact beq_iff_eq.mp e
      refine wpAny_bind ((PySem.W.looks_subIn I.kIn sf).here ?_)
      simp only [Bool.false_eq_true, if_false]
      refine wpAny_bind (wpAny_mono go (fun r s1 z => ?_) fun _ _ e => e)
      obtain ⟨b1, rfl, h1⟩ := z
      exact wpAny_pure h1
    · refine wpAny_bind (wpAny_pure ?_)
      simp only [Bool.false_eq_true, if_false]
      refine wpAny_bind (wpAny_mono go (fun r s1 z => ?_) fun _ _ e => e)
      obtain ⟨b1, rfl, h1⟩ := z
      exact wpAny_pure h1
end
end WW

set_option Elab.async false
set_option linter.all false
set_option maxRecDepth 100000
set_option maxHeartbeats 4000000
namespace WW
open PySem PySem.Spec PyProof.Rows L2
/-! ### str(x) by an own __str__ -/
section
variable {X : Cx} {CX : CXT} {k : Nat} {C f : Addr} {fd : FuncData} {ps : List Str} {sp : Sp}
theorem run1 {A : Around} {pins : List (Addr × Obj)} {σ : L2.St} {H : Hp} {s : Shared} {Q : VK} {x : V} {u : Value} (F : FnOk X.prog X.w X.K X.mg X.base CX0 k f fd ps sp) (hA : Room k A) (hf : A.frames = X.A.frames) (b : Binds X.K fd ps [])
    (I : Inv X pins σ H s) (rx : RelV x u) (h : sp [x] H Q E0) : wpAny (model X.prog X.w) A (call (.ref f) [u]) (EP X pins σ Q) X.xe s := by
  have i0 := I.env0
  have i1 : Env0 X.prog X.w X.K X.mg X.base A X.stack s H := ⟨hf.trans i0.frames, i0.mod, i0.bs, i0.bsz, i0.funs, i0.frf, i0.hok, i0.bare⟩
  have n2 : [u].length = ps.length := (show [u].length = [x].length from rfl).trans (F.len _ _ _ _ h)
  have bt : BindsTo s fd ⟨[u], []⟩ (ps.zip [u]) := by
    have z := b s [u] I.kIn (by rw [List.append_nil]; exact n2)
    rw [List.append_nil] at z
    exact z
  refine wpAny_call (codeAny_mono (F.run A X.stack s H ⟨[u], []⟩ [u] [x] Q E0 hA i1 bt (.cons rx .nil) h) fun r s' hq => ?_)
  cases r with
  | error e => exact (pass0 (X := X) pins σ H s e s' I hq)
  | ok fl =>
    cases fl with
    | ret z => exact I.after hq
    | next => exact hq.elim
    | brk => exact hq.elim
    | cont => exact hq.elim
structure StrAtC (P : Program) (w : World) (K : PySem.W.Frag) (mg : Str → Option Value) (base : Heap) (CX : CXT) (k : Nat) (C : Addr) (ps : List Str) (sp : Sp) : Prop where
  ex : ∃ f fd, PySem.W.findIn K (.ref C) "__str__" = some (some (.ref f)) ∧ PySem.W.isFn K (.ref f) = true ∧ FnOk P w K mg base CX k f fd ps sp ∧ Binds K fd ps []
inductive rStrO (C : Addr) (sp : Sp) (xs : List V) (H : Hp) (Q : VK) : Prop
  | mk (a dx : Addr) (fs : List (Str × V)) (e : xs = [.ref a]) (ha : H a = some (.ins C dx fs)) (h : sp [.ref a] H (fun v H' => ∃ z, v = .str z ∧ Q (.str z) H') E0) : rStrO C sp xs H Q
theorem call_strO {j : Nat} (F : StrAtC X.prog X.w X.K X.mg X.base CX0 k C ps sp) (hr : Room j X.A) (hk : k + 2 ≤ j := by decide) : CallR X (.type "str") (rStrO C sp) := by
  obtain ⟨f, fd, e1, e2, FN, b⟩ := F.ex
  intro pins s σ H xs us Q I r h
  cases h with
  | mk a dx fs e ha h =>
    subst e
    obtain ⟨u, rfl, ru⟩ := vals1 r
    cases ru
    obtain ⟨mA, O, _⟩ := ins_get I.hok ha
    obtain ⟨od, J, _⟩ := O.look
    have r2 := (hr.mono hk).in1.in1
    refine PySem.W.kso_call (by have := r2.un; omega) I.kIn J e1 e2 (wpAny_mono (run1 (x := .ref a) FN r2 rfl b I rfl h) (fun z s' hz => ?_) fun _ _ e => e)
    obtain ⟨w1, H1, I1, r1, z1, rfl, q1⟩ := hz
    obtain ⟨t, rfl⟩ := r1
    exact ⟨.str z1, H1, I1, ⟨t, rfl⟩, q1⟩
end
/-! ### sep.join(..) with the written part named -/
inductive rJoin (K : PySem.W.Frag) (x : V) (xs : List V) (H : Hp) (Q : VK) : Prop
  | mk (a : Str) (p : Addr) (ys : List Str) (e : x = .str a) (e2 : xs = [.ref p]) (h : Sq K H p (ys.map V.str)) (hz : (ys.map (·.length)).sum + ys.length * a.length ≤ 16777216) (q : Q (.str (Txt.join a ys)) H) : rJoin K x xs H Q
theorem mt_joinK {X : Cx} (K : PySem.W.Frag) (h : X.K = K := by rfl) : MtR X "str.join" (rJoin K) := by
  subst h
  intro pins s σ H x xs v us Q I rx rs h
  cases h with
  | mk a p ys e e2 h hz q => exact mt_join pins s σ H x xs v us Q I rx rs ⟨a, p, ys, e, e2, h, hz, q⟩
theorem pe_joinK {X : Cx} (K : PySem.W.Frag) {o e : Expr} {to te : TE} {apos pos : Pos} (ho : PE X o to) (he : PE X e te) (hK : X.K = K := by rfl) (hs : starEach [e] X.env = [(false, eval e X.env)] := by rfl) (hbase : attributeBase o "join" X.env (eval o X.env) = eval o X.env := by rfl) (hline : (apos.endLine == pos.line) = true := by rfl) :
    PE X (.Call (.Attribute o "join" apos) [e] [] pos) (tM1 (rJoin K) to te) :=
  pe_m1 F.slot_str_join F.type_str_join (mt_joinK K hK) ho he hs hbase hline
theorem q_star {K : PySem.W.Frag} {σ : L2.St} {H : Hp} {te : TE} {t : TA} {R : List V → Hp → Prop} (h : te σ H fun x H1 => ∃ p xs, x = V.ref p ∧ (SqT K H1 p xs ∨ SqL K H1 p xs) ∧ t σ H1 fun ys H2 => R (xs ++ ys) H2) : StX.tStar K te t σ H R := h
theorem q_c {σ : L2.St} {H : Hp} {v : V} {R : VK} (h : R v H) : tC v σ H R := h
theorem q_ifE {σ : L2.St} {H : Hp} {R : VK} {tt : TT} {ta tb : TE} (h : tt σ H fun c H1 => if c = true then ta σ H1 R else tb σ H1 R) : tIf tt ta tb σ H R := h
theorem q_tst {σ : L2.St} {H : Hp} {te : TE} {R : Bool → Hp → Prop} (h : te σ H fun x H1 => ∃ b, x = .bl b ∧ R b H1) : tTest te σ H R := h
theorem q_op {σ : L2.St} {H : Hp} {ta tb : TE} {r : R2} {R : VK} (h : ta σ H fun x H1 => tb σ H1 fun y H2 => r x y H2 R) : tOp r ta tb σ H R := h
theorem q_next {D : Ends} {σ : L2.St} {H : Hp} (h : D.nx σ H) : tNext D σ H := h
/-- a test that fails -/
theorem q_no {D : Ends} {σ : L2.St} {H : Hp} {b : Bool} {u : Prop} (hb : b = false) (h : D.nx σ H) : if b = true then u else tNext D σ H := by
  subst hb
  exact h
/-! ### what the head tells of a class with its own __eq__ -/
structure TyC (K : PySem.W.Frag) (C : Addr) : Prop where
  cl : PySem.W.findIn K (.ref C) "__class__" = some (some (.builtin "object.__class__"))
  ge : PySem.W.specialIn K (.builtin "object.__class__") "__get__" = some (some (.builtin "getset_descriptor.__get__"))
  tk : PySem.W.takesIn K (.builtin "object.__class__") = some true
  ob : PySem.W.mroIn K C (.type "object") = some true
  own : PySem.W.kitOne K (.ref C) (.ref C) = some true
def tyB (K : PySem.W.Frag) (C : Addr) : Bool :=
  He.eqO (PySem.W.findIn K (.ref C) "__class__") (some (some (.builtin "object.__class__"))) && (He.eqO (PySem.W.specialIn K (.builtin "object.__class__") "__get__") (some (some (.builtin "getset_descriptor.__get__"))) && (decide (PySem.W.takesIn K (.builtin "object.__class__") = some true) &&
    (decide (PySem.W.mroIn K C (.type "object") = some true) && decide (PySem.W.kitOne K (.ref C) (.ref C) = some true))))
theorem tyB_ok {K : PySem.W.Frag} {C : Addr} (h : tyB K C = true) : TyC K C := by
  obtain ⟨h1, h⟩ := He.ba h
  obtain ⟨h2, h⟩ := He.ba h
  obtain ⟨h3, h⟩ := He.ba h
  obtain ⟨h4, h5⟩ := He.ba h
  exact ⟨He.eqO_ok h1, He.eqO_ok h2, of_decide_eq_true h3, of_decide_eq_true h4, of_decide_eq_true h5⟩
/-- a type that is not the class at C -/
structure Apart (K : PySem.W.Frag) (C : Addr) (t : String) : Prop where
  no : PySem.W.kitOne K (.type t) (.ref C) = some false
  nf : PySem.W.notFirst K C (.type t) = true
def apB (K : PySem.W.Frag) (C : Addr) (t : String) : Bool := decide (PySem.W.kitOne K (.type t) (.ref C) = some false) && PySem.W.notFirst K C (.type t)
theorem apB_ok {K : PySem.W.Frag} {C : Addr} {t : String} (h : apB K C t = true) : Apart K C t := by
  obtain ⟨h1, h2⟩ := He.ba h
  exact ⟨of_decide_eq_true h1, h2⟩
def eqB (K : PySem.W.Frag) (C : Addr) : Bool :=
  He.eqO (PySem.W.findIn K (.ref C) "__eq__") (some (some (.ref (He.ma K C "__eq__")))) && (PySem.W.isFn K (.ref (He.ma K C "__eq__")) && (He.eqO (PySem.W.findIn K (.ref C) "__ne__") (some (some (.builtin "object.__ne__"))) && decide (PySem.W.mroIn K C (.type "object") = some true)))
theorem eqB_ok {K : PySem.W.Frag} {C : Addr} (h : eqB K C = true) : EqC K C (He.ma K C "__eq__") := by
  obtain ⟨h1, h⟩ := He.ba h
  obtain ⟨h2, h⟩ := He.ba h
  obtain ⟨h3, h4⟩ := He.ba h
  exact ⟨He.eqO_ok h1, h2, He.eqO_ok h3, of_decide_eq_true h4⟩
def strB (K : PySem.W.Frag) (C : Addr) : Bool := He.eqO (PySem.W.findIn K (.ref C) "__str__") (some (some (.ref (He.ma K C "__str__")))) && PySem.W.isFn K (.ref (He.ma K C "__str__"))
theorem notFirst_self {K : PySem.W.Frag} {C : Addr} : PySem.W.notFirst K C (.ref C) = true := by
  unfold PySem.W.notFirst
  simp
/-! ### equal things -/
def dT : V → PyData
  | .int i => .int i
  | _ => .none
def isTh : V → Bool
  | .non => true
  | .int _ => true
  | _ => false
theorem dp_all {K : PySem.W.Frag} {H : Hp} : ∀ {xs : List V}, (∀ y ∈ xs, isTh y = true) → DpAll K H xs (xs.map dT)
  | [], _ => .nil
  | x :: r, h => by
    refine .cons ?_ (dp_all fun y hy => h y (List.mem_cons_of_mem _ hy))
    have := h x List.mem_cons_self
    revert this
    cases x with
    | non => exact fun _ => .non
    | int i => exact fun _ => .int i
    | _ => exact fun z => nomatch z
theorem eqv_th {x y : V} (hx : isTh x = true) (hy : isTh y = true) : PyData.eqv (dT x) (dT y) = decide (x = y) := by
  revert hx hy
  cases x with
  | non =>
    cases y with
    | non => exact fun _ _ => rfl
    | int j => exact fun _ _ => (decide_eq_false (p := V.non = V.int j) (fun z => by cases z)).symm
    | _ => exact fun _ z => nomatch z
  | int i =>
    cases y with
    | non => exact fun _ _ => (decide_eq_false (p := V.int i = V.non) (fun z => by cases z)).symm
    | int j =>
      intro _ _
      show (i == j) = decide (V.int i = V.int j)
      by_cases c : i = j
      · subst c
        simp
      · rw [decide_eq_false (fun z => c (by injection z)), beq_eq_false_iff_ne.mpr c]
    | _ => exact fun _ z => nomatch z
  | _ => exact fun z => nomatch z
theorem eqv_ths : ∀ {xs ys : List V}, (∀ y ∈ xs, isTh y = true) → (∀ y ∈ ys, isTh y = true) → PyData.eqvAll (xs.map dT) (ys.map dT) = decide (xs = ys)
  | [], [], _, _ => rfl
  | x :: r, y :: q, h, k => by
    show (PyData.eqv (dT x) (dT y) && PyData.eqvAll (r.map dT) (q.map dT)) = _
    rw [eqv_th (h x List.mem_cons_self) (k y List.mem_cons_self), eqv_ths (fun z hz => h z (List.mem_cons_of_mem _ hz)) fun z hz => k z (List.mem_cons_of_mem _ hz)]
    by_cases c1 : x = y
    · by_cases c2 : r = q
      · simp [c1, c2]
      · simp [c1, c2]
    · simp [c1]
  | [], y :: q, _, _ => by
    show false = _
    simp
  | x :: r, [], _, _ => by
    show false = _
    simp
theorem can_th (x : V) : PyData.canLay0 (dT x) = true := by
  cases x <;> simp [dT, PyData.canLay0]
theorem dep_th (x : V) : PyData.depth (dT x) = 0 := by
  cases x <;> simp [dT, PyData.depth]
theorem can_ths : ∀ xs : List V, PyData.canLayAll0 (xs.map dT) = true
  | [] => by simp [PyData.canLayAll0]
  | x :: r => by
    rw [List.map_cons, PyData.canLayAll0, can_th, can_ths r]
    rfl
theorem dep_ths : ∀ xs : List V, PyData.depthAll (xs.map dT) = 0
  | [] => by simp [PyData.depthAll]
  | x :: r => by
    rw [List.map_cons, PyData.depthAll, dep_th, dep_ths r]
    rfl
theorem shaped_list (xs : List V) : SeqAt.shaped (.list (xs.map dT)) = true := by
  unfold SeqAt.shaped
  rw [PyData.canLay0, PyData.depth, can_ths, dep_ths]
  rfl
theorem shaped_th (x : V) : SeqAt.shaped (dT x) = true := by
  unfold SeqAt.shaped
  rw [can_th, dep_th]
  rfl
/-- the parts of a row as data -/
def partsD (fs ys : List V) (m : Int) : PyData := .tuple [.tuple (fs.map dT), .tuple (ys.map dT), .int m]
theorem shaped_parts (fs ys : List V) (m : Int) : SeqAt.shaped (partsD fs ys m) = true := by
  unfold SeqAt.shaped partsD
  simp only [PyData.canLay0, PyData.canLayAll0, PyData.depth, PyData.depthAll, can_ths, dep_ths]
  rfl
theorem eqv_parts {fs ys gs zs : List V} {m k : Int} (h1 : ∀ y ∈ fs, isTh y = true) (h2 : ∀ y ∈ ys, isTh y = true) (h3 : ∀ y ∈ gs, isTh y = true) (h4 : ∀ y ∈ zs, isTh y = true) : PyData.eqv (partsD fs ys m) (partsD gs zs k) = decide (fs = gs ∧ ys = zs ∧ m = k) := by
  unfold partsD
  simp only [PyData.eqv, PyData.eqvAll]
  rw [eqv_ths h1 h3, eqv_ths h2 h4]
  by_cases c1 : fs = gs <;> by_cases c2 : ys = zs <;> by_cases c3 : m = k <;> simp [c1, c2, c3]
theorem dp_parts {K : PySem.W.Frag} {H : Hp} {p p1 p2 : Addr} {fs ys : List V} {m : Int} (h : H p = some (.tup [.ref p1, .ref p2, .int m])) (h1 : H p1 = some (.tup fs)) (h2 : H p2 = some (.tup ys)) (t1 : ∀ y ∈ fs, isTh y = true) (t2 : ∀ y ∈ ys, isTh y = true) : Dp K H (.ref p) (partsD fs ys m) :=
  .tup (.inl (.inl h)) (.cons (.tup (.inl (.inl h1)) (dp_all t1)) (.cons (.tup (.inl (.inl h2)) (dp_all t2)) (.cons (.int m) .nil)))
theorem dp_list {K : PySem.W.Frag} {H : Hp} {p : Addr} {xs : List V} (h : H p = some (.lst xs)) (t : ∀ y ∈ xs, isTh y = true) : Dp K H (.ref p) (.list (xs.map dT)) := .lst (.inl (.inl h)) (dp_all t)
theorem eqv_list {xs ys : List V} (h : ∀ y ∈ xs, isTh y = true) (k : ∀ y ∈ ys, isTh y = true) : PyData.eqv (.list (xs.map dT)) (.list (ys.map dT)) = decide (xs = ys) := by
  rw [PyData.eqv, eqv_ths h k]
theorem dp_th {K : PySem.W.Frag} {H : Hp} {x : V} (h : isTh x = true) : Dp K H x (dT x) := by
  revert h
  cases x with
  | non => exact fun _ => .non
  | int i => exact fun _ => .int i
  | _ => exact fun z => nomatch z
end WW

set_option Elab.async false
set_option linter.all false
set_option maxRecDepth 100000
set_option maxHeartbeats 4000000
namespace WW
open PySem PySem.Spec PyProof.Rows L2
/-- super().__init__(text); self.f = x -/
def supBody (p0 p1 p2 p3 p4 p5 p6 p7 p8 p9 : Pos) (j : Nat) (txt fld px : Str) : List Stmt :=
  [.Expr (.Call (.Attribute (.Call (.Name "super" p0) [] [] p1) "__init__" p2) [.Constant (.str txt) j p9] [] p3) p4, .Assign [.Attribute (.Name "self" p5) fld p6] (.Name px p7) p8]
structure SupScope (scope : Scope) (params : Arguments) (px : Str) : Prop where
  ks : scope.names.lookup ("super" : Str) = some .globalImplicit
  kc : scope.names.lookup ("__class__" : Str) = some .free
  kself : scope.names.lookup ("self" : Str) = some .local
  kx : scope.names.lookup px = some .local
  kind : scope.kind = .function
  co : scope.isCoroutine = false
  gen : scope.isGenerator = false
  nocell : ∀ x ∈ scope.names, x.2 ≠ .cell
  hd : ∃ ar, (params.posonlyargs ++ params.args).head? = some ar ∧ ar.arg = ("self" : Str)
  ne : px ≠ ("self" : Str)
  dbg : (px == ("__debug__" : Str)) = false
/-- what the written part says of such a class -/
structure SupC (P : Program) (K : PySem.W.Frag) (C fI : Addr) (qual : Str) (params : Arguments) (body : List Stmt) (scope : Scope) : Prop where
  oex : OexC K C
  ini : PySem.W.findIn K (.ref C) "__init__" = some (some (.ref fI))
  tyI : PySem.W.typeIn K (.ref fI) = some (.type "function")
  fn : ∃ (nm : Str) (oc : Value) (od : Option Addr) (kV doc pm : Value) (an : Option Addr) (cda cc : Addr) (ct : Value) (osl : Array (Option Value)) (ccl : Value) (cdd : Option Addr) (vs : Array Value) (ccs : Array (Option Value)) (file : Str) (tf : Tok) (cl : Value) (cld : Option Addr) (csl : Array (Option Value)),
    K.lookup fI = some ⟨oc, od, .func (PySem.W.ksFn nm qual params body scope .none kV doc pm an (.ref cda) ct cc), osl⟩ ∧ PySem.W.codeIn K (.ref cda) qual = true ∧ K.lookup cda = some ⟨ccl, cdd, .fields vs, ccs⟩ ∧ vs[2]? = some (.str file tf) ∧ ((P.main.file : Str) == file) = true ∧ K.lookup cc = some ⟨cl, cld, .cell (some (.ref C)), csl⟩
  sup : PySem.W.ks_superIn K C C "__init__" = some (some (.builtin "ValueError.__init__"))
  sub : PySem.W.mroIn K C (.ref C) = some true
  ve : PySem.W.subIn K (.ref C) (.type "ValueError") = some true
  opq : PySem.W.nsIn K cStatics "thirdparty.any" = some none
  top : (P.main.scope.names.lookup ("super" : Str)).isSome = false
theorem sup_codeG {prog : Program} {w : World} {A : Around} {K : PySem.W.Frag} {mg : Str → Option Value} {base hp : Heap} {g : Array GenState} {d : PySem.Drawn} {t : Nat} {os : OsState} {C fI a t0 : Addr} {qual : Str} {params : Arguments} {scope : Scope} {u : Value} {R : Result → Shared → Prop}
    {p0 p1 p2 p3 p4 p5 p6 p7 p8 p9 : Pos} {j : Nat} {txt fld px : Str}
    (SC : SupC prog K C fI qual params (supBody p0 p1 p2 p3 p4 p5 p6 p7 p8 p9 j txt fld px) scope) (SS : SupScope scope params px) (M0 : Mod K mg base) (kb : ∀ b o, base.get? b = some o → hp.get? b = some o) (hab : base.get? a = none) (hsup : mg "super" = none)
    (hroom : A.depth < recursionLimit) (hno : PySem.W.findIn K (.ref C) fld = some none) {pl : Env → Sem Bool}
    (hev : ∀ env : Env, eval (.Call (.Attribute (.Call (.Name "super" p0) [] [] p1) "__init__" p2) [.Constant (.str txt) j p9] [] p3) env = (do
      let ov ← attributeBase (.Call (.Name "super" p0) [] [] p1) "__init__" env (eval (.Call (.Name "super" p0) [] [] p1) env)
      standAt p2.atName
      let (f, first) ← holding [ov] (getMethod ov "__init__" (pl env))
      callWith p3 f first (backTo p3 (starEach [.Constant (.str txt) j p9] env)) []))
    {args : Args} (hbind : ∀ (nm : Str) (kV doc pm : Value) (an : Option Addr) (cdv ct : Value) (cc : Addr), bindArgs (PySem.W.ksFn nm qual params (supBody p0 p1 p2 p3 p4 p5 p6 p7 p8 p9 j txt fld px) scope .none kV doc pm an cdv ct cc) args = pure [(("self" : Str), .ref a), (px, u)])
    (hx : hp.get? a = some (PySem.HandSPX.excO C t0))
    (hq : ∀ h' tk' dx t1, (∀ b o, b ≠ a → hp.get? b = some o → h'.get? b = some o) → hp.objs.size ≤ dx → dx ≠ a → h'.get? a = some ({ cls := .ref C, dict := some dx, data := .fields #[.ref t1, .none, .none, .none, .bool false, .none] } : Obj) →
      h'.Ns1 dx (fun y => if y = fld then some u else none) → R (.ok (.ret .none)) ⟨h', g, d, tk', os⟩) :
    codeAny (model prog w) A (.call (.ref fI) args) R ⟨hp, g, d, t, os⟩ := by
  obtain ⟨nm, oc, od, kV, doc, pm, an, cda, cc, ct, osl, ccl, cdd, vs, ccs, file, tf, cl, cld, csl, hf, hcd, hcode, hvs, hfile, hcell⟩ := SC.fn
  have X : K.In hp := M0.kin.keeps kb
  have bt : BindsTo ⟨hp, g, d, t, os⟩ (PySem.W.ksFn nm qual params (supBody p0 p1 p2 p3 p4 p5 p6 p7 p8 p9 j txt fld px) scope .none kV doc pm an (.ref cda) ct cc) args [(("self" : Str), .ref a), (px, u)] := by
    intro M A Q E hQ
    rw [hbind]
    exact wpAny_pure hQ
  refine PySem.ks_codeAny_call_defAt hroom (X _ _ hf) rfl (M0.nolimit.keeps kb) (PySem.W.codeRec_of X hcd) rfl bt SS.nocell ?_ (fun h₀ hns k0 => ?_) SS.co SS.gen SS.kind
  · intro x hx
    simp only [List.mem_cons, List.not_mem_nil, or_false] at hx
    rcases hx with rfl | rfl
    · exact SS.kself
    · exact SS.kx
  have X0 : K.In h₀ := X.keeps k0
  have hx0 : h₀.get? a = some (PySem.HandSPX.excO C t0) := k0 _ _ hx
  obtain ⟨ar, har, hself⟩ := SS.hd
  obtain ⟨mb, hb1, hb2⟩ := M0.blt
  obtain ⟨nm', q', N', bs', bm', sn', sub', ab', col', dd', e0, e1, e2, e3, e5, hC, hbm⟩ := SC.oex.cls
  have hcl : PySem.W.clsIn K C = some { name := nm', bases := bs', mro := .ref C :: bm', ns := N', qualname := q', hasDict := true, slotNames := sn', subclasses := sub', abstract := ab', collection := col', hasDel := false } := by unfold PySem.W.clsIn; rw [hC] <;> rfl
  have kbh : ∀ b o, base.get? b = some o → h₀.get? b = some o := fun b o e => k0 b o (kb b o e)
  have v1 : (fun x => [(("self" : Str), Value.ref a), (px, u)].reverse.lookup x) ("self" : Str) = some (.ref a) := by
    show ([(px, u), (("self" : Str), Value.ref a)] : List (Str × Value)).lookup ("self" : Str) = _
    have n : ((("self" : Str) == px) = false) := by
      rw [beq_eq_false_iff_ne]
      exact Ne.symm SS.ne
    simp [List.lookup, n]
  have v2 : (fun x => [(("self" : Str), Value.ref a), (px, u)].reverse.lookup x) px = some u := by
    show ([(px, u), (("self" : Str), Value.ref a)] : List (Str × Value)).lookup px = _
    simp [List.lookup]
  generalize (fun x => [(("self" : Str), Value.ref a), (px, u)].reverse.lookup x) = m at hns v1 v2
  show PySem.wpAt (model prog w) (A.deeper (PySem.W.ksEnv qual scope hp.objs.size fI (.ref cda) cc)) (.func (supBody p0 p1 p2 p3 p4 p5 p6 p7 p8 p9 j txt fld px) (PySem.W.ksEnv qual scope hp.objs.size fI (.ref cda) cc)) (execs [.Expr (.Call (.Attribute (.Call (.Name "super" p0) [] [] p1) "__init__" p2) [.Constant (.str txt) j p9] [] p3) p4, .Assign [.Attribute (.Name "self" p5) fld p6] (.Name px p7) p8] (PySem.W.ksEnv qual scope hp.objs.size fI (.ref cda) cc)) _ _ ⟨h₀, g, d, t + 2, os⟩
  refine PySem.ks_wpAt_execs_cons (PySem.ks_wpAt_Expr_any (PySem.ks_wpAt_MethodCall ?_ (hev _)) (by show (scope.kind == .module && _) = false; rw [SS.kind]; rfl))
  refine PySem.ks_wpAt_super_base (env := PySem.W.ksEnv qual scope hp.objs.size fI (.ref cda) cc) SS.ks SS.kc (by decide) rfl (X0 _ _ hf) rfl har rfl (X0 _ _ hcode) rfl hvs hfile SC.top ?_
  refine PySem.W.ks_loadName_global SS.kind SS.ks (Calls.loadGlobal_builtin (env := PySem.W.ksEnv qual scope hp.objs.size fI (.ref cda) cc) (M0.glob.keeps kbh) hsup (hb1.keeps kbh) ((hb2 _ (by decide)).trans (by kernel_rfl)) ⟨rfl, ?_⟩)
  refine wpAny_loadName_free SS.kind SS.kc rfl ⟨_, X0 _ _ hcell, rfl⟩ ?_
  rw [hself]
  refine wpAny_loadName_local SS.kind SS.kself hns v1 ?_
  refine PySem.ks_wpAny_isType_cls (X0 _ _ hC) rfl ⟨rfl, ?_⟩
  refine PySem.ks_wpAny_call_super (X0 _ _ hC) rfl hx0 rfl (fun c e => nomatch e) (PySem.W.looks_mroIn X0 SC.sub) (fun h1 hso k1 => ?_)
  have X1 : K.In h1 := X0.keeps k1
  have hx1 := k1 _ _ hx0
  have I1 : PySem.W.InstAt h1 a (PySem.HandSPX.excO C t0) C none := ⟨hx1, rfl, rfl, trivial⟩
  have hsI : PySem.W.alongIn K "__init__" (((Value.ref C :: bm').dropWhile (· != .ref C)).drop 1) = some (some (.builtin "ValueError.__init__")) := by
    have z := SC.sup
    unfold PySem.W.ks_superIn at z
    rw [hcl] at z
    exact z
  refine PySem.W.kxs_getMethod PySem.W.kxs_ValueError hso (PySem.W.looks_opaque X1 SC.opq) (l₀ := Value.ref C :: bm') ?_ rfl X1 hsI (I1.type.andThen (PySem.W.looks_subIn X1 SC.ve)) (PySem.W.ks_ne X1 I1 hcl) (by decide) ?_
  · exact fun A Q E s k q => wpAny_bind ((PySem.W.looks_clsIn X1 hcl) A _ E s k (wpAny_pure q))
  have hu : (h1.push (PySem.W.kxs_mw "ValueError.__init__" a)).get? h1.objs.size = some (PySem.W.kxs_mw "ValueError.__init__" a) := Heap.get?_push_at rfl rfl
  have k2 : ∀ b o, h1.get? b = some o → (h1.push (PySem.W.kxs_mw "ValueError.__init__" a)).get? b = some o := fun b o e => Heap.get?_push_of_some _ e
  generalize h1.push (PySem.W.kxs_mw "ValueError.__init__" a) = h2 at hu k2
  have hse : starEach [Expr.Constant (Const.str txt) j p9] (PySem.W.ksEnv qual scope hp.objs.size fI (.ref cda) cc) = (false, eval (Expr.Constant (Const.str txt) j p9) (PySem.W.ksEnv qual scope hp.objs.size fI (.ref cda) cc)) :: starEach [] (PySem.W.ksEnv qual scope hp.objs.size fI (.ref cda) cc) := rfl
  dsimp only
  refine PySem.W.kxs_callWith (i := "ValueError.__init__") (x := a) rfl ?_
  rw [hse]
  refine Calls.evalArgs_plain ?_
  show wpAny _ _ (spliced (backTo p3 (starEach [Expr.Constant (Const.str txt) j p9] (PySem.W.ksEnv qual scope hp.objs.size fI (.ref cda) cc)))) _ _ _
  refine PyProof.Rows.args_cons (wpAny_Constant_str (PyProof.Rows.args_nil ⟨hu, ?_⟩)) hse
  have X2 : K.In h2 := X1.keeps k2
  have hx2 := k2 _ _ hx1
  refine wpAny_call (codeAny_of_tree ?_)
  show wpAny _ _ (callAny (.ref h1.objs.size) ⟨[] ++ [Value.str txt _], []⟩) _ _ _
  simp only [callAny]
  refine wpAny_bind (wpAny_load hu ?_)
  simp only [PySem.W.kxs_mw, show (Value.type "method-wrapper" == Value.type "method" || Value.type "method-wrapper" == Value.type "builtin_function_or_method" || Value.type "method-wrapper" == Value.type "method-wrapper") = true by decide, if_true]
  refine PySem.W.KFB.if_so (by decide) ?_
  refine wpAny_bind (PySem.W.check_bound_init F.excBase_ValueError.toExcCallFacts (X2 _ _ hC) hx2 rfl ?_)
  refine wpAny_bind (wpAny_pure (wpAny_pure ?_))
  refine ⟨plainId_quiet F.excBase_ValueError.init.plain _, codeAny_builtin F.excBase_ValueError.initEntry ?_⟩
  refine PySem.W.exc_init_tree (cls := .ref C) (t0 := t0) (dv := none) (c2 := .none) (c3 := .none) (b4 := .bool false) hx2 (by show 1 ≤ sizeLine; decide) (fun h3 k3 hx3 ht3 => ?_)
  have hLa : hp.objs.size ≠ a := Ne.symm (Nat.ne_of_lt (Heap.lt_size hx))
  have k03 : ∀ b o, b ≠ a → h₀.get? b = some o → h3.get? b = some o := fun b o hb e => k3 b o hb (k2 _ _ (k1 _ _ e))
  have X3 : K.In h3 := M0.kin.keeps fun b o e => k03 b o (fun z => by rw [z, hab] at e; cases e) (kbh b o e)
  have hns3 : h3.Ns hp.objs.size m := by
    obtain ⟨oL, es, ep, hL, r⟩ := hns
    exact ⟨oL, es, ep, k03 _ _ hLa hL, r⟩
  show PySem.wpAt _ _ _ (execs [Stmt.Assign [(Expr.Name "self" p5).Attribute fld p6] (Expr.Name px p7) p8] (PySem.W.ksEnv qual scope hp.objs.size fI (.ref cda) cc)) _ _ _
  refine PySem.ks_wpAt_execs_cons (PySem.ks_wpAt_Assign_Attr (wpAt_of_wpAny (PySem.ESX.ldL (env := PySem.W.ksEnv qual scope hp.objs.size fI (.ref cda) cc) hns3 v2 (PySem.ESX.ldL (env := PySem.W.ksEnv qual scope hp.objs.size fI (.ref cda) cc) hns3 v1 ?_ SS.kind SS.kself (by decide)) SS.kind SS.kx SS.dbg)))
  refine PySem.W.set_plain X3 (ox := { cls := .ref C, dict := none, data := .fields #[.ref h2.objs.size, .none, .none, .none, .bool false, .none] }) (od := none) ⟨hx3, rfl, rfl, trivial⟩ SC.oex.sa ?_
  refine PySem.HandSPX.exc_osa X3 hx3 hcl (show PySem.HandSPX.refsVE (.ref C :: bm') = true from hbm) rfl hno (fun h' tk' dx k dn dne hx' hn => ?_)
  refine wpAt_of_wpAny (wpAny_execs_nil ?_)
  refine hq h' _ dx _ (fun b o hb e => k b o hb (k03 b o hb (k0 _ _ e))) ?_ dne hx' hn
  obtain ⟨oL, es, ep, hL, r⟩ := hns3
  exact Nat.le_trans (Nat.le_of_lt (Heap.lt_size hL)) dn
theorem sup_code {prog : Program} {w : World} {A : Around} {K : PySem.W.Frag} {mg : Str → Option Value} {base hp : Heap} {g : Array GenState} {d : PySem.Drawn} {t : Nat} {os : OsState} {C fI a t0 : Addr} {qual : Str} {params : Arguments} {scope : Scope} {u : Value} {R : Result → Shared → Prop}
    {p0 p1 p2 p3 p4 p5 p6 p7 p8 p9 : Pos} {j : Nat} {txt fld px : Str}
    (SC : SupC prog K C fI qual params (supBody p0 p1 p2 p3 p4 p5 p6 p7 p8 p9 j txt fld px) scope) (SS : SupScope scope params px) (M0 : Mod K mg base) (kb : ∀ b o, base.get? b = some o → hp.get? b = some o) (hab : base.get? a = none) (hsup : mg "super" = none)
    (hroom : A.depth < recursionLimit) (hno : PySem.W.findIn K (.ref C) fld = some none) {pl : Env → Sem Bool}
    (hev : ∀ env : Env, eval (.Call (.Attribute (.Call (.Name "super" p0) [] [] p1) "__init__" p2) [.Constant (.str txt) j p9] [] p3) env = (do
      let ov ← attributeBase (.Call (.Name "super" p0) [] [] p1) "__init__" env (eval (.Call (.Name "super" p0) [] [] p1) env)
      standAt p2.atName
      let (f, first) ← holding [ov] (getMethod ov "__init__" (pl env))
      callWith p3 f first (backTo p3 (starEach [.Constant (.str txt) j p9] env)) []))
    (hbind : ∀ (nm : Str) (kV doc pm : Value) (an : Option Addr) (cdv ct : Value) (cc : Addr) (us : List Value), us.length = 2 → bindArgs (PySem.W.ksFn nm qual params (supBody p0 p1 p2 p3 p4 p5 p6 p7 p8 p9 j txt fld px) scope .none kV doc pm an cdv ct cc) ⟨us, []⟩ = pure ((["self", px] : List Str).zip us))
    (hx : hp.get? a = some (PySem.HandSPX.excO C t0))
    (hq : ∀ h' tk' dx t1, (∀ b o, b ≠ a → hp.get? b = some o → h'.get? b = some o) → hp.objs.size ≤ dx → dx ≠ a → h'.get? a = some ({ cls := .ref C, dict := some dx, data := .fields #[.ref t1, .none, .none, .none, .bool false, .none] } : Obj) →
      h'.Ns1 dx (fun y => if y = fld then some u else none) → R (.ok (.ret .none)) ⟨h', g, d, tk', os⟩) :
    codeAny (model prog w) A (.call (.ref fI) ⟨[.ref a, u], []⟩) R ⟨hp, g, d, t, os⟩ :=
  sup_codeG SC SS M0 kb hab hsup hroom hno hev (fun nm kV doc pm an cdv ct cc => hbind nm kV doc pm an cdv ct cc [.ref a, u] rfl) hx hq
/-- an own exception class by its name: super().__init__(text); self.fld = x -/
structure SupAt (P : Program) (K : PySem.W.Frag) (mg : Str → Option Value) (x fld : Str) : Prop where
  ex : ∃ (fI : Addr) (qual : Str) (params : Arguments) (scope : Scope) (p0 p1 p2 p3 p4 p5 p6 p7 p8 p9 : Pos) (j : Nat) (txt px : Str) (pl : Env → Sem Bool),
    SupC P K (He.ga K x) fI qual params (supBody p0 p1 p2 p3 p4 p5 p6 p7 p8 p9 j txt fld px) scope ∧ SupScope scope params px ∧
    (∀ env : Env, eval (.Call (.Attribute (.Call (.Name "super" p0) [] [] p1) "__init__" p2) [.Constant (.str txt) j p9] [] p3) env = (do
      let ov ← attributeBase (.Call (.Name "super" p0) [] [] p1) "__init__" env (eval (.Call (.Name "super" p0) [] [] p1) env)
      standAt p2.atName
      let (f, first) ← holding [ov] (getMethod ov "__init__" (pl env))
      callWith p3 f first (backTo p3 (starEach [.Constant (.str txt) j p9] env)) [])) ∧
    (∀ (nm : Str) (kV doc pm : Value) (an : Option Addr) (cdv ct : Value) (cc : Addr) (us : List Value), us.length = 2 → bindArgs (PySem.W.ksFn nm qual params (supBody p0 p1 p2 p3 p4 p5 p6 p7 p8 p9 j txt fld px) scope .none kV doc pm an cdv ct cc) ⟨us, []⟩ = pure ((["self", px] : List Str).zip us))
  no : PySem.W.findIn K (.ref (He.ga K x)) fld = some none
  g : mg x = some (.ref (He.ga K x))
  sup : mg "super" = none
/-- C(e), C such a class -/
def tMkS (C : Addr) (fld : Str) (te : TE) : L2.St → Hp → XK → Prop := fun σ H Q => te σ H fun y H1 => ∀ d, H1 d = none → Q (.ref C) (some d) (upd H1 d (.xd [(fld, y)]))
section
variable {X : Cx} {e : Expr} {te : TE} {p pos : Pos}
theorem pmk_sup {x fld : Str} {k : Nat} (S : SupAt X.prog X.K X.mg x fld) (hr : Room k X.A) (hg : Gl X x) (ha : PE X e te) (hk : 1 ≤ k := by decide)
    (hdb : (x == ("__debug__" : Str)) = false := by decide) (he : starEach [e] X.env = (false, eval e X.env) :: starEach [] X.env := by rfl) :
    PMk X (.Call (.Name x p) [e] [] pos) (tMkS (He.ga X.K x) fld te) := by
  intro pins s σ H Q I h
  obtain ⟨fI, qual, params, scope, p0, p1, p2, p3, p4, p5, p6, p7, p8, p9, j, txt, px, pl, SC, SS, hev, hbind⟩ := S.ex
  have T := SC.oex
  obtain ⟨nm, q, N, bs, bm, sn, sub, ab, col, dd, k0, k1, k2, k3, k5, hC, hbm⟩ := T.cls
  refine wpAny_Call_Name_kw (ld_glob I hg S.g ?_ hdb)
  refine PySem.W.callWith_K (h₀ := X.base) I.ok.mod.kin T.kC (PyProof.Rows.args_cons (thn (ha.run pins s σ H _ I h) fun u s1 ⟨y, H1, I1, ry, q1⟩ => PyProof.Rows.args_nil ⟨I1.kIn, ?_⟩) he) he rfl
  show wpAny _ _ (call (.ref (He.ga X.K x)) [u]) _ _ _
  obtain ⟨hp, g, dr, tk, os⟩ := s1
  have hsz : hp.objs.size ≤ hp.objs.size + 1 := Nat.le_succ _
  have hn : H1 (hp.objs.size + 1) = none := I1.hok.fresh hsz
  have kk : ∀ b o, hp.get? b = some o → ((hp.push (PySem.W.kdv_tup [u])).push (PySem.HandSPX.excO (He.ga X.K x) hp.objs.size)).get? b = some o := fun b o e => Heap.get?_push_of_some _ (Heap.get?_push_of_some _ e)
  have hget : ((hp.push (PySem.W.kdv_tup [u])).push (PySem.HandSPX.excO (He.ga X.K x) hp.objs.size)).get? (hp.objs.size + 1) = some (PySem.HandSPX.excO (He.ga X.K x) hp.objs.size) := by heap_get
  have hsz2 : hp.objs.size ≤ ((hp.push (PySem.W.kdv_tup [u])).push (PySem.HandSPX.excO (He.ga X.K x) hp.objs.size)).objs.size := Nat.le_of_lt (Nat.lt_trans (Nat.lt_succ_self _) (Heap.lt_size hget))
  have hab : X.base.get? (hp.objs.size + 1) = none := by
    cases z : X.base.get? (hp.objs.size + 1) with
    | none => rfl
    | some o => exact absurd (Heap.lt_size (I1.bk _ _ z)) (by show ¬ hp.objs.size + 1 < hp.objs.size; omega)
  refine wpAny_call (PySem.HandSPX.call_own F.excBase_ValueError (fun Y => PySem.HandSPX.refsVE_contains Y bm hbm) (I1.kIn _ _ hC) (PySem.W.looks_findIn I1.kIn SC.ini) (fun self => PySem.W.bind_fn I1.kIn self SC.tyI) (by show 1 ≤ sizeLine; decide)
    (sup_code SC SS I.ok.mod (fun b o e => kk b o (I1.bk b o e)) hab S.sup ((hr.mono hk).make (He.ga X.K x) [u] []).depth S.no hev hbind hget (fun h' tk' dx t1 k dn dne hx hns => ?_)))
  refine ⟨rfl, ?_⟩
  have hnd : H1 dx = none := I1.hok.fresh (Nat.le_trans hsz2 dn)
  generalize ea0 : hp.objs.size + 1 = a at *
  generalize eC : He.ga X.K x = C at *
  generalize (hp.push (PySem.W.kdv_tup [u])).push (PySem.HandSPX.excO C hp.objs.size) = hp2 at *
  have I2 : Inv X pins σ (upd H1 a (exo a C none)) ⟨hp2, g, dr, tk, os⟩ := I1.laid (t' := tk) (a := a) (o := exo a C none) (h' := hp2) kk hsz (exo_ok hget)
  have e : (upd H1 a (exo a C none)) a = some (exo a C none) := upd_same
  have hnd2 : (upd H1 a (exo a C none)) dx = none := (upd_ne dne).trans hnd
  have nd : ∀ {b : Addr} {o : Obj}, hp2.get? b = some o → b ≠ dx := fun {b o} q => Nat.ne_of_lt (Nat.lt_of_lt_of_le (Heap.lt_size q) dn)
  have na : ∀ {b : Addr}, (upd H1 a (exo a C none)) b = none → b ≠ a := fun {b} n z => by
    rw [z, e] at n
    cases n
  generalize hH : upd H1 a (exo a C none) = HH at *
  have Un1 : Un (frs X.stack) [] HH (upd (upd HH dx (exd dx [(fld, y)])) a (exo a C (some dx))) hp2 h' := {
    keep := fun b o q n _ _ => k b o (na n) q
    slot := fun b o q n _ _ => ⟨o.slots, k b o (na n) q⟩
    free := fun b o q n _ => by rw [upd_ne (na n), upd_ne (nd q)]; exact n
    there := fun b o q _ => by
      by_cases hb : b = a
      · exact ⟨_, by rw [hb]; exact hx⟩
      · exact ⟨o, k b o hb q⟩
    tups := fun b xs q => by rw [upd_ne (at_ne e q exo_tup), upd_ne (ne_of_none q hnd2)]; exact q
    frzs := fun b o v q => by rw [upd_ne (at_ne e q exo_frz), upd_ne (ne_of_none q hnd2)]; exact q
    tbls := fun b ps q => ⟨#[], by rw [upd_ne (at_ne e q exo_tbl), upd_ne (ne_of_none q hnd2), q]; simp⟩ }
  have hok2 : HOk X.prog X.w (upd (upd HH dx (exd dx [(fld, y)])) a (exo a C (some dx))) h' := fun b o q => by
    by_cases hb : b = a
    · subst hb
      rw [upd_same] at q
      cases q
      exact exo_ok hx
    · rw [upd_ne hb] at q
      by_cases hd : b = dx
      · subst hd
        rw [upd_same] at q
        cases q
        exact exd_ok hns (relO_put (fs := []) ry fun g => True.intro)
      · rw [upd_ne hd] at q
        exact (I2.hok b o q).stay (fun c v hc z => k c v (by
            rcases hc with hc | hc
            · rw [hc]
              exact hb
            · exact at_ne e hc exo_own) z)
          (fun c hc => by rw [upd_ne (at_ne e hc exo_own), upd_ne (ne_of_none hc hnd2)]; exact hc) (fun c xs hc => by rw [upd_ne (at_ne e hc exo_tup), upd_ne (ne_of_none hc hnd2)]; exact hc)
  have ea : (upd (upd HH dx (exd dx [(fld, y)])) a (exo a C (some dx))) a = some (exo a C (some dx)) := upd_same
  have ed : (upd (upd HH dx (exd dx [(fld, y)])) a (exo a C (some dx))) dx = some (exd dx [(fld, y)]) := (upd_ne dne).trans upd_same
  have eF : upd (del (upd (upd HH dx (exd dx [(fld, y)])) a (exo a C (some dx))) a) dx (.xd [(fld, y)]) = upd H1 dx (.xd [(fld, y)]) := by
    funext b
    by_cases hd : b = dx
    · rw [hd, upd_same, upd_same]
    · rw [upd_ne hd, upd_ne hd]
      by_cases hb : b = a
      · rw [hb, del_same, hn]
      · rw [del_ne hb, upd_ne hb, upd_ne hd, ← hH, upd_ne hb]
  rw [← hH] at Un1
  refine mk_end (raises_own T.exC T.tyC) I1 hsz kk Un1 (by rw [hH]; exact hok2) rfl I1.bare (by rw [hH]; exact ea) (by rw [hH]; exact ed) hnd ?_
  rw [hH, eF]
  exact q1 dx hnd
end
end WW

set_option Elab.async false
set_option linter.all false
set_option maxRecDepth 100000
set_option maxHeartbeats 4000000
namespace WW
open PySem PySem.Spec PyProof.Rows L2
/-- isinstance(e, c), isinstance(e, (c, ..)), e the exception that the suite holds -/
def rIsX (K : PySem.W.Frag) (D a : Addr) : List V → Hp → VK → Prop := fun xs H Q => ∃ (c : V) (u : Value) (b : Bool), xs = [.ref a, c] ∧ ClsV c u ∧ PySem.W.kitOne K (.ref D) u = some b ∧ Q (.bl b) H
def rIsXT (K : PySem.W.Frag) (D a : Addr) : List V → Hp → VK → Prop := fun xs H Q => ∃ (tp : Addr) (cs : List V) (us : List Value) (b : Bool), xs = [.ref a, .ref tp] ∧ H tp = some (.tup cs) ∧ Paired ClsV cs us ∧ PySem.W.kitAny K (.ref D) us = some b ∧ Q (.bl b) H
section
variable {X : Cx} {a D : Addr} {oe : Obj} {cls : Value} {d : Option Addr} {pn : List (Addr × Obj)}
theorem inst_x {pins : List (Addr × Obj)} {σ : L2.St} {H : Hp} {s : Shared} (hz : Zc (.ref D) d oe) (hf : ∃ vs, oe.data = .fields vs) (hd : ∀ dd, d = some dd → ∃ fs, H dd = some (.xd fs)) (I : Inv (X.suite a ((a, oe) :: pn)) pins σ H s) : ∃ od, PySem.W.InstAt s.heap a oe D od := by
  obtain ⟨hget, _⟩ := I.pin (a, oe) (List.mem_append.mpr (.inl List.mem_cons_self))
  obtain ⟨vs, hv⟩ := hf
  have hn : PySem.W.notCls oe = true := by unfold PySem.W.notCls; rw [hv] <;> rfl
  cases hd' : d with
  | none => exact ⟨none, hget, hz.1, hn, by rw [hz.2, hd']; trivial⟩
  | some dd =>
    obtain ⟨fs, e⟩ := hd dd hd'
    have hx : ObjOk X.prog X.w H s.heap dd (.xd fs) := I.hok dd _ e
    obtain ⟨mA, ⟨o, es, ep, ho, _⟩, _⟩ := hx
    exact ⟨some o, hget, hz.1, hn, by rw [hz.2, hd']; exact ho⟩
theorem call_isX (K : PySem.W.Frag) (C : ExcC X.K D) (hz : Zc cls d oe) (hf : ∃ vs, oe.data = .fields vs) (hK : X.K = K := by rfl) : CallR (X.suite a ((a, oe) :: pn)) (.builtin "isinstance") (fun xs H Q => cls = .ref D ∧ (∀ dd, d = some dd → ∃ fs, H dd = some (.xd fs)) ∧ rIsX K D a xs H Q) := by
  subst hK
  intro pins s σ H xs us Q I r h
  obtain ⟨ec, hd, c, u, b, rfl, k, e, q⟩ := h
  subst ec
  obtain ⟨u1, u2, rfl, r1, r2⟩ := vals2 r
  have e2 := k.eq r2
  subst e2
  cases r1
  obtain ⟨od, J⟩ := inst_x hz hf hd I
  exact PySem.W.kia_one (PySem.W.kitx_exc (by obtain ⟨cd, hc, _⟩ := PySem.W.any_some C.hd; rw [hc]; rfl) C.hg C.hk C.hs C.ha C.hn C.ht C.hm) I.kIn J e (fun z => nomatch z) fun tk => ⟨.bl b, H, I.tok tk, rfl, q⟩
theorem call_isXT (K : PySem.W.Frag) (C : ExcC X.K D) (hz : Zc cls d oe) (hf : ∃ vs, oe.data = .fields vs) (hK : X.K = K := by rfl) : CallR (X.suite a ((a, oe) :: pn)) (.builtin "isinstance") (fun xs H Q => cls = .ref D ∧ (∀ dd, d = some dd → ∃ fs, H dd = some (.xd fs)) ∧ rIsXT K D a xs H Q) := by
  subst hK
  intro pins s σ H xs us Q I r h
  obtain ⟨ec, hd, tp, cs, ws, b, rfl, hT, k, e, q⟩ := h
  subst ec
  obtain ⟨u1, u2, rfl, r1, r2⟩ := vals2 r
  cases (show u2 = Value.ref tp from r2)
  cases r1
  obtain ⟨od, J⟩ := inst_x hz hf hd I
  obtain ⟨_, its, rv, o, h1, h2, n, h3⟩ := (show ObjOk X.prog X.w H s.heap tp (.tup cs) from I.hok tp _ hT)
  have e3 := ClsV.all k rv
  subst e3
  obtain ⟨oc, od', dt, sl⟩ := o
  simp only at h2 h3
  subst h2 h3
  exact PySem.W.kia_tup (PySem.W.kitx_exc (by obtain ⟨cd, hc, _⟩ := PySem.W.any_some C.hd; rw [hc]; rfl) C.hg C.hk C.hs C.ha C.hn C.ht C.hm) I.kIn J h1 e (fun z => nomatch z) fun tk => ⟨.bl b, H, I.tok tk, rfl, q⟩
end
theorem takes_no {X : Cx} : Takes X (fun _ _ _ _ => False) := fun u s' x => by
  obtain ⟨_, _, _, _, _, _, _, _, _, _, _, _, _, _, _, _, w⟩ := x
  exact w.elim
/-! ### making an object, by an __init__ that may raise -/
structure MkAtX (P : Program) (w : World) (K : PySem.W.Frag) (mg : Str → Option Value) (base : Heap) (k : Nat) (x : Str) (ps : List Str) (sp : Sp) (dvs : List V) : Prop where
  ex : ∃ f fd ds, Mk K (He.ga K x) f ∧ FnOk P w K mg base (L2.CX P w) k f fd ps sp ∧ Vals dvs ds ∧ Binds K fd ps ds
  g : mg x = some (.ref (He.ga K x))
def tMakeS (C : Addr) (sp : Sp) (dvs : List V) (E : L2.St → XK) (t : TA) : TE := fun σ H Q => t σ H fun vs H1 => ∀ x dx, H1 x = none → H1 dx = none → dx ≠ x → sp (.ref x :: (vs ++ dvs)) (upd (upd H1 dx (.own x)) x (.ins C dx [])) (fun v H2 => v = .non ∧ Q (.ref x) H2) (E σ)
section
variable {X : Cx} {k j : Nat} {x : Str} {ps : List Str} {sp : Sp} {e : Expr} {es : List Expr} {t : TA} {p pos : Pos} {dvs : List V} {W : WX}
theorem pe_mkrX (K : PySem.W.Frag) (F : MkAtX X.prog X.w K X.mg X.base k x ps sp dvs) (tk : Takes X W) (hr : Room j X.A) (hg : Gl X x) (ha : PA X (e :: es) t) (hk : k + 1 ≤ j := by decide) (hK : X.K = K := by rfl)
    (hdb : (x == ("__debug__" : Str)) = false := by decide) (he : starEach (e :: es) X.env = (false, eval e X.env) :: starEach es X.env := by rfl) (hpl : (backTo pos (starEach es X.env)).any (·.1) = false := by rfl) :
    PE X (.Call (.Name x p) (e :: es) [] pos) (tMakeS (He.ga K x) sp dvs (WE W) t) := by
  subst hK
  obtain ⟨f, fd, ds, M, F1, hd, hb⟩ := F.ex
  refine ⟨fun pins s0 σ H0 Q I0 h0 => ?_⟩
  refine wpAny_Call_Name_kw (ld_glob I0 hg F.g ?_ hdb)
  refine PySem.W.callWith_K (h₀ := X.base) I0.ok.mod.kin M.kp (thn (ha.run pos pins s0 σ H0 _ I0 h0) fun us s ⟨vs, H, I, r, h⟩ => ⟨I.kIn, ?_⟩) he hpl
  have hq := h (s.heap.objs.size + 1) s.heap.objs.size (I.hok.fresh (Nat.le_succ _)) (I.hok.fresh (Nat.le_refl _)) (Nat.ne_of_lt (Nat.lt_succ_self _))
  have I2 := Inv.made (C := He.ga X.K x) I
  have r2 : Vals (V.ref (s.heap.objs.size + 1) :: (vs ++ dvs)) (Value.ref (s.heap.objs.size + 1) :: (us ++ ds)) := .cons rfl (r.append hd)
  have hl : (Value.ref (s.heap.objs.size + 1) :: us ++ ds).length = ps.length := by
    have e := r2.length
    rw [F1.len _ _ _ _ hq] at e
    exact e.symm
  show wpAny _ _ (call (.ref (He.ga X.K x)) us) _ _ _
  refine wpAny_call (make_map (f := f) I.kIn M.makes M.init (beq_iff_eq.mp M.fn) (codeAny_mono (F1.run _ X.stack _ _ ⟨Value.ref (s.heap.objs.size + 1) :: us, []⟩ (Value.ref (s.heap.objs.size + 1) :: (us ++ ds)) _ _ (WE W σ) ((hr.mono hk).make (He.ga X.K x) us [])
    (I2.env0.make (He.ga X.K x) us []) (hb _ (Value.ref (s.heap.objs.size + 1) :: us) I2.kIn hl) r2 hq) fun r s' hq' => ?_))
  cases r with
  | error e => exact passAt tk σ pins _ _ e s' I2 hq'
  | ok fl =>
    cases fl with
    | ret u =>
      obtain ⟨v, H', I3, rv, ev, q3⟩ := I2.after hq'
      subst ev
      exact ⟨rv, ⟨V.ref (s.heap.objs.size + 1), H', I3, rfl, q3⟩⟩
    | next => exact False.elim hq'
    | brk => exact False.elim hq'
    | cont => exact False.elim hq'
end
end WW

set_option Elab.async false
set_option linter.all false
set_option maxRecDepth 100000
set_option maxHeartbeats 4000000
namespace WW
open PySem PySem.Spec PyProof.Rows L2
/-! ### typed values: what a value stands for, told by the stable heap -/
class Enc (α : Type) where
  rep : PySem.W.Frag → Hp → V → α → Prop
  mono : ∀ {K : PySem.W.Frag} {H H' : Hp} {v : V} {a : α}, Same H H' → rep K H v a → rep K H' v a
def BIG : Nat := 1000000
theorem big_line : BIG ≤ sizeLine := by decide
instance : Enc Int := ⟨fun _ _ v i => v = .int i, fun _ h => h⟩
instance : Enc Bool := ⟨fun _ _ v b => v = .bl b, fun _ h => h⟩
instance : Enc Unit := ⟨fun _ _ v _ => v = .non, fun _ h => h⟩
instance : Enc Str := ⟨fun _ _ v z => v = .str z, fun _ h => h⟩
instance {α : Type} [Enc α] : Enc (Option α) where
  rep K H v o := match o with
    | none => v = .non
    | some a => Enc.rep K H v a
  mono {K H H' v a} e h := by
    cases a with
    | none => exact h
    | some a => exact Enc.mono e h
theorem Paired.at {α β : Type} {F : α → β → Prop} : ∀ {l : List α} {r : List β} {i : Nat} {b : β}, Paired F l r → r[i]? = some b → ∃ a, l[i]? = some a ∧ F a b
  | _, _, _, _, .nil, e => by simp at e
  | _, _, 0, _, .cons f _, e => by
    simp at e
    subst e
    exact ⟨_, rfl, f⟩
  | _, _, i + 1, b, .cons _ t, e => by
    obtain ⟨u, h1, h2⟩ := Paired.at (i := i) (b := b) t (by simpa using e)
    exact ⟨u, by simpa using h1, h2⟩
theorem Paired.app {α β : Type} {F : α → β → Prop} : ∀ {l l' : List α} {r r' : List β}, Paired F l r → Paired F l' r' → Paired F (l ++ l') (r ++ r')
  | _, _, _, _, .nil, h => h
  | _, _, _, _, .cons f t, h => .cons f (Paired.app t h)
theorem Paired.tk {α β : Type} {F : α → β → Prop} : ∀ {l : List α} {r : List β} (n : Nat), Paired F l r → Paired F (l.take n) (r.take n)
  | _, _, 0, _ => by simp; exact .nil
  | _, _, _ + 1, .nil => .nil
  | _, _, n + 1, .cons f t => .cons f (Paired.tk n t)
theorem Paired.dr {α β : Type} {F : α → β → Prop} : ∀ {l : List α} {r : List β} (n : Nat), Paired F l r → Paired F (l.drop n) (r.drop n)
  | _, _, 0, h => h
  | _, _, _ + 1, .nil => .nil
  | _, _, n + 1, .cons _ t => Paired.dr n t
/-- a list or a tuple -/
instance {α : Type} [Enc α] : Enc (List α) where
  rep K H v xs := xs.length ≤ BIG ∧ ∃ p vs, v = .ref p ∧ Sq K H p vs ∧ Paired (Enc.rep K H) vs xs
  mono e h := by
    obtain ⟨hl, p, vs, r, hq, hp⟩ := h
    exact ⟨hl, p, vs, r, hq.ex e, Paired.mono (fun _ _ => Enc.mono e) hp⟩
/-- surely a list; surely a tuple -/
def L (α : Type) := List α
def U (α : Type) := List α
instance {α : Type} [Enc α] : Enc (L α) where
  rep K H v xs := List.length xs ≤ BIG ∧ ∃ p vs, v = .ref p ∧ H p = some (.lst vs) ∧ Paired (Enc.rep K H) vs xs
  mono e h := by
    obtain ⟨hl, p, vs, r, hq, hp⟩ := h
    exact ⟨hl, p, vs, r, e _ _ hq, Paired.mono (fun _ _ => Enc.mono e) hp⟩
instance {α : Type} [Enc α] : Enc (U α) where
  rep K H v xs := List.length xs ≤ BIG ∧ ∃ p vs, v = .ref p ∧ SqT K H p vs ∧ Paired (Enc.rep K H) vs xs
  mono e h := by
    obtain ⟨hl, p, vs, r, hq, hp⟩ := h
    exact ⟨hl, p, vs, r, Evl.ex_t e hq, Paired.mono (fun _ _ => Enc.mono e) hp⟩
instance {α β : Type} [Enc α] [Enc β] : Enc (α × β) where
  rep K H v ab := ∃ p v1 v2, v = .ref p ∧ SqT K H p [v1, v2] ∧ Enc.rep K H v1 ab.1 ∧ Enc.rep K H v2 ab.2
  mono e h := by
    obtain ⟨p, v1, v2, r, hq, h1, h2⟩ := h
    exact ⟨p, v1, v2, r, Evl.ex_t e hq, Enc.mono e h1, Enc.mono e h2⟩
structure T3 (α β γ : Type) where
  a : α
  b : β
  c : γ
instance {α β γ : Type} [Enc α] [Enc β] [Enc γ] : Enc (T3 α β γ) where
  rep K H v t := ∃ p v1 v2 v3, v = .ref p ∧ SqT K H p [v1, v2, v3] ∧ Enc.rep K H v1 t.a ∧ Enc.rep K H v2 t.b ∧ Enc.rep K H v3 t.c
  mono e h := by
    obtain ⟨p, v1, v2, v3, r, hq, h1, h2, h3⟩ := h
    exact ⟨p, v1, v2, v3, r, Evl.ex_t e hq, Enc.mono e h1, Enc.mono e h2, Enc.mono e h3⟩
/-! ### the stable heap S within the heap H; boxes B may change -/
def IsBx (o : Option HO) : Prop := ∃ x y z : Int, o = some (bx x y z)
structure Ext (B : Addr → Prop) (S H S' H' : Hp) : Prop where
  s : Same S S'
  i : Same S' H'
  p : ∀ a, S a = none → H a ≠ none → S' a = none ∧ (H' a = H a ∨ (B a ∧ IsBx (H' a)))
section
variable {B : Addr → Prop} {S H S1 H1 S2 H2 : Hp}
theorem IsBx.ne {o : Option HO} (h : IsBx o) : o ≠ none := by
  obtain ⟨x, y, z, e⟩ := h
  rw [e]
  exact fun q => nomatch q
theorem Ext.refl (h : Same S H) : Ext B S H S H := ⟨Same.refl S, h, fun a h _ => ⟨h, .inl rfl⟩⟩
theorem Ext.trans (a : Ext B S H S1 H1) (b : Ext B S1 H1 S2 H2) : Ext B S H S2 H2 := by
  refine ⟨a.s.trans b.s, b.i, fun x h1 h2 => ?_⟩
  obtain ⟨q1, q2⟩ := a.p x h1 h2
  have n1 : H1 x ≠ none := by
    rcases q2 with q2 | ⟨_, q2⟩
    · rw [q2]
      exact h2
    · exact q2.ne
  obtain ⟨r1, r2⟩ := b.p x q1 n1
  refine ⟨r1, ?_⟩
  rcases r2 with r2 | r2
  · rcases q2 with q2 | ⟨k, q2⟩
    · exact .inl (r2.trans q2)
    · exact .inr ⟨k, by rw [r2]; exact q2⟩
  · exact .inr r2
/-- what is free behind was free ahead -/
theorem Ext.free (e : Ext B S H S1 H1) (i : Same S H) {a : Addr} (h : H1 a = none) : H a = none := by
  cases q : S a with
  | some o => rw [e.i _ _ (e.s _ _ q)] at h; cases h
  | none =>
    cases r : H a with
    | none => rfl
    | some o =>
      rcases (e.p a q (by rw [r]; exact fun z => nomatch z)).2 with z | ⟨_, z⟩
      · rw [z, r] at h; cases h
      · exact absurd h z.ne
/-- something new, stable -/
theorem Ext.new {p : Addr} {o : HO} (i : Same S H) (h : H p = none) : Ext B S H (upd S p o) (upd H p o) := by
  have sn := i.free h
  refine ⟨same_new sn, fun a u e => ?_, fun a h1 h2 => ?_⟩
  · by_cases z : a = p
    · subst z
      rw [upd_same] at e ⊢
      exact e
    · rw [upd_ne z] at e ⊢
      exact i _ _ e
  · have z : a ≠ p := fun z => h2 (by rw [z]; exact h)
    rw [upd_ne z, upd_ne z]
    exact ⟨h1, .inl rfl⟩
/-- something new, private -/
theorem Ext.priv {p : Addr} {o : HO} (i : Same S H) (h : H p = none) : Ext B S H S (upd H p o) := by
  refine ⟨Same.refl S, i.trans (same_new h), fun a h1 h2 => ⟨h1, .inl (upd_ne fun z => h2 (by rw [z]; exact h))⟩⟩
/-- garbage -/
theorem Ext.grow (i : Same S H) (h : Same H H1) : Ext B S H S H1 := by
  refine ⟨Same.refl S, i.trans h, fun a h1 h2 => ⟨h1, .inl ?_⟩⟩
  cases q : H a with
  | none => exact absurd q h2
  | some o => exact h _ _ q
/-- what was private and new becomes stable -/
theorem Ext.frz {p : Addr} {o : HO} (e : Ext B S H S1 H1) (h : H p = none) (i : Same S H) (h1 : H1 p = some o) (h2 : S1 p = none) : Ext B S H (upd S1 p o) H1 := by
  refine ⟨e.s.trans (same_new h2), fun a u q => ?_, fun a q1 q2 => ?_⟩
  · by_cases z : a = p
    · subst z
      rw [upd_same] at q
      cases q
      exact h1
    · rw [upd_ne z] at q
      exact e.i _ _ q
  · have z : a ≠ p := fun z => q2 (by rw [z]; exact h)
    rw [upd_ne z]
    exact e.p a q1 q2
end
/-! ### slots -/
/-- what an object of one's own is -/
structure OwnP where
  rep : PySem.W.Frag → Hp → Addr → HO → Prop
  mono : ∀ {K : PySem.W.Frag} {S S' : Hp} {p : Addr} {o : HO}, Same S S' → rep K S p o → rep K S' p o
inductive Slot : Type 1
  | no | box
  | val {α : Type} [e : Enc α] (a : α)
  | obj (P : OwnP)
  | out (P : OwnP)
def ownL {α : Type} [Enc α] (xs : List α) : OwnP := ⟨fun K S _ o => xs.length ≤ BIG ∧ ∃ vs, o = .lst vs ∧ Paired (Enc.rep K S) vs xs, fun e ⟨l, vs, r, h⟩ => ⟨l, vs, r, Paired.mono (fun _ _ => Enc.mono e) h⟩⟩
@[reducible] def Slot.own {α : Type} [Enc α] (xs : List α) : Slot := .obj (ownL xs)
def Slot.isOwn : Slot → Bool
  | .obj _ => true
  | _ => false
/-- H0: the heap at the def's start (what is owned is new since) -/
def SlotOk (K : PySem.W.Frag) (B : Addr → Prop) (H0 S H : Hp) : Option V → Slot → Prop
  | _, .no => True
  | some v, @Slot.val _ e a => e.rep K S v a
  | some v, .obj P => ∃ p o, v = .ref p ∧ H0 p = none ∧ S p = none ∧ H p = some o ∧ P.rep K S p o
  | some v, .out P => ∃ p o, v = .ref p ∧ ¬ B p ∧ H0 p ≠ none ∧ S p = none ∧ H p = some o ∧ P.rep K S p o
  | some v, .box => ∃ p, v = .ref p ∧ B p
  | none, _ => False
structure En (K : PySem.W.Frag) (B : Addr → Prop) (S0 H0 S H : Hp) (σ : L2.St) (ρ : List Slot) : Prop where
  i0 : Same S0 H0
  bx : ∀ p, B p → S p = none ∧ IsBx (H p) ∧ H0 p ≠ none
  ext : Ext B S0 H0 S H
  len : σ.length = ρ.length
  at' : ∀ (i : Nat) (s : Slot), ρ[i]? = some s → ∃ o, σ[i]? = some o ∧ SlotOk K B H0 S H o s
  ne : ∀ (i j : Nat) (s u : Slot), i ≠ j → ρ[i]? = some s → ρ[j]? = some u → s.isOwn = true → u.isOwn = true → σ[i]? ≠ σ[j]?
section
variable {K : PySem.W.Frag} {B : Addr → Prop} {S0 H0 S H S1 H1 : Hp} {σ : L2.St} {ρ : List Slot}
theorem En.i (E : En K B S0 H0 S H σ ρ) : Same S H := E.ext.i
theorem SlotOk.ext {o : Option V} {s : Slot} (e : Ext B S H S1 H1) (hb : ∀ p, B p → H0 p ≠ none) (h : SlotOk K B H0 S H o s) : SlotOk K B H0 S1 H1 o s := by
  cases s with
  | no => cases o <;> trivial
  | box =>
    cases o with
    | none => cases h
    | some v => exact h
  | val a =>
    cases o with
    | none => cases h
    | some v => exact Enc.mono e.s h
  | obj P =>
    cases o with
    | none => cases h
    | some v =>
      obtain ⟨p, u, r, h0, hs, hh, hp⟩ := h
      obtain ⟨q1, q2⟩ := e.p p hs (by rw [hh]; exact fun z => nomatch z)
      refine ⟨p, u, r, h0, q1, ?_, P.mono e.s hp⟩
      rcases q2 with q2 | ⟨q2, _⟩
      · rw [q2]
        exact hh
      · exact absurd h0 (hb p q2)
  | out P =>
    cases o with
    | none => cases h
    | some v =>
      obtain ⟨p, u, r, nb, h0, hs, hh, hp⟩ := h
      obtain ⟨q1, q2⟩ := e.p p hs (by rw [hh]; exact fun z => nomatch z)
      refine ⟨p, u, r, nb, h0, q1, ?_, P.mono e.s hp⟩
      rcases q2 with q2 | ⟨q2, _⟩
      · rw [q2]
        exact hh
      · exact absurd q2 nb
theorem En.go (E : En K B S0 H0 S H σ ρ) (e : Ext B S H S1 H1) : En K B S0 H0 S1 H1 σ ρ := by
  refine ⟨E.i0, fun p hp => ?_, E.ext.trans e, E.len, fun i s h => ?_, E.ne⟩
  · obtain ⟨h1, h2, h3⟩ := E.bx p hp
    obtain ⟨q1, q2⟩ := e.p p h1 h2.ne
    refine ⟨q1, ?_, h3⟩
    rcases q2 with q2 | ⟨_, q2⟩
    · rw [q2]
      exact h2
    · exact q2
  · obtain ⟨o, h1, h2⟩ := E.at' i s h
    exact ⟨o, h1, h2.ext e fun p hp => (E.bx p hp).2.2⟩
theorem En.val {i : Nat} {α : Type} [Enc α] {a : α} (E : En K B S0 H0 S H σ ρ) (h : ρ[i]? = some (.val a)) : ∃ v, σ[i]? = some (some v) ∧ Enc.rep K S v a := by
  obtain ⟨o, h1, h2⟩ := E.at' i _ h
  cases o with
  | none => cases h2
  | some v => exact ⟨v, h1, h2⟩
theorem En.obj {i : Nat} {P : OwnP} (E : En K B S0 H0 S H σ ρ) (h : ρ[i]? = some (.obj P)) : ∃ p o, σ[i]? = some (some (.ref p)) ∧ H0 p = none ∧ S p = none ∧ H p = some o ∧ P.rep K S p o := by
  obtain ⟨o, h1, h2⟩ := E.at' i _ h
  cases o with
  | none => cases h2
  | some v =>
    obtain ⟨p, u, rfl, r⟩ := h2
    exact ⟨p, u, h1, r⟩
theorem En.own {i : Nat} {α : Type} [Enc α] {xs : List α} (E : En K B S0 H0 S H σ ρ) (h : ρ[i]? = some (.own xs)) : xs.length ≤ BIG ∧ ∃ p vs, σ[i]? = some (some (.ref p)) ∧ H0 p = none ∧ S p = none ∧ H p = some (.lst vs) ∧ Paired (Enc.rep K S) vs xs := by
  obtain ⟨p, o, h1, h0, hs, hh, hl, vs, rfl, r⟩ := E.obj h
  exact ⟨hl, p, vs, h1, h0, hs, hh, r⟩
theorem En.out {i : Nat} {P : OwnP} (E : En K B S0 H0 S H σ ρ) (h : ρ[i]? = some (.out P)) : ∃ p o, σ[i]? = some (some (.ref p)) ∧ ¬ B p ∧ H0 p ≠ none ∧ S p = none ∧ H p = some o ∧ P.rep K S p o := by
  obtain ⟨o, h1, h2⟩ := E.at' i _ h
  cases o with
  | none => cases h2
  | some v =>
    obtain ⟨p, u, rfl, r⟩ := h2
    exact ⟨p, u, h1, r⟩
theorem En.box {i : Nat} (E : En K B S0 H0 S H σ ρ) (h : ρ[i]? = some .box) : ∃ p, σ[i]? = some (some (.ref p)) ∧ B p := by
  obtain ⟨o, h1, h2⟩ := E.at' i _ h
  cases o with
  | none => cases h2
  | some v =>
    obtain ⟨p, rfl, hb⟩ := h2
    exact ⟨p, h1, hb⟩
/-- a slot is set to something that is not owned -/
theorem En.set {i : Nat} {o : Option V} {s : Slot} (E : En K B S0 H0 S H σ ρ) (h : SlotOk K B H0 S H o s) (hs : s.isOwn = false) : En K B S0 H0 S H (σ.set i o) (ρ.set i s) := by
  refine ⟨E.i0, E.bx, E.ext, by rw [List.length_set, List.length_set]; exact E.len, fun j u hj => ?_, fun j k u w n hj hk ju kw => ?_⟩
  · rw [List.getElem?_set] at hj ⊢
    by_cases z : i = j
    · subst z
      rw [if_pos rfl] at hj ⊢
      rw [E.len]
      by_cases q : i < ρ.length
      · rw [if_pos q] at hj ⊢
        cases hj
        exact ⟨o, rfl, h⟩
      · rw [if_neg q] at hj
        cases hj
    · rw [if_neg z] at hj ⊢
      exact E.at' j u hj
  · rw [List.getElem?_set] at hj hk
    have z1 : i ≠ j := fun z => by
      rw [if_pos z] at hj
      split at hj
      · cases hj
        rw [hs] at ju
        cases ju
      · cases hj
    have z2 : i ≠ k := fun z => by
      rw [if_pos z] at hk
      split at hk
      · cases hk
        rw [hs] at kw
        cases kw
      · cases hk
    rw [if_neg z1] at hj
    rw [if_neg z2] at hk
    rw [List.getElem?_set_ne z1, List.getElem?_set_ne z2]
    exact E.ne j k u w n hj hk ju kw
theorem En.setV {i : Nat} {v : V} {α : Type} [Enc α] {a : α} (E : En K B S0 H0 S H σ ρ) (h : Enc.rep K S v a) : En K B S0 H0 S H (σ.set i (some v)) (ρ.set i (.val a)) := E.set h rfl
/-- an owned address is no other's -/
theorem En.ownNe {i j : Nat} {s u : Slot} {p q : Addr} (E : En K B S0 H0 S H σ ρ) (n : i ≠ j) (h1 : ρ[i]? = some s) (h2 : ρ[j]? = some u) (o1 : s.isOwn = true) (o2 : u.isOwn = true) (e1 : σ[i]? = some (some (.ref p))) (e2 : σ[j]? = some (some (.ref q))) : p ≠ q := fun z => E.ne i j s u n h1 h2 o1 o2 (by rw [e1, e2, z])
/-- a slot is set to something new that is owned -/
theorem En.setOb {i : Nat} {p : Addr} {u : HO} {P : OwnP} (E : En K B S0 H0 S H σ ρ) (e : Ext B S H S1 H1) (hp : H p = none) (hs : S1 p = none) (hh : H1 p = some u) (r : P.rep K S1 p u) :
    En K B S0 H0 S1 H1 (σ.set i (some (.ref p))) (ρ.set i (.obj P)) := by
  have E1 := E.go e
  have h0 : H0 p = none := E.ext.free E.i0 hp
  refine ⟨E1.i0, E1.bx, E1.ext, by rw [List.length_set, List.length_set]; exact E1.len, fun j u hj => ?_, fun j k u w n hj hk ju kw => ?_⟩
  · rw [List.getElem?_set] at hj ⊢
    by_cases z : i = j
    · subst z
      rw [if_pos rfl] at hj ⊢
      rw [E.len]
      by_cases q : i < ρ.length
      · rw [if_pos q] at hj ⊢
        cases hj
        exact ⟨_, rfl, p, _, rfl, h0, hs, hh, r⟩
      · rw [if_neg q] at hj
        cases hj
    · rw [if_neg z] at hj ⊢
      exact E1.at' j u hj
  · have old : ∀ (j : Nat) (u : Slot), ρ[j]? = some u → u.isOwn = true → σ[j]? ≠ some (some (V.ref p)) := fun j u hu ou z => by
      obtain ⟨o, h1, h2⟩ := E.at' j u hu
      rw [z] at h1
      cases h1
      cases u with
      | obj P =>
        obtain ⟨q, _, z1, _, _, z2, _⟩ := h2
        cases z1
        rw [hp] at z2
        cases z2
      | _ => cases ou
    rw [List.getElem?_set] at hj hk
    by_cases z1 : i = j
    · have z2 : i ≠ k := fun z => n (z1.symm.trans z)
      rw [if_neg z2] at hk
      subst z1
      rw [List.getElem?_set_ne z2]
      have il : i < σ.length := by
        rw [if_pos rfl] at hj
        split at hj
        · rw [E.len]; assumption
        · cases hj
      rw [List.getElem?_set_self il]
      exact fun z => old k w hk kw z.symm
    · rw [if_neg z1] at hj
      rw [List.getElem?_set_ne z1]
      by_cases z2 : i = k
      · subst z2
        have il : i < σ.length := by
          rw [if_pos rfl] at hk
          split at hk
          · rw [E.len]; assumption
          · cases hk
        rw [List.getElem?_set_self il]
        exact old j u hj ju
      · rw [if_neg z2] at hk
        rw [List.getElem?_set_ne z2]
        exact E.ne j k u w n hj hk ju kw
theorem En.setO {i : Nat} {p : Addr} {vs : List V} {α : Type} [Enc α] {xs : List α} (E : En K B S0 H0 S H σ ρ) (e : Ext B S H S1 H1) (hp : H p = none) (hs : S1 p = none) (hh : H1 p = some (.lst vs)) (r : Paired (Enc.rep K S1) vs xs) (hl : xs.length ≤ BIG) :
    En K B S0 H0 S1 H1 (σ.set i (some (.ref p))) (ρ.set i (.own xs)) := E.setOb e hp hs hh ⟨hl, vs, rfl, r⟩
/-- an owned object is changed -/
theorem En.chgOb {i : Nat} {p : Addr} {u' : HO} {P P' : OwnP} (E : En K B S0 H0 S H σ ρ) (hi : ρ[i]? = some (.obj P)) (hσ : σ[i]? = some (some (.ref p))) (r : P'.rep K S p u') :
    En K B S0 H0 S (upd H p u') σ (ρ.set i (.obj P')) := by
  obtain ⟨p', ws, e1, h0, hs, hh, _⟩ := E.obj hi
  rw [hσ] at e1
  cases e1
  have nb : ∀ q, B q → q ≠ p := fun q hq z => (E.bx q hq).2.2 (by rw [z]; exact h0)
  refine ⟨E.i0, fun q hq => ?_, ⟨E.ext.s, fun a u q => ?_, fun a q1 q2 => ?_⟩, by rw [List.length_set]; exact E.len, fun j u hj => ?_, fun j k u w n hj hk ju kw => ?_⟩
  · rw [upd_ne (nb q hq)]
    exact E.bx q hq
  · rw [upd_ne (fun z => by rw [z, hs] at q; cases q)]
    exact E.i _ _ q
  · rw [upd_ne (fun z => q2 (by rw [z]; exact h0))]
    exact E.ext.p a q1 q2
  · rw [List.getElem?_set] at hj
    by_cases z : i = j
    · subst z
      rw [if_pos rfl] at hj
      split at hj
      · cases hj
        exact ⟨_, hσ, p, _, rfl, h0, hs, upd_same, r⟩
      · cases hj
    · rw [if_neg z] at hj
      obtain ⟨o, h1, h2⟩ := E.at' j u hj
      refine ⟨o, h1, ?_⟩
      cases u with
      | no => cases o <;> trivial
      | box =>
        cases o with
        | none => cases h2
        | some v => exact h2
      | val a =>
        cases o with
        | none => cases h2
        | some v => exact h2
      | obj P =>
        cases o with
        | none => cases h2
        | some v =>
          obtain ⟨q, us, rfl, g0, gs, gh, gr⟩ := h2
          refine ⟨q, us, rfl, g0, gs, ?_, gr⟩
          rw [upd_ne (fun y => E.ownNe z hi hj rfl rfl hσ h1 y.symm)]
          exact gh
      | out P =>
        cases o with
        | none => cases h2
        | some v =>
          obtain ⟨q, us, rfl, nb, g0, gs, gh, gr⟩ := h2
          refine ⟨q, us, rfl, nb, g0, gs, ?_, gr⟩
          rw [upd_ne (fun y => g0 (by rw [y]; exact h0))]
          exact gh
  · have up : ∀ (j : Nat) (u : Slot), (ρ.set i (.obj P'))[j]? = some u → u.isOwn = true → ∃ s : Slot, ρ[j]? = some s ∧ s.isOwn = true := fun j u hj ju => by
      rw [List.getElem?_set] at hj
      by_cases z : i = j
      · subst z
        exact ⟨_, hi, rfl⟩
      · rw [if_neg z] at hj
        exact ⟨u, hj, ju⟩
    obtain ⟨s, h1, h2⟩ := up j u hj ju
    obtain ⟨t, h3, h4⟩ := up k w hk kw
    exact E.ne j k s t n h1 h3 h2 h4
/-- an owned list is changed -/
theorem En.chg {i : Nat} {p : Addr} {vs : List V} {α β : Type} [Enc α] [Enc β] {xs : List α} {ys : List β} (E : En K B S0 H0 S H σ ρ) (hi : ρ[i]? = some (.own xs)) (hσ : σ[i]? = some (some (.ref p))) (r : Paired (Enc.rep K S) vs ys) (hl : ys.length ≤ BIG) :
    En K B S0 H0 S (upd H p (.lst vs)) σ (ρ.set i (.own ys)) := E.chgOb hi hσ ⟨hl, vs, rfl, r⟩
/-- an owned object becomes a value -/
theorem En.frzOb {i : Nat} {P : OwnP} {α : Type} [Enc α] {a : α} (E : En K B S0 H0 S H σ ρ) (hi : ρ[i]? = some (.obj P)) (cv : ∀ (S1 : Hp) (p : Addr) (u : HO), S1 p = some u → P.rep K S1 p u → Enc.rep K S1 (.ref p) a) : ∃ S1, Ext B S0 H0 S1 H ∧ Same S S1 ∧ En K B S0 H0 S1 H σ (ρ.set i (.val a)) := by
  obtain ⟨p, w, e1, h0, hs, hh, r⟩ := E.obj hi
  have sm : Same S (upd S p w) := same_new hs
  have ex : Ext B S0 H0 (upd S p w) H := E.ext.frz h0 E.i0 hh hs
  refine ⟨_, ex, sm, ⟨E.i0, fun q hq => ?_, ex, by rw [List.length_set]; exact E.len, fun j u hj => ?_, fun j k u w n hj hk ju kw => ?_⟩⟩
  · rw [upd_ne (fun z => (E.bx q hq).2.2 (by rw [z]; exact h0))]
    exact E.bx q hq
  · rw [List.getElem?_set] at hj
    by_cases z : i = j
    · subst z
      rw [if_pos rfl] at hj
      split at hj
      · cases hj
        exact ⟨_, e1, cv _ p w upd_same (P.mono sm r)⟩
      · cases hj
    · rw [if_neg z] at hj
      obtain ⟨o, h1, h2⟩ := E.at' j u hj
      refine ⟨o, h1, ?_⟩
      cases u with
      | no => cases o <;> trivial
      | box =>
        cases o with
        | none => cases h2
        | some v => exact h2
      | val a =>
        cases o with
        | none => cases h2
        | some v => exact Enc.mono sm h2
      | obj P =>
        cases o with
        | none => cases h2
        | some v =>
          obtain ⟨q, us, rfl, g0, gs, gh, gr⟩ := h2
          refine ⟨q, us, rfl, g0, ?_, gh, P.mono sm gr⟩
          rw [upd_ne (fun y => E.ownNe z hi hj rfl rfl e1 h1 y.symm)]
          exact gs
      | out P =>
        cases o with
        | none => cases h2
        | some v =>
          obtain ⟨q, us, rfl, nb, g0, gs, gh, gr⟩ := h2
          refine ⟨q, us, rfl, nb, g0, ?_, gh, P.mono sm gr⟩
          rw [upd_ne (fun y => g0 (by rw [y]; exact h0))]
          exact gs
  · have up : ∀ (j : Nat) (u : Slot), (ρ.set i (.val a))[j]? = some u → u.isOwn = true → ρ[j]? = some u := fun j u hj ju => by
      rw [List.getElem?_set] at hj
      by_cases z : i = j
      · subst z
        rw [if_pos rfl] at hj
        split at hj
        · cases hj
          cases ju
        · cases hj
      · rw [if_neg z] at hj
        exact hj
    exact E.ne j k u w n (up j u hj ju) (up k w hk kw) ju kw
theorem En.frz {i : Nat} {α : Type} [Enc α] {xs : List α} (E : En K B S0 H0 S H σ ρ) (hi : ρ[i]? = some (.own xs)) : ∃ S1, Ext B S0 H0 S1 H ∧ Same S S1 ∧ En K B S0 H0 S1 H σ (ρ.set i (.val (α := L α) xs)) :=
  E.frzOb hi fun S1 p u hp ⟨hl, vs, e, r⟩ => ⟨hl, p, vs, rfl, by rw [hp, e], r⟩
end
end WW

set_option Elab.async false
set_option linter.all false
set_option maxRecDepth 100000
set_option maxHeartbeats 4000000
namespace WW
open PySem PySem.Spec PyProof.Rows L2
/-! ### judgements over typed slots -/
inductive ArgsOk (K : PySem.W.Frag) (B : Addr → Prop) (H0 S H : Hp) : List V → List Slot → Prop
  | nil : ArgsOk K B H0 S H [] []
  | cons {v : V} {s : Slot} {vs : List V} {ss : List Slot} : SlotOk K B H0 S H (some v) s → s.isOwn = false → ArgsOk K B H0 S H vs ss → ArgsOk K B H0 S H (v :: vs) (s :: ss)
section
variable (K : PySem.W.Frag) (B : Addr → Prop)
/-- an expression: a value; one of some values; a new list of one's own; a test; arguments; a slice's part; what is walked; a target -/
def DE {α : Type} [Enc α] (te : TE) (ρ : List Slot) (a : α) : Prop := ∀ S0 H0 S H σ, En K B S0 H0 S H σ ρ → ∀ Q : VK, (∀ v S' H', Ext B S H S' H' → Enc.rep K S' v a → Q v H') → te σ H Q
def DN {α : Type} [Enc α] (te : TE) (ρ : List Slot) (P : α → Prop) : Prop := ∀ S0 H0 S H σ, En K B S0 H0 S H σ ρ → ∀ Q : VK, (∀ v a S' H', P a → Ext B S H S' H' → Enc.rep K S' v a → Q v H') → te σ H Q
def DO {α : Type} [Enc α] (te : TE) (ρ : List Slot) (xs : List α) : Prop := ∀ S0 H0 S H σ, En K B S0 H0 S H σ ρ → ∀ Q : VK, (∀ p vs S' H', Ext B S H S' H' → H p = none → S' p = none → H' p = some (.lst vs) → Paired (Enc.rep K S') vs xs → xs.length ≤ BIG → Q (.ref p) H') → te σ H Q
def DT (tt : TT) (ρ : List Slot) (b : Bool) : Prop := ∀ S0 H0 S H σ, En K B S0 H0 S H σ ρ → ∀ Q : Bool → Hp → Prop, (∀ S' H', Ext B S H S' H' → Q b H') → tt σ H Q
def DA (ta : TA) (ρ : List Slot) (ss : List Slot) : Prop := ∀ S0 H0 S H σ, En K B S0 H0 S H σ ρ → ∀ Q : List V → Hp → Prop, (∀ vs S' H', Ext B S H S' H' → ArgsOk K B H' S' H' vs ss → Q vs H') → ta σ H Q
def DP (to : TO) (ρ : List Slot) (o : Option Int) : Prop := ∀ S0 H0 S H σ, En K B S0 H0 S H σ ρ → ∀ Q : Option Int → Hp → Prop, (∀ S' H', Ext B S H S' H' → Q o H') → to σ H Q
def Yld {α : Type} [Enc α] (S0 H0 : Hp) (J : It) (S : Hp) (xs : List α) : Prop := ∀ S1 H1, Same S S1 → Ext B S0 H0 S1 H1 →
  (∀ i x, xs[i]? = some x → J.go i H1 ∧ ∀ v H2, J.yld i H1 v H2 → ∃ S2, Ext B S1 H1 S2 H2 ∧ Enc.rep K S2 v x) ∧ J.stop xs.length H1
def DI {α : Type} [Enc α] (wi : TI) (ρ : List Slot) (xs : List α) : Prop := ∀ S0 H0 S H σ, En K B S0 H0 S H σ ρ → ∀ R : It → Hp → Prop, (∀ J S' H', Ext B S H S' H' → Yld K B S0 H0 J S' xs → R J H') → wi σ H R
def DG {α : Type} [Enc α] (g : TG) (a : α) (ρ ρ' : List Slot) (js : List Nat) : Prop := ∀ S0 H0 S H σ v, En K B S0 H0 S H σ ρ → Enc.rep K S v a → ∀ R : L2.St → Hp → Prop, (∀ σ', En K B S0 H0 S H σ' ρ' → σ'.length = σ.length → (∀ i, i ∉ js → σ'[i]? = σ[i]?) → R σ' H) → g v σ H R
structure Post where
  nx : List Slot → Prop
  rt : Slot → Prop
  bk : List Slot → Prop := fun _ => False
  ct : List Slot → Prop := fun _ => False
  px : Hp → Hp → Prop := fun _ _ => True
def DS (ts : TS) (ρ : List Slot) (Φ : Post) : Prop := ∀ S0 H0 S H σ (D : Ends), En K B S0 H0 S H σ ρ → Φ.px S0 H0 →
  (∀ ρ' σ' S' H', Φ.nx ρ' → Same S S' → En K B S0 H0 S' H' σ' ρ' → D.nx σ' H') → (∀ s v S' H', Φ.rt s → Ext B S0 H0 S' H' → SlotOk K B H0 S' H' (some v) s → D.rt v H') →
  (∀ ρ' σ' S' H', Φ.bk ρ' → Same S S' → En K B S0 H0 S' H' σ' ρ' → D.bk σ' H') → (∀ ρ' σ' S' H', Φ.ct ρ' → Same S S' → En K B S0 H0 S' H' σ' ρ' → D.ct σ' H') → ts D σ H
end
section
variable {K : PySem.W.Frag} {B : Addr → Prop} {ρ ρ' ρ1 : List Slot} {ta tb tc te : TE} {t u : TT} {α β γ : Type} {e_α : Enc α} {e_β : Enc β} {e_γ : Enc γ} {a : α} {b : β} {i j : Int}
/-! ### expressions -/
theorem DE.is {a' : α} (h : DE K B te ρ a) (e : a = a') : DE K B te ρ a' := e ▸ h
theorem d_var {n : Nat} (h : ρ[n]? = some (.val a)) : DE K B (tVar n) ρ a := fun S0 H0 S H σ E Q q => by
  obtain ⟨v, h1, h2⟩ := E.val h
  exact ⟨v, h1, q v S H (Ext.refl E.i) h2⟩
theorem d_get {n : Nat} (h : ρ[n]? = some (.val (some a))) : DE K B (tVar n) ρ a := fun S0 H0 S H σ E Q q => by
  obtain ⟨v, h1, h2⟩ := E.val h
  exact ⟨v, h1, q v S H (Ext.refl E.i) h2⟩
theorem d_some (h : DE K B te ρ a) : DE K B te ρ (some a) := h
theorem d_int : DE K B (tC (.int i)) ρ i := fun _ _ S H _ E Q q => q _ S H (Ext.refl E.i) rfl
theorem d_bl {b : Bool} : DE K B (tC (.bl b)) ρ b := fun _ _ S H _ E Q q => q _ S H (Ext.refl E.i) rfl
theorem d_str {z : Str} : DE K B (tC (.str z)) ρ z := fun _ _ S H _ E Q q => q _ S H (Ext.refl E.i) rfl
theorem d_none : DE K B (tC .non) ρ (none : Option α) := fun _ _ S H _ E Q q => q _ S H (Ext.refl E.i) rfl
theorem d_unit : DE K B (tC .non) ρ () := fun _ _ S H _ E Q q => q _ S H (Ext.refl E.i) rfl
/-- two parts, one behind the other -/
theorem d_op {r : R2} {c : γ} (ha : DE K B ta ρ a) (hb : DE K B tb ρ b) (hr : ∀ x y S H, Same S H → Enc.rep K S x a → Enc.rep K S y b → ∀ Q : VK, (∀ v S' H', Ext B S H S' H' → Enc.rep K S' v c → Q v H') → r x y H Q) : DE K B (tOp r ta tb) ρ c := fun S0 H0 S H σ E Q q =>
  ha S0 H0 S H σ E _ fun x S1 H1 e1 r1 => hb S0 H0 S1 H1 σ (E.go e1) _ fun y S2 H2 e2 r2 => hr x y S2 H2 e2.i (Enc.mono e2.s r1) r2 Q fun v S3 H3 e3 r3 => q v S3 H3 ((e1.trans e2).trans e3) r3
theorem d_un {r : V → Hp → VK → Prop} {c : γ} (ha : DE K B ta ρ a) (hr : ∀ x S H, Same S H → Enc.rep K S x a → ∀ Q : VK, (∀ v S' H', Ext B S H S' H' → Enc.rep K S' v c → Q v H') → r x H Q) : DE K B (tUn r ta) ρ c := fun S0 H0 S H σ E Q q =>
  ha S0 H0 S H σ E _ fun x S1 H1 e1 r1 => hr x S1 H1 e1.i r1 Q fun v S3 H3 e3 r3 => q v S3 H3 (e1.trans e3) r3
theorem d_add (ha : DE K B ta ρ i) (hb : DE K B tb ρ j) : DE K B (tOp (rI0 fun i j => .int (i + j)) ta tb) ρ (i + j) :=
  d_op ha hb fun x y S H hi r1 r2 Q q => ⟨i, j, r1, r2, q _ S H (Ext.refl hi) rfl⟩
theorem d_sub (ha : DE K B ta ρ i) (hb : DE K B tb ρ j) : DE K B (tOp (rI0 fun i j => .int (i - j)) ta tb) ρ (i - j) :=
  d_op ha hb fun x y S H hi r1 r2 Q q => ⟨i, j, r1, r2, q _ S H (Ext.refl hi) rfl⟩
theorem d_mul (ha : DE K B ta ρ i) (hb : DE K B tb ρ j) (hc : CMul i j) : DE K B (tOp (rI CMul fun i j => .int (i * j)) ta tb) ρ (i * j) :=
  d_op ha hb fun x y S H hi r1 r2 Q q => ⟨i, j, r1, r2, hc, q _ S H (Ext.refl hi) rfl⟩
theorem d_fdiv (ha : DE K B ta ρ i) (hb : DE K B tb ρ j) (hc : CDiv i j) : DE K B (tOp (rI CDiv fun i j => .int (i / j)) ta tb) ρ (i / j) :=
  d_op ha hb fun x y S H hi r1 r2 Q q => ⟨i, j, r1, r2, hc, q _ S H (Ext.refl hi) rfl⟩
theorem d_mod (ha : DE K B ta ρ i) (hb : DE K B tb ρ j) (hc : 0 < j) : DE K B (tOp (rI (fun _ j => 0 < j) fun i j => .int (i % j)) ta tb) ρ (i % j) :=
  d_op ha hb fun x y S H hi r1 r2 Q q => ⟨i, j, r1, r2, hc, q _ S H (Ext.refl hi) rfl⟩
theorem d_neg (ha : DE K B ta ρ i) : DE K B (tUn (rU fun i => .int (-i)) ta) ρ (-i) :=
  d_un ha fun x S H hi r1 Q q => ⟨i, r1, q _ S H (Ext.refl hi) rfl⟩
theorem d_lt (ha : DE K B ta ρ i) (hb : DE K B tb ρ j) : DE K B (tOp (rI0 fun i j => .bl (decide (i < j))) ta tb) ρ (decide (i < j)) :=
  d_op ha hb fun x y S H hi r1 r2 Q q => ⟨i, j, r1, r2, q _ S H (Ext.refl hi) rfl⟩
theorem d_le (ha : DE K B ta ρ i) (hb : DE K B tb ρ j) : DE K B (tOp (rI0 fun i j => .bl (decide (i ≤ j))) ta tb) ρ (decide (i ≤ j)) :=
  d_op ha hb fun x y S H hi r1 r2 Q q => ⟨i, j, r1, r2, q _ S H (Ext.refl hi) rfl⟩
theorem d_gt (ha : DE K B ta ρ i) (hb : DE K B tb ρ j) : DE K B (tOp (rI0 fun i j => .bl (decide (j < i))) ta tb) ρ (decide (j < i)) :=
  d_op ha hb fun x y S H hi r1 r2 Q q => ⟨i, j, r1, r2, q _ S H (Ext.refl hi) rfl⟩
theorem d_ge (ha : DE K B ta ρ i) (hb : DE K B tb ρ j) : DE K B (tOp (rI0 fun i j => .bl (decide (j ≤ i))) ta tb) ρ (decide (j ≤ i)) :=
  d_op ha hb fun x y S H hi r1 r2 Q q => ⟨i, j, r1, r2, q _ S H (Ext.refl hi) rfl⟩
/-- == of plain things: told by one place -/
class Flat (α : Type) [Enc α] [DecidableEq α] : Prop where
  eq : ∀ {K : PySem.W.Frag} {S : Hp} {x y : V} {a b : α}, Enc.rep K S x a → Enc.rep K S y b → scal x y = true ∧ decide (x = y) = decide (a = b)
instance : Flat Int where
  eq h1 h2 := by
    cases h1
    cases h2
    exact ⟨rfl, by simp⟩
instance : Flat Bool where
  eq h1 h2 := by
    cases h1
    cases h2
    exact ⟨rfl, by simp⟩
instance : Flat Str where
  eq h1 h2 := by
    cases h1
    cases h2
    exact ⟨rfl, by simp⟩
instance : Flat (Option Int) where
  eq {K S x y a b} h1 h2 := by
    cases a <;> cases b <;> cases h1 <;> cases h2 <;> exact ⟨rfl, by simp⟩
instance : Flat (Option Str) where
  eq {K S x y a b} h1 h2 := by
    cases a <;> cases b <;> cases h1 <;> cases h2 <;> exact ⟨rfl, by simp⟩
theorem d_eq {a a' : α} (ha : DE K B ta ρ a) (hb : DE K B tb ρ a') (inst : DecidableEq α) (fl : Flat α) : DE K B (tOp rEq ta tb) ρ (decide (a = a')) :=
  d_op ha hb fun x y S H hi r1 r2 Q q => by
    obtain ⟨h1, h2⟩ := Flat.eq r1 r2
    refine ⟨h1, ?_⟩
    rw [h2]
    exact q _ S H (Ext.refl hi) rfl
theorem d_ne {a a' : α} (ha : DE K B ta ρ a) (hb : DE K B tb ρ a') (inst : DecidableEq α) (fl : Flat α) : DE K B (tOp rNe ta tb) ρ (!decide (a = a')) :=
  d_op ha hb fun x y S H hi r1 r2 Q q => by
    obtain ⟨h1, h2⟩ := Flat.eq r1 r2
    refine ⟨h1, ?_⟩
    rw [h2]
    exact q _ S H (Ext.refl hi) rfl
/-- what is never None -/
class NotN (α : Type) [Enc α] : Prop where
  ne : ∀ {K : PySem.W.Frag} {S : Hp} {x : V} {a : α}, Enc.rep K S x a → x ≠ .non
instance : NotN Int := ⟨fun h => by cases h; exact fun z => nomatch z⟩
instance : NotN Bool := ⟨fun h => by cases h; exact fun z => nomatch z⟩
instance : NotN Str := ⟨fun h => by cases h; exact fun z => nomatch z⟩
instance : NotN (List α) := ⟨fun h => by obtain ⟨_, p, vs, rfl, _⟩ := h; exact fun z => nomatch z⟩
instance : NotN (L α) := ⟨fun h => by obtain ⟨_, p, vs, rfl, _⟩ := h; exact fun z => nomatch z⟩
instance : NotN (U α) := ⟨fun h => by obtain ⟨_, p, vs, rfl, _⟩ := h; exact fun z => nomatch z⟩
instance : NotN (α × β) := ⟨fun h => by obtain ⟨p, v1, v2, rfl, _⟩ := h; exact fun z => nomatch z⟩
instance : NotN (T3 α β γ) := ⟨fun h => by obtain ⟨p, v1, v2, v3, rfl, _⟩ := h; exact fun z => nomatch z⟩
theorem rep_isN {S : Hp} {x : V} {o : Option α} (h : Enc.rep K S x o) (hn : NotN α) : decide (x = .non) = o.isNone := by
  cases o with
  | none => cases h; rfl
  | some a => exact decide_eq_false (NotN.ne (a := a) h)
theorem d_isN {o : Option α} (ha : DE K B ta ρ o) (hn : NotN α) : DE K B (tOp (fun x y H Q => y = .non ∧ Q (.bl (decide (x = .non))) H) ta (tC .non)) ρ o.isNone :=
  d_op ha d_unit fun x y S H hi r1 r2 Q q => ⟨r2, by rw [rep_isN r1 hn]; exact q _ S H (Ext.refl hi) rfl⟩
theorem d_notN {o : Option α} (ha : DE K B ta ρ o) (hn : NotN α) : DE K B (tOp (fun x y H Q => y = .non ∧ Q (.bl (!decide (x = .non))) H) ta (tC .non)) ρ (!o.isNone) :=
  d_op ha d_unit fun x y S H hi r1 r2 Q q => ⟨r2, by rw [rep_isN r1 hn]; exact q _ S H (Ext.refl hi) rfl⟩
/-! ### tests -/
theorem DT.is {b c : Bool} (h : DT K B t ρ b) (e : b = c) : DT K B t ρ c := e ▸ h
theorem dt_test {b : Bool} (h : DE K B te ρ b) : DT K B (tTest te) ρ b := fun S0 H0 S H σ E Q q => h S0 H0 S H σ E _ fun v S1 H1 e r => ⟨b, r, q S1 H1 e⟩
theorem dt_B {b : Bool} (h : DE K B te ρ b) : DT K B (tB te) ρ b := fun S0 H0 S H σ E Q q => h S0 H0 S H σ E _ fun v S1 H1 e r => ⟨b, r, q S1 H1 e⟩
theorem dt_not {b : Bool} (h : DT K B t ρ b) : DT K B (tNot t) ρ (!b) := fun S0 H0 S H σ E Q q => h S0 H0 S H σ E _ fun S1 H1 e => q S1 H1 e
theorem dt_yes : DT K B tYes ρ true := fun _ _ S H _ E Q q => q S H (Ext.refl E.i)
theorem dt_and {b c : Bool} (h1 : DT K B t ρ b) (h2 : b = true → DT K B u ρ c) : DT K B (tAnd t u) ρ (b && c) := fun S0 H0 S H σ E Q q => h1 S0 H0 S H σ E _ fun S1 H1 e => by
  cases b with
  | true => exact h2 rfl S0 H0 S1 H1 σ (E.go e) Q fun S2 H2 e2 => q S2 H2 (e.trans e2)
  | false => exact q S1 H1 e
theorem dt_or {b c : Bool} (h1 : DT K B t ρ b) (h2 : b = false → DT K B u ρ c) : DT K B (tOr t u) ρ (b || c) := fun S0 H0 S H σ E Q q => h1 S0 H0 S H σ E _ fun S1 H1 e => by
  cases b with
  | true => exact q S1 H1 e
  | false => exact h2 rfl S0 H0 S1 H1 σ (E.go e) Q fun S2 H2 e2 => q S2 H2 (e.trans e2)
theorem d_andV {b c : Bool} (h1 : DE K B ta ρ b) (h2 : b = true → DE K B tb ρ c) : DE K B (tAndV ta tb) ρ (b && c) := fun S0 H0 S H σ E Q q => h1 S0 H0 S H σ E _ fun v S1 H1 e r => ⟨b, r, by
  cases b with
  | true => exact h2 rfl S0 H0 S1 H1 σ (E.go e) Q fun v S2 H2 e2 r2 => q v S2 H2 (e.trans e2) r2
  | false => exact q _ S1 H1 e rfl⟩
theorem d_orV {b c : Bool} (h1 : DE K B ta ρ b) (h2 : b = false → DE K B tb ρ c) : DE K B (tOrV ta tb) ρ (b || c) := fun S0 H0 S H σ E Q q => h1 S0 H0 S H σ E _ fun v S1 H1 e r => ⟨b, r, by
  cases b with
  | true => exact q _ S1 H1 e rfl
  | false => exact h2 rfl S0 H0 S1 H1 σ (E.go e) Q fun v S2 H2 e2 r2 => q v S2 H2 (e.trans e2) r2⟩
theorem d_orT (h1 : DE K B ta ρ true) : DE K B (tOrV ta tb) ρ true := d_orV (c := false) h1 fun h => nomatch h
theorem d_andF (h1 : DE K B ta ρ false) : DE K B (tAndV ta tb) ρ false := d_andV (c := false) h1 fun h => nomatch h
theorem dt_orT (h1 : DT K B t ρ true) : DT K B (tOr t u) ρ true := dt_or (c := false) h1 fun h => nomatch h
theorem dt_andF (h1 : DT K B t ρ false) : DT K B (tAnd t u) ρ false := dt_and (c := false) h1 fun h => nomatch h
theorem d_notV {b : Bool} (h1 : DE K B ta ρ b) : DE K B (tNotV ta) ρ (!b) := fun S0 H0 S H σ E Q q => h1 S0 H0 S H σ E _ fun v S1 H1 e r => ⟨b, r, q _ S1 H1 e rfl⟩
theorem d_if {c : Bool} {a1 a2 : α} (h : DT K B t ρ c) (h1 : c = true → DE K B ta ρ a1) (h2 : c = false → DE K B tb ρ a2) : DE K B (tIf t ta tb) ρ (if c = true then a1 else a2) := fun S0 H0 S H σ E Q q => h S0 H0 S H σ E _ fun S1 H1 e => by
  cases c with
  | true => exact h1 rfl S0 H0 S1 H1 σ (E.go e) Q fun v S2 H2 e2 r2 => q v S2 H2 (e.trans e2) r2
  | false => exact h2 rfl S0 H0 S1 H1 σ (E.go e) Q fun v S2 H2 e2 r2 => q v S2 H2 (e.trans e2) r2
/-- x if t else y: both ways are a -/
theorem d_ifE {c : Bool} (h : DT K B t ρ c) (h1 : c = true → DE K B ta ρ a) (h2 : c = false → DE K B tb ρ a) : DE K B (tIf t ta tb) ρ a := fun S0 H0 S H σ E Q q => h S0 H0 S H σ E _ fun S1 H1 e => by
  cases c with
  | true => exact h1 rfl S0 H0 S1 H1 σ (E.go e) Q fun v S2 H2 e2 r2 => q v S2 H2 (e.trans e2) r2
  | false => exact h2 rfl S0 H0 S1 H1 σ (E.go e) Q fun v S2 H2 e2 r2 => q v S2 H2 (e.trans e2) r2
theorem d_chain {r r' : R2} {x : β} {y : γ} {k c : Bool} (ha : DE K B ta ρ a) (hb : DE K B tb ρ x) (hc : k = true → DE K B tc ρ y)
    (hr : ∀ v w S H, Same S H → Enc.rep K S v a → Enc.rep K S w x → ∀ Q : VK, Q (.bl k) H → r v w H Q) (hr' : ∀ v w S H, Same S H → Enc.rep K S v x → Enc.rep K S w y → ∀ Q : VK, Q (.bl c) H → r' v w H Q) : DE K B (tChain r r' ta tb tc) ρ (k && c) := fun S0 H0 S H σ E Q q =>
  ha S0 H0 S H σ E _ fun v S1 H1 e1 r1 => hb S0 H0 S1 H1 σ (E.go e1) _ fun w S2 H2 e2 r2 => hr v w S2 H2 e2.i (Enc.mono e2.s r1) r2 _ ⟨k, rfl, by
    cases k with
    | true => exact hc rfl S0 H0 S2 H2 σ (E.go (e1.trans e2)) _ fun z S3 H3 e3 r3 => hr' w z S3 H3 e3.i (Enc.mono e3.s r2) r3 Q (q _ S3 H3 ((e1.trans e2).trans e3) rfl)
    | false => exact q _ S2 H2 (e1.trans e2) rfl⟩
theorem r_lt {v w : V} {S H : Hp} (h1 : Enc.rep K S v i) (h2 : Enc.rep K S w j) (Q : VK) (q : Q (.bl (decide (i < j))) H) : (rI0 fun i j => .bl (decide (i < j))) v w H Q := ⟨i, j, h1, h2, q⟩
theorem r_le {v w : V} {S H : Hp} (h1 : Enc.rep K S v i) (h2 : Enc.rep K S w j) (Q : VK) (q : Q (.bl (decide (i ≤ j))) H) : (rI0 fun i j => .bl (decide (i ≤ j))) v w H Q := ⟨i, j, h1, h2, q⟩
theorem d_chLtLe {k : Int} (ha : DE K B ta ρ i) (hb : DE K B tb ρ j) (hc : DE K B tc ρ k) : DE K B (tChain (rI0 fun i j => .bl (decide (i < j))) (rI0 fun i j => .bl (decide (i ≤ j))) ta tb tc) ρ (decide (i < j) && decide (j ≤ k)) :=
  d_chain ha hb (fun _ => hc) (fun v w S H _ h1 h2 Q q => ⟨i, j, h1, h2, q⟩) fun v w S H _ h1 h2 Q q => ⟨j, k, h1, h2, q⟩
theorem d_chLtLt {k : Int} (ha : DE K B ta ρ i) (hb : DE K B tb ρ j) (hc : DE K B tc ρ k) : DE K B (tChain (rI0 fun i j => .bl (decide (i < j))) (rI0 fun i j => .bl (decide (i < j))) ta tb tc) ρ (decide (i < j) && decide (j < k)) :=
  d_chain ha hb (fun _ => hc) (fun v w S H _ h1 h2 Q q => ⟨i, j, h1, h2, q⟩) fun v w S H _ h1 h2 Q q => ⟨j, k, h1, h2, q⟩
theorem d_chLeLt {k : Int} (ha : DE K B ta ρ i) (hb : DE K B tb ρ j) (hc : DE K B tc ρ k) : DE K B (tChain (rI0 fun i j => .bl (decide (i ≤ j))) (rI0 fun i j => .bl (decide (i < j))) ta tb tc) ρ (decide (i ≤ j) && decide (j < k)) :=
  d_chain ha hb (fun _ => hc) (fun v w S H _ h1 h2 Q q => ⟨i, j, h1, h2, q⟩) fun v w S H _ h1 h2 Q q => ⟨j, k, h1, h2, q⟩
/-! ### arguments -/
theorem da_nil : DA K B tNil ρ [] := fun _ _ S H _ E Q q => q [] S H (Ext.refl E.i) .nil
theorem da_cons {tr : TA} {ss : List Slot} (h : DE K B te ρ a) (hr : DA K B tr ρ ss) : DA K B (tCons te tr) ρ (.val a :: ss) := fun S0 H0 S H σ E Q q =>
  h S0 H0 S H σ E _ fun v S1 H1 e1 r1 => hr S0 H0 S1 H1 σ (E.go e1) _ fun vs S2 H2 e2 r2 => q _ S2 H2 (e1.trans e2) (.cons (Enc.mono e2.s r1) rfl r2)
theorem da_box {n : Nat} {tr : TA} {ss : List Slot} (h : ρ[n]? = some .box) (hr : DA K B tr ρ ss) : DA K B (tCons (tVar n) tr) ρ (.box :: ss) := fun S0 H0 S H σ E Q q => by
  obtain ⟨p, h1, h2⟩ := E.box h
  exact ⟨_, h1, hr S0 H0 S H σ E _ fun vs S2 H2 e2 r2 => q _ S2 H2 e2 (.cons ⟨p, rfl, h2⟩ rfl r2)⟩
/-- all arguments of one type -/
def DL {α : Type} [Enc α] (K : PySem.W.Frag) (B : Addr → Prop) (ta : TA) (ρ : List Slot) (xs : List α) : Prop := ∀ S0 H0 S H σ, En K B S0 H0 S H σ ρ → ∀ Q : List V → Hp → Prop, (∀ vs S' H', Ext B S H S' H' → Paired (Enc.rep K S') vs xs → Q vs H') → ta σ H Q
theorem dl_nil : DL K B tNil ρ ([] : List α) := fun _ _ S H _ E Q q => q [] S H (Ext.refl E.i) .nil
theorem dl_cons {tr : TA} {xs : List α} (h : DE K B te ρ a) (hr : DL K B tr ρ xs) : DL K B (tCons te tr) ρ (a :: xs) := fun S0 H0 S H σ E Q q =>
  h S0 H0 S H σ E _ fun v S1 H1 e1 r1 => hr S0 H0 S1 H1 σ (E.go e1) _ fun vs S2 H2 e2 r2 => q _ S2 H2 (e1.trans e2) (.cons (Enc.mono e2.s r1) r2)
theorem dl_star {tr : TA} {xs ys : List α} (h : DE K B te ρ xs) (hr : DL K B tr ρ ys) : DL K B (StX.tStar K te tr) ρ (xs ++ ys) := fun S0 H0 S H σ E Q q =>
  h S0 H0 S H σ E _ fun v S1 H1 e1 r1 => by
    obtain ⟨hl, p, vs, rfl, hq, hp⟩ := r1
    exact ⟨p, vs, rfl, Or.symm (hq.ex e1.i), hr S0 H0 S1 H1 σ (E.go e1) _ fun ws S2 H2 e2 r2 => q _ S2 H2 (e1.trans e2) (Paired.app (Paired.mono (fun _ _ => Enc.mono e2.s) hp) r2)⟩
/-! ### displays -/
theorem d_pair (ha : DE K B ta ρ a) (hb : DE K B tb ρ b) : DE K B (tTup (tCons ta (tCons tb tNil))) ρ (a, b) := fun S0 H0 S H σ E Q q =>
  ha S0 H0 S H σ E _ fun x S1 H1 e1 r1 => hb S0 H0 S1 H1 σ (E.go e1) _ fun y S2 H2 e2 r2 => ⟨by show 2 ≤ sizeLine; decide, fun p hp => by
    have e3 : Ext B S2 H2 (upd S2 p (.tup [x, y])) (upd H2 p (.tup [x, y])) := Ext.new e2.i hp
    exact q _ _ _ ((e1.trans e2).trans e3) ⟨p, x, y, rfl, .inl (.inl upd_same), Enc.mono (e2.s.trans e3.s) r1, Enc.mono e3.s r2⟩⟩
theorem d_triple {c : γ} (ha : DE K B ta ρ a) (hb : DE K B tb ρ b) (hc : DE K B tc ρ c) : DE K B (tTup (tCons ta (tCons tb (tCons tc tNil)))) ρ (T3.mk a b c) := fun S0 H0 S H σ E Q q =>
  ha S0 H0 S H σ E _ fun x S1 H1 e1 r1 => hb S0 H0 S1 H1 σ (E.go e1) _ fun y S2 H2 e2 r2 => hc S0 H0 S2 H2 σ (E.go (e1.trans e2)) _ fun z S3 H3 e3 r3 => ⟨by show 3 ≤ sizeLine; decide, fun p hp => by
    have e4 : Ext B S3 H3 (upd S3 p (.tup [x, y, z])) (upd H3 p (.tup [x, y, z])) := Ext.new e3.i hp
    exact q _ _ _ (((e1.trans e2).trans e3).trans e4) ⟨p, x, y, z, rfl, .inl (.inl upd_same), Enc.mono ((e2.s.trans e3.s).trans e4.s) r1, Enc.mono (e3.s.trans e4.s) r2, Enc.mono e4.s r3⟩⟩
theorem d_tupU {tr : TA} {xs : List α} (h : DL K B tr ρ xs) (hl : xs.length ≤ BIG) : DE K B (tTup tr) ρ (α := U α) xs := fun S0 H0 S H σ E Q q =>
  h S0 H0 S H σ E _ fun vs S1 H1 e1 r1 => ⟨by rw [r1.length]; exact Nat.le_trans hl big_line, fun p hp => by
    have e2 : Ext B S1 H1 (upd S1 p (.tup vs)) (upd H1 p (.tup vs)) := Ext.new e1.i hp
    exact q _ _ _ (e1.trans e2) ⟨hl, p, vs, rfl, .inl (.inl upd_same), Paired.mono (fun _ _ => Enc.mono e2.s) r1⟩⟩
theorem do_lst {tr : TA} {xs : List α} (h : DL K B tr ρ xs) (hl : xs.length ≤ BIG) : DO K B (tLst tr) ρ xs := fun S0 H0 S H σ E Q q =>
  h S0 H0 S H σ E _ fun vs S1 H1 e1 r1 => ⟨by rw [r1.length]; exact Nat.le_trans hl big_line, fun p hp => q p vs S1 _ (e1.trans (Ext.priv e1.i hp)) (e1.free E.i hp) (e1.i.free hp) upd_same r1 hl⟩
/-- an own list as a value -/
theorem DO.l {xs : List α} (h : DO K B te ρ xs) : DE K B te ρ (α := L α) xs := fun S0 H0 S H σ E Q q =>
  h S0 H0 S H σ E _ fun p vs S1 H1 e1 hp hs hh r hl => q _ _ _ (e1.frz hp E.i hh hs) ⟨hl, p, vs, rfl, upd_same, Paired.mono (fun _ _ => Enc.mono (same_new hs)) r⟩
theorem d_Lq {xs : List α} (h : DE K B te ρ (α := L α) xs) : DE K B te ρ xs := fun S0 H0 S H σ E Q q =>
  h S0 H0 S H σ E _ fun v S1 H1 e1 ⟨hl, p, vs, e, hh, r⟩ => q v S1 H1 e1 ⟨hl, p, vs, e, .l hh, r⟩
theorem d_Uq {xs : List α} (h : DE K B te ρ (α := U α) xs) : DE K B te ρ xs := fun S0 H0 S H σ E Q q =>
  h S0 H0 S H σ E _ fun v S1 H1 e1 ⟨hl, p, vs, e, hh, r⟩ => q v S1 H1 e1 ⟨hl, p, vs, e, .inr hh, r⟩
theorem DO.q {xs : List α} (h : DO K B te ρ xs) : DE K B te ρ xs := d_Lq h.l
/-! ### sequences -/
theorem d_len {xs : List α} (h : DE K B te ρ xs) : DE K B (tCB (rLenQ K) (tCons te tNil)) ρ (xs.length : Int) := fun S0 H0 S H σ E Q q =>
  h S0 H0 S H σ E _ fun v S1 H1 e1 ⟨hl, p, vs, e, hh, r⟩ => by
    subst e
    refine ⟨p, vs, rfl, hh.ex e1.i, ?_⟩
    rw [r.length]
    exact q _ S1 H1 e1 rfl
/-- len of one's own list -/
theorem d_lenO {n : Nat} {xs : List α} (h : ρ[n]? = some (.own xs)) : DE K B (tCB (rLenQ K) (tCons (tVar n) tNil)) ρ (xs.length : Int) := fun S0 H0 S H σ E Q q => by
  obtain ⟨hl, p, vs, e1, h0, hs, hh, r⟩ := E.own h
  refine ⟨_, e1, p, vs, rfl, .l hh, ?_⟩
  rw [r.length]
  exact q _ S H (Ext.refl E.i) rfl
/-- the place that an index tells -/
def atZ {α : Type} [Inhabited α] (xs : List α) (i : Int) : α := (atI xs i).getD default
theorem paired_atI {S : Hp} : ∀ {vs : List V} {xs : List α} {i : Int} {x : α}, Paired (Enc.rep K S) vs xs → atI xs i = some x → ∃ v, atI vs i = some v ∧ Enc.rep K S v x := fun {vs xs i x} r h => by
  unfold atI at h ⊢
  rw [r.length]
  cases q : ixN xs.length i with
  | none => rw [q] at h; cases h
  | some j =>
    rw [q] at h
    exact Paired.at r h
theorem d_ix {xs : List α} {x : α} (h : DE K B ta ρ xs) (hi : DE K B tb ρ i) (hx : atI xs i = some x) : DE K B (tOp (rIxQ K) ta tb) ρ x :=
  d_op h hi fun v w S H sm ⟨hl, p, vs, e, hh, r⟩ r2 Q q => by
    obtain ⟨y, h1, h2⟩ := paired_atI r hx
    exact ⟨p, vs, i, y, e, r2, hh.ex sm, h1, q y S H (Ext.refl sm) h2⟩
theorem d_ixO {n : Nat} {xs : List α} {x : α} (h : ρ[n]? = some (.own xs)) (hi : DE K B tb ρ i) (hx : atI xs i = some x) : DE K B (tOp (rIxQ K) (tVar n) tb) ρ x := fun S0 H0 S H σ E Q q => by
  obtain ⟨hl, p, vs, e1, h0, hs, hh, r⟩ := E.own h
  refine ⟨_, e1, ?_⟩
  refine hi S0 H0 S H σ E _ fun w S1 H1 ex r1 => ?_
  obtain ⟨_, p', vs', e1', _, _, hh', r'⟩ := (E.go ex).own h
  rw [e1] at e1'
  cases e1'
  obtain ⟨y, h1, h2⟩ := paired_atI r' hx
  exact ⟨p, vs', i, y, rfl, r1, .l hh', h1, q y S1 H1 ex h2⟩
theorem d_fst {p : α × β} (h : DE K B ta ρ p) : DE K B (tOp (rIxQ K) ta (tC (.int 0))) ρ p.1 :=
  d_op h d_int fun v w S H sm ⟨a, v1, v2, e, hh, r1, r2⟩ rw Q q => ⟨a, [v1, v2], 0, v1, e, rw, .inr (Evl.ex_t sm hh), rfl, q v1 S H (Ext.refl sm) r1⟩
theorem d_snd {p : α × β} (h : DE K B ta ρ p) : DE K B (tOp (rIxQ K) ta (tC (.int 1))) ρ p.2 :=
  d_op h d_int fun v w S H sm ⟨a, v1, v2, e, hh, r1, r2⟩ rw Q q => ⟨a, [v1, v2], 1, v2, e, rw, .inr (Evl.ex_t sm hh), rfl, q v2 S H (Ext.refl sm) r2⟩
theorem d_t3a {p : T3 α β γ} (h : DE K B ta ρ p) : DE K B (tOp (rIxQ K) ta (tC (.int 0))) ρ p.a :=
  d_op h d_int fun v w S H sm ⟨a, v1, v2, v3, e, hh, r1, r2, r3⟩ rw Q q => ⟨a, [v1, v2, v3], 0, v1, e, rw, .inr (Evl.ex_t sm hh), rfl, q v1 S H (Ext.refl sm) r1⟩
theorem d_t3b {p : T3 α β γ} (h : DE K B ta ρ p) : DE K B (tOp (rIxQ K) ta (tC (.int 1))) ρ p.b :=
  d_op h d_int fun v w S H sm ⟨a, v1, v2, v3, e, hh, r1, r2, r3⟩ rw Q q => ⟨a, [v1, v2, v3], 1, v2, e, rw, .inr (Evl.ex_t sm hh), rfl, q v2 S H (Ext.refl sm) r2⟩
theorem d_t3c {p : T3 α β γ} (h : DE K B ta ρ p) : DE K B (tOp (rIxQ K) ta (tC (.int 2))) ρ p.c :=
  d_op h d_int fun v w S H sm ⟨a, v1, v2, v3, e, hh, r1, r2, r3⟩ rw Q q => ⟨a, [v1, v2, v3], 2, v3, e, rw, .inr (Evl.ex_t sm hh), rfl, q v3 S H (Ext.refl sm) r3⟩
/-- slices -/
def cutA {α : Type} (xs : List α) (lo hi : Option Int) : List α := (xs.drop (HT.sIx xs.length 0 lo)).take (HT.sIx xs.length xs.length hi - HT.sIx xs.length 0 lo)
theorem cutA_len {α : Type} (xs : List α) (lo hi : Option Int) : (cutA xs lo hi).length ≤ xs.length := by
  unfold cutA
  rw [List.length_take, List.length_drop]
  omega
theorem paired_cut {S : Hp} {vs : List V} {xs : List α} {lo hi : Option Int} (r : Paired (Enc.rep K S) vs xs) : Paired (Enc.rep K S) (cutV vs lo hi) (cutA xs lo hi) := by
  unfold cutV cutA
  rw [r.length]
  exact Paired.tk _ (Paired.dr _ r)
theorem dp_none : DP K B tNoPart ρ none := fun _ _ S H _ E Q q => q S H (Ext.refl E.i)
theorem dp_some (h : DE K B te ρ i) : DP K B (tPart te) ρ (some i) := fun S0 H0 S H σ E Q q => h S0 H0 S H σ E _ fun v S1 H1 e r => ⟨i, r, q S1 H1 e⟩
theorem d_slice {tl th : TO} {xs : List α} {lo hi : Option Int} (h : DE K B te ρ xs) (hl : DP K B tl ρ lo) (hh : DP K B th ρ hi) : DE K B (tSl (rSlQ K) te tl th) ρ (cutA xs lo hi) := fun S0 H0 S H σ E Q q =>
  h S0 H0 S H σ E _ fun v S1 H1 e1 r1 => hl S0 H0 S1 H1 σ (E.go e1) _ fun S2 H2 e2 => hh S0 H0 S2 H2 σ (E.go (e1.trans e2)) _ fun S3 H3 e3 => by
    have e13 := (e1.trans e2).trans e3
    obtain ⟨hl, p, vs, rfl, hq, r⟩ := Enc.mono (e2.s.trans e3.s) r1
    have lc : (cutA xs lo hi).length ≤ BIG := Nat.le_trans (cutA_len _ _ _) hl
    rcases hq with hq | hq
    · refine .inl ⟨p, vs, rfl, Evl.ex_l e3.i hq, fun w hw => ?_⟩
      have e4 : Ext B S3 H3 (upd S3 w (.lst (cutV vs lo hi))) (upd H3 w (.lst (cutV vs lo hi))) := Ext.new e3.i hw
      exact q _ _ _ (e13.trans e4) ⟨lc, w, _, rfl, .l upd_same, Paired.mono (fun _ _ => Enc.mono e4.s) (paired_cut r)⟩
    · by_cases hw : HT.sIx vs.length 0 lo = 0 ∧ HT.sIx vs.length vs.length hi = vs.length
      · refine .inr (.inr ⟨p, vs, rfl, Evl.ex_t e3.i hq, hw, q _ S3 H3 e13 ⟨lc, p, vs, rfl, .inr hq, ?_⟩⟩)
        have ev : cutV vs lo hi = vs := by
          unfold cutV
          rw [hw.1, hw.2]
          simp
        have r' := paired_cut (lo := lo) (hi := hi) r
        rw [ev] at r'
        exact r'
      · refine .inr (.inl ⟨p, vs, rfl, Evl.ex_t e3.i hq, hw, fun w hw => ?_⟩)
        have e4 : Ext B S3 H3 (upd S3 w (.tup (cutV vs lo hi))) (upd H3 w (.tup (cutV vs lo hi))) := Ext.new e3.i hw
        exact q _ _ _ (e13.trans e4) ⟨lc, w, _, rfl, .t upd_same, Paired.mono (fun _ _ => Enc.mono e4.s) (paired_cut r)⟩
/-- tuple(xs), list(xs) -/
theorem d_tuple {xs : List α} (h : DE K B te ρ xs) : DE K B (tCB (rTupQ K) (tCons te tNil)) ρ (α := U α) xs := fun S0 H0 S H σ E Q q =>
  h S0 H0 S H σ E _ fun v S1 H1 e1 ⟨hl, p, vs, e, hh, r⟩ => by
    subst e
    rcases hh with hh | hh
    · refine ⟨⟨p, vs, rfl, .inl ⟨Evl.ex_l e1.i hh, fun w hw => ?_⟩⟩⟩
      have e4 : Ext B S1 H1 (upd S1 w (.tup vs)) (upd H1 w (.tup vs)) := Ext.new e1.i hw
      exact q _ _ _ (e1.trans e4) ⟨hl, w, _, rfl, .inl (.inl upd_same), Paired.mono (fun _ _ => Enc.mono e4.s) r⟩
    · exact ⟨⟨p, vs, rfl, .inr ⟨Evl.ex_t e1.i hh, q _ S1 H1 e1 ⟨hl, p, vs, rfl, hh, r⟩⟩⟩⟩
theorem do_list {xs : List α} (h : DE K B te ρ xs) : DO K B (tCB (rListQ K) (tCons te tNil)) ρ xs := fun S0 H0 S H σ E Q q =>
  h S0 H0 S H σ E _ fun v S1 H1 e1 ⟨hl, p, vs, e, hh, r⟩ => by
    subst e
    exact ⟨p, vs, rfl, hh.ex e1.i, fun w hw => q w vs S1 _ (e1.trans (Ext.priv e1.i hw)) (e1.free E.i hw) (e1.i.free hw) upd_same r hl⟩
/-- lists of one's own, put together; so many times -/
theorem do_cat {xs ys : List α} (h1 : DE K B ta ρ (α := L α) xs) (h2 : DE K B tb ρ (α := L α) ys) (hl : xs.length + ys.length ≤ BIG) : DO K B (tOp rCat ta tb) ρ (xs ++ ys) := fun S0 H0 S H σ E Q q =>
  h1 S0 H0 S H σ E _ fun v S1 H1 e1 r1 => h2 S0 H0 S1 H1 σ (E.go e1) _ fun w S2 H2 e2 ⟨l2, p2, vs2, z2, hh2, r2⟩ => by
    obtain ⟨l1, p1, vs1, z1, hh1, r1'⟩ := Enc.mono e2.s r1
    subst z1
    subst z2
    have r := Paired.app r1' r2
    refine ⟨p1, p2, vs1, vs2, rfl, rfl, e2.i _ _ hh1, e2.i _ _ hh2, ?_, fun p hp => q p _ S2 _ ((e1.trans e2).trans (Ext.priv e2.i hp)) ((e1.trans e2).free E.i hp) (e2.i.free hp) upd_same r ?_⟩
    · rw [r1'.length, r2.length]
      exact Nat.le_trans hl big_line
    · rw [List.length_append]
      exact hl
theorem paired_flat {S : Hp} {vs : List V} {xs : List α} (r : Paired (Enc.rep K S) vs xs) : ∀ n : Nat, Paired (Enc.rep K S) (List.replicate n vs).flatten (List.replicate n xs).flatten
  | 0 => .nil
  | n + 1 => by
    rw [List.replicate_succ, List.replicate_succ, List.flatten_cons, List.flatten_cons]
    exact Paired.app r (paired_flat r n)
end
end WW

set_option Elab.async false
set_option linter.all false
set_option maxRecDepth 100000
set_option maxHeartbeats 4000000
namespace WW
open PySem PySem.Spec PyProof.Rows L2
def wipeS (ρ : List Slot) : List Nat → List Slot
  | [] => ρ
  | v :: vs => (wipeS ρ vs).set v .no
theorem wipe_off {σ : L2.St} {i : Nat} : ∀ {vs : List Nat}, i ∉ vs → (wipe σ vs)[i]? = σ[i]?
  | [], _ => rfl
  | v :: vs, h => by
    rw [List.mem_cons, not_or] at h
    show ((wipe σ vs).set v none)[i]? = σ[i]?
    rw [List.getElem?_set_ne (Ne.symm h.1)]
    exact wipe_off h.2
theorem wipe_on {σ : L2.St} {i : Nat} (hi : i < σ.length) : ∀ {vs : List Nat}, i ∈ vs → (wipe σ vs)[i]? = some none
  | v :: vs, h => by
    show ((wipe σ vs).set v none)[i]? = some none
    by_cases z : v = i
    · subst z
      rw [List.getElem?_set_self (by rw [wipe_length]; exact hi)]
    · rw [List.getElem?_set_ne z]
      exact wipe_on hi ((List.mem_cons.mp h).resolve_left (Ne.symm z))
theorem wipe_eq {σ σ' : L2.St} {vs : List Nat} (hl : σ'.length = σ.length) (h : ∀ i, i ∉ vs → σ'[i]? = σ[i]?) : wipe σ' vs = wipe σ vs := by
  refine List.ext_getElem? fun i => ?_
  by_cases hi : i < σ.length
  · by_cases hv : i ∈ vs
    · rw [wipe_on hi hv, wipe_on (by rw [hl]; exact hi) hv]
    · rw [wipe_off hv, wipe_off hv, h i hv]
  · rw [List.getElem?_eq_none (by rw [wipe_length, hl]; omega), List.getElem?_eq_none (by rw [wipe_length]; omega)]
theorem wipe_wipe {σ : L2.St} {vs : List Nat} : wipe (wipe σ vs) vs = wipe σ vs := wipe_eq (wipe_length σ vs) fun i hi => wipe_off hi
section
variable {K : PySem.W.Frag} {B : Addr → Prop} {ρ ρ' ρ1 : List Slot} {ta tb tc te : TE} {t u : TT} {α β γ : Type} {e_α : Enc α} {e_β : Enc β} {e_γ : Enc γ} {a : α} {b : β} {i j : Int}
theorem En.wp {S0 H0 S H : Hp} {σ : L2.St} (E : En K B S0 H0 S H σ ρ) : ∀ vs : List Nat, En K B S0 H0 S H (wipe σ vs) (wipeS ρ vs)
  | [] => E
  | v :: vs => (E.wp vs).set (i := v) (o := none) (s := .no) trivial rfl
theorem Ext.mut {S H S1 H1 : Hp} {D : Addr} {o : HO} (e : Ext B S H S1 H1) (h : H D = none) (h1 : S1 D = none) : Ext B S H S1 (upd H1 D o) := by
  refine ⟨e.s, fun a u q => ?_, fun a q1 q2 => ?_⟩
  · rw [upd_ne (fun z => by rw [z, h1] at q; cases q)]
    exact e.i _ _ q
  · rw [upd_ne (fun z => q2 (by rw [z]; exact h))]
    exact e.p a q1 q2
/-! ### what is walked -/
theorem di_seq {xs : List α} (h : DE K B te ρ xs) : DI K B (iSeq K te) ρ xs := fun S0 H0 S H σ E R q =>
  h S0 H0 S H σ E _ fun v S1 H1 e1 ⟨hl, p, vs, e, hh, r⟩ => by
    refine ⟨p, e, ?_⟩
    rcases hh with hh | hh
    · refine .inl ⟨⟨vs, Evl.ex_l e1.i hh⟩, q _ S1 H1 e1 fun S2 H2 s2 x2 => have i2 := x2.i; ⟨fun i x hx => ?_, vs, Evl.ex_l (s2.trans i2) hh, by rw [r.length]; exact Nat.le_refl _⟩⟩
      obtain ⟨w, h1, h2⟩ := Paired.at r hx
      refine ⟨⟨vs, w, Evl.ex_l (s2.trans i2) hh, h1⟩, fun v H3 hy => ⟨S2, ?_, ?_⟩⟩
      · rw [hy.1]
        exact Ext.refl i2
      · have z := hy.2 vs (Evl.ex_l (s2.trans i2) hh)
        rw [h1] at z
        cases z
        exact Enc.mono s2 h2
    · refine .inr ⟨⟨vs, Evl.ex_t e1.i hh⟩, q _ S1 H1 e1 fun S2 H2 s2 x2 => have i2 := x2.i; ⟨fun i x hx => ?_, vs, Evl.ex_t (s2.trans i2) hh, by rw [r.length]; exact Nat.le_refl _⟩⟩
      obtain ⟨w, h1, h2⟩ := Paired.at r hx
      refine ⟨⟨vs, w, Evl.ex_t (s2.trans i2) hh, h1⟩, fun v H3 hy => ⟨S2, ?_, ?_⟩⟩
      · rw [hy.1]
        exact Ext.refl i2
      · have z := hy.2 vs (Evl.ex_t (s2.trans i2) hh)
        rw [h1] at z
        cases z
        exact Enc.mono s2 h2
/-- lo, lo + 1, .. below hi -/
def rg (lo hi : Int) : List Int := (List.range (hi - lo).toNat).map fun i : Nat => lo + (i : Int)
theorem rg_len (lo hi : Int) : (rg lo hi).length = (hi - lo).toNat := by
  unfold rg
  rw [List.length_map, List.length_range]
theorem rg_at {lo hi : Int} {i : Nat} {x : Int} (h : (rg lo hi)[i]? = some x) : x = lo + i ∧ lo ≤ x ∧ x < hi := by
  unfold rg at h
  rw [List.getElem?_map] at h
  by_cases hi' : i < (hi - lo).toNat
  · rw [List.getElem?_range hi'] at h
    have h : some (lo + (i : Int)) = some x := h
    cases h
    omega
  · rw [List.getElem?_eq_none (by rw [List.length_range]; omega)] at h
    cases h
theorem rg_mem {lo hi x : Int} : x ∈ rg lo hi ↔ lo ≤ x ∧ x < hi := by
  unfold rg
  rw [List.mem_map]
  constructor
  · rintro ⟨i, h1, rfl⟩
    rw [List.mem_range] at h1
    omega
  · rintro ⟨h1, h2⟩
    exact ⟨(x - lo).toNat, List.mem_range.mpr (by omega), by omega⟩
theorem rg_get {lo hi : Int} {i : Nat} (h : (i : Int) < hi - lo) : (rg lo hi)[i]? = some (lo + i) := by
  unfold rg
  rw [List.getElem?_map, List.getElem?_range (by omega)]
  rfl
theorem yld_rg {lo hi : Int} {S S0 H0 : Hp} : Yld K B S0 H0 (Itr lo (hi - lo).toNat) S (rg lo hi) := fun S1 H1 _ x1 => by
  have i1 := x1.i
  refine ⟨fun i x hx => ?_, by show (hi - lo).toNat ≤ _; rw [rg_len]; exact Nat.le_refl _⟩
  have l := (List.getElem?_eq_some_iff.mp hx).1
  rw [rg_len] at l
  refine ⟨l, fun v H2 hy => ⟨S1, ?_, ?_⟩⟩
  · rw [hy.1]
    exact Ext.refl i1
  · show v = .int x
    rw [hy.2, (rg_at hx).1]
theorem di_rng1 (h : DE K B te ρ j) (h1 : -(2 ^ 62) ≤ j) (h2 : j < 2 ^ 62) : DI K B (iRng1 (tCons te tNil)) ρ (rg 0 j) := fun S0 H0 S H σ E R q =>
  h S0 H0 S H σ E _ fun v S1 H1 e1 r => ⟨j, by cases r; rfl, h1, h2, by
    have z := q (Itr 0 (j - 0).toNat) S1 H1 e1 yld_rg
    rw [Int.sub_zero] at z
    exact z⟩
theorem di_rng2 (h : DE K B ta ρ i) (h' : DE K B tb ρ j) (h1 : -(2 ^ 62) ≤ i ∧ i < 2 ^ 62 ∧ -(2 ^ 62) ≤ j ∧ j < 2 ^ 62) : DI K B (iRng2 (tCons ta (tCons tb tNil))) ρ (rg i j) := fun S0 H0 S H σ E R q =>
  h S0 H0 S H σ E _ fun v S1 H1 e1 r => h' S0 H0 S1 H1 σ (E.go e1) _ fun w S2 H2 e2 r2 => ⟨i, j, by cases r; cases r2; rfl, h1, q _ S2 H2 (e1.trans e2) yld_rg⟩
/-! ### targets -/
theorem dg_name {n : Nat} : DG K B (gName n) a ρ (ρ.set n (.val a)) [n] := fun S0 H0 S H σ v E r R q =>
  q _ (E.setV r) (List.length_set ..) fun i hi => by
    rw [List.mem_singleton] at hi
    rw [List.getElem?_set_ne (Ne.symm hi)]
theorem DG.pair {g g' : TG} {ρ2 : List Slot} {js js' : List Nat} (h1 : DG K B g a ρ ρ1 js) (h2 : DG K B g' b ρ1 ρ2 js') : DG K B (gTup K 2 (gCons g (gCons g' gNil))) (a, b) ρ ρ2 (js ++ js') := fun S0 H0 S H σ v E r R q => by
  obtain ⟨p, v1, v2, rfl, hq, r1, r2⟩ := r
  refine ⟨p, [v1, v2], rfl, Evl.ex_t E.i hq, rfl, v1, [v2], rfl, ?_⟩
  refine h1 S0 H0 S H σ v1 E r1 _ fun σ1 E1 l1 f1 => ⟨v2, [], rfl, ?_⟩
  refine h2 S0 H0 S H σ1 v2 E1 r2 _ fun σ2 E2 l2 f2 => ⟨rfl, q σ2 E2 (l2.trans l1) fun i hi => ?_⟩
  rw [List.mem_append, not_or] at hi
  rw [f2 i hi.2, f1 i hi.1]
theorem DG.trip {g g' g'' : TG} {c : γ} {ρ2 ρ3 : List Slot} {js js' js'' : List Nat} (h1 : DG K B g a ρ ρ1 js) (h2 : DG K B g' b ρ1 ρ2 js') (h3 : DG K B g'' c ρ2 ρ3 js'') : DG K B (gTup K 3 (gCons g (gCons g' (gCons g'' gNil)))) (T3.mk a b c) ρ ρ3 (js ++ (js' ++ js'')) := fun S0 H0 S H σ v E r R q => by
  obtain ⟨p, v1, v2, v3, rfl, hq, r1, r2, r3⟩ := r
  refine ⟨p, [v1, v2, v3], rfl, Evl.ex_t E.i hq, rfl, v1, [v2, v3], rfl, ?_⟩
  refine h1 S0 H0 S H σ v1 E r1 _ fun σ1 E1 l1 f1 => ⟨v2, [v3], rfl, ?_⟩
  refine h2 S0 H0 S H σ1 v2 E1 r2 _ fun σ2 E2 l2 f2 => ⟨v3, [], rfl, ?_⟩
  refine h3 S0 H0 S H σ2 v3 E2 r3 _ fun σ3 E3 l3 f3 => ⟨rfl, q σ3 E3 ((l3.trans l2).trans l1) fun i hi => ?_⟩
  rw [List.mem_append, not_or, List.mem_append, not_or] at hi
  rw [f3 i hi.2.2, f2 i hi.2.1, f1 i hi.1]
/-! ### comprehensions -/
theorem do_lc {wi : TI} {g : TG} {vs : List Nat} {xs : List α} (p : α → Bool) (f : α → β) (hi : DI K B wi ρ xs) (hl : xs.length ≤ BIG)
    (h : ∀ x ∈ xs, ∃ ρ' js, DG K B g x (wipeS ρ vs) ρ' js ∧ (∀ i ∈ js, i ∈ vs) ∧ DT K B t ρ' (p x) ∧ (p x = true → DE K B te ρ' (f x))) : DO K B (tLc wi g t te vs) ρ ((xs.filter p).map f) := by
  intro S0 H0 S H σ E Q q
  refine hi S0 H0 S H σ E _ fun J S1 H1 e1 y D hD => ?_
  have hD0 : H D = none := e1.free E.i hD
  have nB : ¬ B D := fun z => (E.bx D z).2.2 (E.ext.free E.i0 hD0)
  let Pv : Nat → Hp → Prop := fun i Hc => ∃ Sc ws, Ext B S1 H1 Sc Hc ∧ Sc D = none ∧ Hc D = some (.lst ws) ∧ Paired (Enc.rep K Sc) ws (((xs.take i).filter p).map f)
  refine ⟨fun i m Hc => m = xs.length - i ∧ i ≤ xs.length ∧ Pv i Hc, ⟨xs.length, by simp, Nat.zero_le _, S1, [], Ext.priv e1.i hD, e1.i.free hD, upd_same, .nil⟩, ?_⟩
  rintro i m Hc ⟨rfl, hle, Sc, ws, ex, hs, hh, r⟩
  have yy := y Sc Hc ex.s (E.ext.trans (e1.trans ex))
  by_cases hlt : i < xs.length
  · refine .inr ?_
    obtain ⟨x, hx⟩ : ∃ x, xs[i]? = some x := ⟨_, List.getElem?_eq_getElem hlt⟩
    obtain ⟨hgo, hy⟩ := yy.1 i x hx
    refine ⟨hgo, Pv (i + 1), fun H' hp => ⟨xs.length - (i + 1), by omega, rfl, hlt, hp⟩, fun v H' hyl => ?_⟩
    obtain ⟨S2, e2, r2⟩ := hy v H' hyl
    obtain ⟨ρ', js, hg, hjs, ht, he⟩ := h x (List.mem_of_getElem? hx)
    have lw : ws.length < sizeLine := by
      rw [r.length, List.length_map]
      have h1 := List.length_filter_le p (xs.take i)
      rw [List.length_take] at h1
      have := big_line
      omega
    refine hg S0 H0 S2 H' (wipe σ vs) v ((E.go ((e1.trans ex).trans e2)).wp vs) r2 _ fun σ2 E2 l2 f2 => ⟨?_, ?_⟩
    · have z := wipe_eq (vs := vs) l2 fun i hi => f2 i fun z => hi (hjs i z)
      rw [z, wipe_wipe]
    · refine ht S0 H0 S2 H' σ2 E2 _ fun S3 H3 e3 => ?_
      have e13 := (ex.trans e2).trans e3
      have st : ∀ S4 H4, Ext B Sc Hc S4 H4 → S4 D = none ∧ H4 D = some (.lst ws) := fun S4 H4 e => by
        obtain ⟨q1, q2⟩ := e.p D hs (by rw [hh]; exact fun z => nomatch z)
        refine ⟨q1, ?_⟩
        rcases q2 with q2 | ⟨q2, _⟩
        · rw [q2]
          exact hh
        · exact absurd q2 nB
      cases hp : p x with
      | false =>
        obtain ⟨a1, a2⟩ := st S3 H3 (e2.trans e3)
        refine ⟨S3, ws, e13, a1, a2, ?_⟩
        rw [List.take_add_one, hx, List.filter_append]
        have z : (Option.toList (some x)).filter p = [] := by
          show [x].filter p = []
          rw [List.filter_cons, if_neg (by rw [hp]; decide), List.filter_nil]
        rw [z, List.append_nil]
        exact Paired.mono (fun _ _ => Enc.mono (e2.s.trans e3.s)) r
      | true =>
        refine he hp S0 H0 S3 H3 σ2 (E2.go e3) _ fun w S4 H4 e4 r4 => ?_
        obtain ⟨a1, a2⟩ := st S4 H4 ((e2.trans e3).trans e4)
        refine ⟨ws, a2, lw, S4, ws ++ [w], (e13.trans e4).mut hD a1, a1, upd_same, ?_⟩
        rw [List.take_add_one, hx, List.filter_append]
        have z : (Option.toList (some x)).filter p = [x] := by
          show [x].filter p = [x]
          rw [List.filter_cons, if_pos hp, List.filter_nil]
        rw [z, List.map_append]
        exact Paired.app (Paired.mono (fun _ _ => Enc.mono ((e2.s.trans e3.s).trans e4.s)) r) (.cons r4 .nil)
  · refine .inl ⟨?_, ?_⟩
    · rw [show i = xs.length by omega]
      exact yy.2
    · rw [List.take_of_length_le (by omega)] at r
      refine q D ws Sc Hc (e1.trans ex) hD0 hs hh r ?_
      rw [List.length_map]
      exact Nat.le_trans (List.length_filter_le _ _) hl
theorem do_map {wi : TI} {g : TG} {vs : List Nat} {xs : List α} (f : α → β) (hi : DI K B wi ρ xs) (hl : xs.length ≤ BIG)
    (h : ∀ x ∈ xs, ∃ ρ' js, DG K B g x (wipeS ρ vs) ρ' js ∧ (∀ i ∈ js, i ∈ vs) ∧ DE K B te ρ' (f x)) : DO K B (tLc wi g tYes te vs) ρ (xs.map f) := by
  have z := do_lc (fun _ => true) f hi hl (t := tYes) (te := te) (g := g) (vs := vs) fun x hx => by
    obtain ⟨ρ', js, h1, h2, h3⟩ := h x hx
    exact ⟨ρ', js, h1, h2, dt_yes, fun _ => h3⟩
  rw [List.filter_eq_self.mpr (fun _ _ => rfl)] at z
  exact z
/-! ### calls -/
def spT (K : PySem.W.Frag) (dp : List Slot → (Slot → Prop) → Prop) : Sp := fun vs H Q _ => ∃ B S ss R, Same S H ∧ (∀ p, B p → S p = none ∧ IsBx (H p)) ∧ ArgsOk K B H S H vs ss ∧ dp ss R ∧ ∀ s v S' H', R s → Ext B S H S' H' → SlotOk K B H S' H' (some v) s → Q v H'
theorem SlotOk.base {H0 S H : Hp} {o : Option V} {s : Slot} (h : SlotOk K B H0 S H o s) (hs : s.isOwn = false) : SlotOk K B H S H o s := by
  cases s with
  | no => cases o <;> trivial
  | box =>
    cases o with
    | none => cases h
    | some v => exact h
  | val a =>
    cases o with
    | none => cases h
    | some v => exact h
  | obj P => cases hs
  | out P =>
    cases o with
    | none => cases h
    | some v =>
      obtain ⟨p, u, e, nb, _, hs, hh, r⟩ := h
      exact ⟨p, u, e, nb, (by rw [hh]; exact fun z => nomatch z), hs, hh, r⟩
theorem ArgsOk.base {H0 S H : Hp} : ∀ {vs : List V} {ss : List Slot}, ArgsOk K B H0 S H vs ss → ArgsOk K B H S H vs ss
  | _, _, .nil => .nil
  | _, _, .cons h1 h2 h3 => .cons (h1.base h2) h2 h3.base
theorem ArgsOk.length {H0 S H : Hp} : ∀ {vs : List V} {ss : List Slot}, ArgsOk K B H0 S H vs ss → vs.length = ss.length
  | _, _, .nil => rfl
  | _, _, .cons _ _ h3 => by rw [List.length_cons, List.length_cons, h3.length]
theorem ArgsOk.at' {H0 S H : Hp} : ∀ {vs : List V} {ss : List Slot}, ArgsOk K B H0 S H vs ss → ∀ (i : Nat) (s : Slot), ss[i]? = some s → ∃ v, vs[i]? = some v ∧ SlotOk K B H0 S H (some v) s ∧ s.isOwn = false
  | _, _, .nil, i, s, e => by simp at e
  | _, _, .cons h1 h2 _, 0, s, e => by
    simp at e
    subst e
    exact ⟨_, rfl, h1, h2⟩
  | _, _, .cons _ _ h3, i + 1, s, e => by
    obtain ⟨v, q1, q2⟩ := h3.at' i s (by simpa using e)
    exact ⟨v, by simpa using q1, q2⟩
/-- the promise used: one of some values -/
theorem dn_call {dp : List Slot → (Slot → Prop) → Prop} {tr : TA} {ss : List Slot} {P : α → Prop} (h : DA K B tr ρ ss) (hd : dp ss fun s => ∃ a : α, P a ∧ s = .val a) : DN K B (tCall (spT K dp) [] E0 tr) ρ P := fun S0 H0 S H σ E Q q =>
  h S0 H0 S H σ E _ fun vs S1 H1 e1 r1 => by
    show spT K dp (vs ++ []) H1 Q E0
    rw [List.append_nil]
    refine ⟨B, S1, ss, _, e1.i, fun p hp => ⟨((E.go e1).bx p hp).1, ((E.go e1).bx p hp).2.1⟩, r1.base, hd, fun s v S2 H2 hs e2 ok => ?_⟩
    obtain ⟨a, pa, rfl⟩ := hs
    exact q v a S2 H2 pa (e1.trans e2) ok
theorem DN.e (h : DN K B te ρ fun x => x = a) : DE K B te ρ a := fun S0 H0 S H σ E Q q => h S0 H0 S H σ E Q fun v x S1 H1 e ex r => q v S1 H1 ex (e ▸ r)
theorem DE.n (h : DE K B te ρ a) : DN K B te ρ fun x => x = a := fun S0 H0 S H σ E Q q => h S0 H0 S H σ E Q fun v S1 H1 ex r => q v a S1 H1 rfl ex r
theorem DN.imp {P P' : α → Prop} (h : DN K B te ρ P) (f : ∀ a, P a → P' a) : DN K B te ρ P' := fun S0 H0 S H σ E Q q => h S0 H0 S H σ E Q fun v x S1 H1 e ex r => q v x S1 H1 (f x e) ex r
theorem d_call {dp : List Slot → (Slot → Prop) → Prop} {tr : TA} {ss : List Slot} (h : DA K B tr ρ ss) (hd : dp ss fun s => s = .val a) : DE K B (tCall (spT K dp) [] E0 tr) ρ a := fun S0 H0 S H σ E Q q =>
  h S0 H0 S H σ E _ fun vs S1 H1 e1 r1 => by
    show spT K dp (vs ++ []) H1 Q E0
    rw [List.append_nil]
    refine ⟨B, S1, ss, _, e1.i, fun p hp => ⟨((E.go e1).bx p hp).1, ((E.go e1).bx p hp).2.1⟩, r1.base, hd, fun s v S2 H2 hs e2 ok => ?_⟩
    cases hs
    exact q v S2 H2 (e1.trans e2) ok
/-- what a class of objects is -/
class OfCls (α : Type) [Enc α] where
  cn : Str
  fl : List Str
  is : ∀ {K : PySem.W.Frag} {S : Hp} {v : V} {a : α}, Enc.rep K S v a → ∃ x dx fs, v = .ref x ∧ S x = some (.ins (He.ga K cn) dx fs) ∧ fs.map Prod.fst = fl
theorem look_none {fs : List (Str × V)} {m : Str} : ∀ (_ : m ∉ fs.map Prod.fst), fs.lookup m = none := by
  induction fs with
  | nil => intro _; rfl
  | cons p fs ih =>
    intro h
    rw [List.map_cons, List.mem_cons, not_or] at h
    obtain ⟨k, v⟩ := p
    have z : (m == k) = false := by
      rw [beq_eq_false_iff_ne]
      exact h.1
    rw [List.lookup_cons, z]
    exact ih h.2
instance [OfCls α] : NotN α := ⟨fun h => by obtain ⟨x, dx, fs, rfl, _⟩ := OfCls.is h; exact fun z => nomatch z⟩
theorem d_meth [o : OfCls α] {m : Str} {dp : List Slot → (Slot → Prop) → Prop} {tr : TA} {ss : List Slot} (ho : DE K B te ρ a) (h : DA K B tr ρ ss) (hd : dp (.val a :: ss) fun s => s = .val b) (hm : m ∉ o.fl) : DE K B (tMeth (He.ga K o.cn) m (spT K dp) [] E0 te tr) ρ b := fun S0 H0 S H σ E Q q =>
  ho S0 H0 S H σ E _ fun x S1 H1 e1 r1 => by
    obtain ⟨y, dx, fs, rfl, hy, hf⟩ := OfCls.is r1
    refine ⟨y, dx, fs, rfl, e1.i _ _ hy, look_none (by rw [hf]; exact hm), ?_⟩
    refine h S0 H0 S1 H1 σ (E.go e1) _ fun vs S2 H2 e2 r2 => ?_
    rw [List.append_nil]
    refine ⟨B, S2, .val a :: ss, _, e2.i, fun p hp => ⟨((E.go (e1.trans e2)).bx p hp).1, ((E.go (e1.trans e2)).bx p hp).2.1⟩, .cons (Enc.mono e2.s r1) rfl r2.base, hd, fun s v S3 H3 hs e3 ok => ?_⟩
    cases hs
    exact q v S3 H3 ((e1.trans e2).trans e3) ok
theorem d_prop [o : OfCls α] {dp : List Slot → (Slot → Prop) → Prop} (ho : DE K B te ρ a) (hd : dp [.val a] fun s => s = .val b) : DE K B (tProp (He.ga K o.cn) (spT K dp) [] E0 te) ρ b := fun S0 H0 S H σ E Q q =>
  ho S0 H0 S H σ E _ fun x S1 H1 e1 r1 => by
    obtain ⟨y, dx, fs, rfl, hy, hf⟩ := OfCls.is r1
    refine ⟨y, dx, fs, rfl, e1.i _ _ hy, ?_⟩
    refine ⟨B, S1, [.val a], _, e1.i, fun p hp => ⟨((E.go e1).bx p hp).1, ((E.go e1).bx p hp).2.1⟩, .cons r1 rfl .nil, hd, fun s v S3 H3 hs e3 ok => ?_⟩
    cases hs
    exact q v S3 H3 (e1.trans e3) ok
end
/-! ### promises of typed defs -/
def dp0 {γ : Type} [Enc γ] (c : γ) : List Slot → (Slot → Prop) → Prop := fun ss R => ss = [] ∧ R (.val c)
def dp1 {α γ : Type} [Enc α] [Enc γ] (pre : α → Prop) (f : α → γ) : List Slot → (Slot → Prop) → Prop := fun ss R => ∃ x : α, ss = [.val x] ∧ pre x ∧ R (.val (f x))
def dp2 {α β γ : Type} [Enc α] [Enc β] [Enc γ] (pre : α → β → Prop) (f : α → β → γ) : List Slot → (Slot → Prop) → Prop := fun ss R => ∃ (x : α) (y : β), ss = [.val x, .val y] ∧ pre x y ∧ R (.val (f x y))
def dp3 {α β δ γ : Type} [Enc α] [Enc β] [Enc δ] [Enc γ] (pre : α → β → δ → Prop) (f : α → β → δ → γ) : List Slot → (Slot → Prop) → Prop := fun ss R => ∃ (x : α) (y : β) (z : δ), ss = [.val x, .val y, .val z] ∧ pre x y z ∧ R (.val (f x y z))
def dp4 {α β δ ε γ : Type} [Enc α] [Enc β] [Enc δ] [Enc ε] [Enc γ] (pre : α → β → δ → ε → Prop) (f : α → β → δ → ε → γ) : List Slot → (Slot → Prop) → Prop := fun ss R => ∃ (x : α) (y : β) (z : δ) (w : ε), ss = [.val x, .val y, .val z, .val w] ∧ pre x y z w ∧ R (.val (f x y z w))
/-- box, then so many; one of some answers -/
def dpb0 {γ : Type} [Enc γ] (P : γ → Prop) : List Slot → (Slot → Prop) → Prop := fun ss R => ss = [.box] ∧ ∀ c : γ, P c → R (.val c)
def dpb1 {α γ : Type} [Enc α] [Enc γ] (pre : α → Prop) (P : α → γ → Prop) : List Slot → (Slot → Prop) → Prop := fun ss R => ∃ x : α, ss = [.box, .val x] ∧ pre x ∧ ∀ c : γ, P x c → R (.val c)
def dpb2 {α β γ : Type} [Enc α] [Enc β] [Enc γ] (pre : α → β → Prop) (P : α → β → γ → Prop) : List Slot → (Slot → Prop) → Prop := fun ss R => ∃ (x : α) (y : β), ss = [.box, .val x, .val y] ∧ pre x y ∧ ∀ c : γ, P x y c → R (.val c)
def dpb3 {α β δ γ : Type} [Enc α] [Enc β] [Enc δ] [Enc γ] (pre : α → β → δ → Prop) (P : α → β → δ → γ → Prop) : List Slot → (Slot → Prop) → Prop := fun ss R => ∃ (x : α) (y : β) (z : δ), ss = [.box, .val x, .val y, .val z] ∧ pre x y z ∧ ∀ c : γ, P x y z c → R (.val c)
section
variable {K : PySem.W.Frag} {B : Addr → Prop} {ρ : List Slot} {ta tb tc td te : TE} {α β γ δ ε : Type} {e_α : Enc α} {e_β : Enc β} {e_γ : Enc γ} {e_δ : Enc δ} {e_ε : Enc ε} {x : α} {y : β} {z : δ} {w : ε}
theorem d_call0 {c : γ} : DE K B (tCall (spT K (dp0 c)) [] E0 tNil) ρ c := d_call da_nil ⟨rfl, rfl⟩
theorem d_call1 {pre : α → Prop} {f : α → γ} (h1 : DE K B ta ρ x) (hp : pre x) : DE K B (tCall (spT K (dp1 pre f)) [] E0 (tCons ta tNil)) ρ (f x) := d_call (da_cons h1 da_nil) ⟨x, rfl, hp, rfl⟩
theorem d_call2 {pre : α → β → Prop} {f : α → β → γ} (h1 : DE K B ta ρ x) (h2 : DE K B tb ρ y) (hp : pre x y) : DE K B (tCall (spT K (dp2 pre f)) [] E0 (tCons ta (tCons tb tNil))) ρ (f x y) := d_call (da_cons h1 (da_cons h2 da_nil)) ⟨x, y, rfl, hp, rfl⟩
theorem d_call3 {pre : α → β → δ → Prop} {f : α → β → δ → γ} (h1 : DE K B ta ρ x) (h2 : DE K B tb ρ y) (h3 : DE K B tc ρ z) (hp : pre x y z) : DE K B (tCall (spT K (dp3 pre f)) [] E0 (tCons ta (tCons tb (tCons tc tNil)))) ρ (f x y z) := d_call (da_cons h1 (da_cons h2 (da_cons h3 da_nil))) ⟨x, y, z, rfl, hp, rfl⟩
theorem d_call4 {pre : α → β → δ → ε → Prop} {f : α → β → δ → ε → γ} (h1 : DE K B ta ρ x) (h2 : DE K B tb ρ y) (h3 : DE K B tc ρ z) (h4 : DE K B td ρ w) (hp : pre x y z w) : DE K B (tCall (spT K (dp4 pre f)) [] E0 (tCons ta (tCons tb (tCons tc (tCons td tNil))))) ρ (f x y z w) := d_call (da_cons h1 (da_cons h2 (da_cons h3 (da_cons h4 da_nil)))) ⟨x, y, z, w, rfl, hp, rfl⟩
theorem d_meth0 [o : OfCls α] {m : Str} {pre : α → Prop} {f : α → γ} (h1 : DE K B ta ρ x) (hp : pre x) (hm : m ∉ o.fl) : DE K B (tMeth (He.ga K o.cn) m (spT K (dp1 pre f)) [] E0 ta tNil) ρ (f x) := d_meth h1 da_nil ⟨x, rfl, hp, rfl⟩ hm
theorem d_meth1 [o : OfCls α] {m : Str} {pre : α → β → Prop} {f : α → β → γ} (h1 : DE K B ta ρ x) (h2 : DE K B tb ρ y) (hp : pre x y) (hm : m ∉ o.fl) : DE K B (tMeth (He.ga K o.cn) m (spT K (dp2 pre f)) [] E0 ta (tCons tb tNil)) ρ (f x y) := d_meth h1 (da_cons h2 da_nil) ⟨x, y, rfl, hp, rfl⟩ hm
theorem d_meth2 [o : OfCls α] {m : Str} {pre : α → β → δ → Prop} {f : α → β → δ → γ} (h1 : DE K B ta ρ x) (h2 : DE K B tb ρ y) (h3 : DE K B tc ρ z) (hp : pre x y z) (hm : m ∉ o.fl) : DE K B (tMeth (He.ga K o.cn) m (spT K (dp3 pre f)) [] E0 ta (tCons tb (tCons tc tNil))) ρ (f x y z) := d_meth h1 (da_cons h2 (da_cons h3 da_nil)) ⟨x, y, z, rfl, hp, rfl⟩ hm
theorem d_prop1 [o : OfCls α] {pre : α → Prop} {f : α → γ} (h1 : DE K B ta ρ x) (hp : pre x) : DE K B (tProp (He.ga K o.cn) (spT K (dp1 pre f)) [] E0 ta) ρ (f x) := d_prop h1 ⟨x, rfl, hp, rfl⟩
/-- draws -/
theorem dn_callb0 {n : Nat} {P : γ → Prop} (hb : ρ[n]? = some .box) : DN K B (tCall (spT K (dpb0 P)) [] E0 (tCons (tVar n) tNil)) ρ P := dn_call (da_box hb da_nil) ⟨rfl, fun c hc => ⟨c, hc, rfl⟩⟩
theorem dn_callb1 {n : Nat} {pre : α → Prop} {P : α → γ → Prop} (hb : ρ[n]? = some .box) (h1 : DE K B ta ρ x) (hp : pre x) : DN K B (tCall (spT K (dpb1 pre P)) [] E0 (tCons (tVar n) (tCons ta tNil))) ρ (P x) := dn_call (da_box hb (da_cons h1 da_nil)) ⟨x, rfl, hp, fun c hc => ⟨c, hc, rfl⟩⟩
theorem dn_callb2 {n : Nat} {pre : α → β → Prop} {P : α → β → γ → Prop} (hb : ρ[n]? = some .box) (h1 : DE K B ta ρ x) (h2 : DE K B tb ρ y) (hp : pre x y) : DN K B (tCall (spT K (dpb2 pre P)) [] E0 (tCons (tVar n) (tCons ta (tCons tb tNil)))) ρ (P x y) := dn_call (da_box hb (da_cons h1 (da_cons h2 da_nil))) ⟨x, y, rfl, hp, fun c hc => ⟨c, hc, rfl⟩⟩
theorem dn_callb3 {n : Nat} {pre : α → β → δ → Prop} {P : α → β → δ → γ → Prop} (hb : ρ[n]? = some .box) (h1 : DE K B ta ρ x) (h2 : DE K B tb ρ y) (h3 : DE K B tc ρ z) (hp : pre x y z) : DN K B (tCall (spT K (dpb3 pre P)) [] E0 (tCons (tVar n) (tCons ta (tCons tb (tCons tc tNil))))) ρ (P x y z) := dn_call (da_box hb (da_cons h1 (da_cons h2 (da_cons h3 da_nil)))) ⟨x, y, z, rfl, hp, fun c hc => ⟨c, hc, rfl⟩⟩
/-- two parts, each one of some values -/
theorem dn_op {r : R2} {P : α → Prop} {P' : β → Prop} {R : γ → Prop} (ha : DN K B ta ρ P) (hb : DN K B tb ρ P') (hr : ∀ a b, P a → P' b → ∀ x y S H, Same S H → Enc.rep K S x a → Enc.rep K S y b → ∀ Q : VK, (∀ v c S' H', R c → Ext B S H S' H' → Enc.rep K S' v c → Q v H') → r x y H Q) : DN K B (tOp r ta tb) ρ R := fun S0 H0 S H σ E Q q =>
  ha S0 H0 S H σ E _ fun x a S1 H1 pa e1 r1 => hb S0 H0 S1 H1 σ (E.go e1) _ fun y b S2 H2 pb e2 r2 => hr a b pa pb x y S2 H2 e2.i (Enc.mono e2.s r1) r2 Q fun v c S3 H3 hc e3 r3 => q v c S3 H3 hc ((e1.trans e2).trans e3) r3
theorem dn_add {P P' : Int → Prop} (ha : DN K B ta ρ P) (hb : DN K B tb ρ P') : DN K B (tOp (rI0 fun i j => .int (i + j)) ta tb) ρ fun c : Int => ∃ a b, P a ∧ P' b ∧ c = a + b :=
  dn_op ha hb fun a b pa pb x y S H hi r1 r2 Q q => ⟨a, b, r1, r2, q _ (a + b) S H ⟨a, b, pa, pb, rfl⟩ (Ext.refl hi) rfl⟩
theorem dn_sub {P P' : Int → Prop} (ha : DN K B ta ρ P) (hb : DN K B tb ρ P') : DN K B (tOp (rI0 fun i j => .int (i - j)) ta tb) ρ fun c : Int => ∃ a b, P a ∧ P' b ∧ c = a - b :=
  dn_op ha hb fun a b pa pb x y S H hi r1 r2 Q q => ⟨a, b, r1, r2, q _ (a - b) S H ⟨a, b, pa, pb, rfl⟩ (Ext.refl hi) rfl⟩
theorem dn_mul {P P' : Int → Prop} (ha : DN K B ta ρ P) (hb : DN K B tb ρ P') (hc : ∀ a b, P a → P' b → CMul a b) : DN K B (tOp (rI CMul fun i j => .int (i * j)) ta tb) ρ fun c : Int => ∃ a b, P a ∧ P' b ∧ c = a * b :=
  dn_op ha hb fun a b pa pb x y S H hi r1 r2 Q q => ⟨a, b, r1, r2, hc a b pa pb, q _ (a * b) S H ⟨a, b, pa, pb, rfl⟩ (Ext.refl hi) rfl⟩
end
end WW

set_option Elab.async false
set_option linter.all false
set_option maxRecDepth 100000
set_option maxHeartbeats 4000000
namespace WW
open PySem PySem.Spec PyProof.Rows L2
section
variable {K : PySem.W.Frag} {B : Addr → Prop} {ρ ρ' ρ1 : List Slot} {ta tb tc te : TE} {t u : TT} {ts tu tz : TS} {Φ : Post} {α β γ : Type} {e_α : Enc α} {e_β : Enc β} {e_γ : Enc γ} {a : α} {b : β} {i j : Int}
/-! ### statements -/
theorem DS.imp {Φ' : Post} (h : DS K B ts ρ Φ) (h1 : ∀ r, Φ.nx r → Φ'.nx r) (h2 : ∀ s, Φ.rt s → Φ'.rt s) (h3 : ∀ r, Φ.bk r → Φ'.bk r) (h4 : ∀ r, Φ.ct r → Φ'.ct r) (h5 : ∀ S0 H0, Φ'.px S0 H0 → Φ.px S0 H0) : DS K B ts ρ Φ' := fun S0 H0 S H σ D E px n r b c =>
  h S0 H0 S H σ D E (h5 _ _ px) (fun ρ' σ' S' H' q => n ρ' σ' S' H' (h1 _ q)) (fun s v S' H' q => r s v S' H' (h2 _ q)) (fun ρ' σ' S' H' q => b ρ' σ' S' H' (h3 _ q)) (fun ρ' σ' S' H' q => c ρ' σ' S' H' (h4 _ q))
theorem ds_seq (h : DS K B tu ρ { Φ with nx := fun ρ' => DS K B tz ρ' Φ }) : DS K B (tSeq tu tz) ρ Φ := fun S0 H0 S H σ D E px n r b c =>
  h S0 H0 S H σ { D with nx := tz D } E px (fun ρ' σ' S' H' q sm E' => q S0 H0 S' H' σ' D E' px (fun ρ2 σ2 S2 H2 q2 sm2 E2 => n ρ2 σ2 S2 H2 q2 (sm.trans sm2) E2) r (fun ρ2 σ2 S2 H2 q2 sm2 E2 => b ρ2 σ2 S2 H2 q2 (sm.trans sm2) E2) (fun ρ2 σ2 S2 H2 q2 sm2 E2 => c ρ2 σ2 S2 H2 q2 (sm.trans sm2) E2)) r b c
/-- with a word between: what follows is shown once -/
theorem ds_cut (M : List Slot → Prop) (h : DS K B tu ρ { Φ with nx := M }) (k : ∀ ρ', M ρ' → DS K B tz ρ' Φ) : DS K B (Evl.tCut tu tz) ρ Φ := fun S0 H0 S H σ D E px n r b c =>
  ⟨fun σ' H' => ∃ ρ' S', M ρ' ∧ Same S S' ∧ En K B S0 H0 S' H' σ' ρ', h S0 H0 S H σ _ E px (fun ρ' σ' S' H' q sm E' => ⟨ρ', S', q, sm, E'⟩) r b c,
    fun σ' H' ⟨ρ', S', q, sm, E'⟩ => k ρ' q S0 H0 S' H' σ' D E' px (fun ρ2 σ2 S2 H2 q2 sm2 E2 => n ρ2 σ2 S2 H2 q2 (sm.trans sm2) E2) r (fun ρ2 σ2 S2 H2 q2 sm2 E2 => b ρ2 σ2 S2 H2 q2 (sm.trans sm2) E2) (fun ρ2 σ2 S2 H2 q2 sm2 E2 => c ρ2 σ2 S2 H2 q2 (sm.trans sm2) E2)⟩
theorem ds_next (h : Φ.nx ρ) : DS K B tNext ρ Φ := fun S0 H0 S H σ D E px n r b c => n ρ σ S H h (Same.refl S) E
theorem ds_break (h : Φ.bk ρ) : DS K B tBreak ρ Φ := fun S0 H0 S H σ D E px n r b c => b ρ σ S H h (Same.refl S) E
theorem ds_cont (h : Φ.ct ρ) : DS K B tCont ρ Φ := fun S0 H0 S H σ D E px n r b c => c ρ σ S H h (Same.refl S) E
/-- any target -/
theorem ds_asgG {g : TG} {js : List Nat} (h : DE K B te ρ a) (hg : DG K B g a ρ ρ' js) (k : Φ.nx ρ') : DS K B (tAsg te g) ρ Φ := fun S0 H0 S H σ D E px n r b c =>
  h S0 H0 S H σ E _ fun v S1 H1 e1 r1 => hg S0 H0 S1 H1 σ v (E.go e1) r1 _ fun σ' E' _ _ => n ρ' σ' S1 H1 k e1.s E'
theorem ds_asgGN {g : TG} {P : α → Prop} (h : DN K B te ρ P) (hg : ∀ a, P a → ∃ ρ' js, DG K B g a ρ ρ' js ∧ Φ.nx ρ') : DS K B (tAsg te g) ρ Φ := fun S0 H0 S H σ D E px n r b c =>
  h S0 H0 S H σ E _ fun v a S1 H1 pa e1 r1 => by
    obtain ⟨ρ', js, h1, h2⟩ := hg a pa
    exact h1 S0 H0 S1 H1 σ v (E.go e1) r1 _ fun σ' E' _ _ => n ρ' σ' S1 H1 h2 e1.s E'
theorem ds_asg {n : Nat} (h : DE K B te ρ a) (k : Φ.nx (ρ.set n (.val a))) : DS K B (tAsg te (gName n)) ρ Φ := ds_asgG h dg_name k
theorem ds_asgN {n : Nat} {P : α → Prop} (h : DN K B te ρ P) (k : ∀ a, P a → Φ.nx (ρ.set n (.val a))) : DS K B (tAsg te (gName n)) ρ Φ := ds_asgGN h fun a pa => ⟨_, _, dg_name, k a pa⟩
/-- a new list of one's own -/
theorem ds_asgO {n : Nat} {xs : List α} (h : DO K B te ρ xs) (k : Φ.nx (ρ.set n (.own xs))) : DS K B (tAsg te (gName n)) ρ Φ := fun S0 H0 S H σ D E px n r b c =>
  h S0 H0 S H σ E _ fun p vs S1 H1 e1 hp hs hh rr hl => n _ _ S1 H1 k e1.s (E.setO e1 hp hs hh rr hl)
theorem ds_par {n m : Nat} (h1 : DE K B ta ρ a) (h2 : DE K B tb ρ b) (k : Φ.nx ((ρ.set n (.val a)).set m (.val b))) : DS K B (tPar n m (tCons ta (tCons tb tNil))) ρ Φ := fun S0 H0 S H σ D E px n r b c =>
  h1 S0 H0 S H σ E _ fun v S1 H1 e1 r1 => h2 S0 H0 S1 H1 σ (E.go e1) _ fun w S2 H2 e2 r2 => ⟨v, w, rfl, n _ _ S2 H2 k (e1.s.trans e2.s) ((((E.go e1).go e2).setV (Enc.mono e2.s r1)).setV r2)⟩
theorem ds_parN {n m : Nat} {P : α → Prop} {P' : β → Prop} (h1 : DN K B ta ρ P) (h2 : DN K B tb ρ P') (k : ∀ a b, P a → P' b → Φ.nx ((ρ.set n (.val a)).set m (.val b))) : DS K B (tPar n m (tCons ta (tCons tb tNil))) ρ Φ := fun S0 H0 S H σ D E px n r b c =>
  h1 S0 H0 S H σ E _ fun v x S1 H1 px e1 r1 => h2 S0 H0 S1 H1 σ (E.go e1) _ fun w y S2 H2 py e2 r2 => ⟨v, w, rfl, n _ _ S2 H2 (k x y px py) (e1.s.trans e2.s) ((((E.go e1).go e2).setV (Enc.mono e2.s r1)).setV r2)⟩
/-- the second one's own -/
theorem ds_parO {n m : Nat} {xs : List β} (h1 : DE K B ta ρ a) (h2 : DO K B tb ρ xs) (k : Φ.nx ((ρ.set n (.val a)).set m (.own xs))) : DS K B (tPar n m (tCons ta (tCons tb tNil))) ρ Φ := fun S0 H0 S H σ D E px n r b c =>
  h1 S0 H0 S H σ E _ fun v S1 H1 e1 r1 => h2 S0 H0 S1 H1 σ (E.go e1) _ fun p vs S2 H2 e2 hp hs hh rr hl => ⟨v, _, rfl, n _ _ S2 H2 k (e1.s.trans e2.s) (((E.go e1).setV r1).setO e2 hp hs hh rr hl)⟩
theorem ds_parON {n m : Nat} {P : β → Prop} {xs : List α} (h1 : DO K B ta ρ xs) (h2 : DN K B tb ρ P) (hm : n ≠ m) (k : ∀ b, P b → Φ.nx ((ρ.set n (.own xs)).set m (.val b))) : DS K B (tPar n m (tCons ta (tCons tb tNil))) ρ Φ := fun S0 H0 S H σ D E px n r b c => by
  refine h1 S0 H0 S H σ E _ fun p vs S1 H1 e1 hp hs hh rr hl => h2 S0 H0 S1 H1 σ (E.go e1) _ fun w y S2 H2 py e2 r2 => ⟨_, w, rfl, n _ _ S2 H2 (k y py) (e1.s.trans e2.s) (En.setV (En.setO E (e1.trans e2) hp ?_ ?_ (Paired.mono (fun _ _ => Enc.mono e2.s) rr) hl) r2)⟩
  · exact (e2.p p hs (by rw [hh]; exact fun z => nomatch z)).1
  · rcases (e2.p p hs (by rw [hh]; exact fun z => nomatch z)).2 with z | ⟨z, _⟩
    · rw [z]
      exact hh
    · exact absurd (E.ext.free E.i0 hp) (E.bx p z).2.2
theorem ds_par3 {n m l : Nat} {c : γ} (h1 : DE K B ta ρ a) (h2 : DE K B tb ρ b) (h3 : DE K B tc ρ c) (k : Φ.nx (((ρ.set n (.val a)).set m (.val b)).set l (.val c))) : DS K B (tPar3 n m l (tCons ta (tCons tb (tCons tc tNil)))) ρ Φ := fun S0 H0 S H σ D E px n r b c =>
  h1 S0 H0 S H σ E _ fun v S1 H1 e1 r1 => h2 S0 H0 S1 H1 σ (E.go e1) _ fun w S2 H2 e2 r2 => h3 S0 H0 S2 H2 σ (E.go (e1.trans e2)) _ fun z S3 H3 e3 r3 =>
    ⟨v, w, z, rfl, n _ _ S3 H3 k ((e1.s.trans e2.s).trans e3.s) (((((E.go (e1.trans e2)).go e3).setV (Enc.mono (e2.s.trans e3.s) r1)).setV (Enc.mono e3.s r2)).setV r3)⟩
theorem ds_aug {n : Nat} (hx : ρ[n]? = some (.val i)) (h : DE K B te ρ j) (k : Φ.nx (ρ.set n (.val (i + j)))) : DS K B (tAug n te (ipI fun i j => i + j)) ρ Φ := fun S0 H0 S H σ D E px nx r b c => by
  obtain ⟨v, h1, h2⟩ := E.val hx
  refine ⟨v, h1, h S0 H0 S H σ E _ fun w S1 H1 e1 r1 => ⟨i, j, h2, r1, nx _ _ S1 H1 k e1.s ((E.go e1).setV rfl)⟩⟩
theorem ds_if {c : Bool} (h : DT K B t ρ c) (h1 : c = true → DS K B tu ρ Φ) (h2 : c = false → DS K B tz ρ Φ) : DS K B (tIfS t tu tz) ρ Φ := fun S0 H0 S H σ D E px n r b ct => h S0 H0 S H σ E _ fun S1 H1 e => by
  have n' : ∀ ρ' σ' S' H', Φ.nx ρ' → Same S1 S' → En K B S0 H0 S' H' σ' ρ' → D.nx σ' H' := fun ρ' σ' S' H' q sm E' => n ρ' σ' S' H' q (e.s.trans sm) E'
  have b' : ∀ ρ' σ' S' H', Φ.bk ρ' → Same S1 S' → En K B S0 H0 S' H' σ' ρ' → D.bk σ' H' := fun ρ' σ' S' H' q sm E' => b ρ' σ' S' H' q (e.s.trans sm) E'
  have c' : ∀ ρ' σ' S' H', Φ.ct ρ' → Same S1 S' → En K B S0 H0 S' H' σ' ρ' → D.ct σ' H' := fun ρ' σ' S' H' q sm E' => ct ρ' σ' S' H' q (e.s.trans sm) E'
  cases c with
  | true => exact h1 rfl S0 H0 S1 H1 σ D (E.go e) px n' r b' c'
  | false => exact h2 rfl S0 H0 S1 H1 σ D (E.go e) px n' r b' c'
theorem ds_ret (h : DE K B te ρ a) (k : Φ.rt (.val a)) : DS K B (tRet te) ρ Φ := fun S0 H0 S H σ D E px n r b c =>
  h S0 H0 S H σ E _ fun v S1 H1 e1 r1 => r _ v S1 H1 k (E.ext.trans e1) r1
theorem ds_retE {a' : α} (k : Φ.rt (.val a')) (h : DE K B te ρ a) (e : a = a') : DS K B (tRet te) ρ Φ := ds_ret (h.is e) k
theorem ds_retN {P : α → Prop} (h : DN K B te ρ P) (k : ∀ a, P a → Φ.rt (.val a)) : DS K B (tRet te) ρ Φ := fun S0 H0 S H σ D E px n r b c =>
  h S0 H0 S H σ E _ fun v a S1 H1 pa e1 r1 => r _ v S1 H1 (k a pa) (E.ext.trans e1) r1
/-- an own list becomes a value -/
theorem ds_frz {n : Nat} {xs : List α} (hx : ρ[n]? = some (.own xs)) (h : DS K B ts (ρ.set n (.val (α := L α) xs)) Φ) : DS K B ts ρ Φ := fun S0 H0 S H σ D E px nx r b c => by
  obtain ⟨S1, _, sm, E1⟩ := E.frz hx
  exact h S0 H0 S1 H σ D E1 px (fun ρ' σ' S' H' q s E' => nx ρ' σ' S' H' q (sm.trans s) E') r (fun ρ' σ' S' H' q s E' => b ρ' σ' S' H' q (sm.trans s) E') (fun ρ' σ' S' H' q s E' => c ρ' σ' S' H' q (sm.trans s) E')
theorem ds_drop (h : DE K B te ρ a) (k : Φ.nx ρ) : DS K B (tDrop te) ρ Φ := fun S0 H0 S H σ D E px n r b c => h S0 H0 S H σ E _ fun v S1 H1 e1 r1 => n ρ σ S1 H1 k e1.s (E.go e1)
theorem ds_append {n : Nat} {xs : List α} (hx : ρ[n]? = some (.own xs)) (h : DE K B te ρ a) (hl : xs.length < BIG) (k : Φ.nx (ρ.set n (.own (xs ++ [a])))) : DS K B (tDrop (tBM K "list" rAppend (tVar n) (tCons te tNil))) ρ Φ := fun S0 H0 S H σ D E px nx r b c => by
  obtain ⟨_, p, vs, e1, h0, hs, hh, rr⟩ := E.own hx
  refine ⟨_, e1, .inl ⟨rfl, vs, SqL.of hh⟩, ?_⟩
  refine h S0 H0 S H σ E _ fun w S1 H1 ex r1 => ?_
  have E1 := E.go ex
  obtain ⟨_, p', vs', e1', h0', hs', hh', rr'⟩ := E1.own hx
  rw [e1] at e1'
  cases e1'
  refine ⟨p, vs', w, rfl, rfl, hh', ?_, nx _ σ S1 _ k ex.s (E1.chg hx e1 (Paired.app rr' (.cons r1 .nil)) ?_)⟩
  · rw [rr'.length]
    exact Nat.lt_of_lt_of_le hl big_line
  · rw [List.length_append]
    exact hl
theorem ds_appendN {n : Nat} {xs : List α} {P : α → Prop} (hx : ρ[n]? = some (.own xs)) (h : DN K B te ρ P) (hl : xs.length < BIG) (k : ∀ a, P a → Φ.nx (ρ.set n (.own (xs ++ [a])))) : DS K B (tDrop (tBM K "list" rAppend (tVar n) (tCons te tNil))) ρ Φ := fun S0 H0 S H σ D E px nx r b c => by
  obtain ⟨_, p, vs, e1, h0, hs, hh, rr⟩ := E.own hx
  refine ⟨_, e1, .inl ⟨rfl, vs, SqL.of hh⟩, ?_⟩
  refine h S0 H0 S H σ E _ fun w a S1 H1 pa ex r1 => ?_
  have E1 := E.go ex
  obtain ⟨_, p', vs', e1', h0', hs', hh', rr'⟩ := E1.own hx
  rw [e1] at e1'
  cases e1'
  refine ⟨p, vs', w, rfl, rfl, hh', ?_, nx _ σ S1 _ (k a pa) ex.s (E1.chg hx e1 (Paired.app rr' (.cons r1 .nil)) ?_)⟩
  · rw [rr'.length]
    exact Nat.lt_of_lt_of_le hl big_line
  · rw [List.length_append]
    exact hl
theorem ds_extend {n : Nat} {xs ys : List α} (hx : ρ[n]? = some (.own xs)) (h : DE K B te ρ (α := L α) ys) (hl : xs.length + ys.length ≤ BIG) (k : Φ.nx (ρ.set n (.own (xs ++ ys)))) : DS K B (tDrop (tBM K "list" rExtend (tVar n) (tCons te tNil))) ρ Φ := fun S0 H0 S H σ D E px nx r b c => by
  obtain ⟨_, p, vs, e1, h0, hs, hh, rr⟩ := E.own hx
  refine ⟨_, e1, .inl ⟨rfl, vs, SqL.of hh⟩, ?_⟩
  refine h S0 H0 S H σ E _ fun w S1 H1 ex r1 => ?_
  obtain ⟨l2, p2, vs2, z2, hh2, r2⟩ := r1
  subst z2
  have E1 := E.go ex
  obtain ⟨_, p', vs', e1', h0', hs', hh', rr'⟩ := E1.own hx
  rw [e1] at e1'
  cases e1'
  refine ⟨p, p2, vs', vs2, rfl, rfl, hh', ex.i _ _ hh2, ?_, nx _ σ S1 _ k ex.s (E1.chg hx e1 (Paired.app rr' r2) ?_)⟩
  · rw [rr'.length, r2.length]
    exact Nat.le_trans hl big_line
  · rw [List.length_append]
    exact hl
theorem ds_for {wi : TI} {g : TG} {xs : List α} (hi : DI K B wi ρ xs) (I : Nat → List Slot → Prop) (h0 : I 0 ρ)
    (hs : ∀ i x ρ1, xs[i]? = some x → I i ρ1 → ∃ ρ2 js, DG K B g x ρ1 ρ2 js ∧ DS K B ts ρ2 ⟨I (i + 1), Φ.rt, Φ.nx, I (i + 1), Φ.px⟩) (hd : ∀ ρ1, I xs.length ρ1 → Φ.nx ρ1) : DS K B (tFor wi g ts) ρ Φ := fun S0 H0 S H σ D E px n r b c => by
  refine hi S0 H0 S H σ E _ fun J S1 H1 e1 y => ?_
  refine ⟨fun i m σ' Hc => m = xs.length - i ∧ i ≤ xs.length ∧ ∃ ρ' Sc, I i ρ' ∧ Same S1 Sc ∧ En K B S0 H0 Sc Hc σ' ρ', ⟨xs.length, by simp, Nat.zero_le _, ρ, S1, h0, Same.refl _, E.go e1⟩, ?_⟩
  rintro i m σ' Hc ⟨rfl, hle, ρ', Sc, hI, sm, E'⟩
  have yy := y Sc Hc sm E'.ext
  by_cases hlt : i < xs.length
  · refine .inr ?_
    obtain ⟨x, hx⟩ : ∃ x, xs[i]? = some x := ⟨_, List.getElem?_eq_getElem hlt⟩
    obtain ⟨hgo, hy⟩ := yy.1 i x hx
    refine ⟨hgo, fun σ2 H2 => ∃ ρ2 S2, I (i + 1) ρ2 ∧ Same S1 S2 ∧ En K B S0 H0 S2 H2 σ2 ρ2, fun σ2 H2 hp => ⟨xs.length - (i + 1), by omega, rfl, hlt, hp⟩, fun v H' hyl => ?_⟩
    obtain ⟨S2, e2, r2⟩ := hy v H' hyl
    obtain ⟨ρ2, js, hg, hb⟩ := hs i x ρ' hx hI
    refine hg S0 H0 S2 H' σ' v (E'.go e2) r2 _ fun σ2 E2 _ _ => ?_
    refine hb S0 H0 S2 H' σ2 _ E2 px (fun ρ3 σ3 S3 H3 q s E3 => ⟨ρ3, S3, q, (sm.trans e2.s).trans s, E3⟩) r (fun ρ3 σ3 S3 H3 q s E3 => n ρ3 σ3 S3 H3 q (((e1.s.trans sm).trans e2.s).trans s) E3) (fun ρ3 σ3 S3 H3 q s E3 => ⟨ρ3, S3, q, (sm.trans e2.s).trans s, E3⟩)
  · refine .inl ⟨?_, ?_⟩
    · rw [show i = xs.length by omega]
      exact yy.2
    · rw [show i = xs.length by omega] at hI
      exact n ρ' σ' Sc Hc (hd ρ' hI) (e1.s.trans sm) E'
theorem ds_while (I : Nat → List Slot → Prop) (m0 : Nat) (h0 : I m0 ρ)
    (hs : ∀ m ρ1, I m ρ1 → ∃ c, DT K B t ρ1 c ∧ (c = true → DS K B ts ρ1 ⟨fun ρ2 => ∃ m', m' < m ∧ I m' ρ2, Φ.rt, Φ.nx, fun ρ2 => ∃ m', m' < m ∧ I m' ρ2, Φ.px⟩) ∧ (c = false → Φ.nx ρ1)) : DS K B (tWhile t ts) ρ Φ := fun S0 H0 S H σ D E px n r b c => by
  refine ⟨fun m σ' Hc => ∃ ρ' Sc, I m ρ' ∧ Same S Sc ∧ En K B S0 H0 Sc Hc σ' ρ', ⟨m0, ρ, S, h0, Same.refl _, E⟩, ?_⟩
  rintro m σ' Hc ⟨ρ', Sc, hI, sm, E'⟩
  obtain ⟨c, ht, h1, h2⟩ := hs m ρ' hI
  refine ht S0 H0 Sc Hc σ' E' _ fun S1 H1 e1 => ?_
  cases c with
  | true =>
    show ∃ N, _
    refine ⟨fun σ2 H2 => ∃ m', m' < m ∧ ∃ ρ2 S2, I m' ρ2 ∧ Same S S2 ∧ En K B S0 H0 S2 H2 σ2 ρ2, fun σ2 H2 h => h, ?_⟩
    refine h1 rfl S0 H0 S1 H1 σ' _ (E'.go e1) px (fun ρ3 σ3 S3 H3 ⟨m', hm, q⟩ s E3 => ⟨m', hm, ρ3, S3, q, (sm.trans e1.s).trans s, E3⟩) r (fun ρ3 σ3 S3 H3 q s E3 => n ρ3 σ3 S3 H3 q ((sm.trans e1.s).trans s) E3) (fun ρ3 σ3 S3 H3 ⟨m', hm, q⟩ s E3 => ⟨m', hm, ρ3, S3, q, (sm.trans e1.s).trans s, E3⟩)
  | false => exact n ρ' σ' S1 H1 (h2 rfl) (sm.trans e1.s) (E'.go e1)
/-! ### a statement and what follows it -/
theorem dq_asg {n : Nat} (h : DE K B te ρ a) (k : DS K B tz (ρ.set n (.val a)) Φ) : DS K B (tSeq (tAsg te (gName n)) tz) ρ Φ := ds_seq (ds_asg h k)
theorem dq_asgI {δ : Type} [Enc δ] {n : Nat} (a : δ) (h : DE K B te ρ a) (k : DS K B tz (ρ.set n (.val a)) Φ) : DS K B (tSeq (tAsg te (gName n)) tz) ρ Φ := ds_seq (ds_asg h k)
theorem dq_asgN {n : Nat} {P : α → Prop} (h : DN K B te ρ P) (k : ∀ a, P a → DS K B tz (ρ.set n (.val a)) Φ) : DS K B (tSeq (tAsg te (gName n)) tz) ρ Φ := ds_seq (ds_asgN h k)
theorem dq_asgO {n : Nat} {xs : List α} (h : DO K B te ρ xs) (k : DS K B tz (ρ.set n (.own xs)) Φ) : DS K B (tSeq (tAsg te (gName n)) tz) ρ Φ := ds_seq (ds_asgO h k)
theorem dq_asgG {g : TG} {js : List Nat} (h : DE K B te ρ a) (hg : DG K B g a ρ ρ' js) (k : DS K B tz ρ' Φ) : DS K B (tSeq (tAsg te g) tz) ρ Φ := ds_seq (ds_asgG h hg k)
theorem dq_par {n m : Nat} (h1 : DE K B ta ρ a) (h2 : DE K B tb ρ b) (k : DS K B tz ((ρ.set n (.val a)).set m (.val b)) Φ) : DS K B (tSeq (tPar n m (tCons ta (tCons tb tNil))) tz) ρ Φ := ds_seq (ds_par h1 h2 k)
theorem dq_par3 {n m l : Nat} {c : γ} (h1 : DE K B ta ρ a) (h2 : DE K B tb ρ b) (h3 : DE K B tc ρ c) (k : DS K B tz (((ρ.set n (.val a)).set m (.val b)).set l (.val c)) Φ) : DS K B (tSeq (tPar3 n m l (tCons ta (tCons tb (tCons tc tNil)))) tz) ρ Φ := ds_seq (ds_par3 h1 h2 h3 k)
theorem dq_aug {n : Nat} (hx : ρ[n]? = some (.val i)) (h : DE K B te ρ j) (k : DS K B tz (ρ.set n (.val (i + j))) Φ) : DS K B (tSeq (tAug n te (ipI fun i j => i + j)) tz) ρ Φ := ds_seq (ds_aug hx h k)
theorem dq_when {c : Bool} (h : DT K B t ρ c) (h1 : c = true → DS K B tu ρ { Φ with nx := fun ρ' => DS K B tz ρ' Φ }) (h2 : c = false → DS K B tz ρ Φ) : DS K B (tSeq (tIfS t tu tNext) tz) ρ Φ := ds_seq (ds_if h h1 fun z => ds_next (h2 z))
theorem dq_if {c : Bool} (h : DT K B t ρ c) (h1 : c = true → DS K B tu ρ { Φ with nx := fun ρ' => DS K B tz ρ' Φ }) (h2 : c = false → DS K B ts ρ { Φ with nx := fun ρ' => DS K B tz ρ' Φ }) : DS K B (tSeq (tIfS t tu ts) tz) ρ Φ := ds_seq (ds_if h h1 h2)
theorem dq_drop (h : DE K B te ρ a) (k : DS K B tz ρ Φ) : DS K B (tSeq (tDrop te) tz) ρ Φ := ds_seq (ds_drop h k)
theorem dq_append {n : Nat} {xs : List α} (hx : ρ[n]? = some (.own xs)) (h : DE K B te ρ a) (hl : xs.length < BIG) (k : DS K B tz (ρ.set n (.own (xs ++ [a]))) Φ) : DS K B (tSeq (tDrop (tBM K "list" rAppend (tVar n) (tCons te tNil))) tz) ρ Φ := ds_seq (ds_append hx h hl k)
theorem dq_for {wi : TI} {g : TG} {xs : List α} (hi : DI K B wi ρ xs) (I : Nat → List Slot → Prop) (h0 : I 0 ρ)
    (hs : ∀ i x ρ1, xs[i]? = some x → I i ρ1 → ∃ ρ2 js, DG K B g x ρ1 ρ2 js ∧ DS K B ts ρ2 ⟨I (i + 1), Φ.rt, fun ρ' => DS K B tz ρ' Φ, I (i + 1), Φ.px⟩) (hd : ∀ ρ1, I xs.length ρ1 → DS K B tz ρ1 Φ) : DS K B (tSeq (tFor wi g ts) tz) ρ Φ := ds_seq (ds_for hi I h0 hs hd)
theorem dq_while (I : Nat → List Slot → Prop) (m0 : Nat) (h0 : I m0 ρ)
    (hs : ∀ m ρ1, I m ρ1 → ∃ c, DT K B t ρ1 c ∧ (c = true → DS K B ts ρ1 ⟨fun ρ2 => ∃ m', m' < m ∧ I m' ρ2, Φ.rt, fun ρ' => DS K B tz ρ' Φ, fun ρ2 => ∃ m', m' < m ∧ I m' ρ2, Φ.px⟩) ∧ (c = false → DS K B tz ρ1 Φ)) : DS K B (tSeq (tWhile t ts) tz) ρ Φ := ds_seq (ds_while I m0 h0 hs)
/-! ### defs -/
def startS (N : List Str) (ss : List Slot) : List Slot := ss ++ List.replicate (N.length - ss.length) .no
theorem start_en {N : List Str} {S H : Hp} {vs : List V} {ss : List Slot} (hi : Same S H) (hb : ∀ p, B p → S p = none ∧ IsBx (H p)) (h : ArgsOk K B H S H vs ss) : En K B S H S H (start N vs) (startS N ss) := by
  have hl := h.length
  have noOwn : ∀ (i : Nat) (s : Slot), (startS N ss)[i]? = some s → s.isOwn = false := fun i s hs => by
    unfold startS at hs
    by_cases hlt : i < ss.length
    · rw [List.getElem?_append_left hlt] at hs
      obtain ⟨v, _, _, q⟩ := h.at' i s hs
      exact q
    · rw [List.getElem?_append_right (by omega), List.getElem?_replicate] at hs
      split at hs
      · cases hs
        rfl
      · cases hs
  refine ⟨hi, fun p hp => ⟨(hb p hp).1, (hb p hp).2, (hb p hp).2.ne⟩, Ext.refl hi, ?_, fun i s hs => ?_, fun i j s u _ h1 _ o1 _ => ?_⟩
  · unfold L2.start startS
    rw [List.length_append, List.length_append, List.length_map, List.length_replicate, List.length_replicate, hl]
  · unfold startS at hs
    unfold L2.start
    by_cases hlt : i < ss.length
    · rw [List.getElem?_append_left hlt] at hs
      obtain ⟨v, q1, q2, _⟩ := h.at' i s hs
      rw [List.getElem?_append_left (by rw [List.length_map, hl]; exact hlt), List.getElem?_map, q1]
      exact ⟨_, rfl, q2⟩
    · rw [List.getElem?_append_right (by omega), List.getElem?_replicate] at hs
      rw [List.getElem?_append_right (by rw [List.length_map]; omega), List.getElem?_replicate, List.length_map, hl]
      split at hs
      · cases hs
        rw [if_pos (by assumption)]
        exact ⟨_, rfl, trivial⟩
      · cases hs
  · rw [noOwn i s h1] at o1
    cases o1
end
theorem okT {P : Program} {w : World} {K : PySem.W.Frag} {mg : Str → Option Value} {base : Heap} {x qual : Str} {params : Arguments} {body : List Stmt} {scope : Scope} {dvs : List V} {kws : List (Str × V)} {f : Addr} {fd : FuncData} {N ps : List Str} {k : Nat} {dp : List Slot → (Slot → Prop) → Prop}
    (F : FunD K x qual params body scope dvs kws f fd) (S : FnScope N ps scope) (len : ∀ ss R, dp ss R → ss.length = ps.length)
    (hbody : ∀ (cdv : Value) (A : Around) (outer : List PySem.Env) (s : Shared) (H : Hp) (E : XK), Room k (A.deeper (envOfC qual scope s.heap.objs.size f cdv)) →
      ∃ t, PSs (cxOf CX0 P w K mg base N qual scope f cdv A outer s H E).nox body t ∧ ∀ (B : Addr → Prop) ss R, dp ss R → DS K B t (startS N ss) ⟨fun _ => R (.val ()), R, fun _ => False, fun _ => False, fun _ _ => True⟩) : FnOk P w K mg base CX0 (k + 1) f fd ps (spT K dp) := by
  refine F.ok S (fun vs H Q E h => ?_) (fun cdv A outer s H vs Q E hr h => ?_)
  · obtain ⟨B, S, ss, R, _, _, ha, hd, _⟩ := h
    rw [ha.length, len ss R hd]
  · obtain ⟨B, S, ss, R, hi, hb, ha, hd, q⟩ := h
    obtain ⟨t, h1, h2⟩ := hbody cdv A outer s H E hr
    refine ⟨t, PSs.nox h1, h2 B ss R hd S H S H _ _ (start_en hi hb ha) trivial (fun ρ' σ' S' H' r _ E' => q _ _ S' H' r E'.ext rfl) (fun s v S' H' r ex ok => q s v S' H' r ex ok) (fun _ _ _ _ h => h.elim) (fun _ _ _ _ h => h.elim)⟩
end WW

set_option Elab.async false
set_option linter.all false
set_option maxRecDepth 100000
set_option maxHeartbeats 4000000
namespace WW
open PySem PySem.Spec PyProof.Rows L2
/-! ### isinstance of typed values -/
class TyE (α : Type) [Enc α] where
  tn : α → String
  ty : ∀ {K : PySem.W.Frag} {S : Hp} {v : V} {a : α}, Enc.rep K S v a → TyX K S v (.type (tn a))
instance : TyE Int := ⟨fun _ => "int", fun {_ _ _ a} h => by cases h; exact .base (.int a)⟩
instance : TyE Bool := ⟨fun _ => "bool", fun {_ _ _ a} h => by cases h; exact .base (.bl a)⟩
instance : TyE Str := ⟨fun _ => "str", fun {_ _ _ a} h => by cases h; exact .base (.str a)⟩
instance : TyE Unit := ⟨fun _ => "NoneType", fun h => by cases h; exact .base .non⟩
instance {α : Type} [Enc α] [TyE α] : TyE (Option α) where
  tn o := match o with
    | none => "NoneType"
    | some a => TyE.tn a
  ty {K S v a} h := by
    cases a with
    | none => cases h; exact .base .non
    | some a => exact TyE.ty (α := α) h
theorem ty_t {K : PySem.W.Frag} {H : Hp} {a : Addr} {xs : List V} (h : SqT K H a xs) : TyX K H (.ref a) (.type "tuple") := by
  rcases h with (h | ⟨o, h⟩) | ⟨o, its, n, h1, h2, _⟩
  · exact .base (.tup h)
  · exact .fTuple h
  · exact .kTuple h1 h2
instance {α : Type} [Enc α] : TyE (L α) := ⟨fun _ => "list", fun h => by obtain ⟨_, p, vs, rfl, hh, _⟩ := h; exact .base (.lst hh)⟩
instance {α : Type} [Enc α] : TyE (U α) := ⟨fun _ => "tuple", fun h => by obtain ⟨_, p, vs, rfl, hh, _⟩ := h; exact ty_t hh⟩
instance {α β : Type} [Enc α] [Enc β] : TyE (α × β) := ⟨fun _ => "tuple", fun h => by obtain ⟨p, v1, v2, rfl, hh, _⟩ := h; exact ty_t hh⟩
instance {α β γ : Type} [Enc α] [Enc β] [Enc γ] : TyE (T3 α β γ) := ⟨fun _ => "tuple", fun h => by obtain ⟨p, v1, v2, v3, rfl, hh, _⟩ := h; exact ty_t hh⟩
section
variable {K : PySem.W.Frag} {B : Addr → Prop} {ρ ρ' ρ1 ρ2 : List Slot} {ta tb tc te : TE} {t u : TT} {ts tu tz : TS} {Φ : Post} {α β γ : Type} {e_α : Enc α} {e_β : Enc β} {e_γ : Enc γ} {a : α} {b : β} {i j : Int}
theorem d_isi {nm : String} {r : Bool} (h : DE K B te ρ a) (tt : TyE α) (hk : L2.kitB (tt.tn a) nm = some r) : DE K B (tCB (rIsi K) (tCons te (tCons (tC (.ty nm)) tNil))) ρ r := fun S0 H0 S H σ E Q q =>
  h S0 H0 S H σ E _ fun v S1 H1 e1 r1 => ⟨v, .ty nm, _, _, r, rfl, .ty nm, tyx_same e1.i (tt.ty r1), kit_ty hk, q _ S1 H1 e1 rfl⟩
/-- isinstance(x, (list, tuple)) -/
theorem d_isSq {xs : List α} (h : DE K B te ρ xs) : DE K B (tCB (rIsiT K) (tCons te (tCons (tTup (tCons (tC (.ty "list")) (tCons (tC (.ty "tuple")) tNil))) tNil))) ρ true := fun S0 H0 S H σ E Q q =>
  h S0 H0 S H σ E _ fun v S1 H1 e1 ⟨hl, p, vs, z, hh, r⟩ => ⟨by show 2 ≤ sizeLine; decide, fun w hw => by
    subst z
    obtain ⟨t, b1, b2, ty, k1, k2, z, k3⟩ := Sq.hasT hh
    exact ⟨_, w, _, t, _, true, rfl, upd_same, .cons (.ty "list") (.cons (.ty "tuple") .nil), tyx_same (e1.i.trans (same_new hw)) ty, k3, q _ S1 _ (e1.trans (Ext.grow e1.i (same_new hw))) rfl⟩⟩
/-! ### built-in calls -/
theorem vals_int {S : Hp} : ∀ {vs : List V} {xs : List Int}, Paired (Enc.rep K S) vs xs → vs = xs.map V.int
  | _, _, .nil => rfl
  | _, _, .cons h r => by cases h; rw [vals_int r]; rfl
theorem vals_bl {S : Hp} : ∀ {vs : List V} {xs : List Bool}, Paired (Enc.rep K S) vs xs → vs = xs.map V.bl
  | _, _, .nil => rfl
  | _, _, .cons h r => by cases h; rw [vals_bl r]; rfl
theorem d_any {bs : List Bool} (h : DE K B te ρ (α := L Bool) bs) : DE K B (tCB (rAny K) (tCons te tNil)) ρ (bs.any id) := fun S0 H0 S H σ E Q q =>
  h S0 H0 S H σ E _ fun v S1 H1 e1 ⟨hl, p, vs, z, hh, r⟩ => ⟨p, bs, by rw [z], .inl (.inl (by rw [← vals_bl r]; exact e1.i _ _ hh)), q _ S1 H1 e1 rfl⟩
theorem d_all {bs : List Bool} (h : DE K B te ρ (α := L Bool) bs) : DE K B (tCB (rAll K) (tCons te tNil)) ρ (bs.all id) := fun S0 H0 S H σ E Q q =>
  h S0 H0 S H σ E _ fun v S1 H1 e1 ⟨hl, p, vs, z, hh, r⟩ => ⟨p, bs, by rw [z], .inl (.inl (by rw [← vals_bl r]; exact e1.i _ _ hh)), q _ S1 H1 e1 rfl⟩
theorem d_sum {ns : List Int} (h : DE K B te ρ (α := L Int) ns) : DE K B (tCB (rSum K) (tCons te tNil)) ρ ns.sum := fun S0 H0 S H σ E Q q =>
  h S0 H0 S H σ E _ fun v S1 H1 e1 ⟨hl, p, vs, z, hh, r⟩ => ⟨p, ns, by rw [z], .inl (.inl (by rw [← vals_int r]; exact e1.i _ _ hh)), q _ S1 H1 e1 rfl⟩
theorem d_maxL {ns : List Int} (h : DE K B te ρ (α := L Int) ns) (hm : i ∈ ns) (hi : ∀ y ∈ ns, y ≤ i) : DE K B (tCB (rMax K) (tCons te tNil)) ρ i := fun S0 H0 S H σ E Q q =>
  h S0 H0 S H σ E _ fun v S1 H1 e1 ⟨hl, p, vs, z, hh, r⟩ => ⟨p, ns, by rw [z], .inl (.inl (by rw [← vals_int r]; exact e1.i _ _ hh)), List.length_pos_of_mem hm, fun m hm' hi' => by
    rw [show m = i from Int.le_antisymm (hi m hm') (hi' i hm)]
    exact q _ S1 H1 e1 rfl⟩
theorem d_minL {ns : List Int} (h : DE K B te ρ (α := L Int) ns) (hm : i ∈ ns) (hi : ∀ y ∈ ns, i ≤ y) : DE K B (tCB (rMin K) (tCons te tNil)) ρ i := fun S0 H0 S H σ E Q q =>
  h S0 H0 S H σ E _ fun v S1 H1 e1 ⟨hl, p, vs, z, hh, r⟩ => ⟨p, ns, by rw [z], .inl (.inl (by rw [← vals_int r]; exact e1.i _ _ hh)), List.length_pos_of_mem hm, fun m hm' hi' => by
    rw [show m = i from Int.le_antisymm (hi' i hm) (hi m hm')]
    exact q _ S1 H1 e1 rfl⟩
theorem paired_map {δ : Type} {S : Hp} {e : Enc δ} (g : δ → V) (hg : ∀ x, Enc.rep K S (g x) x) : ∀ xs : List δ, Paired (Enc.rep K S) (xs.map g) xs
  | [] => .nil
  | x :: r => .cons (hg x) (paired_map g hg r)
/-- sorted: some arrangement that rises -/
theorem d_sortI {ns ns' : List Int} (h : DE K B te ρ (α := L Int) ns) (hs : ∀ zs : List Int, zs.Perm ns → zs.Pairwise (· ≤ ·) → zs = ns') : DO K B (tCB (rSortedI K) (tCons te tNil)) ρ ns' := fun S0 H0 S H σ E Q q =>
  h S0 H0 S H σ E _ fun v S1 H1 e1 ⟨hl, p, vs, z, hh, r⟩ => ⟨p, ns, by rw [z], .inl (.inl (by rw [← vals_int r]; exact e1.i _ _ hh)), fun zs w hp hw hn => by
    have e := hs zs hp hw
    subst e
    exact q w _ S1 _ (e1.trans (Ext.priv e1.i hn)) (e1.free E.i hn) (e1.i.free hn) upd_same (paired_map V.int (fun _ => rfl) zs) (by rw [hp.length_eq]; exact hl)⟩
theorem d_abs (h : DE K B te ρ i) : DE K B (tCB (fun xs H Q => ∃ i, xs = [.int i] ∧ Q (.int (if i < 0 then -i else i)) H) (tCons te tNil)) ρ (if i < 0 then -i else i) := fun S0 H0 S H σ E Q q =>
  h S0 H0 S H σ E _ fun v S1 H1 e1 r => ⟨i, by cases r; rfl, q _ S1 H1 e1 rfl⟩
theorem d_intI (h : DE K B te ρ i) : DE K B (tCB (fun xs H Q => (∃ i, xs = [.int i] ∧ Q (.int i) H) ∨ ∃ k, xs = [.bl k] ∧ Q (.int (if k then 1 else 0)) H) (tCons te tNil)) ρ i := fun S0 H0 S H σ E Q q =>
  h S0 H0 S H σ E _ fun v S1 H1 e1 r => .inl ⟨i, by cases r; rfl, q _ S1 H1 e1 rfl⟩
theorem d_intB {k : Bool} (h : DE K B te ρ k) : DE K B (tCB (fun xs H Q => (∃ i, xs = [.int i] ∧ Q (.int i) H) ∨ ∃ k, xs = [.bl k] ∧ Q (.int (if k then 1 else 0)) H) (tCons te tNil)) ρ (if k then (1 : Int) else 0) := fun S0 H0 S H σ E Q q =>
  h S0 H0 S H σ E _ fun v S1 H1 e1 r => .inr ⟨k, by cases r; rfl, q _ S1 H1 e1 rfl⟩
theorem dn_intI {P : Int → Prop} (h : DN K B te ρ P) : DN K B (tCB (fun xs H Q => (∃ i, xs = [.int i] ∧ Q (.int i) H) ∨ ∃ k, xs = [.bl k] ∧ Q (.int (if k then 1 else 0)) H) (tCons te tNil)) ρ P := fun S0 H0 S H σ E Q q =>
  h S0 H0 S H σ E _ fun v i S1 H1 pi e1 r => .inl ⟨i, by cases r; rfl, q _ i S1 H1 pi e1 rfl⟩
theorem d_max2 (h : DE K B ta ρ i) (h' : DE K B tb ρ j) : DE K B (tCB (fun xs H Q => ∃ i j, xs = [.int i, .int j] ∧ Q (.int (if j > i then j else i)) H) (tCons ta (tCons tb tNil))) ρ (max i j) := fun S0 H0 S H σ E Q q =>
  h S0 H0 S H σ E _ fun v S1 H1 e1 r => h' S0 H0 S1 H1 σ (E.go e1) _ fun w S2 H2 e2 r2 => ⟨i, j, by cases r; cases r2; rfl, q _ S2 H2 (e1.trans e2) (by
    show V.int (if j > i then j else i) = V.int (max i j)
    congr 1
    split <;> omega)⟩
theorem d_min2 (h : DE K B ta ρ i) (h' : DE K B tb ρ j) : DE K B (tCB (fun xs H Q => ∃ i j, xs = [.int i, .int j] ∧ Q (.int (if j < i then j else i)) H) (tCons ta (tCons tb tNil))) ρ (min i j) := fun S0 H0 S H σ E Q q =>
  h S0 H0 S H σ E _ fun v S1 H1 e1 r => h' S0 H0 S1 H1 σ (E.go e1) _ fun w S2 H2 e2 r2 => ⟨i, j, by cases r; cases r2; rfl, q _ S2 H2 (e1.trans e2) (by
    show V.int (if j < i then j else i) = V.int (min i j)
    congr 1
    split <;> omega)⟩
/-- [x] * n -/
theorem do_rep (h : DE K B ta ρ (α := L α) [a]) (hi : DE K B tb ρ i) (h0 : 0 ≤ i) (hl : i ≤ BIG) : DO K B (tOp rRep ta tb) ρ (List.replicate i.toNat a) := fun S0 H0 S H σ E Q q =>
  h S0 H0 S H σ E _ fun v S1 H1 e1 r1 => hi S0 H0 S1 H1 σ (E.go e1) _ fun w S2 H2 e2 r2 => by
    obtain ⟨hl1, p, vs, z, hh, r⟩ := Enc.mono e2.s r1
    subst z
    cases r2
    cases r with
    | cons ra rn =>
      cases rn
      rename_i x
      have hb : i.toNat ≤ BIG := by omega
      have b62 : (BIG : Int) < 2 ^ 62 := by decide
      refine ⟨p, i, [x], rfl, rfl, e2.i _ _ hh, by omega, by omega, ?_, fun w hw => ?_⟩
      · rw [List.length_singleton, Nat.one_mul]
        exact Nat.le_trans hb big_line
      · have ef : (List.replicate i.toNat [x]).flatten = List.replicate i.toNat x := by
          generalize i.toNat = n
          induction n with
          | zero => rfl
          | succ n ih => rw [List.replicate_succ, List.flatten_cons, ih]; rfl
        rw [ef]
        refine q w _ S2 _ ((e1.trans e2).trans (Ext.priv e2.i hw)) ((e1.trans e2).free E.i hw) (e2.i.free hw) upd_same ?_ (by rw [List.length_replicate]; exact hb)
        generalize i.toNat = n
        induction n with
        | zero => exact .nil
        | succ n ih => rw [List.replicate_succ, List.replicate_succ]; exact .cons ra ih
/-! ### parts that change one's own lists -/
def DM {α : Type} [Enc α] (K : PySem.W.Frag) (B : Addr → Prop) (te : TE) (ρ ρ' : List Slot) (a : α) : Prop := ∀ S0 H0 S H σ, En K B S0 H0 S H σ ρ → ∀ Q : VK, (∀ v S' H', Same S S' → En K B S0 H0 S' H' σ ρ' → Enc.rep K S' v a → Q v H') → te σ H Q
def DML {α : Type} [Enc α] (K : PySem.W.Frag) (B : Addr → Prop) (ta : TA) (ρ ρ' : List Slot) (xs : List α) : Prop := ∀ S0 H0 S H σ, En K B S0 H0 S H σ ρ → ∀ Q : List V → Hp → Prop, (∀ vs S' H', Same S S' → En K B S0 H0 S' H' σ ρ' → Paired (Enc.rep K S') vs xs → Q vs H') → ta σ H Q
theorem DE.m (h : DE K B te ρ a) : DM K B te ρ ρ a := fun S0 H0 S H σ E Q q => h S0 H0 S H σ E _ fun v S1 H1 e1 r => q v S1 H1 e1.s (E.go e1) r
theorem DL.m {tr : TA} {xs : List α} (h : DL K B tr ρ xs) : DML K B tr ρ ρ xs := fun S0 H0 S H σ E Q q => h S0 H0 S H σ E _ fun v S1 H1 e1 r => q v S1 H1 e1.s (E.go e1) r
theorem dml_cons {tr : TA} {xs : List α} (h : DM K B te ρ ρ1 a) (h' : DML K B tr ρ1 ρ2 xs) : DML K B (tCons te tr) ρ ρ2 (a :: xs) := fun S0 H0 S H σ E Q q =>
  h S0 H0 S H σ E _ fun v S1 H1 s1 E1 r1 => h' S0 H0 S1 H1 σ E1 _ fun vs S2 H2 s2 E2 r2 => q _ S2 H2 (s1.trans s2) E2 (.cons (Enc.mono s2 r1) r2)
theorem dm_pop {n : Nat} {xs : List α} {x : α} (h : ρ[n]? = some (.own (xs ++ [x]))) : DM K B (tBM0 K "list" rPop (tVar n)) ρ (ρ.set n (.own xs)) x := fun S0 H0 S H σ E Q q => by
  obtain ⟨hl, p, vs, e1, h0, hs, hh, r⟩ := E.own h
  have hv : vs = vs.dropLast ++ vs.drop (vs.length - 1) := by rw [List.dropLast_eq_take, List.take_append_drop]
  have hlen := r.length
  rw [List.length_append, List.length_singleton] at hlen
  have ra : Paired (Enc.rep K S) vs.dropLast xs := by
    have z := Paired.tk xs.length r
    rw [List.take_left'  rfl] at z
    rw [List.dropLast_eq_take, hlen, Nat.add_sub_cancel]
    exact z
  obtain ⟨y, hy, ry⟩ := Paired.at (i := xs.length) (b := x) r (by rw [List.getElem?_append_right (Nat.le_refl _), Nat.sub_self]; rfl)
  refine ⟨_, e1, .inl ⟨rfl, vs, SqL.of hh⟩, p, vs, y, rfl, rfl, hh, by rw [hlen, Nat.add_sub_cancel]; exact hy, ?_⟩
  refine q y S _ (Same.refl S) (E.chg h e1 ra ?_) ry
  rw [List.length_append] at hl
  omega
theorem dm_popAt {n : Nat} {xs : List α} {x : α} {k : Nat} (h : ρ[n]? = some (.own xs)) (hi : DE K B te ρ (k : Int)) (hx : xs[k]? = some x) : DM K B (tBM K "list" rPopAt (tVar n) (tCons te tNil)) ρ (ρ.set n (.own (xs.eraseIdx k))) x := fun S0 H0 S H σ E Q q => by
  obtain ⟨hl, p, vs, e1, h0, hs, hh, r⟩ := E.own h
  refine ⟨_, e1, .inl ⟨rfl, vs, SqL.of hh⟩, ?_⟩
  refine hi S0 H0 S H σ E _ fun w S1 H1 ex r1 => ?_
  cases r1
  have E1 := E.go ex
  obtain ⟨_, p', vs', e1', h0', hs', hh', r'⟩ := E1.own h
  rw [e1] at e1'
  cases e1'
  obtain ⟨y, hy, ry⟩ := Paired.at r' hx
  have kl : k < xs.length := (List.getElem?_eq_some_iff.mp hx).1
  have er : ∀ {vs : List V} {xs : List α} (k : Nat), Paired (Enc.rep K S1) vs xs → Paired (Enc.rep K S1) (vs.eraseIdx k) (xs.eraseIdx k) := by
    intro vs xs k r
    induction r generalizing k with
    | nil => exact .nil
    | cons f t ih =>
      cases k with
      | zero => exact t
      | succ k => exact .cons f (ih k)
  have sq : seqIndex? (k : Int) vs'.length = some k := (L2.ixN_seq (show ixN vs'.length (k : Int) = some k by
    unfold ixN
    rw [if_pos (by omega), if_pos (by rw [r'.length]; omega)]
    simp)).1
  have b62 : (BIG : Int) < 2 ^ 62 := by decide
  refine ⟨p, vs', (k : Int), k, y, rfl, rfl, hh', by omega, by omega, sq, hy, q y S1 _ ex.s (E1.chg h e1 (er k r') ?_) ry⟩
  rw [List.length_eraseIdx]
  split <;> omega
theorem dml_lst {n : Nat} {tr : TA} {xs : List α} (h : DML K B tr ρ ρ1 xs) (hl : xs.length ≤ BIG) (k : Φ.nx (ρ1.set n (.own xs))) : DS K B (tAsg (tLst tr) (gName n)) ρ Φ := fun S0 H0 S H σ D E px nx r b c =>
  h S0 H0 S H σ E _ fun vs S1 H1 s1 E1 r1 => ⟨by rw [r1.length]; exact Nat.le_trans hl big_line, fun p hp => nx _ _ S1 _ k s1 (E1.setO (Ext.priv E1.i hp) hp (E1.i.free hp) upd_same r1 hl)⟩
theorem ds_asgM {n : Nat} (h : DM K B te ρ ρ1 a) (k : Φ.nx (ρ1.set n (.val a))) : DS K B (tAsg te (gName n)) ρ Φ := fun S0 H0 S H σ D E px nx r b c =>
  h S0 H0 S H σ E _ fun v S1 H1 s1 E1 r1 => nx _ _ S1 H1 k s1 (E1.setV r1)
/-! ### == of data -/
class DatE (α : Type) [Enc α] where
  d : α → PyData
  dp : ∀ {K : PySem.W.Frag} {S : Hp} {v : V} {a : α}, Enc.rep K S v a → Dp K S v (d a)
  can : ∀ a : α, PyData.canLay0 (d a) = true
  k : Nat
  dep : ∀ a : α, PyData.depth (d a) ≤ k
  inj : ∀ (a b : α), PyData.eqv (d a) (d b) = true ↔ a = b
theorem eqvAll_inj {δ : Type} {e : Enc δ} (dt : DatE δ) : ∀ (xs ys : List δ), PyData.eqvAll (xs.map dt.d) (ys.map dt.d) = true ↔ xs = ys
  | [], [] => by simp [PyData.eqvAll]
  | [], y :: q => by simp [PyData.eqvAll]
  | x :: r, [] => by simp [PyData.eqvAll]
  | x :: r, y :: q => by
    rw [List.map_cons, List.map_cons, PyData.eqvAll, Bool.and_eq_true, dt.inj, eqvAll_inj dt r q]
    simp
theorem canAll {δ : Type} {e : Enc δ} (dt : DatE δ) : ∀ xs : List δ, PyData.canLayAll0 (xs.map dt.d) = true
  | [] => by simp [PyData.canLayAll0]
  | x :: r => by rw [List.map_cons, PyData.canLayAll0, dt.can, canAll dt r]; rfl
theorem depAll {δ : Type} {e : Enc δ} (dt : DatE δ) : ∀ xs : List δ, PyData.depthAll (xs.map dt.d) ≤ dt.k
  | [] => by simp [PyData.depthAll]
  | x :: r => by rw [List.map_cons, PyData.depthAll]; exact Nat.max_le.mpr ⟨dt.dep x, depAll dt r⟩
theorem dpAll {δ : Type} {e : Enc δ} (dt : DatE δ) {S : Hp} : ∀ {vs : List V} {xs : List δ}, Paired (Enc.rep K S) vs xs → DpAll K S vs (xs.map dt.d)
  | _, _, .nil => .nil
  | _, _, .cons h r => .cons (dt.dp h) (dpAll dt r)
instance : DatE Int where
  d := .int
  dp h := by cases h; exact .int _
  can _ := by simp [PyData.canLay0]
  k := 0
  dep _ := by simp [PyData.depth]
  inj a b := by simp [PyData.eqv]
instance : DatE Bool where
  d := .bool
  dp h := by cases h; exact .bl _
  can _ := by simp [PyData.canLay0]
  k := 0
  dep _ := by simp [PyData.depth]
  inj a b := by simp [PyData.eqv]
instance : DatE (Option Int) where
  d o := match o with
    | none => .none
    | some i => .int i
  dp {K S v a} h := by
    cases a with
    | none => cases h; exact .non
    | some i => cases h; exact .int i
  can a := by cases a <;> simp [PyData.canLay0]
  k := 0
  dep a := by cases a <;> simp [PyData.depth]
  inj a b := by cases a <;> cases b <;> simp [PyData.eqv]
instance {δ : Type} [Enc δ] [dt : DatE δ] : DatE (U δ) where
  d xs := .tuple (List.map dt.d xs)
  dp h := by
    obtain ⟨_, p, vs, rfl, hh, r⟩ := h
    exact .tup hh (dpAll dt r)
  can xs := by rw [PyData.canLay0]; exact canAll dt xs
  k := dt.k + 1
  dep xs := by rw [PyData.depth]; exact Nat.succ_le_succ (depAll dt xs)
  inj a b := by rw [PyData.eqv]; exact eqvAll_inj dt a b
instance {δ : Type} [Enc δ] [dt : DatE δ] : DatE (L δ) where
  d xs := .list (List.map dt.d xs)
  dp h := by
    obtain ⟨_, p, vs, rfl, hh, r⟩ := h
    exact .lst (.inl (.inl hh)) (dpAll dt r)
  can xs := by rw [PyData.canLay0]; exact canAll dt xs
  k := dt.k + 1
  dep xs := by rw [PyData.depth]; exact Nat.succ_le_succ (depAll dt xs)
  inj a b := by rw [PyData.eqv]; exact eqvAll_inj dt a b
instance {δ ε : Type} [Enc δ] [Enc ε] [dt : DatE δ] [de : DatE ε] : DatE (δ × ε) where
  d p := .tuple [dt.d p.1, de.d p.2]
  dp h := by
    obtain ⟨p, v1, v2, rfl, hh, r1, r2⟩ := h
    exact .tup hh (.cons (dt.dp r1) (.cons (de.dp r2) .nil))
  can p := by simp [PyData.canLay0, PyData.canLayAll0, dt.can, de.can]
  k := max dt.k de.k + 1
  dep p := by
    simp only [PyData.depth, PyData.depthAll]
    have h1 := dt.dep p.1
    have h2 := de.dep p.2
    omega
  inj a b := by
    rw [PyData.eqv, PyData.eqvAll, PyData.eqvAll, PyData.eqvAll, Bool.and_eq_true, Bool.and_eq_true, dt.inj, de.inj]
    constructor
    · rintro ⟨h1, h2, _⟩
      exact Prod.ext h1 h2
    · rintro rfl
      exact ⟨rfl, rfl, rfl⟩
instance {δ ε ζ : Type} [Enc δ] [Enc ε] [Enc ζ] [dt : DatE δ] [de : DatE ε] [dz : DatE ζ] : DatE (T3 δ ε ζ) where
  d p := .tuple [dt.d p.a, de.d p.b, dz.d p.c]
  dp h := by
    obtain ⟨p, v1, v2, v3, rfl, hh, r1, r2, r3⟩ := h
    exact .tup hh (.cons (dt.dp r1) (.cons (de.dp r2) (.cons (dz.dp r3) .nil)))
  can p := by simp [PyData.canLay0, PyData.canLayAll0, dt.can, de.can, dz.can]
  k := max dt.k (max de.k dz.k) + 1
  dep p := by
    simp only [PyData.depth, PyData.depthAll]
    have h1 := dt.dep p.a
    have h2 := de.dep p.b
    have h3 := dz.dep p.c
    omega
  inj a b := by
    rw [PyData.eqv, PyData.eqvAll, PyData.eqvAll, PyData.eqvAll, PyData.eqvAll, Bool.and_eq_true, Bool.and_eq_true, Bool.and_eq_true, dt.inj, de.inj, dz.inj]
    obtain ⟨a1, a2, a3⟩ := a
    obtain ⟨b1, b2, b3⟩ := b
    constructor
    · rintro ⟨h1, h2, h3, _⟩
      cases h1
      cases h2
      cases h3
      rfl
    · rintro ⟨⟩
      exact ⟨rfl, rfl, rfl, rfl⟩
theorem eqv_dec {δ : Type} {e : Enc δ} (dt : DatE δ) (inst : DecidableEq δ) (x y : δ) : PyData.eqv (dt.d x) (dt.d y) = decide (x = y) := by
  rw [Bool.eq_iff_iff, dt.inj, decide_eq_true_iff]
theorem shaped_d {δ : Type} {e : Enc δ} (dt : DatE δ) (hk : dt.k ≤ 64) (x : δ) : SeqAt.shaped (dt.d x) = true := by
  unfold SeqAt.shaped
  rw [dt.can, Bool.true_and]
  exact decide_eq_true (Nat.le_trans (dt.dep x) hk)
theorem d_eqD {a b : α} (ha : DE K B ta ρ a) (hb : DE K B tb ρ b) (inst : DecidableEq α) (dt : DatE α) (hk : dt.k ≤ 64) : DE K B (tOp (rEqD K) ta tb) ρ (decide (a = b)) :=
  d_op ha hb fun x y S H hi r1 r2 Q q => ⟨_, _, dt.dp (Enc.mono hi r1), dt.dp (Enc.mono hi r2), shaped_d dt hk a, shaped_d dt hk b, by rw [eqv_dec dt inst]; exact q _ S H (Ext.refl hi) rfl⟩
theorem d_neD {a b : α} (ha : DE K B ta ρ a) (hb : DE K B tb ρ b) (inst : DecidableEq α) (dt : DatE α) (hk : dt.k ≤ 64) : DE K B (tOp (rNeD K) ta tb) ρ (!decide (a = b)) :=
  d_op ha hb fun x y S H hi r1 r2 Q q => ⟨_, _, dt.dp (Enc.mono hi r1), dt.dp (Enc.mono hi r2), shaped_d dt hk a, shaped_d dt hk b, by rw [eqv_dec dt inst]; exact q _ S H (Ext.refl hi) rfl⟩
end
end WW

set_option Elab.async false
set_option linter.all false
set_option maxRecDepth 100000
set_option maxHeartbeats 4000000
namespace WW
open PySem PySem.Spec PyProof.Rows L2 ClX
/-! ### list.count of plain things -/
def rCntF (K : PySem.W.Frag) : V → List V → Hp → VK → Prop := fun x xs H Q => ∃ (a : Addr) (ys : List V) (y : V), x = .ref a ∧ xs = [y] ∧ SqL K H a ys ∧ flatV y = true ∧ ys.all flatV = true ∧ Q (.int (ys.countP (fun z => eqV z y) : Nat)) H
theorem countU {y : V} : ∀ {ys : List V} {us : List Value}, Vals ys us → ys.all flatV = true → us.countP (eqU y) = ys.countP fun z => eqV z y
  | _, _, .nil, _ => rfl
  | _, _, .cons r t, h => by
    rw [List.all_cons, Bool.and_eq_true] at h
    rw [List.countP_cons, List.countP_cons, countU t h.2, eqU_of r h.1]
theorem mt_lcountF {X : Cx} (K : PySem.W.Frag) (hK : X.K = K := by rfl) : MtR X "list.count" (rCntF K) := by
  subst hK
  intro pins s σ H x xs v us Q I rx rxs h
  obtain ⟨a, ys, y, rfl, rfl, hs, fy, fys, q⟩ := h
  cases rx
  obtain ⟨uy, rfl, ry⟩ := rxs.one
  obtain ⟨its, rv, ⟨⟨cls, dd, data, sl⟩, n, ho, hc, hdn, hd⟩, hlen⟩ := I.list hs
  simp only at hc hd
  subst hc hd
  refine call_meets PySem.F.slot_list_count ⟨_, ho, rfl⟩ PySem.F.entry_list_count (PySem.F.args_list_count_2 _ _)
    (SeqAt.list_countAt a its.toArray n dd sl uy (eqU y)) ⟨ho, fun u' hu' => mem_eqAt ry fy rv fys u' (by simpa using hu'), ?_⟩
  have ec : its.toArray.toList.countP (eqU y) = ys.countP fun z => eqV z y := countU rv fys
  refine ⟨.int (ys.countP (fun z => eqV z y) : Nat), H, I.tok _, ⟨s.toks, ?_⟩, q⟩
  show Value.int ((its.toArray.toList.countP (eqU y) : Nat) : Int) s.toks = Value.int ((ys.countP (fun z => eqV z y) : Nat) : Int) s.toks
  rw [ec]
/-! ### a classmethod called where an error may be caught -/
structure CmAt (P : Program) (w : World) (K : PySem.W.Frag) (mg : Str → Option Value) (base : Heap) (CX : CXT) (k : Nat) (C : Addr) (m : Str) (sp : Sp) : Prop where
  ex : ∃ mc p g, CRead K C mc ∧ CMet K C mc m p g ∧ FnR P w K mg base CX k g sp
def tCMethS (C : Addr) (sp : Sp) (E : L2.St → XK) (ta : TE) (t : TA) : TE := fun σ H Q => ta σ H fun x H1 => x = .ref C ∧ t σ H1 fun vs H2 => sp (.ref C :: vs) H2 Q (E σ)
section
variable {X : Cx} {k j : Nat} {C : Addr} {sp : Sp} {o e : Expr} {es : List Expr} {m : Str} {pos apos : Pos} {ta : TE} {t : TA} {pl : Sem Bool} {W : WX}
theorem pe_cmX (K : PySem.W.Frag) (F : CmAt X.prog X.w K X.mg X.base (L2.CX X.prog X.w) k C m sp) (tk : Takes X W) (hr : Room j X.A) (he : PE X o ta) (ha : PA X (e :: es) t) (hk : k ≤ j := by decide) (hK : X.K = K := by rfl)
    (hst : starEach (e :: es) X.env = (false, eval e X.env) :: starEach es X.env := by rfl) (hpl : (backTo pos (starEach es X.env)).any (·.1) = false := by rfl)
    (ht : eval (.Call (.Attribute o m apos) (e :: es) [] pos) X.env = (do
      let ov ← eval o X.env
      standAt apos.atName
      let (f, first) ← holding [ov] (getMethod ov m pl)
      callWith pos f first (backTo pos (starEach (e :: es) X.env)) (backToKw pos (keywordEach [] X.env))) := by rfl) :
    PE X (.Call (.Attribute o m apos) (e :: es) [] pos) (tCMethS C sp (WE W) ta t) := by
  subst hK
  obtain ⟨mc, p, g, r, c, F1⟩ := F.ex
  refine ⟨fun pins s σ H Q I h => ?_⟩
  refine PySem.W.methodCall_KW (pl := pl) (thn (he.run pins s σ H _ I h) fun u s1 ⟨x, H1, I1, rx, ex, q⟩ => ?_) ht
  subst ex
  obtain rfl : u = Value.ref C := rx
  refine getmethcm_ok I1 r c fun s2 I2 => ?_
  refine callwith_cm I2 (base_none I1 (Nat.le_refl _)) c.fi (thn (ha.run pos _ s2 σ H1 _ I2 q) fun us s3 ⟨vs, H2, I3, rv, q2⟩ => ⟨⟨pin_at I3, I3.kIn⟩, ?_⟩) hst hpl
  have z : wpAny (model X.prog X.w) X.A (call (.ref s1.heap.objs.size) us) (EP X ((s1.heap.objs.size, PySem.W.methodObj (.ref g) (.ref C)) :: pins) σ Q) X.xe s3 := by
    refine wpAny_call (PySem.W.method_call (pin_at I3) (codeAny_mono (F1 X.A X.stack s3 H2 (.ref C :: us) (.ref C :: vs) Q (WE W σ) (hr.mono hk) I3.env0 (.cons rfl rv) q2) fun r s' hq => ?_))
    cases r with
    | error e => exact passAt tk σ _ _ _ e s' I3 hq
    | ok fl =>
      cases fl with
      | ret u => exact I3.after hq
      | next => exact False.elim hq
      | brk => exact False.elim hq
      | cont => exact False.elim hq
  exact thn z fun _ _ y => unpinE y
theorem pe_cm (K : PySem.W.Frag) (F : CmAt X.prog X.w K X.mg X.base CX0 k C m sp) (hr : Room j X.A) (he : PE X o ta) (ha : PA X (e :: es) t) (hk : k ≤ j := by decide) (hK : X.K = K := by rfl)
    (hst : starEach (e :: es) X.env = (false, eval e X.env) :: starEach es X.env := by rfl) (hpl : (backTo pos (starEach es X.env)).any (·.1) = false := by rfl)
    (ht : eval (.Call (.Attribute o m apos) (e :: es) [] pos) X.env = (do
      let ov ← eval o X.env
      standAt apos.atName
      let (f, first) ← holding [ov] (getMethod ov m pl)
      callWith pos f first (backTo pos (starEach (e :: es) X.env)) (backToKw pos (keywordEach [] X.env))) := by rfl) :
    PE X (.Call (.Attribute o m apos) (e :: es) [] pos) (tCMeth C sp E0 ta t) := by
  subst hK
  obtain ⟨mc, p, g, r, c, F1⟩ := F.ex
  exact pe_cmeth (pl := pl) he r c F1 (hr.mono hk) pass0 ha hst hpl ht
end
/-! ### cls(..), cls a local name that holds an own class -/
def tMakeLS (i : Nat) (C : Addr) (sp : Sp) (dvs : List V) (E : L2.St → XK) (t : TA) : TE := fun σ H Q => σ[i]? = some (some (.ref C)) ∧ t σ H fun vs H1 => ∀ x dx, H1 x = none → H1 dx = none → dx ≠ x → sp (.ref x :: (vs ++ dvs)) (upd (upd H1 dx (.own x)) x (.ins C dx [])) (fun v H2 => v = .non ∧ Q (.ref x) H2) (E σ)
section
variable {X : Cx} {k j i : Nat} {x y : Str} {ps : List Str} {sp : Sp} {e : Expr} {es : List Expr} {t : TA} {p pos : Pos} {dvs : List V} {W : WX}
theorem pe_mkLX (K : PySem.W.Frag) (F : MkAtX X.prog X.w K X.mg X.base k y ps sp dvs) (tk : Takes X W) (hr : Room j X.A) (hN : X.N[i]? = some x) (hv : Vis X.env.scope x) (ha : PA X (e :: es) t) (hk : k + 1 ≤ j := by decide) (hK : X.K = K := by rfl)
    (hdb : (x == ("__debug__" : Str)) = false := by decide) (hcd : (x == ("__classdict__" : Str)) = false := by decide) (he : starEach (e :: es) X.env = (false, eval e X.env) :: starEach es X.env := by rfl) (hpl : (backTo pos (starEach es X.env)).any (·.1) = false := by rfl) :
    PE X (.Call (.Name x p) (e :: es) [] pos) (tMakeLS i (He.ga K y) sp dvs (WE W) t) := by
  subst hK
  obtain ⟨f, fd, ds, M, F1, hd, hb⟩ := F.ex
  refine ⟨fun pins s0 σ H0 Q I0 h0 => ?_⟩
  obtain ⟨hs0, h0⟩ := h0
  refine wpAny_Call_Name_kw (thn ((pe_var (pos := p) hN hv hdb hcd).run pins s0 σ H0 (fun v H1 => v = .ref (He.ga X.K y) ∧ H1 = H0) I0 ⟨_, hs0, rfl, rfl⟩) fun u s1 ⟨v, H1, I1, r1, q1⟩ => ?_)
  obtain ⟨rfl, rfl⟩ := q1
  cases r1
  refine PySem.W.callWith_K (h₀ := X.base) I0.ok.mod.kin M.kp (thn (ha.run pos pins s1 σ _ _ I1 h0) fun us s ⟨vs, H, I, r, h⟩ => ⟨I.kIn, ?_⟩) he hpl
  have hq := h (s.heap.objs.size + 1) s.heap.objs.size (I.hok.fresh (Nat.le_succ _)) (I.hok.fresh (Nat.le_refl _)) (Nat.ne_of_lt (Nat.lt_succ_self _))
  have I2 := Inv.made (C := He.ga X.K y) I
  have r2 : Vals (V.ref (s.heap.objs.size + 1) :: (vs ++ dvs)) (Value.ref (s.heap.objs.size + 1) :: (us ++ ds)) := .cons rfl (r.append hd)
  have hl : (Value.ref (s.heap.objs.size + 1) :: us ++ ds).length = ps.length := by
    have e := r2.length
    rw [F1.len _ _ _ _ hq] at e
    exact e.symm
  show wpAny _ _ (call (.ref (He.ga X.K y)) us) _ _ _
  refine wpAny_call (make_map (f := f) I.kIn M.makes M.init (beq_iff_eq.mp M.fn) (codeAny_mono (F1.run _ X.stack _ _ ⟨Value.ref (s.heap.objs.size + 1) :: us, []⟩ (Value.ref (s.heap.objs.size + 1) :: (us ++ ds)) _ _ (WE W σ) ((hr.mono hk).make (He.ga X.K y) us [])
    (I2.env0.make (He.ga X.K y) us []) (hb _ (Value.ref (s.heap.objs.size + 1) :: us) I2.kIn hl) r2 hq) fun r s' hq' => ?_))
  cases r with
  | error e => exact passAt tk σ pins _ _ e s' I2 hq'
  | ok fl =>
    cases fl with
    | ret u =>
      obtain ⟨v, H', I3, rv, ev, q3⟩ := I2.after hq'
      subst ev
      exact ⟨rv, ⟨V.ref (s.heap.objs.size + 1), H', I3, rfl, q3⟩⟩
    | next => exact False.elim hq'
    | brk => exact False.elim hq'
    | cont => exact False.elim hq'
end
end WW

set_option Elab.async false
set_option linter.all false
set_option maxRecDepth 100000
set_option maxHeartbeats 4000000
namespace WW
open PySem PySem.Spec PyProof.Rows L2
/-! ### the head's facts of own exceptions -/
def oexB (K : PySem.W.Frag) (C : Addr) : Bool :=
  (match K.lookup C with
    | some ⟨.type "type", _, .cls cd, sl⟩ => (match cd.mro, sl.toList with
      | .ref C' :: bm, [_, _, _, _, some (.builtin n), _] => C' == C && n == "ValueError.__new__" && !cd.hasDel && cd.hasDict && PySem.HandSPX.refsVE bm
      | _, _ => false)
    | _ => false) && (He.eqO (PySem.W.findIn K (.ref C) "__setattr__") (some (some (.builtin "object.__setattr__"))) && (decide (PySem.W.subIn K (.ref C) (.type "BaseException") = some true) && (decide (PySem.W.typeIn K (.ref C) = some (.type "type")) && PySem.W.keepIn K (.ref C))))
theorem oexB_ok {K : PySem.W.Frag} {C : Addr} (h : oexB K C = true) : OexC K C := by
  obtain ⟨h0, h⟩ := He.ba h
  obtain ⟨h1, h⟩ := He.ba h
  obtain ⟨h2, h⟩ := He.ba h
  obtain ⟨h3, h4⟩ := He.ba h
  refine ⟨?_, He.eqO_ok h1, of_decide_eq_true h2, of_decide_eq_true h3, h4⟩
  split at h0
  · rename_i dd cd sl ho
    split at h0
    · rename_i C' bm k0 k1 k2 k3 n k5 hm hs
      simp only [Bool.and_eq_true, beq_iff_eq, Bool.not_eq_true'] at h0
      obtain ⟨⟨⟨⟨rfl, rfl⟩, hdel⟩, hdct⟩, ht⟩ := h0
      obtain ⟨nm, bs, mro, ns, qn, hd, sn, sub, ab, col, del⟩ := cd
      dsimp only at hm hdel hdct
      subst hm hdel hdct
      have hsl : sl = #[k0, k1, k2, k3, some (.builtin "ValueError.__new__"), k5] := by
        obtain ⟨l⟩ := sl
        simp only at hs
        rw [hs]
      subst hsl
      exact ⟨nm, qn, ns, bs, bm, sn, sub, ab, col, dd, k0, k1, k2, k3, k5, ho, ht⟩
    · cases h0
  · cases h0
/-- the __init__ of a class, as it stands -/
abbrev SupV : Type := Option (Str × Arguments × FuncBody × Scope × Addr × Addr)
def supO (K : PySem.W.Frag) (C : Addr) : SupV := match K.lookup (He.ma K C "__init__") with
  | some ⟨_, _, .func fd, _⟩ => some (fd.qualname, fd.params, fd.body, fd.scope, fd.globals, fd.builtins)
  | _ => none
def supB (K : PySem.W.Frag) (file : Str) (C : Addr) : Bool :=
  (match K.lookup (He.ma K C "__init__") with
    | some ⟨_, _, .func fd, _⟩ => (match fd.closure, fd.code with
      | [(n, cc)], .ref cda => ((n == ("__class__" : Str)) && (fd.defaults == Value.none)) && (PySem.W.codeIn K (.ref cda) fd.qualname && ((match K.lookup cc with
          | some ⟨_, _, .cell (some (.ref D)), _⟩ => D == C
          | _ => false) && (match K.lookup cda with
          | some ⟨_, _, .fields vs, _⟩ => (match (vs : Array Value)[2]? with
            | some (Value.str fl _) => file == fl
            | _ => false)
          | _ => false)))
      | _, _ => false)
    | _ => false) && (oexB K C && (He.eqO (PySem.W.findIn K (.ref C) "__init__") (some (some (.ref (He.ma K C "__init__")))) && (decide (PySem.W.typeIn K (.ref (He.ma K C "__init__")) = some (.type "function")) && (He.eqO (PySem.W.ks_superIn K C C "__init__") (some (some (.builtin "ValueError.__init__"))) &&
      (decide (PySem.W.mroIn K C (.ref C) = some true) && (decide (PySem.W.subIn K (.ref C) (.type "ValueError") = some true) && He.eqO (PySem.W.nsIn K cStatics "thirdparty.any") (some none)))))))
theorem supB_ok {P : Program} {K : PySem.W.Frag} {C : Addr} {qual : Str} {params : Arguments} {body : List Stmt} {scope : Scope} (h : supB K P.main.file C = true) (e : supO K C = some (qual, params, .stmts body, scope, mainGlobals, builtinsNs)) (top : (P.main.scope.names.lookup ("super" : Str)).isSome = false) : SupC P K C (He.ma K C "__init__") qual params body scope := by
  obtain ⟨h0, h⟩ := He.ba h
  obtain ⟨h1, h⟩ := He.ba h
  obtain ⟨h2, h⟩ := He.ba h
  obtain ⟨h3, h⟩ := He.ba h
  obtain ⟨h4, h⟩ := He.ba h
  obtain ⟨h5, h⟩ := He.ba h
  obtain ⟨h6, h7⟩ := He.ba h
  refine ⟨oexB_ok h1, He.eqO_ok h2, of_decide_eq_true h3, ?_, He.eqO_ok h4, of_decide_eq_true h5, of_decide_eq_true h6, He.eqO_ok h7, top⟩
  unfold supO at e
  split at h0
  · rename_i oc od fd osl ho
    rw [ho] at e
    obtain ⟨n1, n2, n3, n4, n5, n6, n7, n8, n9, n10, n11, n12, n13, n14, n15⟩ := fd
    have e2 : (some (n2, n3, n4, n5, n6, n15) : SupV) = some (qual, params, .stmts body, scope, mainGlobals, builtinsNs) := e
    simp only [Option.some.injEq, Prod.mk.injEq] at e2
    obtain ⟨q1, q2, q3, q4, q5, q6⟩ := e2
    subst q1 q2 q3 q4 q5 q6
    split at h0
    · rename_i n cc cda hcl hcd
      dsimp only at hcl hcd
      subst hcl hcd
      obtain ⟨g1, h0⟩ := He.ba h0
      obtain ⟨g2, h0⟩ := He.ba h0
      obtain ⟨g3, g4⟩ := He.ba h0
      obtain ⟨g1, g0⟩ := He.ba g1
      rw [beq_iff_eq] at g1 g0
      subst g1 g0
      split at g3
      · rename_i cl cld D csl hcc
        rw [beq_iff_eq] at g3
        subst g3
        split at g4
        · rename_i ccl cdd vs ccs hcode
          split at g4
          · rename_i fl tf hvs
            exact ⟨n1, oc, od, n9, n10, n11, n12, cda, cc, n14, osl, ccl, cdd, vs, ccs, fl, tf, cl, cld, csl, ho, g2, hcode, hvs, g4, hcc⟩
          · cases g4
        · cases g4
      · cases g3
    · cases h0
  · cases h0
/-- what must be said of a class so that its caught instances are asked rightly -/
def excCB (K : PySem.W.Frag) (C : Addr) : Bool :=
  He.eqO (PySem.W.findIn K (.ref C) "__getattribute__") (some (some (.builtin "BaseException.__getattribute__"))) && (He.eqO (PySem.W.findIn K (.ref C) "__getattr__") (some none) && (decide (PySem.W.subIn K (.ref C) (.type "BaseException") = some true) && (PySem.W.hasDictIn K C && (He.eqO (PySem.W.findIn K (.ref C) "__class__") (some (some (.builtin "object.__class__"))) &&
    (He.eqO (PySem.W.specialIn K (.builtin "object.__class__") "__get__") (some (some (.builtin "getset_descriptor.__get__"))) && (decide (PySem.W.takesIn K (.builtin "object.__class__") = some true) && decide (PySem.W.mroIn K C (.type "object") = some true)))))))
theorem excCB_ok {K : PySem.W.Frag} {C : Addr} (h : excCB K C = true) : ExcC K C ∧ XfC K C := by
  obtain ⟨h1, h⟩ := He.ba h
  obtain ⟨h2, h⟩ := He.ba h
  obtain ⟨h3, h⟩ := He.ba h
  obtain ⟨h4, h⟩ := He.ba h
  obtain ⟨h5, h⟩ := He.ba h
  obtain ⟨h6, h⟩ := He.ba h
  obtain ⟨h7, h8⟩ := He.ba h
  exact ⟨⟨He.eqO_ok h1, He.eqO_ok h2, of_decide_eq_true h3, h4, He.eqO_ok h5, He.eqO_ok h6, of_decide_eq_true h7, of_decide_eq_true h8⟩, ⟨He.eqO_ok h1, He.eqO_ok h2, of_decide_eq_true h3, h4⟩⟩
/-! ### the hook with the __init__s of exception classes -/
section
variable (n : Nat) (fa : List He.Fa) (fn : List He5.DefA) (ex : PySem.W.Frag → Bool) (cs : List Str) (vs : List SupV)
def obsS (g : Addr → Option PySem.Obj) : (He.AlD × Bool) × List SupV := ((He5.obsA fa fn (He.frG g (He5.asA g n)), ex (He.frG g (He5.asA g n))), cs.map fun x => supO (He.frG g (He5.asA g n)) (He.ga (He.frG g (He5.asA g n)) x))
def SaysS (K : PySem.W.Frag) : Prop := SaysW fa fn ex K ∧ (cs.map fun x => supO K (He.ga K x)) = vs
def hookS : PySem.W.Hook where
  α := (He.AlD × Bool) × List SupV
  obs := fun s => obsS n fa fn ex cs s.heap.get?
  val := fun _ => ((He5.valA fn, true), vs)
  says := fun _ h => ∃ K : PySem.W.Frag, K.In h ∧ SaysS fa fn ex cs vs K
  of := fun _ s e => ⟨He.frG s.heap.get? (He5.asA s.heap.get? n), He.frG_in, ⟨congrArg (fun z : (He.AlD × Bool) × List SupV => z.1.1) e, congrArg (fun z : (He.AlD × Bool) × List SupV => z.1.2) e⟩, congrArg (fun z : (He.AlD × Bool) × List SupV => z.2) e⟩
  keeps := fun _ _ _ ⟨K, hK, c⟩ k => ⟨K, PySem.W.Frag.In.keeps hK k, c⟩
end
theorem obsS_eq {n : Nat} {fa : List He.Fa} {fn : List He5.DefA} {ex : PySem.W.Frag → Bool} {cs : List Str} {vs : List SupV} {g : Addr → Option PySem.Obj} {s : Shared} (h : ∀ a, g a = s.heap.get? a) : obsS n fa fn ex cs g = (hookS n fa fn ex cs vs).obs s := by
  rw [show g = s.heap.get? from funext h]
  rfl
end WW

set_option Elab.async false
set_option linter.all false
set_option maxRecDepth 100000
set_option maxHeartbeats 4000000
namespace WW
open PySem PySem.Spec PyProof.Rows L2
/-! ### what the names reach, with a sign for each address that was met (cheaper for the kernel than eraseDups) -/
def bitQ (m a : Nat) : Bool := Nat.beq (Nat.land (Nat.shiftRight m a) 1) 1
def freshQ {β : Type} : List Addr → Nat → List Addr → (Nat → List Addr → β) → β
  | [], m, acc, k => k m acc
  | a :: r, m, acc, k => match bitQ m a with
    | true => freshQ r m acc k
    | false => freshQ r (Nat.lor m (Nat.shiftLeft 1 a)) (a :: acc) k
def refsQ (g : Addr → Option PySem.Obj) : List Addr → List Addr
  | [] => []
  | a :: r => match g a with
    | some o => He.refsD o ++ refsQ g r
    | none => refsQ g r
def layQ (g : Addr → Option PySem.Obj) : Nat → List Addr → Nat → List Addr → List Addr
  | 0, fr, _, al => al ++ fr
  | n + 1, fr, m, al => freshQ (refsQ g fr) m [] fun m' fr' => layQ g n fr' m' (al ++ fr)
def asQ (g : Addr → Option PySem.Obj) (n : Nat) : List Addr := layQ g n [mainGlobals, cStatics] (Nat.lor (Nat.shiftLeft 1 mainGlobals) (Nat.shiftLeft 1 cStatics)) []
section
variable (n : Nat) (fa : List He.Fa) (fn : List He5.DefA) (ex : PySem.W.Frag → Bool) (cs : List Str) (vs : List SupV)
def obsQ (g : Addr → Option PySem.Obj) : (He.AlD × Bool) × List SupV := ((He5.obsA fa fn (He.frG g (asQ g n)), ex (He.frG g (asQ g n))), cs.map fun x => supO (He.frG g (asQ g n)) (He.ga (He.frG g (asQ g n)) x))
def hookQ : PySem.W.Hook where
  α := (He.AlD × Bool) × List SupV
  obs := fun s => obsQ n fa fn ex cs s.heap.get?
  val := fun _ => ((He5.valA fn, true), vs)
  says := fun _ h => ∃ K : PySem.W.Frag, K.In h ∧ SaysS fa fn ex cs vs K
  of := fun _ s e => ⟨He.frG s.heap.get? (asQ s.heap.get? n), He.frG_in, ⟨congrArg (fun z : (He.AlD × Bool) × List SupV => z.1.1) e, congrArg (fun z : (He.AlD × Bool) × List SupV => z.1.2) e⟩, congrArg (fun z : (He.AlD × Bool) × List SupV => z.2) e⟩
  keeps := fun _ _ _ ⟨K, hK, c⟩ k => ⟨K, PySem.W.Frag.In.keeps hK k, c⟩
end
theorem obsQ_eq {n : Nat} {fa : List He.Fa} {fn : List He5.DefA} {ex : PySem.W.Frag → Bool} {cs : List Str} {vs : List SupV} {g : Addr → Option PySem.Obj} {s : Shared} (h : ∀ a, g a = s.heap.get? a) : obsQ n fa fn ex cs g = (hookQ n fa fn ex cs vs).obs s := by
  rw [show g = s.heap.get? from funext h]
  rfl
theorem run3 {α β γ δ : Type} {e : Option α} {f : α → β} {g : α → γ} {h : α → δ} {x : β} {y : γ} {z : δ} (a : e.map f = some x) (b : e.map g = some y) (c : e.map h = some z) : e.map (fun s => (f s, g s, h s)) = some (x, y, z) := by
  cases e with
  | none => cases a
  | some s => exact congrArg some (Prod.ext (Option.some.inj a) (Prod.ext (Option.some.inj b) (Option.some.inj c)))
theorem runJ {α β γ δ ε : Type} {e : Option α} {f : α → β} {g : α → γ} {h : α → δ} {k : α → ε} {x : β} {y : γ} {z : δ} {u : ε} (a : e.map (fun s => (f s, g s, h s)) = some (x, y, z)) (b : e.map k = some u) : e.map (fun s => (f s, g s, k s)) = some (x, y, u) := by
  cases e with
  | none => cases b
  | some s =>
    have a := Option.some.inj a
    have b : k s = u := Option.some.inj b
    rw [Option.map_some, b]
    exact congrArg some (Prod.ext (congrArg (fun z => z.1) a) (Prod.ext (congrArg (fun z => z.2.1) a) rfl))
end WW

set_option Elab.async false
set_option linter.all false
set_option maxRecDepth 100000
namespace WW
open PySem PySem.Spec PyProof.Rows L2
def top (i : Nat) : Stmt := PySem.Challenge.pw_waitworks_k01_errors_and_what_they_keep.main.body.getD i (.Pass ⟨0, 0, 0, 0⟩)
abbrev FnP (K : PySem.W.Frag) (x : Str) (st : Stmt) (f : Addr) (fd : FuncData) : Prop := FunD K x x (defArgs st) (defBody st) (defScope st) [] [] f fd
end WW

set_option Elab.async false
set_option linter.all false
set_option maxRecDepth 100000
set_option maxHeartbeats 4000000
namespace WW
open PySem PySem.Spec PyProof.Rows L2
/-- attributes of a class with a plain table are read plainly -/
theorem cread_ok {K : PySem.W.Frag} {C : Addr} (h0 : PySem.W.readsIn K C (.type "type") = true) : ClX.CRead K C (.type "type") := by
  refine ⟨h0, ?_⟩
  have h := h0
  unfold PySem.W.readsIn at h
  obtain ⟨h, _⟩ := He.ba h
  obtain ⟨h, _⟩ := He.ba h
  obtain ⟨h, h3⟩ := He.ba h
  obtain ⟨_, h2⟩ := He.ba h
  unfold PySem.W.specialIn
  rw [beq_iff_eq.mp h2, Option.bind_some]
  exact beq_iff_eq.mp h3
end WW

set_option Elab.async false
set_option linter.all false
set_option maxRecDepth 100000
set_option maxHeartbeats 4000000
namespace WW
open PySem PySem.Spec PyProof.Rows L2
/-! ### what the head reads of own classes above KeyError -/
abbrev keTail : List Value := [.type "KeyError", .type "LookupError", .type "Exception", .type "BaseException", .type "object"]
def oexBk (K : PySem.W.Frag) (C : Addr) : Bool :=
  (match K.lookup C with
    | some ⟨.type "type", _, .cls cd, sl⟩ => (match cd.mro, sl.toList with
      | .ref C' :: bm, [_, _, _, _, some (.builtin n), _] => C' == C && n == "LookupError.__new__" && !cd.hasDel && cd.hasDict && bm == keTail
      | _, _ => false)
    | _ => false) && (He.eqO (PySem.W.findIn K (.ref C) "__setattr__") (some (some (.builtin "object.__setattr__"))) && (decide (PySem.W.subIn K (.ref C) (.type "BaseException") = some true) && (decide (PySem.W.typeIn K (.ref C) = some (.type "type")) && PySem.W.keepIn K (.ref C))))
def supBk (K : PySem.W.Frag) (file : Str) (C : Addr) : Bool :=
  (match K.lookup (He.ma K C "__init__") with
    | some ⟨_, _, .func fd, _⟩ => (match fd.closure, fd.code with
      | [(n, cc)], .ref cda => ((n == ("__class__" : Str)) && (fd.defaults == Value.none)) && (PySem.W.codeIn K (.ref cda) fd.qualname && ((match K.lookup cc with
          | some ⟨_, _, .cell (some (.ref D)), _⟩ => D == C
          | _ => false) && (match K.lookup cda with
          | some ⟨_, _, .fields vs, _⟩ => (match (vs : Array Value)[2]? with
            | some (Value.str fl _) => file == fl
            | _ => false)
          | _ => false)))
      | _, _ => false)
    | _ => false) && (oexBk K C && (He.eqO (PySem.W.findIn K (.ref C) "__init__") (some (some (.ref (He.ma K C "__init__")))) && (decide (PySem.W.typeIn K (.ref (He.ma K C "__init__")) = some (.type "function")) && (He.eqO (PySem.W.ks_superIn K C C "__init__") (some (some (.builtin "KeyError.__init__"))) &&
      (decide (PySem.W.mroIn K C (.ref C) = some true) && (decide (PySem.W.subIn K (.ref C) (.type "KeyError") = some true) && He.eqO (PySem.W.nsIn K cStatics "thirdparty.any") (some none)))))))
end WW

set_option Elab.async false
set_option linter.all false
set_option maxRecDepth 100000
set_option maxHeartbeats 4000000
namespace WW
open PySem PySem.Spec PyProof.Rows L2
/-! ### the own classes of errors, in the law's order -/
def nmL : List Str := ["InvalidRow", "InvalidModule", "InvalidTally", "InvalidHouse", "InvalidText", "InvalidArrivals", "InvalidWishes", "InvalidLog", "InvalidMenu", "InvalidGoals", "Refused", "NeverGoes", "InvalidContract", "InvalidChoice", "InvalidCommand", "NoPlace", "WaitError"]
def nm (i : Nat) : Str := nmL.getD i "WaitError"
abbrev gC (K : PySem.W.Frag) (i : Nat) : Addr := He.ga K (nm i)
structure KX (K : PySem.W.Frag) : Prop where
  exc : ∀ i, i < 17 → ExcC K (gC K i)
  xf : ∀ i, i < 17 → XfC K (gC K i)
  kit : ∀ i j, i < 17 → j < 16 → PySem.W.kitOne K (.ref (gC K i)) (.ref (gC K j)) = some (decide (i = j))
  wait : ∀ i, i < 17 → PySem.W.kitOne K (.ref (gC K i)) (.ref (gC K 16)) = some (decide (i ≠ 15))
  ve : ∀ i, i < 17 → PySem.W.kitOne K (.ref (gC K i)) (.type "ValueError") = some (decide (i ≠ 15))
  ke : ∀ i, i < 17 → PySem.W.kitOne K (.ref (gC K i)) (.type "KeyError") = some (decide (i = 15))
def isB (o : Option Bool) (b : Bool) : Bool := match o with
  | some c => c == b
  | none => false
theorem isB_ok {o : Option Bool} {b : Bool} (h : isB o b = true) : o = some b := by
  unfold isB at h
  split at h
  · rw [beq_iff_eq] at h
    rw [h]
  · cases h
def kxOne (K : PySem.W.Frag) (i : Nat) : Bool :=
  excCB K (gC K i) && (isB (PySem.W.kitOne K (.ref (gC K i)) (.ref (gC K 16))) (decide (i ≠ 15)) && (isB (PySem.W.kitOne K (.ref (gC K i)) (.type "ValueError")) (decide (i ≠ 15)) && (isB (PySem.W.kitOne K (.ref (gC K i)) (.type "KeyError")) (decide (i = 15)) && (List.range 16).all fun j => isB (PySem.W.kitOne K (.ref (gC K i)) (.ref (gC K j))) (decide (i = j)))))
def kxB (K : PySem.W.Frag) : Bool := (List.range 17).all fun i => kxOne K i
theorem kxB_ok {K : PySem.W.Frag} (h : kxB K = true) : KX K := by
  have H : ∀ i, i < 17 → kxOne K i = true := fun i hi => List.all_eq_true.mp h i (List.mem_range.mpr hi)
  have G : ∀ i, i < 17 → (ExcC K (gC K i) ∧ XfC K (gC K i)) ∧ PySem.W.kitOne K (.ref (gC K i)) (.ref (gC K 16)) = some (decide (i ≠ 15)) ∧ PySem.W.kitOne K (.ref (gC K i)) (.type "ValueError") = some (decide (i ≠ 15)) ∧ PySem.W.kitOne K (.ref (gC K i)) (.type "KeyError") = some (decide (i = 15)) ∧ ∀ j, j < 16 → PySem.W.kitOne K (.ref (gC K i)) (.ref (gC K j)) = some (decide (i = j)) := by
    intro i hi
    have h := H i hi
    unfold kxOne at h
    obtain ⟨h1, h⟩ := He.ba h
    obtain ⟨h2, h⟩ := He.ba h
    obtain ⟨h3, h⟩ := He.ba h
    obtain ⟨h4, h5⟩ := He.ba h
    exact ⟨excCB_ok h1, isB_ok h2, isB_ok h3, isB_ok h4, fun j hj => isB_ok (List.all_eq_true.mp h5 j (List.mem_range.mpr hj))⟩
  exact ⟨fun i hi => (G i hi).1.1, fun i hi => (G i hi).1.2, fun i j hi hj => (G i hi).2.2.2.2 j hj, fun i hi => (G i hi).2.1, fun i hi => (G i hi).2.2.1, fun i hi => (G i hi).2.2.2.1⟩
end WW

set_option Elab.async false
set_option linter.all false
set_option maxRecDepth 100000
set_option maxHeartbeats 4000000
namespace WW
open PySem PySem.Spec PyProof.Rows L2
abbrev s_l_box : Stmt := top 19
abbrev s_l_kinds : Stmt := top 23
abbrev s_l_is_own : Stmt := top 24
abbrev s_law : Stmt := top 25
abbrev s_l_take : Stmt := top 20
abbrev s_l_pick : Stmt := top 21
end WW
set_option Elab.async false
set_option linter.all false
set_option maxRecDepth 100000
set_option maxHeartbeats 0
namespace WW
open PySem PySem.Spec PyProof.Rows L2
def d_l_take : He5.DefA := ⟨fun K => He.fAd K ("_law_take", none), "_law_take", "_law_take", defArgs s_l_take, defBody s_l_take, defScope s_l_take, [], []⟩
def d_l_pick : He5.DefA := ⟨fun K => He.fAd K ("_law_pick", none), "_law_pick", "_law_pick", defArgs s_l_pick, defBody s_l_pick, defScope s_l_pick, [], []⟩
def d_l_box : He5.DefA := ⟨fun K => He.fAd K ("_law_box", none), "_law_box", "_law_box", defArgs s_l_box, defBody s_l_box, defScope s_l_box, [], []⟩
def d_l_kinds : He5.DefA := ⟨fun K => He.fAd K ("_law_kinds", none), "_law_kinds", "_law_kinds", defArgs s_l_kinds, defBody s_l_kinds, defScope s_l_kinds, [], []⟩
def d_l_is_own : He5.DefA := ⟨fun K => He.fAd K ("_law_is_own", none), "_law_is_own", "_law_is_own", defArgs s_l_is_own, defBody s_l_is_own, defScope s_l_is_own, [], []⟩
def d_law : He5.DefA := ⟨fun K => He.fAd K ("law", none), "law", "law", defArgs s_law, defBody s_law, defScope s_law, [], []⟩
def steps : Nat := 9000
def fn : List He5.DefA := ([d_l_take, d_l_pick, d_l_box, d_l_kinds, d_l_is_own, d_law] : List He5.DefA)
def fa : List He.Fa := ([.glo "_law_take", .glo "_law_pick", .glo "_law_box", .glo "_law_kinds", .glo "_law_is_own", .glo "law", .free "range", .free "max", .free "min", .free "len", .free "int", .free "abs"] : List He.Fa) ++ ([.free "repr", .free "enumerate", .free "isinstance", .free "ValueError", .free "KeyError", .free "super", .glo "InvalidRow", .glo "InvalidModule", .glo "InvalidTally", .glo "InvalidHouse", .glo "InvalidText", .glo "InvalidArrivals"] : List He.Fa) ++ ([.glo "InvalidWishes", .glo "InvalidLog", .glo "InvalidMenu", .glo "InvalidGoals", .glo "Refused", .glo "NeverGoes", .glo "InvalidContract", .glo "InvalidChoice", .glo "InvalidCommand", .glo "NoPlace", .glo "WaitError"] : List He.Fa)
def loose : List Str := (["WaitError", "InvalidRow", "InvalidModule", "InvalidHouse", "InvalidText", "NeverGoes", "InvalidArrivals", "InvalidWishes", "InvalidContract", "InvalidLog", "InvalidCommand", "InvalidMenu"] : List Str) ++ (["InvalidChoice", "InvalidGoals", "InvalidTally", "Refused", "NoPlace", "_law_box", "_law_take", "_law_pick", "_law_mixed", "_law_kinds", "_law_is_own"] : List Str)
abbrev st_InvalidRow : Stmt := inClass (top 2) 0
abbrev st_InvalidModule : Stmt := inClass (top 3) 0
abbrev st_InvalidTally : Stmt := inClass (top 15) 0
abbrev st_InvalidHouse : Stmt := inClass (top 4) 0
abbrev st_InvalidText : Stmt := inClass (top 5) 0
abbrev st_InvalidArrivals : Stmt := inClass (top 7) 0
abbrev st_InvalidWishes : Stmt := inClass (top 8) 0
abbrev st_InvalidLog : Stmt := inClass (top 10) 0
abbrev st_InvalidMenu : Stmt := inClass (top 12) 0
abbrev st_InvalidGoals : Stmt := inClass (top 14) 0
abbrev st_Refused : Stmt := inClass (top 16) 0
abbrev st_NeverGoes : Stmt := inClass (top 6) 0
abbrev st_InvalidContract : Stmt := inClass (top 9) 0
abbrev st_InvalidChoice : Stmt := inClass (top 13) 0
abbrev st_InvalidCommand : Stmt := inClass (top 11) 0
abbrev st_NoPlace : Stmt := inClass (top 17) 0
def cs : List Str := ["InvalidRow", "InvalidModule", "InvalidTally", "InvalidHouse", "InvalidText", "InvalidArrivals", "InvalidWishes", "InvalidLog", "InvalidMenu", "InvalidGoals", "Refused", "NeverGoes", "InvalidContract", "InvalidChoice", "InvalidCommand", "NoPlace"]
def vsS : List SupV := [some ("InvalidRow.__init__", defArgs st_InvalidRow, .stmts (defBody st_InvalidRow), defScope st_InvalidRow, mainGlobals, builtinsNs), some ("InvalidModule.__init__", defArgs st_InvalidModule, .stmts (defBody st_InvalidModule), defScope st_InvalidModule, mainGlobals, builtinsNs), some ("InvalidTally.__init__", defArgs st_InvalidTally, .stmts (defBody st_InvalidTally), defScope st_InvalidTally, mainGlobals, builtinsNs), some ("InvalidHouse.__init__", defArgs st_InvalidHouse, .stmts (defBody st_InvalidHouse), defScope st_InvalidHouse, mainGlobals, builtinsNs), some ("InvalidText.__init__", defArgs st_InvalidText, .stmts (defBody st_InvalidText), defScope st_InvalidText, mainGlobals, builtinsNs), some ("InvalidArrivals.__init__", defArgs st_InvalidArrivals, .stmts (defBody st_InvalidArrivals), defScope st_InvalidArrivals, mainGlobals, builtinsNs), some ("InvalidWishes.__init__", defArgs st_InvalidWishes, .stmts (defBody st_InvalidWishes), defScope st_InvalidWishes, mainGlobals, builtinsNs), some ("InvalidLog.__init__", defArgs st_InvalidLog, .stmts (defBody st_InvalidLog), defScope st_InvalidLog, mainGlobals, builtinsNs), some ("InvalidMenu.__init__", defArgs st_InvalidMenu, .stmts (defBody st_InvalidMenu), defScope st_InvalidMenu, mainGlobals, builtinsNs), some ("InvalidGoals.__init__", defArgs st_InvalidGoals, .stmts (defBody st_InvalidGoals), defScope st_InvalidGoals, mainGlobals, builtinsNs), some ("Refused.__init__", defArgs st_Refused, .stmts (defBody st_Refused), defScope st_Refused, mainGlobals, builtinsNs), some ("NeverGoes.__init__", defArgs st_NeverGoes, .stmts (defBody st_NeverGoes), defScope st_NeverGoes, mainGlobals, builtinsNs), some ("InvalidContract.__init__", defArgs st_InvalidContract, .stmts (defBody st_InvalidContract), defScope st_InvalidContract, mainGlobals, builtinsNs), some ("InvalidChoice.__init__", defArgs st_InvalidChoice, .stmts (defBody st_InvalidChoice), defScope st_InvalidChoice, mainGlobals, builtinsNs), some ("InvalidCommand.__init__", defArgs st_InvalidCommand, .stmts (defBody st_InvalidCommand), defScope st_InvalidCommand, mainGlobals, builtinsNs), some ("NoPlace.__init__", defArgs st_NoPlace, .stmts (defBody st_NoPlace), defScope st_NoPlace, mainGlobals, builtinsNs)]
abbrev R : PySem.W.OpenRow := PySem.W.OpenLaw.row PySem.Challenge.rw_waitworks_k01_errors_and_what_they_keep
def fileS : Str := R.prog.main.file
def exK (K : PySem.W.Frag) : Bool := supB K fileS (He.ga K "InvalidRow") && (He.eqO (PySem.W.findIn K (.ref (He.ga K "InvalidRow")) "word") (some none) && (supB K fileS (He.ga K "InvalidModule") && (He.eqO (PySem.W.findIn K (.ref (He.ga K "InvalidModule")) "word") (some none) && (supB K fileS (He.ga K "InvalidTally") && (He.eqO (PySem.W.findIn K (.ref (He.ga K "InvalidTally")) "word") (some none) && (supB K fileS (He.ga K "InvalidHouse") && (He.eqO (PySem.W.findIn K (.ref (He.ga K "InvalidHouse")) "at") (some none) && (supB K fileS (He.ga K "InvalidText") && (He.eqO (PySem.W.findIn K (.ref (He.ga K "InvalidText")) "at") (some none) && (supB K fileS (He.ga K "InvalidArrivals") && (He.eqO (PySem.W.findIn K (.ref (He.ga K "InvalidArrivals")) "at") (some none) && (supB K fileS (He.ga K "InvalidWishes") && (He.eqO (PySem.W.findIn K (.ref (He.ga K "InvalidWishes")) "at") (some none) && (supB K fileS (He.ga K "InvalidLog") && (He.eqO (PySem.W.findIn K (.ref (He.ga K "InvalidLog")) "at") (some none) && (supB K fileS (He.ga K "InvalidMenu") && (He.eqO (PySem.W.findIn K (.ref (He.ga K "InvalidMenu")) "at") (some none) && (supB K fileS (He.ga K "InvalidGoals") && (He.eqO (PySem.W.findIn K (.ref (He.ga K "InvalidGoals")) "at") (some none) && (supB K fileS (He.ga K "Refused") && (He.eqO (PySem.W.findIn K (.ref (He.ga K "Refused")) "at") (some none) && (supB K fileS (He.ga K "NeverGoes") && (He.eqO (PySem.W.findIn K (.ref (He.ga K "NeverGoes")) "ring") (some none) && (supB K fileS (He.ga K "InvalidContract") && (supB K fileS (He.ga K "InvalidChoice") && (supB K fileS (He.ga K "InvalidCommand") && (supBk K fileS (He.ga K "NoPlace") && (He.eqO (PySem.W.findIn K (.ref (He.ga K "NoPlace")) "name") (some none) && (kxB K && (PySem.W.excIn K (He.ga K "WaitError") [.type "ValueError", .type "Exception", .type "BaseException", .type "object"] "ValueError.__new__" && (PySem.W.keepIn K (.ref (He.ga K "WaitError")))))))))))))))))))))))))))))))))
abbrev hk : PySem.W.Hook := hookQ 6 fa fn exK cs vsS
def ob (s : PySem.W.SharedT) : (He.AlD × Bool) × List SupV := obsQ 6 fa fn exK cs (HandSHeadRun.getT s)
theorem ob_eq (s : PySem.W.SharedT) : ob s = hk.obs s.abs := obsQ_eq (HandSHeadRun.getT_eq s)
abbrev hk0 : PySem.W.Hook := hookQ 1 [] [] (fun _ => true) [] []
def ob0 (s : PySem.W.SharedT) : (He.AlD × Bool) × List SupV := obsQ 1 [] [] (fun _ => true) [] (HandSHeadRun.getT s)
theorem runA (w : World) : HandSHeadRun.RunEq R (PySem.W.view R.prog [25]) hk0 ob0 steps loose w := by
  intro os
  kernel_rfl
theorem runO (w : World) (os : OsState) : (HandSHeadRun.endF (HandSHeadRun.stepQ (HandSHeadRun.denQ HandSHeadRun.tabQ) R.prog w) steps R.prog w os).map ob = some (hk.val w) := by
  kernel_rfl
theorem run (w : World) : HandSHeadRun.RunEq R (PySem.W.view R.prog [25]) hk ob steps loose w := by
  intro os
  exact runJ (runA w os) (runO w os)
end WW
set_option Elab.async false
set_option linter.all false
set_option maxRecDepth 100000
set_option maxHeartbeats 4000000

set_option Elab.async false
set_option linter.all false
set_option maxRecDepth 100000
set_option maxHeartbeats 4000000
namespace WW
open PySem PySem.Spec PyProof.Rows L2
/-! ### own exception classes right above KeyError -/
abbrev leF := F.excBase_LookupError
abbrev keC := PyProof.Rows.excClass_KeyError
theorem kxs_KeyError : PySem.W.KxsFacts "KeyError" "KeyError.__init__" := ⟨by show builtinType _ = _; rw [builtinType_eq_fast]; kernel_rfl, by first | kernel_rfl | rfl⟩
theorem ke_passes (self : Value) : refuseLoop self "__setattr__" keTail = pure () := by kernel_rfl
section
variable {P : Program} {w : World} {A : Around} {Er : Value → Shared → Prop} {R : Result → Shared → Prop} {hp : Heap} {g : Array GenState} {d : PySem.Drawn} {t : Nat} {os : OsState}
variable {nm qn : Str} {C N : Addr} {bs : List Value} {hdct : Bool} {sn : List Str} {sub : List Value} {ab : Bool} {col : Option Bool} {dd : Option Addr} {k0 k1 k2 k3 k5 : Option Value}
abbrev keObj (nm qn : Str) (C N : Addr) (bs : List Value) (hdct : Bool) (sn : List Str) (sub : List Value) (ab : Bool) (col : Option Bool) (dd : Option Addr) (k0 k1 k2 k3 k5 : Option Value) : Obj := excClassObj nm qn C N bs keTail hdct sn sub ab col dd k0 k1 k2 k3 k5 "LookupError.__new__"
theorem ke_has : (Value.ref C :: keTail).contains (.type "LookupError") = true := by rw [List.contains_cons]; exact Bool.or_true _
theorem ke_noA : (Value.ref C :: keTail).contains (.type "AttributeError") = false := by rw [List.contains_cons, show keTail.contains (.type "AttributeError") = false by decide]; rfl
theorem ke_noN : (Value.ref C :: keTail).contains (.type "NameError") = false := by rw [List.contains_cons, show keTail.contains (.type "NameError") = false by decide]; rfl
theorem ke_chk {rest : List Value} {Q : Unit → Shared → Prop} (c1 : hp.get? C = some (keObj nm qn C N bs hdct sn sub ab col dd k0 k1 k2 k3 k5)) (q : Q () ⟨hp, g, d, t, os⟩) : wpAny (model P w) A (checkBuiltinCall "LookupError.__new__" ⟨.ref C :: rest, []⟩) Q Er ⟨hp, g, d, t, os⟩ := by
  have n0 := leF.noStar
  simp only [checkBuiltinCall, leF.newKind, leF.newSplit, leF.newRow]
  repeat (first | refine wpAny_loadPart_at c1 ?_ | (refine wpAny_isSubtype_exc c1 ?_; rw [ke_has]) | refine wpAny_staticBase_exc c1 ?_ | refine wpAny_madeBy_exc c1 ?_ | simp only [bne_self_eq_false, Bool.false_eq_true, if_false] | wp_step)
  exact q
theorem ke_new {rest : List Value} (c1 : hp.get? C = some (keObj nm qn C N bs hdct sn sub ab col dd k0 k1 k2 k3 k5)) (hl : rest.length ≤ sizeLine)
    (q : R (.ok (.ret (.ref (hp.objs.size + 1)))) ⟨(hp.push { cls := .type "tuple", data := .seq rest.toArray }).push { cls := .ref C, data := .fields #[.ref hp.objs.size, .none, .none, .none, .bool false, .none] }, g, d, t, os⟩) :
    codeAny (model P w) A (.builtin "LookupError.__new__" ⟨.ref C :: rest, []⟩) R ⟨hp, g, d, t, os⟩ := by
  have n1 := leF.ends
  refine codeAny_builtinAt leF.entry ?_; unfold Builtin.«BaseException.__new__»; refine PySem.wpAt_bind ?_
  show PySem.wpAt _ _ _ (stack >>= _) _ _ _; refine PySem.wpAt_bind (PySem.wpAt_stack fun p below => wpAt_of_wpAny ?_)
  wp_walk
  refine wpAt_of_wpAny ?_
  rw [leF.owner]
  repeat (first | with_reducible refine wpAny_madeHere_exc leF.canon c1 ?_ | with_reducible refine wpAny_loadPart_at c1 ?_ | (with_reducible refine wpAny_isSubtype_exc c1 ?_; first | rw [ke_has] | rw [ke_noA] | rw [ke_noN]) | wp_step)
  show R _ _; rw [Heap.size_push]; exact q
theorem ke_type {rest : List Value} {fI : Addr} {Q : PySem.Fin → Shared → Prop} (c1 : hp.get? C = some (keObj nm qn C N bs hdct sn sub ab col dd k0 k1 k2 k3 k5))
    (c2 : W.Looks (model P w) hp (typeLookup (.ref C) "__init__") (some (.ref fI))) (c3 : ∀ self, W.Looks (model P w) hp (bindSpecial (.ref fI) self) (.ref fI, [self])) (hl : rest.length ≤ sizeLine)
    (q : codeAny (model P w) A (.call (.ref fI) ⟨.ref (hp.objs.size + 1) :: rest, []⟩) (fun r s' => match r with | .ok (.ret v) => v = .none ∧ Q (.done (.ret (.ref (hp.objs.size + 1)))) s' | .ok _ => False | .error e => Er e s') ⟨(hp.push (W.kdv_tup rest)).push (PySem.HandSPX.excO C hp.objs.size), g, d, t, os⟩) :
    wpAny (model P w) A (Builtin.«type.__call__» ⟨.ref C :: rest, []⟩) Q Er ⟨hp, g, d, t, os⟩ := by
  repeat (first | with_reducible refine wpAny_loadPart_at c1 ?_ | with_reducible refine wpAny_madeBy_exc c1 ?_ | wp_step)
  refine codeAny_call_builtin_code (Code.quiet_builtin _ leF.quiet) (ke_chk c1 ?_); refine ke_new c1 hl ?_
  show wpAny _ _ _ _ _ _
  have kk : ∀ b o, hp.get? b = some o → ((hp.push (W.kdv_tup rest)).push (PySem.HandSPX.excO C hp.objs.size)).get? b = some o := fun b o e => Heap.get?_push_of_some _ (Heap.get?_push_of_some _ e)
  have c1' := kk _ _ c1
  have he : ((hp.push (W.kdv_tup rest)).push (PySem.HandSPX.excO C hp.objs.size)).get? (hp.objs.size + 1) = some (PySem.HandSPX.excO C hp.objs.size) := by heap_get
  have hs : (Value.ref C :: keTail).contains (.ref C) = true := by rw [List.contains_cons, beq_self_eq_true, Bool.true_or]
  have j1 := c2.keeps kk
  have j2 := (c3 (.ref (hp.objs.size + 1))).keeps kk
  unfold isInstance
  repeat (first | with_reducible refine wpAny_loadPart_at he ?_ | (with_reducible refine wpAny_isSubtype_exc c1' ?_; rw [hs]) | wp_step)
  show wpAny _ _ (typeLookup (.ref C) _) _ _ _; refine j1.at ?_
  refine wpAny_holding (wpAny_bind (j2.at ?_)); refine wpAny_bind (wpAny_call (codeAny_mono q fun r s' z => ?_))
  rcases r with e | (v | _ | _ | _) <;> first | exact z | exact z.elim | skip
  obtain ⟨rfl, z⟩ := z
  first
    | exact wpAny_pure (wpAny_pure z)
    | (wp_walk; exact z)
theorem ke_call {rest : List Value} {fI : Addr} (c1 : hp.get? C = some (keObj nm qn C N bs hdct sn sub ab col dd k0 k1 k2 k3 k5))
    (c2 : W.Looks (model P w) hp (typeLookup (.ref C) "__init__") (some (.ref fI))) (c3 : ∀ self, W.Looks (model P w) hp (bindSpecial (.ref fI) self) (.ref fI, [self])) (hl : rest.length ≤ sizeLine)
    (q : codeAny (model P w) (A.under (.builtin "type.__call__" ⟨.ref C :: rest, []⟩)) (.call (.ref fI) ⟨.ref (hp.objs.size + 1) :: rest, []⟩) (W.InitBack (hp.objs.size + 1) R) ⟨(hp.push (W.kdv_tup rest)).push (PySem.HandSPX.excO C hp.objs.size), g, d, t, os⟩) :
    codeAny (model P w) A (.call (.ref C) ⟨rest, []⟩) R ⟨hp, g, d, t, os⟩ := by
  have f1 := tc_lookup
  have f2 := tc_bind (.ref C)
  have tC : (⟨hp, g, d, t, os⟩ : Shared).TypeIs (.ref C) "type" := ⟨_, c1, rfl⟩
  refine codeAny_of_tree ?_; show wpAny _ _ (callAny (.ref C) _) _ _ _
  repeat (any_goals (first | assumption | with_reducible refine wpAny_loadPart_at c1 ?_ | wp_step))
  refine ⟨rfl, ?_⟩
  refine codeAny_call_builtin_at (Code.quiet_builtin _ (by decide +kernel)) entry_typeCall (wpAny_check_type_call_sub c1 (ke_type c1 c2 c3 hl ?_))
  refine codeAny_mono q fun r s' z => ?_; rcases r with e | (v | _ | _ | _) <;> exact z
end
section
variable {P : Program} {w : World} {A : Around} {R : Result → Shared → Prop} {hp : Heap} {g : Array GenState} {d : PySem.Drawn} {t : Nat} {os : OsState}
open PySem.Builtin.ObjectAttr PySem.Builtin in
/-- self.x = v, the exception without a dict yet -/
theorem ke_osa {K : PySem.W.Frag} {fn : Str} {tk : Tok} {v : Value} {x C : Addr} {fv : Array Value} {cd : ClassData}
    (X : K.In hp) (hx : hp.get? x = some { cls := .ref C, data := .fields fv }) (c1 : W.clsIn K C = some cd) (c2 : cd.mro = .ref C :: keTail) (c3 : cd.hasDict = true) (c4 : W.findIn K (.ref C) fn = some none)
    (q : ∀ h' tk' dx, (∀ b o, b ≠ x → hp.get? b = some o → h'.get? b = some o) → hp.objs.size ≤ dx → dx ≠ x → h'.get? x = some { cls := .ref C, dict := some dx, data := .fields fv } → h'.Ns1 dx (fun y => if y = fn then some v else none) → R (.ok (.ret .none)) ⟨h', g, d, tk', os⟩) :
    codeAny (model P w) A (.call (.builtin "object.__setattr__") ⟨[.ref x, .str fn tk, v], []⟩) R ⟨hp, g, d, t, os⟩ := by
  have I0 : W.InstAt hp x { cls := .ref C, data := .fields fv } C none := ⟨hx, rfl, rfl, trivial⟩
  have S0 := F.store_object
  have hob : cd.mro.contains (.type "object") = true := by rw [c2, List.contains_cons, show keTail.contains (.type "object") = true by decide, Bool.or_true]
  have ne0 : cd.mro.isEmpty = false := by rw [c2]; rfl
  have xs : x ≠ hp.objs.size := Nat.ne_of_lt (Heap.lt_size hx)
  have sb : W.Looks (model P w) hp (isInstance (.ref x) (.type "object")) true := I0.type.andThen (W.looks_mroIn X (by unfold W.mroIn; rw [c1, Option.bind_some, if_neg (by rw [ne0]; decide), hob]))
  refine codeAny_call_builtin S0.slot.plain S0.entry (@W.check_slot (model P w) _ _ ⟨hp, g, d, t, os⟩ "object.__setattr__" "object" "__setattr__" (.ref x) [.str fn tk, v] [] _ S0.kind S0.split sb (S0.args (.ref x) (.str fn tk) v) ?_)
  have m1 : W.Looks (model P w) hp (mroOf (.ref C)) cd.mro := (W.looks_clsIn X c1).andThen .now
  have m2 : W.Looks (model P w) hp (storeTaker? none) none := .now
  have m3 : W.Looks (model P w) hp (classData C) cd := W.looks_clsIn X c1
  rw [W.osa_eq, refuse_eq]; refine wpAny_bind (wpAny_bind (I0.type.at (wpAny_bind (m1.at ?_))))
  rw [c2, refuseLoop_ref, ke_passes]; refine wpAny_pure (wpAny_bind (I0.type.at (wpAny_bind ((W.looks_findIn X c4).at (wpAny_bind (m2.at ?_))))))
  show wpAny _ _ (storeInOwnDict (.ref x) (.ref C) (.str fn tk) fn v false) _ _ _
  obtain ⟨nm, bs, mro, ns, qn, hd, sn, sb, ab, col, del⟩ := cd
  dsimp only at c3; subst c3
  unfold storeInOwnDict ownDictForStores
  repeat (first | with_reducible refine PySem.HandSPX.store_in_new ?_ ?_ | with_reducible refine wpAny_loadPart_at hx ?_ | with_reducible refine m3.at ?_ | wp_step)
  · exact ⟨_, #[], _, (Heap.get?_update_ne _ _ _ _ xs.symm).trans (Heap.get?_push_at rfl rfl), rfl, fun e he => absurd he (by simp), fun _ => rfl⟩
  · intro h' tk' hn' hs
    have hx1 : (hp.push { cls := .type "dict", data := .dict #[] }).get? x = some { cls := .ref C, data := .fields fv } := Heap.get?_push_of_some _ hx
    refine q h' tk' hp.objs.size (fun b o hb ho => ?_) (Nat.le_refl _) xs.symm ?_ hn'
    · refine (hs.2 b (Nat.ne_of_lt (Heap.lt_size ho))).trans ((Heap.get?_update_ne _ _ _ _ hb).trans ?_); exact Heap.get?_push_of_some _ ho
    · refine (hs.2 x xs).trans ?_; exact Heap.get?_update_self _ hx1 rfl
end
/-- what the written part says of such a class -/
structure OexK (K : PySem.W.Frag) (C : Addr) : Prop where
  cls : ∃ nm q N bs sn sub ab col dd k0 k1 k2 k3 k5, K.lookup C = some (keObj nm q C N bs true sn sub ab col dd k0 k1 k2 k3 k5)
  sa : PySem.W.findIn K (.ref C) "__setattr__" = some (some (.builtin "object.__setattr__"))
  exC : PySem.W.subIn K (.ref C) (.type "BaseException") = some true
  tyC : PySem.W.typeIn K (.ref C) = some (.type "type")
  kC : PySem.W.keepIn K (.ref C) = true
theorem ke_bound {M : Model} {A : Around} {Er : Value → Shared → Prop} {hp : Heap} {g : Array GenState} {d : PySem.Drawn} {t : Nat} {os : OsState} {e C : Addr} {oe : Obj} {rest : List Value} {Q : Unit → Shared → Prop} {nm qn : Str} {N : Addr} {bs : List Value} {hdct : Bool} {sn : List Str} {sub : List Value} {ab : Bool} {col : Option Bool} {dd : Option Addr} {k0 k1 k2 k3 k5 : Option Value}
    (c1 : hp.get? C = some (keObj nm qn C N bs hdct sn sub ab col dd k0 k1 k2 k3 k5)) (c2 : hp.get? e = some oe) (c3 : oe.cls = .ref C) (q : Q () ⟨hp, g, d, t, os⟩) : wpAny M A (checkBoundCall "KeyError.__init__" ⟨.ref e :: rest, []⟩) Q Er ⟨hp, g, d, t, os⟩ := by
  have n0 := keC.notStar
  simp only [checkBoundCall, keC.initKind, keC.initSig]
  repeat (first | (with_reducible refine wpAny_loadPart_at c2 ?_; rw [c3]) | with_reducible refine wpAny_loadPart_at c1 ?_ | wp_step)
  refine wpAny_onRaise ?_; rw [show ∀ (a b : String) (n : Nat), Bind.check ⟨.positional, "*", "KeyError", .self, [⟨"args", .varPos, false⟩]⟩ a b n (List.map (fun x => x.fst) ({ pos := Value.ref e :: rest } : Args).kw) = pure () from fun a b n => check_star_args _ _ _ _ _ _]
  exact wpAny_pure q
structure SupCk (P : Program) (K : PySem.W.Frag) (C fI : Addr) (qual : Str) (params : Arguments) (body : List Stmt) (scope : Scope) : Prop where
  oex : OexK K C
  ini : PySem.W.findIn K (.ref C) "__init__" = some (some (.ref fI))
  tyI : PySem.W.typeIn K (.ref fI) = some (.type "function")
  fn : ∃ (nm : Str) (oc : Value) (od : Option Addr) (kV doc pm : Value) (an : Option Addr) (cda cc : Addr) (ct : Value) (osl : Array (Option Value)) (ccl : Value) (cdd : Option Addr) (vs : Array Value) (ccs : Array (Option Value)) (file : Str) (tf : Tok) (cl : Value) (cld : Option Addr) (csl : Array (Option Value)),
    K.lookup fI = some ⟨oc, od, .func (PySem.W.ksFn nm qual params body scope .none kV doc pm an (.ref cda) ct cc), osl⟩ ∧ PySem.W.codeIn K (.ref cda) qual = true ∧ K.lookup cda = some ⟨ccl, cdd, .fields vs, ccs⟩ ∧ vs[2]? = some (.str file tf) ∧ ((P.main.file : Str) == file) = true ∧ K.lookup cc = some ⟨cl, cld, .cell (some (.ref C)), csl⟩
  sup : PySem.W.ks_superIn K C C "__init__" = some (some (.builtin "KeyError.__init__"))
  sub : PySem.W.mroIn K C (.ref C) = some true
  ve : PySem.W.subIn K (.ref C) (.type "KeyError") = some true
  opq : PySem.W.nsIn K cStatics "thirdparty.any" = some none
  top : (P.main.scope.names.lookup ("super" : Str)).isSome = false
theorem sup_codeKG {prog : Program} {w : World} {A : Around} {K : PySem.W.Frag} {mg : Str → Option Value} {base hp : Heap} {g : Array GenState} {d : PySem.Drawn} {t : Nat} {os : OsState} {C fI a t0 : Addr} {qual : Str} {params : Arguments} {scope : Scope} {u : Value} {R : Result → Shared → Prop}
    {p0 p1 p2 p3 p4 p5 p6 p7 p8 p9 : Pos} {j : Nat} {txt fld px : Str}
    (SC : SupCk prog K C fI qual params (supBody p0 p1 p2 p3 p4 p5 p6 p7 p8 p9 j txt fld px) scope) (SS : SupScope scope params px) (M0 : Mod K mg base) (kb : ∀ b o, base.get? b = some o → hp.get? b = some o) (hab : base.get? a = none) (hsup : mg "super" = none)
    (hroom : A.depth < recursionLimit) (hno : PySem.W.findIn K (.ref C) fld = some none) {pl : Env → Sem Bool}
    (hev : ∀ env : Env, eval (.Call (.Attribute (.Call (.Name "super" p0) [] [] p1) "__init__" p2) [.Constant (.str txt) j p9] [] p3) env = (do
      let ov ← attributeBase (.Call (.Name "super" p0) [] [] p1) "__init__" env (eval (.Call (.Name "super" p0) [] [] p1) env)
      standAt p2.atName
      let (f, first) ← holding [ov] (getMethod ov "__init__" (pl env))
      callWith p3 f first (backTo p3 (starEach [.Constant (.str txt) j p9] env)) []))
    {args : Args} (hbind : ∀ (nm : Str) (kV doc pm : Value) (an : Option Addr) (cdv ct : Value) (cc : Addr), bindArgs (PySem.W.ksFn nm qual params (supBody p0 p1 p2 p3 p4 p5 p6 p7 p8 p9 j txt fld px) scope .none kV doc pm an cdv ct cc) args = pure [(("self" : Str), .ref a), (px, u)])
    (hx : hp.get? a = some (PySem.HandSPX.excO C t0))
    (hq : ∀ h' tk' dx t1, (∀ b o, b ≠ a → hp.get? b = some o → h'.get? b = some o) → hp.objs.size ≤ dx → dx ≠ a → h'.get? a = some ({ cls := .ref C, dict := some dx, data := .fields #[.ref t1, .none, .none, .none, .bool false, .none] } : Obj) →
      h'.Ns1 dx (fun y => if y = fld then some u else none) → R (.ok (.ret .none)) ⟨h', g, d, tk', os⟩) :
    codeAny (model prog w) A (.call (.ref fI) args) R ⟨hp, g, d, t, os⟩ := by
  obtain ⟨nm, oc, od, kV, doc, pm, an, cda, cc, ct, osl, ccl, cdd, vs, ccs, file, tf, cl, cld, csl, hf, hcd, hcode, hvs, hfile, hcell⟩ := SC.fn
  have X : K.In hp := M0.kin.keeps kb
  have bt : BindsTo ⟨hp, g, d, t, os⟩ (PySem.W.ksFn nm qual params (supBody p0 p1 p2 p3 p4 p5 p6 p7 p8 p9 j txt fld px) scope .none kV doc pm an (.ref cda) ct cc) args [(("self" : Str), .ref a), (px, u)] := by
    intro M A Q E hQ
    rw [hbind]
    exact wpAny_pure hQ
  refine PySem.ks_codeAny_call_defAt hroom (X _ _ hf) rfl (M0.nolimit.keeps kb) (PySem.W.codeRec_of X hcd) rfl bt SS.nocell ?_ (fun h₀ hns k0 => ?_) SS.co SS.gen SS.kind
  · intro x hx
    simp only [List.mem_cons, List.not_mem_nil, or_false] at hx
    rcases hx with rfl | rfl
    · exact SS.kself
    · exact SS.kx
  have X0 : K.In h₀ := X.keeps k0
  have hx0 : h₀.get? a = some (PySem.HandSPX.excO C t0) := k0 _ _ hx
  obtain ⟨ar, har, hself⟩ := SS.hd
  obtain ⟨mb, hb1, hb2⟩ := M0.blt
  obtain ⟨nm', q', N', bs', sn', sub', ab', col', dd', e0, e1, e2, e3, e5, hC⟩ := SC.oex.cls
  have hcl : PySem.W.clsIn K C = some { name := nm', bases := bs', mro := .ref C :: keTail, ns := N', qualname := q', hasDict := true, slotNames := sn', subclasses := sub', abstract := ab', collection := col', hasDel := false } := by unfold PySem.W.clsIn; rw [hC] <;> rfl
  have kbh : ∀ b o, base.get? b = some o → h₀.get? b = some o := fun b o e => k0 b o (kb b o e)
  have v1 : (fun x => [(("self" : Str), Value.ref a), (px, u)].reverse.lookup x) ("self" : Str) = some (.ref a) := by
    show ([(px, u), (("self" : Str), Value.ref a)] : List (Str × Value)).lookup ("self" : Str) = _
    have n : ((("self" : Str) == px) = false) := by
      rw [beq_eq_false_iff_ne]
      exact Ne.symm SS.ne
    simp [List.lookup, n]
  have v2 : (fun x => [(("self" : Str), Value.ref a), (px, u)].reverse.lookup x) px = some u := by
    show ([(px, u), (("self" : Str), Value.ref a)] : List (Str × Value)).lookup px = _
    simp [List.lookup]
  generalize (fun x => [(("self" : Str), Value.ref a), (px, u)].reverse.lookup x) = m at hns v1 v2
  show PySem.wpAt (model prog w) (A.deeper (PySem.W.ksEnv qual scope hp.objs.size fI (.ref cda) cc)) (.func (supBody p0 p1 p2 p3 p4 p5 p6 p7 p8 p9 j txt fld px) (PySem.W.ksEnv qual scope hp.objs.size fI (.ref cda) cc)) (execs [.Expr (.Call (.Attribute (.Call (.Name "super" p0) [] [] p1) "__init__" p2) [.Constant (.str txt) j p9] [] p3) p4, .Assign [.Attribute (.Name "self" p5) fld p6] (.Name px p7) p8] (PySem.W.ksEnv qual scope hp.objs.size fI (.ref cda) cc)) _ _ ⟨h₀, g, d, t + 2, os⟩
  refine PySem.ks_wpAt_execs_cons (PySem.ks_wpAt_Expr_any (PySem.ks_wpAt_MethodCall ?_ (hev _)) (by show (scope.kind == .module && _) = false; rw [SS.kind]; rfl))
  refine PySem.ks_wpAt_super_base (env := PySem.W.ksEnv qual scope hp.objs.size fI (.ref cda) cc) SS.ks SS.kc (by decide) rfl (X0 _ _ hf) rfl har rfl (X0 _ _ hcode) rfl hvs hfile SC.top ?_
  refine PySem.W.ks_loadName_global SS.kind SS.ks (Calls.loadGlobal_builtin (env := PySem.W.ksEnv qual scope hp.objs.size fI (.ref cda) cc) (M0.glob.keeps kbh) hsup (hb1.keeps kbh) ((hb2 _ (by decide)).trans (by kernel_rfl)) ⟨rfl, ?_⟩)
  refine wpAny_loadName_free SS.kind SS.kc rfl ⟨_, X0 _ _ hcell, rfl⟩ ?_
  rw [hself]
  refine wpAny_loadName_local SS.kind SS.kself hns v1 ?_
  refine PySem.ks_wpAny_isType_cls (X0 _ _ hC) rfl ⟨rfl, ?_⟩
  refine PySem.ks_wpAny_call_super (X0 _ _ hC) rfl hx0 rfl (fun c e => nomatch e) (PySem.W.looks_mroIn X0 SC.sub) (fun h1 hso k1 => ?_)
  have X1 : K.In h1 := X0.keeps k1
  have hx1 := k1 _ _ hx0
  have I1 : PySem.W.InstAt h1 a (PySem.HandSPX.excO C t0) C none := ⟨hx1, rfl, rfl, trivial⟩
  have hsI : PySem.W.alongIn K "__init__" (((Value.ref C :: keTail).dropWhile (· != .ref C)).drop 1) = some (some (.builtin "KeyError.__init__")) := by
    have z := SC.sup
    unfold PySem.W.ks_superIn at z
    rw [hcl] at z
    exact z
  refine PySem.W.kxs_getMethod kxs_KeyError hso (PySem.W.looks_opaque X1 SC.opq) (l₀ := Value.ref C :: keTail) ?_ rfl X1 hsI (I1.type.andThen (PySem.W.looks_subIn X1 SC.ve)) (PySem.W.ks_ne X1 I1 hcl) (by decide) ?_
  · exact fun A Q E s k q => wpAny_bind ((PySem.W.looks_clsIn X1 hcl) A _ E s k (wpAny_pure q))
  have hu : (h1.push (PySem.W.kxs_mw "KeyError.__init__" a)).get? h1.objs.size = some (PySem.W.kxs_mw "KeyError.__init__" a) := Heap.get?_push_at rfl rfl
  have k2 : ∀ b o, h1.get? b = some o → (h1.push (PySem.W.kxs_mw "KeyError.__init__" a)).get? b = some o := fun b o e => Heap.get?_push_of_some _ e
  generalize h1.push (PySem.W.kxs_mw "KeyError.__init__" a) = h2 at hu k2
  have hse : starEach [Expr.Constant (Const.str txt) j p9] (PySem.W.ksEnv qual scope hp.objs.size fI (.ref cda) cc) = (false, eval (Expr.Constant (Const.str txt) j p9) (PySem.W.ksEnv qual scope hp.objs.size fI (.ref cda) cc)) :: starEach [] (PySem.W.ksEnv qual scope hp.objs.size fI (.ref cda) cc) := rfl
  dsimp only
  refine PySem.W.kxs_callWith (i := "KeyError.__init__") (x := a) rfl ?_
  rw [hse]
  refine Calls.evalArgs_plain ?_
  show wpAny _ _ (spliced (backTo p3 (starEach [Expr.Constant (Const.str txt) j p9] (PySem.W.ksEnv qual scope hp.objs.size fI (.ref cda) cc)))) _ _ _
  refine PyProof.Rows.args_cons (wpAny_Constant_str (PyProof.Rows.args_nil ⟨hu, ?_⟩)) hse
  have X2 : K.In h2 := X1.keeps k2
  have hx2 := k2 _ _ hx1
  refine wpAny_call (codeAny_of_tree ?_)
  show wpAny _ _ (callAny (.ref h1.objs.size) ⟨[] ++ [Value.str txt _], []⟩) _ _ _
  simp only [callAny]
  refine wpAny_bind (wpAny_load hu ?_)
  simp only [PySem.W.kxs_mw, show (Value.type "method-wrapper" == Value.type "method" || Value.type "method-wrapper" == Value.type "builtin_function_or_method" || Value.type "method-wrapper" == Value.type "method-wrapper") = true by decide, if_true]
  refine PySem.W.KFB.if_so (by decide) ?_
  refine wpAny_bind (ke_bound (X2 _ _ hC) hx2 rfl ?_)
  refine wpAny_bind (wpAny_pure (wpAny_pure ?_))
  refine ⟨plainId_quiet keC.init.plain _, codeAny_builtin keC.initEntry ?_⟩
  refine PySem.W.exc_init_tree (cls := .ref C) (t0 := t0) (dv := none) (c2 := .none) (c3 := .none) (b4 := .bool false) hx2 (by show 1 ≤ sizeLine; decide) (fun h3 k3 hx3 ht3 => ?_)
  have hLa : hp.objs.size ≠ a := Ne.symm (Nat.ne_of_lt (Heap.lt_size hx))
  have k03 : ∀ b o, b ≠ a → h₀.get? b = some o → h3.get? b = some o := fun b o hb e => k3 b o hb (k2 _ _ (k1 _ _ e))
  have X3 : K.In h3 := M0.kin.keeps fun b o e => k03 b o (fun z => by rw [z, hab] at e; cases e) (kbh b o e)
  have hns3 : h3.Ns hp.objs.size m := by
    obtain ⟨oL, es, ep, hL, r⟩ := hns
    exact ⟨oL, es, ep, k03 _ _ hLa hL, r⟩
  show PySem.wpAt _ _ _ (execs [Stmt.Assign [(Expr.Name "self" p5).Attribute fld p6] (Expr.Name px p7) p8] (PySem.W.ksEnv qual scope hp.objs.size fI (.ref cda) cc)) _ _ _
  refine PySem.ks_wpAt_execs_cons (PySem.ks_wpAt_Assign_Attr (wpAt_of_wpAny (PySem.ESX.ldL (env := PySem.W.ksEnv qual scope hp.objs.size fI (.ref cda) cc) hns3 v2 (PySem.ESX.ldL (env := PySem.W.ksEnv qual scope hp.objs.size fI (.ref cda) cc) hns3 v1 ?_ SS.kind SS.kself (by decide)) SS.kind SS.kx SS.dbg)))
  refine PySem.W.set_plain X3 (ox := { cls := .ref C, dict := none, data := .fields #[.ref h2.objs.size, .none, .none, .none, .bool false, .none] }) (od := none) ⟨hx3, rfl, rfl, trivial⟩ SC.oex.sa ?_
  refine ke_osa X3 hx3 hcl rfl rfl hno (fun h' tk' dx k dn dne hx' hn => ?_)
  refine wpAt_of_wpAny (wpAny_execs_nil ?_)
  refine hq h' _ dx _ (fun b o hb e => k b o hb (k03 b o hb (k0 _ _ e))) ?_ dne hx' hn
  obtain ⟨oL, es, ep, hL, r⟩ := hns3
  exact Nat.le_trans (Nat.le_of_lt (Heap.lt_size hL)) dn
theorem sup_codeK {prog : Program} {w : World} {A : Around} {K : PySem.W.Frag} {mg : Str → Option Value} {base hp : Heap} {g : Array GenState} {d : PySem.Drawn} {t : Nat} {os : OsState} {C fI a t0 : Addr} {qual : Str} {params : Arguments} {scope : Scope} {u : Value} {R : Result → Shared → Prop}
    {p0 p1 p2 p3 p4 p5 p6 p7 p8 p9 : Pos} {j : Nat} {txt fld px : Str}
    (SC : SupCk prog K C fI qual params (supBody p0 p1 p2 p3 p4 p5 p6 p7 p8 p9 j txt fld px) scope) (SS : SupScope scope params px) (M0 : Mod K mg base) (kb : ∀ b o, base.get? b = some o → hp.get? b = some o) (hab : base.get? a = none) (hsup : mg "super" = none)
    (hroom : A.depth < recursionLimit) (hno : PySem.W.findIn K (.ref C) fld = some none) {pl : Env → Sem Bool}
    (hev : ∀ env : Env, eval (.Call (.Attribute (.Call (.Name "super" p0) [] [] p1) "__init__" p2) [.Constant (.str txt) j p9] [] p3) env = (do
      let ov ← attributeBase (.Call (.Name "super" p0) [] [] p1) "__init__" env (eval (.Call (.Name "super" p0) [] [] p1) env)
      standAt p2.atName
      let (f, first) ← holding [ov] (getMethod ov "__init__" (pl env))
      callWith p3 f first (backTo p3 (starEach [.Constant (.str txt) j p9] env)) []))
    (hbind : ∀ (nm : Str) (kV doc pm : Value) (an : Option Addr) (cdv ct : Value) (cc : Addr) (us : List Value), us.length = 2 → bindArgs (PySem.W.ksFn nm qual params (supBody p0 p1 p2 p3 p4 p5 p6 p7 p8 p9 j txt fld px) scope .none kV doc pm an cdv ct cc) ⟨us, []⟩ = pure ((["self", px] : List Str).zip us))
    (hx : hp.get? a = some (PySem.HandSPX.excO C t0))
    (hq : ∀ h' tk' dx t1, (∀ b o, b ≠ a → hp.get? b = some o → h'.get? b = some o) → hp.objs.size ≤ dx → dx ≠ a → h'.get? a = some ({ cls := .ref C, dict := some dx, data := .fields #[.ref t1, .none, .none, .none, .bool false, .none] } : Obj) →
      h'.Ns1 dx (fun y => if y = fld then some u else none) → R (.ok (.ret .none)) ⟨h', g, d, tk', os⟩) :
    codeAny (model prog w) A (.call (.ref fI) ⟨[.ref a, u], []⟩) R ⟨hp, g, d, t, os⟩ :=
  sup_codeKG SC SS M0 kb hab hsup hroom hno hev (fun nm kV doc pm an cdv ct cc => hbind nm kV doc pm an cdv ct cc [.ref a, u] rfl) hx hq

/-- an own exception class by its name: super().__init__(text); self.fld = x -/
structure SupAtK (P : Program) (K : PySem.W.Frag) (mg : Str → Option Value) (x fld : Str) : Prop where
  ex : ∃ (fI : Addr) (qual : Str) (params : Arguments) (scope : Scope) (p0 p1 p2 p3 p4 p5 p6 p7 p8 p9 : Pos) (j : Nat) (txt px : Str) (pl : Env → Sem Bool),
    SupCk P K (He.ga K x) fI qual params (supBody p0 p1 p2 p3 p4 p5 p6 p7 p8 p9 j txt fld px) scope ∧ SupScope scope params px ∧
    (∀ env : Env, eval (.Call (.Attribute (.Call (.Name "super" p0) [] [] p1) "__init__" p2) [.Constant (.str txt) j p9] [] p3) env = (do
      let ov ← attributeBase (.Call (.Name "super" p0) [] [] p1) "__init__" env (eval (.Call (.Name "super" p0) [] [] p1) env)
      standAt p2.atName
      let (f, first) ← holding [ov] (getMethod ov "__init__" (pl env))
      callWith p3 f first (backTo p3 (starEach [.Constant (.str txt) j p9] env)) [])) ∧
    (∀ (nm : Str) (kV doc pm : Value) (an : Option Addr) (cdv ct : Value) (cc : Addr) (us : List Value), us.length = 2 → bindArgs (PySem.W.ksFn nm qual params (supBody p0 p1 p2 p3 p4 p5 p6 p7 p8 p9 j txt fld px) scope .none kV doc pm an cdv ct cc) ⟨us, []⟩ = pure ((["self", px] : List Str).zip us))
  no : PySem.W.findIn K (.ref (He.ga K x)) fld = some none
  g : mg x = some (.ref (He.ga K x))
  sup : mg "super" = none
section
variable {X : Cx} {e : Expr} {te : TE} {p pos : Pos}
theorem pmk_supK {x fld : Str} {k : Nat} (S : SupAtK X.prog X.K X.mg x fld) (hr : Room k X.A) (hg : Gl X x) (ha : PE X e te) (hk : 1 ≤ k := by decide)
    (hdb : (x == ("__debug__" : Str)) = false := by decide) (he : starEach [e] X.env = (false, eval e X.env) :: starEach [] X.env := by rfl) :
    PMk X (.Call (.Name x p) [e] [] pos) (tMkS (He.ga X.K x) fld te) := by
  intro pins s σ H Q I h
  obtain ⟨fI, qual, params, scope, p0, p1, p2, p3, p4, p5, p6, p7, p8, p9, j, txt, px, pl, SC, SS, hev, hbind⟩ := S.ex
  have T := SC.oex
  obtain ⟨nm, q, N, bs, sn, sub, ab, col, dd, k0, k1, k2, k3, k5, hC⟩ := T.cls
  refine wpAny_Call_Name_kw (ld_glob I hg S.g ?_ hdb)
  refine PySem.W.callWith_K (h₀ := X.base) I.ok.mod.kin T.kC (PyProof.Rows.args_cons (thn (ha.run pins s σ H _ I h) fun u s1 ⟨y, H1, I1, ry, q1⟩ => PyProof.Rows.args_nil ⟨I1.kIn, ?_⟩) he) he rfl
  show wpAny _ _ (call (.ref (He.ga X.K x)) [u]) _ _ _
  obtain ⟨hp, g, dr, tk, os⟩ := s1
  have hsz : hp.objs.size ≤ hp.objs.size + 1 := Nat.le_succ _
  have hn : H1 (hp.objs.size + 1) = none := I1.hok.fresh hsz
  have kk : ∀ b o, hp.get? b = some o → ((hp.push (PySem.W.kdv_tup [u])).push (PySem.HandSPX.excO (He.ga X.K x) hp.objs.size)).get? b = some o := fun b o e => Heap.get?_push_of_some _ (Heap.get?_push_of_some _ e)
  have hget : ((hp.push (PySem.W.kdv_tup [u])).push (PySem.HandSPX.excO (He.ga X.K x) hp.objs.size)).get? (hp.objs.size + 1) = some (PySem.HandSPX.excO (He.ga X.K x) hp.objs.size) := by heap_get
  have hsz2 : hp.objs.size ≤ ((hp.push (PySem.W.kdv_tup [u])).push (PySem.HandSPX.excO (He.ga X.K x) hp.objs.size)).objs.size := Nat.le_of_lt (Nat.lt_trans (Nat.lt_succ_self _) (Heap.lt_size hget))
  have hab : X.base.get? (hp.objs.size + 1) = none := by
    cases z : X.base.get? (hp.objs.size + 1) with
    | none => rfl
    | some o => exact absurd (Heap.lt_size (I1.bk _ _ z)) (by show ¬ hp.objs.size + 1 < hp.objs.size; omega)
  refine wpAny_call (ke_call (I1.kIn _ _ hC) (PySem.W.looks_findIn I1.kIn SC.ini) (fun self => PySem.W.bind_fn I1.kIn self SC.tyI) (by show 1 ≤ sizeLine; decide)
    (sup_codeK SC SS I.ok.mod (fun b o e => kk b o (I1.bk b o e)) hab S.sup ((hr.mono hk).make (He.ga X.K x) [u] []).depth S.no hev hbind hget (fun h' tk' dx t1 k dn dne hx hns => ?_)))
  refine ⟨rfl, ?_⟩
  have hnd : H1 dx = none := I1.hok.fresh (Nat.le_trans hsz2 dn)
  generalize ea0 : hp.objs.size + 1 = a at *
  generalize eC : He.ga X.K x = C at *
  generalize (hp.push (PySem.W.kdv_tup [u])).push (PySem.HandSPX.excO C hp.objs.size) = hp2 at *
  have I2 : Inv X pins σ (upd H1 a (exo a C none)) ⟨hp2, g, dr, tk, os⟩ := I1.laid (t' := tk) (a := a) (o := exo a C none) (h' := hp2) kk hsz (exo_ok hget)
  have e : (upd H1 a (exo a C none)) a = some (exo a C none) := upd_same
  have hnd2 : (upd H1 a (exo a C none)) dx = none := (upd_ne dne).trans hnd
  have nd : ∀ {b : Addr} {o : Obj}, hp2.get? b = some o → b ≠ dx := fun {b o} q => Nat.ne_of_lt (Nat.lt_of_lt_of_le (Heap.lt_size q) dn)
  have na : ∀ {b : Addr}, (upd H1 a (exo a C none)) b = none → b ≠ a := fun {b} n z => by
    rw [z, e] at n
    cases n
  generalize hH : upd H1 a (exo a C none) = HH at *
  have Un1 : Un (frs X.stack) [] HH (upd (upd HH dx (exd dx [(fld, y)])) a (exo a C (some dx))) hp2 h' := {
    keep := fun b o q n _ _ => k b o (na n) q
    slot := fun b o q n _ _ => ⟨o.slots, k b o (na n) q⟩
    free := fun b o q n _ => by rw [upd_ne (na n), upd_ne (nd q)]; exact n
    there := fun b o q _ => by
      by_cases hb : b = a
      · exact ⟨_, by rw [hb]; exact hx⟩
      · exact ⟨o, k b o hb q⟩
    tups := fun b xs q => by rw [upd_ne (at_ne e q exo_tup), upd_ne (ne_of_none q hnd2)]; exact q
    frzs := fun b o v q => by rw [upd_ne (at_ne e q exo_frz), upd_ne (ne_of_none q hnd2)]; exact q
    tbls := fun b ps q => ⟨#[], by rw [upd_ne (at_ne e q exo_tbl), upd_ne (ne_of_none q hnd2), q]; simp⟩ }
  have hok2 : HOk X.prog X.w (upd (upd HH dx (exd dx [(fld, y)])) a (exo a C (some dx))) h' := fun b o q => by
    by_cases hb : b = a
    · subst hb
      rw [upd_same] at q
      cases q
      exact exo_ok hx
    · rw [upd_ne hb] at q
      by_cases hd : b = dx
      · subst hd
        rw [upd_same] at q
        cases q
        exact exd_ok hns (relO_put (fs := []) ry fun g => True.intro)
      · rw [upd_ne hd] at q
        exact (I2.hok b o q).stay (fun c v hc z => k c v (by
            rcases hc with hc | hc
            · rw [hc]
              exact hb
            · exact at_ne e hc exo_own) z)
          (fun c hc => by rw [upd_ne (at_ne e hc exo_own), upd_ne (ne_of_none hc hnd2)]; exact hc) (fun c xs hc => by rw [upd_ne (at_ne e hc exo_tup), upd_ne (ne_of_none hc hnd2)]; exact hc)
  have ea : (upd (upd HH dx (exd dx [(fld, y)])) a (exo a C (some dx))) a = some (exo a C (some dx)) := upd_same
  have ed : (upd (upd HH dx (exd dx [(fld, y)])) a (exo a C (some dx))) dx = some (exd dx [(fld, y)]) := (upd_ne dne).trans upd_same
  have eF : upd (del (upd (upd HH dx (exd dx [(fld, y)])) a (exo a C (some dx))) a) dx (.xd [(fld, y)]) = upd H1 dx (.xd [(fld, y)]) := by
    funext b
    by_cases hd : b = dx
    · rw [hd, upd_same, upd_same]
    · rw [upd_ne hd, upd_ne hd]
      by_cases hb : b = a
      · rw [hb, del_same, hn]
      · rw [del_ne hb, upd_ne hb, upd_ne hd, ← hH, upd_ne hb]
  rw [← hH] at Un1
  refine mk_end (raises_own T.exC T.tyC) I1 hsz kk Un1 (by rw [hH]; exact hok2) rfl I1.bare (by rw [hH]; exact ea) (by rw [hH]; exact ed) hnd ?_
  rw [hH, eF]
  exact q1 dx hnd
end
end WW

set_option Elab.async false
set_option linter.all false
set_option maxRecDepth 100000
set_option maxHeartbeats 4000000
namespace WW
open PySem PySem.Spec PyProof.Rows L2
section
variable {K : PySem.W.Frag} {B : Addr → Prop} {ρ ρ' ρ1 ρ2 : List Slot} {ta tb tc te : TE} {t u : TT} {ts tu tz : TS} {Φ : Post} {α β γ : Type} {e_α : Enc α} {e_β : Enc β} {e_γ : Enc γ} {a : α} {b : β} {i j : Int} {z y : Str}
theorem vals_str {S : Hp} : ∀ {vs : List V} {xs : List Str}, Paired (Enc.rep K S) vs xs → vs = xs.map V.str
  | _, _, .nil => rfl
  | _, _, .cons h r => by cases h; rw [vals_str r]; rfl
theorem do_split (h1 : DE K B ta ρ z) (h2 : DE K B tb ρ y) (hy : (y.length == 0) = false) (hz : z.length + 2 ≤ BIG) (hl : (Txt.split z y).length ≤ BIG) :
    DO K B (tM1 (fun x xs H Q => ∃ a b, x = .str a ∧ xs = [.str b] ∧ (b.length == 0) = false ∧ a.length + 2 ≤ sizeLine ∧ rNewStrs (Txt.split a b) H Q) ta tb) ρ (Txt.split z y) := fun S0 H0 S H σ E Q q =>
  h1 S0 H0 S H σ E _ fun v S1 H1 e1 r1 => ⟨⟨z, r1⟩, h2 S0 H0 S1 H1 σ (E.go e1) _ fun w S2 H2 e2 r2 => ⟨z, y, r1, by cases r2; rfl, hy, Nat.le_trans hz big_line, fun p hp =>
    q p _ S2 _ ((e1.trans e2).trans (Ext.priv e2.i hp)) ((e1.trans e2).free E.i hp) (e2.i.free hp) upd_same (paired_map V.str (fun _ => rfl) _) hl⟩⟩
theorem d_join {ws : List Str} (h1 : DE K B ta ρ z) (h2 : DE K B tb ρ ws) (hs : (ws.map (·.length)).sum + ws.length * z.length ≤ 16777216) : DE K B (tM1 (rJoin K) ta tb) ρ (Txt.join z ws) := fun S0 H0 S H σ E Q q =>
  h1 S0 H0 S H σ E _ fun v S1 H1 e1 r1 => ⟨⟨z, r1⟩, h2 S0 H0 S1 H1 σ (E.go e1) _ fun w S2 H2 e2 ⟨hl, p, vs, e, hh, r⟩ => by
    subst e
    have hv := vals_str r
    subst hv
    exact ⟨z, p, ws, r1, rfl, hh.ex e2.i, hs, q _ S2 H2 (e1.trans e2) rfl⟩⟩
theorem d_strI (h : DE K B te ρ i) (hz : i.natAbs.log2 < 1920) : DE K B (tCB (fun xs H Q => ∃ i, xs = [.int i] ∧ i.natAbs.log2 < 1920 ∧ Q (.str (toString i)) H) (tCons te tNil)) ρ (Str.ofString (toString i)) := fun S0 H0 S H σ E Q q =>
  h S0 H0 S H σ E _ fun v S1 H1 e1 r => ⟨i, by cases r; rfl, hz, q _ S1 H1 e1 rfl⟩
theorem d_lenS (h : DE K B te ρ z) (hz : z.length ≤ BIG) : DE K B (tCB (fun xs H Q => ∃ z, xs = [.str z] ∧ z.length ≤ sizeLine ∧ Q (.int z.length) H) (tCons te tNil)) ρ (z.length : Int) := fun S0 H0 S H σ E Q q =>
  h S0 H0 S H σ E _ fun v S1 H1 e1 r => ⟨z, by cases r; rfl, Nat.le_trans hz big_line, q _ S1 H1 e1 rfl⟩
theorem d_ixS {c : Nat} (h : DE K B ta ρ z) (hi : DE K B tb ρ i) (hz : z.length ≤ BIG) (hc : atI z.cps.toList i = some c) : DE K B (tOp rIxS ta tb) ρ (⟨#[c]⟩ : Str) :=
  d_op h hi fun v w S H sm r1 r2 Q q => ⟨z, i, c, r1, r2, Nat.le_trans hz big_line, hc, q _ S H (Ext.refl sm) rfl⟩
theorem d_slS {tl th : TO} {lo hi : Option Int} (h : DE K B te ρ z) (hl : DP K B tl ρ lo) (hh : DP K B th ρ hi) (hz : z.length ≤ BIG) : DE K B (tSl rSlS te tl th) ρ (cutS z lo hi) := fun S0 H0 S H σ E Q q =>
  h S0 H0 S H σ E _ fun v S1 H1 e1 r1 => hl S0 H0 S1 H1 σ (E.go e1) _ fun S2 H2 e2 => hh S0 H0 S2 H2 σ (E.go (e1.trans e2)) _ fun S3 H3 e3 => ⟨z, r1, Nat.le_trans hz big_line, q _ S3 H3 ((e1.trans e2).trans e3) rfl⟩
theorem d_inSign {c : Nat} (h1 : DE K B ta ρ (⟨#[c]⟩ : Str)) (h2 : DE K B tb ρ z) : DE K B (tOp (fun x y H Q => ∃ (c : Nat) (z : Str), x = .str ⟨#[c]⟩ ∧ y = .str z ∧ Q (.bl (decide (c ∈ z.cps.toList))) H) ta tb) ρ (decide (c ∈ z.cps.toList)) :=
  d_op h1 h2 fun v w S H sm r1 r2 Q q => ⟨c, z, r1, r2, q _ S H (Ext.refl sm) rfl⟩
theorem d_notInSign {c : Nat} (h1 : DE K B ta ρ (⟨#[c]⟩ : Str)) (h2 : DE K B tb ρ z) : DE K B (tOp (fun x y H Q => ∃ (c : Nat) (z : Str), x = .str ⟨#[c]⟩ ∧ y = .str z ∧ Q (.bl (!decide (c ∈ z.cps.toList))) H) ta tb) ρ (!decide (c ∈ z.cps.toList)) :=
  d_op h1 h2 fun v w S H sm r1 r2 Q q => ⟨c, z, r1, r2, q _ S H (Ext.refl sm) rfl⟩
theorem d_intS {n : Int} (h : DE K B te ρ z) (hn : PySem.intText? z = some n) (hz : z.length ≤ 640) : DE K B (tCB (fun xs H Q => ∃ a n, xs = [.str a] ∧ PySem.intText? a = some n ∧ a.length ≤ 640 ∧ Q (.int n) H) (tCons te tNil)) ρ n := fun S0 H0 S H σ E Q q =>
  h S0 H0 S H σ E _ fun v S1 H1 e1 r => ⟨z, n, by cases r; rfl, hn, hz, q _ S1 H1 e1 rfl⟩
/-- the signs of a text -/
def signs (z : Str) : List Str := z.cps.toList.map fun c => ⟨#[c]⟩
theorem signs_len (z : Str) : (signs z).length = z.length := by
  unfold signs
  rw [List.length_map, Array.length_toList]
  rfl
theorem di_str (h : DE K B te ρ z) : DI K B (iStr te) ρ (signs z) := fun S0 H0 S H σ E R q =>
  h S0 H0 S H σ E _ fun v S1 H1 e1 r => ⟨z, r, q _ S1 H1 e1 fun S2 H2 s2 x2 => by
    have i2 := x2.i
    refine ⟨fun n x hx => ?_, by show z.cps.size ≤ _; rw [signs_len]; exact Nat.le_refl _⟩
    unfold signs at hx
    rw [List.getElem?_map] at hx
    have lt : n < z.cps.size := by
      cases hc : z.cps.toList[n]? with
      | none => rw [hc] at hx; cases hx
      | some c => simpa using (List.getElem?_eq_some_iff.mp hc).1
    refine ⟨lt, fun v' H3 hy => ⟨S2, ?_, ?_⟩⟩
    · rw [hy.1]
      exact Ext.refl i2
    · obtain ⟨_, c, h1, h2⟩ := hy
      rw [Array.getElem?_toList, h1] at hx
      cases hx
      exact h2⟩
/-- words.count(w), words.index(w), words of one's own or not -/
theorem d_countS {ws : List Str} (h1 : DE K B ta ρ (α := L Str) ws) (h2 : DE K B tb ρ z) : DE K B (tBM K "list" (rCntF K) ta (tCons tb tNil)) ρ (ws.count z : Int) := fun S0 H0 S H σ E Q q =>
  h1 S0 H0 S H σ E _ fun v S1 H1 e1 ⟨hl, p, vs, e, hh, r⟩ => by
    subst e
    have hv := vals_str r
    subst hv
    refine ⟨.inl ⟨rfl, _, .inl (.inl (e1.i _ _ hh))⟩, h2 S0 H0 S1 H1 σ (E.go e1) _ fun w S2 H2 e2 r2 => ?_⟩
    cases r2
    refine ⟨p, _, _, rfl, rfl, .inl (.inl (e2.i _ _ (e2.s _ _ hh))), rfl, by rw [List.all_map]; simp [flatV], ?_⟩
    have ec : (ws.map V.str).countP (fun x => eqV x (V.str z)) = ws.count z := by
      rw [List.countP_map]
      unfold List.count
      congr 1
    rw [ec]
    exact q _ S2 H2 (e1.trans e2) rfl
theorem d_indexS {ws : List Str} {n : Nat} (h1 : DE K B ta ρ (α := L Str) ws) (h2 : DE K B tb ρ z) (hn : ws[n]? = some z) (hf : ∀ m, m < n → ws[m]? ≠ some z) : DE K B (tBM K "list" (rIndex K) ta (tCons tb tNil)) ρ (n : Int) := fun S0 H0 S H σ E Q q =>
  h1 S0 H0 S H σ E _ fun v S1 H1 e1 ⟨hl, p, vs, e, hh, r⟩ => by
    subst e
    have hv := vals_str r
    subst hv
    refine ⟨.inl ⟨rfl, _, .inl (.inl (e1.i _ _ hh))⟩, h2 S0 H0 S1 H1 σ (E.go e1) _ fun w S2 H2 e2 r2 => ?_⟩
    cases r2
    refine ⟨p, _, _, n, .str z, rfl, rfl, .inl (.inl (e2.i _ _ (e2.s _ _ hh))), rfl, by rw [List.all_map]; simp [flatV], by rw [List.getElem?_map, hn]; rfl, ?_, fun m z' hm hz' => ?_, q _ S2 H2 (e1.trans e2) rfl⟩
    · simp [eqV]
    · rw [List.getElem?_map] at hz'
      cases hx : ws[m]? with
      | none => rw [hx] at hz'; cases hz'
      | some x =>
        rw [hx] at hz'
        cases hz'
        simp only [eqV]
        have : x ≠ z := fun e => hf m hm (by rw [hx, e])
        simpa using this
end
theorem do_nil {K : PySem.W.Frag} {B : Addr → Prop} {ρ : List Slot} (α : Type) [Enc α] : DO K B (tLst tNil) ρ ([] : List α) := do_lst dl_nil (Nat.zero_le _)
theorem mt_indexK {X : Cx} (K : PySem.W.Frag) (hK : X.K = K := by rfl) : MtR X "list.index" (rIndex K) := by
  subst hK
  exact mt_index
theorem pe_gv {X : Cx} {x : Str} {v : V} {p : Pos} (hg : Gl X x) (h : ∃ u, X.mg x = some u ∧ RelV v u) (hdb : (x == ("__debug__" : Str)) = false := by decide) : PE X (.Name x p) (tC v) := by
  obtain ⟨u, h1, h2⟩ := h
  exact pe_glob hg h1 h2 hdb
end WW

set_option Elab.async false
set_option linter.all false
set_option maxRecDepth 100000
set_option maxHeartbeats 4000000
namespace WW
open PySem PySem.Spec PyProof.Rows L2
/-! ### typed defs that may raise: X tells the error's class and its fields -/
abbrev XP := Addr → List (Str × V) → Prop
/-- what is raised where X allows it -/
def PX (B : Addr → Prop) (X : XP) (E : XK) (S0 H0 : Hp) : Prop := ∀ C fs d S' H', X C fs → Ext B S0 H0 S' H' → H0 d = none → H' d = some (.xd fs) → E (.ref C) (some d) H'
def spTX (K : PySem.W.Frag) (dp : List Slot → (Slot → Prop) → XP → Prop) : Sp := fun vs H Q E => ∃ B S ss R X, Same S H ∧ (∀ p, B p → S p = none ∧ IsBx (H p)) ∧ ArgsOk K B H S H vs ss ∧ dp ss R X ∧ (∀ s v S' H', R s → Ext B S H S' H' → SlotOk K B H S' H' (some v) s → Q v H') ∧ PX B X E S H
section
variable {K : PySem.W.Frag} {B : Addr → Prop} {ρ : List Slot} {ta tb tc te : TE} {Φ : Post}
theorem ds_raise {C : Addr} {fld : Str} {v : V} {E : XK} {X : XP} (h : ∀ S0 H0 S H σ, En K B S0 H0 S H σ ρ → ∀ Q : VK, (∀ S' H', Ext B S H S' H' → Q v H') → te σ H Q) (hx : X C [(fld, v)]) (hp : ∀ S0 H0, Φ.px S0 H0 → PX B X E S0 H0) :
    DS K B (fun _ σ H => tMkS C fld te σ H fun cls d H' => E cls d H') ρ Φ := fun S0 H0 S H σ D En px n r b c =>
  h S0 H0 S H σ En _ fun S1 H1 e1 d hd => hp S0 H0 px C _ d S1 _ hx ((En.ext.trans e1).trans (Ext.priv e1.i hd)) ((En.ext.trans e1).free En.i0 hd) upd_same
theorem dr_int {i : Int} (h : DE K B te ρ i) : ∀ S0 H0 S H σ, En K B S0 H0 S H σ ρ → ∀ Q : VK, (∀ S' H', Ext B S H S' H' → Q (.int i) H') → te σ H Q := fun S0 H0 S H σ E Q q => h S0 H0 S H σ E Q fun v S1 H1 e1 r => by cases r; exact q S1 H1 e1
theorem dr_str {z : Str} (h : DE K B te ρ z) : ∀ S0 H0 S H σ, En K B S0 H0 S H σ ρ → ∀ Q : VK, (∀ S' H', Ext B S H S' H' → Q (.str z) H') → te σ H Q := fun S0 H0 S H σ E Q q => h S0 H0 S H σ E Q fun v S1 H1 e1 r => by cases r; exact q S1 H1 e1
end
theorem okTX {P : Program} {w : World} {K : PySem.W.Frag} {mg : Str → Option Value} {base : Heap} {x qual : Str} {params : Arguments} {body : List Stmt} {scope : Scope} {dvs : List V} {kws : List (Str × V)} {f : Addr} {fd : FuncData} {N ps : List Str} {k : Nat} {dp : List Slot → (Slot → Prop) → XP → Prop}
    (F : FunD K x qual params body scope dvs kws f fd) (S : FnScope N ps scope) (len : ∀ ss R X, dp ss R X → ss.length = ps.length)
    (hbody : ∀ (cdv : Value) (A : Around) (outer : List PySem.Env) (s : Shared) (H : Hp) (E : XK), Room k (A.deeper (envOfC qual scope s.heap.objs.size f cdv)) →
      ∃ t, PSs (cxOf (L2.CX P w) P w K mg base N qual scope f cdv A outer s H E) body t ∧ ∀ (B : Addr → Prop) ss R X, dp ss R X → DS K B t (startS N ss) ⟨fun _ => R (.val ()), R, fun _ => False, fun _ => False, fun S0 H0 => PX B X E S0 H0⟩) : FnOk P w K mg base (L2.CX P w) (k + 1) f fd ps (spTX K dp) := by
  refine F.ok S (fun vs H Q E h => ?_) (fun cdv A outer s H vs Q E hr h => ?_)
  · obtain ⟨B, S, ss, R, X, _, _, ha, hd, _⟩ := h
    rw [ha.length, len ss R X hd]
  · obtain ⟨B, S, ss, R, X, hi, hb, ha, hd, q, qx⟩ := h
    obtain ⟨t, h1, h2⟩ := hbody cdv A outer s H E hr
    exact ⟨t, h1, h2 B ss R X hd S H S H _ _ (start_en hi hb ha) qx (fun ρ' σ' S' H' r _ E' => q _ _ S' H' r E'.ext rfl) (fun s v S' H' r ex ok => q s v S' H' r ex ok) (fun _ _ _ _ h => h.elim) (fun _ _ _ _ h => h.elim)⟩
end WW

set_option Elab.async false
set_option linter.all false
set_option maxRecDepth 100000
set_option maxHeartbeats 4000000
namespace WW
open PySem PySem.Spec PyProof.Rows L2
/-! ### slots forgotten -/
inductive Wk : List Slot → List Slot → Prop
  | nil : Wk [] []
  | keep {s : Slot} {r r' : List Slot} : Wk r r' → Wk (s :: r) (s :: r')
  | drop {s : Slot} {r r' : List Slot} : Wk r r' → Wk (s :: r) (.no :: r')
def Slot.plain : Slot → Bool
  | .no => true
  | @Slot.val _ _ _ => true
  | _ => false
def Slot.unbox : Slot → Slot
  | .box => .no
  | .out _ => .no
  | s => s
theorem Wk.refl : ∀ r : List Slot, Wk r r
  | [] => .nil
  | _ :: r => .keep (Wk.refl r)
theorem Wk.trans : ∀ {a b c : List Slot}, Wk a b → Wk b c → Wk a c
  | _, _, _, .nil, .nil => .nil
  | _, _, _, .keep h, .keep k => .keep (h.trans k)
  | _, _, _, .keep h, .drop k => .drop (h.trans k)
  | _, _, _, .drop h, .keep k => .drop (h.trans k)
  | _, _, _, .drop h, .drop k => .drop (h.trans k)
theorem Wk.unbox : ∀ {a b : List Slot}, Wk a b → Wk (a.map Slot.unbox) (b.map Slot.unbox)
  | _, _, .nil => .nil
  | _, _, .keep h => .keep h.unbox
  | _, _, .drop h => .drop h.unbox
theorem Wk.length : ∀ {a b : List Slot}, Wk a b → a.length = b.length
  | _, _, .nil => rfl
  | _, _, .keep h => by rw [List.length_cons, List.length_cons, h.length]
  | _, _, .drop h => by rw [List.length_cons, List.length_cons, h.length]
theorem Wk.at' : ∀ {a b : List Slot}, Wk a b → ∀ (i : Nat) (s : Slot), b[i]? = some s → a[i]? = some s ∨ (s = .no ∧ ∃ u, a[i]? = some u)
  | _, _, .nil, i, s, e => by simp at e
  | _, _, .keep h, 0, s, e => .inl e
  | _, _, .drop h, 0, s, e => .inr ⟨by simp at e; exact e.symm, _, rfl⟩
  | _, _, .keep h, i + 1, s, e => by
    simp only [List.getElem?_cons_succ] at e ⊢
    exact h.at' i s e
  | _, _, .drop h, i + 1, s, e => by
    simp only [List.getElem?_cons_succ] at e ⊢
    exact h.at' i s e
section
variable {K : PySem.W.Frag} {B : Addr → Prop} {ρ ρ' ρ1 ρ2 : List Slot} {ta tb tc te : TE} {t u : TT} {ts tu tz : TS} {Φ : Post} {α β γ : Type} {e_α : Enc α} {e_β : Enc β} {e_γ : Enc γ} {a : α} {b : β} {i j : Int}
theorem En.weak {S0 H0 S H : Hp} {σ : L2.St} (E : En K B S0 H0 S H σ ρ) (h : Wk ρ ρ') : En K B S0 H0 S H σ ρ' := by
  refine ⟨E.i0, E.bx, E.ext, E.len.trans h.length, fun i s hs => ?_, fun i j s u n h1 h2 o1 o2 => ?_⟩
  · rcases h.at' i s hs with q | ⟨rfl, u, q⟩
    · exact E.at' i s q
    · obtain ⟨o, e, _⟩ := E.at' i u q
      exact ⟨o, e, by cases o <;> trivial⟩
  · rcases h.at' i s h1 with q | ⟨rfl, _⟩
    · rcases h.at' j u h2 with q2 | ⟨rfl, _⟩
      · exact E.ne i j s u n q q2 o1 o2
      · cases o2
    · cases o1
theorem DS.weak (h : DS K B ts ρ' Φ) (w : Wk ρ ρ') : DS K B ts ρ Φ := fun S0 H0 S H σ D E => h S0 H0 S H σ D (E.weak w)
theorem DG.weak {g : TG} {js : List Nat} (h : DG K B g a ρ' ρ2 js) (w : Wk ρ ρ') : DG K B g a ρ ρ2 js := fun S0 H0 S H σ v E => h S0 H0 S H σ v (E.weak w)
/-- a loop whose turns keep some slots and forget the others -/
theorem dq_forW {wi : TI} {g : TG} {xs : List α} (ρf : List Slot) (hi : DI K B wi ρ xs) (h0 : Wk ρ ρf)
    (hs : ∀ x ∈ xs, ∃ ρ2 js, DG K B g x ρf ρ2 js ∧ DS K B ts ρ2 ⟨fun r => Wk r ρf, Φ.rt, fun ρ' => DS K B tz ρ' Φ, fun r => Wk r ρf, Φ.px⟩) (hd : DS K B tz ρf Φ) : DS K B (tSeq (tFor wi g ts) tz) ρ Φ :=
  dq_for hi (fun _ r => Wk r ρf) h0 (fun i x ρ1 hx hw => by
    obtain ⟨ρ2, js, h1, h2⟩ := hs x (List.mem_of_getElem? hx)
    exact ⟨ρ2, js, h1.weak hw, h2⟩) fun ρ1 hw => hd.weak hw
theorem ds_forW {wi : TI} {g : TG} {xs : List α} (ρf : List Slot) (hi : DI K B wi ρ xs) (h0 : Wk ρ ρf)
    (hs : ∀ x ∈ xs, ∃ ρ2 js, DG K B g x ρf ρ2 js ∧ DS K B ts ρ2 ⟨fun r => Wk r ρf, Φ.rt, Φ.nx, fun r => Wk r ρf, Φ.px⟩) (hd : ∀ r, Wk r ρf → Φ.nx r) : DS K B (tFor wi g ts) ρ Φ :=
  ds_for hi (fun _ r => Wk r ρf) h0 (fun i x ρ1 hx hw => by
    obtain ⟨ρ2, js, h1, h2⟩ := hs x (List.mem_of_getElem? hx)
    exact ⟨ρ2, js, h1.weak hw, h2⟩) fun ρ1 hw => hd ρ1 hw
/-! ### lists, each one of some -/
theorem rep_len {S : Hp} {v : V} {xs : List α} (h : Enc.rep K S v (α := L α) xs) : xs.length ≤ BIG := h.1
theorem r_cat {S H : Hp} {x y : V} {xs ys : List α} (i : Same S H) (h1 : Enc.rep K S x (α := L α) xs) (h2 : Enc.rep K S y (α := L α) ys) (hl : xs.length + ys.length ≤ BIG) (Q : VK)
    (q : ∀ v S' H', Ext B S H S' H' → Enc.rep K S' v (α := L α) (xs ++ ys) → Q v H') : rCat x y H Q := by
  obtain ⟨l1, p1, vs1, rfl, hh1, r1⟩ := h1
  obtain ⟨l2, p2, vs2, rfl, hh2, r2⟩ := h2
  refine ⟨p1, p2, vs1, vs2, rfl, rfl, i _ _ hh1, i _ _ hh2, ?_, fun p hp => ?_⟩
  · rw [r1.length, r2.length]
    exact Nat.le_trans hl big_line
  · have e : Ext B S H (upd S p (.lst (vs1 ++ vs2))) (upd H p (.lst (vs1 ++ vs2))) := Ext.new i hp
    exact q _ _ _ e ⟨by rw [List.length_append]; exact hl, p, _, rfl, upd_same, Paired.mono (fun _ _ => Enc.mono e.s) (Paired.app r1 r2)⟩
theorem dn_cat {P1 P2 : List α → Prop} (h1 : DN K B ta ρ (α := L α) P1) (h2 : DN K B tb ρ (α := L α) P2) (hl : ∀ xs ys, P1 xs → P2 ys → xs.length + ys.length ≤ BIG) : DN K B (tOp rCat ta tb) ρ (α := L α) (fun zs => ∃ xs ys, P1 xs ∧ P2 ys ∧ zs = xs ++ ys) :=
  dn_op h1 h2 fun xs ys p1 p2 x y S H i r1 r2 Q q => r_cat i r1 r2 (hl xs ys p1 p2) Q fun v S' H' e r => q v _ S' H' ⟨xs, ys, p1, p2, rfl⟩ e r
theorem dn_lst1 {P : α → Prop} (h : DN K B te ρ P) : DN K B (tLst (tCons te tNil)) ρ (α := L α) (fun xs => ∃ a, P a ∧ xs = [a]) := fun S0 H0 S H σ E Q q =>
  h S0 H0 S H σ E _ fun v a S1 H1 pa e1 r1 => ⟨by show 1 ≤ sizeLine; decide, fun p hp => by
    have e2 : Ext B S1 H1 (upd S1 p (.lst [v])) (upd H1 p (.lst [v])) := Ext.new e1.i hp
    exact q _ [a] _ _ ⟨a, pa, rfl⟩ (e1.trans e2) ⟨by show 1 ≤ BIG; decide, p, _, rfl, upd_same, .cons (Enc.mono e2.s r1) .nil⟩⟩
theorem dn_rep {P : α → Prop} {P' : Int → Prop} (h : DN K B ta ρ (α := L α) (fun xs => ∃ a, P a ∧ xs = [a])) (hi : DN K B tb ρ P') (h0 : ∀ i, P' i → 0 ≤ i ∧ i ≤ BIG) : DN K B (tOp rRep ta tb) ρ (α := L α) (fun zs => ∃ a i, P a ∧ P' i ∧ zs = List.replicate i.toNat a) :=
  dn_op h hi fun xs i p1 p2 x y S H im r1 r2 Q q => by
    obtain ⟨a, pa, rfl⟩ := p1
    obtain ⟨i0, hl⟩ := h0 i p2
    obtain ⟨hl1, p, vs, rfl, hh, r⟩ := r1
    cases r2
    cases r with
    | cons ra rn =>
      cases rn
      rename_i x
      have hb : i.toNat ≤ BIG := by omega
      have b62 : (BIG : Int) < 2 ^ 62 := by decide
      refine ⟨p, i, [x], rfl, rfl, im _ _ hh, by omega, by omega, ?_, fun w hw => ?_⟩
      · rw [List.length_singleton, Nat.one_mul]
        exact Nat.le_trans hb big_line
      · have ef : (List.replicate i.toNat [x]).flatten = List.replicate i.toNat x := by
          generalize i.toNat = n
          induction n with
          | zero => rfl
          | succ n ih => rw [List.replicate_succ, List.flatten_cons, ih]; rfl
        rw [ef]
        have e : Ext B S H (upd S w (.lst (List.replicate i.toNat x))) (upd H w (.lst (List.replicate i.toNat x))) := Ext.new im hw
        have pr : ∀ (S' : Hp) (n : Nat), Enc.rep K S' x a → Paired (Enc.rep K S') (List.replicate n x) (List.replicate n a) := fun S' n h => by
          induction n with
          | zero => exact .nil
          | succ n ih => rw [List.replicate_succ, List.replicate_succ]; exact .cons h ih
        exact q _ _ _ _ ⟨a, i, pa, p2, rfl⟩ e ⟨by rw [List.length_replicate]; exact hb, w, _, rfl, upd_same, pr _ _ (Enc.mono e.s ra)⟩
theorem dn_sl {P : Int → Prop} {xs : List α} (h : DE K B te ρ (α := L α) xs) (hl : DN K B tb ρ P) : DN K B (tSl (rSlQ K) te (tPart tb) tNoPart) ρ (α := L α) (fun zs => ∃ i, P i ∧ zs = cutA xs (some i) none) := fun S0 H0 S H σ E Q q =>
  h S0 H0 S H σ E _ fun v S1 H1 e1 r1 => hl S0 H0 S1 H1 σ (E.go e1) _ fun w i S3 H3 pi e3 r3 => by
    cases r3
    have e13 := e1.trans e3
    obtain ⟨hl, p, vs, rfl, hq, r⟩ := Enc.mono e3.s r1
    have lc : (cutA xs (some i) none).length ≤ BIG := Nat.le_trans (cutA_len _ _ _) hl
    refine ⟨i, rfl, .inl ⟨p, vs, rfl, Evl.ex_l e3.i (.inl (.inl hq)), fun w hw => ?_⟩⟩
    have e4 : Ext B S3 H3 (upd S3 w (.lst (cutV vs (some i) none))) (upd H3 w (.lst (cutV vs (some i) none))) := Ext.new e3.i hw
    exact q _ _ _ _ ⟨i, pi, rfl⟩ (e13.trans e4) ⟨lc, w, _, rfl, upd_same, Paired.mono (fun _ _ => Enc.mono e4.s) (paired_cut r)⟩
/-- a statement that only goes on, and what follows it, for one way out -/
theorem DS.runB {nx : List Slot → Prop} (h : DS K B ts ρ ⟨nx, fun _ => False, fun _ => False, fun _ => False, fun _ _ => True⟩) {S0 H0 S H : Hp} {σ : L2.St} {D : Ends} (E : En K B S0 H0 S H σ ρ) (n : ∀ ρ' σ' S' H', nx ρ' → Same S S' → En K B S0 H0 S' H' σ' ρ' → tz D σ' H') : tSeq ts tz D σ H :=
  h S0 H0 S H σ { D with nx := tz D } E trivial n (fun _ _ _ _ h => h.elim) (fun _ _ _ _ h => h.elim) (fun _ _ _ _ h => h.elim)
theorem cutA_take {δ : Type} {xs : List δ} {t : Nat} : cutA xs none (some (t : Int)) = xs.take t := by
  unfold cutA
  rw [HT.sIx_none, HT.sIx_nat, List.drop_zero, Nat.sub_zero]
  by_cases h : t ≤ xs.length
  · rw [Nat.min_eq_left h]
  · rw [Nat.min_eq_right (by omega), List.take_length, List.take_of_length_le (by omega)]
theorem dn_slTo {P : List α → Prop} (h : DN K B te ρ (α := L α) P) (hl : DE K B tb ρ i) : DN K B (tSl (rSlQ K) te tNoPart (tPart tb)) ρ (α := L α) (fun zs => ∃ xs, P xs ∧ zs = cutA xs none (some i)) := fun S0 H0 S H σ E Q q =>
  h S0 H0 S H σ E _ fun v xs S1 H1 px e1 r1 => hl S0 H0 S1 H1 σ (E.go e1) _ fun w S3 H3 e3 r3 => by
    cases r3
    have e13 := e1.trans e3
    obtain ⟨hl, p, vs, rfl, hq, r⟩ := Enc.mono e3.s r1
    have lc : (cutA xs none (some i)).length ≤ BIG := Nat.le_trans (cutA_len _ _ _) hl
    refine ⟨i, rfl, .inl ⟨p, vs, rfl, Evl.ex_l e3.i (.inl (.inl hq)), fun w hw => ?_⟩⟩
    have e4 : Ext B S3 H3 (upd S3 w (.lst (cutV vs none (some i)))) (upd H3 w (.lst (cutV vs none (some i)))) := Ext.new e3.i hw
    exact q _ _ _ _ ⟨xs, px, rfl⟩ (e13.trans e4) ⟨lc, w, _, rfl, upd_same, Paired.mono (fun _ _ => Enc.mono e4.s) (paired_cut r)⟩
/-- two new lists -/
theorem ds_parOO {n m : Nat} {xs : List α} {ys : List β} (h1 : DO K B ta ρ xs) (h2 : DO K B tb ρ ys) (hm : n ≠ m) (k : Φ.nx ((ρ.set n (.own xs)).set m (.own ys))) : DS K B (tPar n m (tCons ta (tCons tb tNil))) ρ Φ := fun S0 H0 S H σ D E px nx r b c => by
  refine h1 S0 H0 S H σ E _ fun p vs S1 H1 e1 hp hs hh rr hl => h2 S0 H0 S1 H1 σ (E.go e1) _ fun p2 vs2 S2 H2 e2 hp2 hs2 hh2 rr2 hl2 => ⟨_, _, rfl, ?_⟩
  have E1 := E.setO (i := n) e1 hp hs hh rr hl
  have E2 := E1.setO (i := m) e2 hp2 hs2 hh2 rr2 hl2
  exact nx _ _ S2 H2 k (e1.s.trans e2.s) E2
theorem paired_erase {S : Hp} : ∀ {vs : List V} {xs : List α} (k : Nat), Paired (Enc.rep K S) vs xs → Paired (Enc.rep K S) (vs.eraseIdx k) (xs.eraseIdx k)
  | _, _, _, .nil => .nil
  | _, _, 0, .cons _ t => t
  | _, _, k + 1, .cons f t => .cons f (paired_erase k t)
/-- xs.append(ys.pop(i)) -/
theorem ds_popApp {n m : Nat} {xs ys : List α} {P : Int → Prop} (hn : ρ[n]? = some (.own xs)) (hm : ρ[m]? = some (.own ys)) (hne : n ≠ m) (hi : DN K B te ρ P) (hP : ∀ i, P i → 0 ≤ i ∧ i < (ys.length : Int)) (hl : xs.length < BIG)
    (k : ∀ (i : Int) (j : Nat) (y : α), P i → i = j → ys[j]? = some y → Φ.nx ((ρ.set m (.own (ys.eraseIdx j))).set n (.own (xs ++ [y])))) : DS K B (tDrop (tBM K "list" rAppend (tVar n) (tCons (tBM K "list" rPopAt (tVar m) (tCons te tNil)) tNil))) ρ Φ := fun S0 H0 S H σ D E px nx r b c => by
  obtain ⟨_, p, vs, e1, h0, hs, hh, rr⟩ := E.own hn
  obtain ⟨yl, p2, vs2, f1, g0, gs, gh, gr⟩ := E.own hm
  refine ⟨_, e1, .inl ⟨rfl, vs, SqL.of hh⟩, _, f1, .inl ⟨rfl, vs2, SqL.of gh⟩, ?_⟩
  refine hi S0 H0 S H σ E _ fun w i S1 H1 pi ex r1 => ?_
  cases r1
  have E1 := E.go ex
  obtain ⟨_, p', vs', f1', _, _, gh', gr'⟩ := E1.own hm
  rw [f1] at f1'
  cases f1'
  obtain ⟨i0, i1⟩ := hP i pi
  obtain ⟨j, rfl⟩ : ∃ j : Nat, i = j := ⟨i.toNat, by omega⟩
  have jl : j < ys.length := by omega
  obtain ⟨x, hx⟩ : ∃ x, ys[j]? = some x := ⟨_, List.getElem?_eq_getElem jl⟩
  obtain ⟨y, hy, ry⟩ := Paired.at gr' hx
  have sq : seqIndex? (j : Int) vs'.length = some j := (L2.ixN_seq (show ixN vs'.length (j : Int) = some j by
    unfold ixN
    rw [if_pos (by omega), if_pos (by rw [gr'.length]; omega)]
    simp)).1
  have b62 : (BIG : Int) < 2 ^ 62 := by decide
  have E2 := E1.chg hm f1 (paired_erase j gr') (by rw [List.length_eraseIdx]; split <;> omega)
  have hn2 : (ρ.set m (.own (ys.eraseIdx j)))[n]? = some (.own xs) := by rw [List.getElem?_set_ne (Ne.symm hne)]; exact hn
  obtain ⟨_, p'', vs'', e1'', _, _, hh'', rr''⟩ := E2.own hn2
  rw [e1] at e1''
  cases e1''
  refine ⟨p2, vs', (j : Int), j, y, rfl, rfl, gh', by omega, by omega, sq, hy, p, vs'', y, rfl, rfl, hh'', ?_, nx _ σ S1 _ (k j j x pi rfl hx) ex.s (E2.chg hn2 e1 (Paired.app rr'' (.cons ry .nil)) ?_)⟩
  · rw [rr''.length]
    exact Nat.lt_of_lt_of_le hl big_line
  · rw [List.length_append]
    exact hl
theorem do_slice {tl th : TO} {xs : List α} {lo hi : Option Int} (h : DE K B te ρ (α := L α) xs) (hl : DP K B tl ρ lo) (hh : DP K B th ρ hi) : DO K B (tSl (rSlQ K) te tl th) ρ (cutA xs lo hi) := fun S0 H0 S H σ E Q q =>
  h S0 H0 S H σ E _ fun v S1 H1 e1 r1 => hl S0 H0 S1 H1 σ (E.go e1) _ fun S2 H2 e2 => hh S0 H0 S2 H2 σ (E.go (e1.trans e2)) _ fun S3 H3 e3 => by
    have e13 := (e1.trans e2).trans e3
    obtain ⟨hl, p, vs, rfl, hq, r⟩ := Enc.mono (e2.s.trans e3.s) r1
    exact .inl ⟨p, vs, rfl, .inl (.inl (e3.i _ _ hq)), fun w hw => q w _ S3 _ (e13.trans (Ext.priv e3.i hw)) (e13.free E.i hw) (e3.i.free hw) upd_same (paired_cut r) (Nat.le_trans (cutA_len _ _ _) hl)⟩
end
end WW

set_option Elab.async false
set_option linter.all false
set_option maxRecDepth 100000
set_option maxHeartbeats 4000000
namespace WW
open PySem PySem.Spec PyProof.Rows L2
/-! ### how many unlike texts a list or tuple has: len(set(xs)) -/
/-- unlike ones among the first i -/
def unl (xs : List Str) : Nat → Nat
  | 0 => 0
  | i + 1 => if (xs.take i).any (· == xs.getD i Str.empty) = true then unl xs i else unl xs i + 1
theorem unl_succ (xs : List Str) (i : Nat) : unl xs (i + 1) = if (xs.take i).any (· == xs.getD i Str.empty) = true then unl xs i else unl xs i + 1 := rfl
theorem unl_le (xs : List Str) : ∀ i, unl xs i ≤ i
  | 0 => Nat.le_refl 0
  | i + 1 => by
    have h := unl_le xs i
    rw [unl_succ]
    split <;> omega
theorem any_in {xs : List Str} {z : Str} : xs.any (· == z) = true ↔ z ∈ xs := by
  rw [List.any_eq_true]
  constructor
  · rintro ⟨y, hy, e⟩
    rwa [← beq_iff_eq.mp e]
  · exact fun h => ⟨z, h, beq_self_eq_true z⟩
theorem take_one {xs : List Str} {i : Nat} (h : i < xs.length) : xs.take (i + 1) = xs.take i ++ [xs.getD i Str.empty] := by
  rw [List.take_add_one, List.getD_eq_getElem?_getD, List.getElem?_eq_getElem h]
  rfl
theorem unl_nodup {xs : List Str} : ∀ {i : Nat}, i ≤ xs.length → (unl xs i = i ↔ (xs.take i).Nodup)
  | 0, _ => by simp [unl]
  | i + 1, h => by
    have ih := unl_nodup (xs := xs) (i := i) (by omega)
    have le := unl_le xs i
    rw [take_one (by omega), List.nodup_append, ← ih, unl_succ]
    by_cases c : (xs.take i).any (· == xs.getD i Str.empty) = true
    · rw [if_pos c]
      constructor
      · intro e; omega
      · rintro ⟨_, _, h3⟩
        exact absurd rfl (h3 _ (any_in.mp c) _ (List.mem_singleton.mpr rfl))
    · rw [if_neg c]
      constructor
      · intro e
        refine ⟨by omega, by simp, fun a ha b hb z => ?_⟩
        rw [List.mem_singleton.mp hb] at z
        subst z
        exact c (any_in.mpr ha)
      · rintro ⟨e, _⟩
        omega
theorem unl_all {xs : List Str} : unl xs xs.length = xs.length ↔ xs.Nodup := by
  have h := unl_nodup (xs := xs) (i := xs.length) (Nat.le_refl _)
  rwa [List.take_length] at h
abbrev setNew (led : Bool) : PySem.Obj := { cls := .type "set", dict := none, data := .set #[] 0 (.fresh 0 0 led) }
/-- a set of the first i of xs -/
abbrev SetFst (P : Program) (w : World) (h : Heap) (S : Addr) (xs : List Str) (i : Nat) : Prop := h.SetOf (PySem.strKind P w) S (fun z => (xs.take i).any (· == z)) (unl xs i)
section
variable {P : Program} {w : World} {A : Around} {R : Result → Shared → Prop} {I S : Addr} {fp wr : List Addr} {G : Array GenState → Array GenState → Prop} {Pv : Nat → Value → Prop} {St : Nat → Shared → Prop} {xs : List Str}
theorem fill_texts (W : WalksS P w A.in1 I fp wr G xs.length Pv St) (nS : S ∉ fp) (few : xs.length + 1 < scanBound) (got : ∀ i v, Pv i v → ∃ t, v = .str (xs.getD i Str.empty) t)
    (fin : ∀ s', Moved (S :: wr) G s s' → SetFst P w s'.heap S xs xs.length → R (.ok (.ret .none)) s') :
    ∀ (m i : Nat) (s₁ : Shared), xs.length = i + m → Moved (S :: wr) G s s₁ → St i s₁ → SetFst P w s₁.heap S xs i → codeAny (model P w) A (.builtin "set.update.loop" ⟨[.ref S, .ref I], []⟩) R s₁ := by
  have nW : S ∉ wr := fun z => nS (W.sub _ z)
  have sub : ∀ b ∈ wr, b ∈ S :: wr := fun b z => List.mem_cons_of_mem _ z
  intro m
  induction m with
  | zero =>
    intro i s₁ e mv st so
    obtain rfl : i = xs.length := by omega
    refine codeAny_builtin F.entry_set_update_loop ?_
    rw [Around.under_plainId F.plain_set_update_loop _]
    show wpAny _ A.in1 (pyNext (.ref I) >>= _) _ _ s₁
    refine wpAny_bind (W.done s₁ _ _ st fun s₂ m2 => ?_)
    show wpAny _ A.in1 (ret Value.none) _ _ s₂
    refine wpAny_pure (fin s₂ (Moved.trans W.gtrans mv (m2.mono sub)) ?_)
    obtain ⟨o, es, ep, t, ho, r⟩ := so
    exact ⟨o, es, ep, t, m2.heap S _ nW ho, r⟩
  | succ m ih =>
    intro i s₁ e mv st so
    have lt : i < xs.length := by omega
    refine codeAny_builtin F.entry_set_update_loop ?_
    rw [Around.under_plainId F.plain_set_update_loop _]
    show wpAny _ A.in1 (pyNext (.ref I) >>= _) _ _ s₁
    refine wpAny_bind (W.item i s₁ _ _ lt st fun v s₂ pv st2 m2 => ?_)
    obtain ⟨t, rfl⟩ := got i v pv
    have so2 : SetFst P w s₂.heap S xs i := by
      obtain ⟨o, es, ep, tb, ho, r⟩ := so
      exact ⟨o, es, ep, tb, m2.heap S _ nW ho, r⟩
    generalize hz : xs.getD i Str.empty = z
    show wpAny _ A.in1 (holding [Value.str z t] (setAdd S (.str z t)) >>= _) _ _ s₂
    refine wpAny_bind (wpAny_holding ?_)
    unfold setAdd
    refine wpAny_holding (wpAny_bind ((PySem.strKind P w).pyHash (k := z) (strKind_is _ _ _ _) ?_))
    refine wpAny_setAddHashed_of (knd := PySem.strKind P w) (s := { s₂ with toks := s₂.toks + 1 }) (strKind_is _ _ _ _) rfl so2 (by have := unl_le xs i; omega) fun h' sb so3 => ?_
    have so4 : SetFst P w h' S xs (i + 1) := by
      refine SetOf_congr so3 (fun k => ?_) ?_
      · rw [take_one lt, List.any_append, hz]
        by_cases c : k = z
        · subst c; simp
        · have c' : (z == k) = false := beq_eq_false_iff_ne.mpr (Ne.symm c)
          simp [c, c']
      · rw [unl_succ, hz]
    have mv3 : Moved (S :: wr) G s { s₂ with heap := h', toks := s₂.toks + 1 } := Moved.trans W.gtrans mv ((m2.mono sub).then_heap (Nat.le_succ _) fun b o hb eo => by
      rw [sb.2 b (fun z => hb (by rw [z]; exact List.mem_cons_self))]
      exact eo)
    refine wpAny_pure ⟨plainId_quiet F.plain_set_update_loop _, ih (i + 1) _ (by omega) mv3 (W.frame _ s₂ _ _ st2 (Nat.le_succ _) fun b hb o eo => ?_) so4⟩
    rw [sb.2 b (fun z : b = S => nS (by rw [← z]; exact hb))]
    exact eo
end
section
variable {P : Program} {w : World} {A : Around} {E : Value → Shared → Prop} {s : Shared} {l : Addr} {items : Array Value} {xs : List Str} {Q : Value → Shared → Prop}
/-- set(xs), xs a list or a tuple of texts -/
theorem set_texts (calm : A.handled = none) (at_ : s.heap.IsList l items ∨ s.heap.IsTuple l items) (are : StrsAre items.toList xs) (few : xs.length + 1 < scanBound)
    (q : ∀ (h' : Heap) (tk : Nat), SetFst P w h' s.heap.objs.size xs xs.length → (∀ b o, b < s.heap.objs.size → s.heap.get? b = some o → h'.get? b = some o) → Q (.ref s.heap.objs.size) { s with heap := h', toks := tk }) :
    wpAny (model P w) A (call (.type "set") [.ref l]) Q E s := by
  obtain ⟨c, tl, hmro⟩ := PySem.F.called_set.mro
  have hmade := PySem.F.called_set.made
  have hsub := PySem.F.called_set.sub
  refine wpAny_call (codeAny_of_tree (show wpAny _ _ (callAny (.type "set") _) _ _ _ from ?_))
  refine wpAny_pure ⟨Code.quiet_builtin _ (by decide +kernel), codeAny_builtin PySem.F.entry_type_call ?_⟩
  rw [Around.under_plain (weight_type_call_type "set" [.ref l] []) rfl]
  have n1 := PySem.F.called_set.notType
  have n2 := PySem.F.called_set.canCreate
  have n3 := PySem.F.typeCall_set_1 (.ref l)
  repeat (any_goals (first | assumption | wp_step))
  refine codeAny_mono (code_set_new_1 (.ref l) (E := E) (Q₁ := fun ob s₁ => ∃ led : Bool, ob = .ref s.heap.objs.size ∧ s₁ = { s with heap := s.heap.push (setNew led) }) fun led => ⟨led, rfl, rfl⟩) fun r s₁ hr => ?_
  match r, hr with
  | .error e, hr => exact hr
  | .ok .next, hr => exact hr.elim
  | .ok .brk, hr => exact hr.elim
  | .ok .cont, hr => exact hr.elim
  | .ok (.ret ob), hr =>
    obtain ⟨led, rfl, rfl⟩ := hr
    have gS : (s.heap.push (setNew led)).get? s.heap.objs.size = some (setNew led) := Heap.get?_push_size _ rfl
    have tS : Shared.TypeIs { s with heap := s.heap.push (setNew led) } (.ref s.heap.objs.size) "set" := ⟨_, gS, rfl⟩
    have i1 := PySem.F.called_set.init.lookup
    have i2 := PySem.F.called_set.init.bind (.ref s.heap.objs.size)
    repeat (any_goals (first | assumption | wp_step))
    refine codeAny_mono (codeAny_call_builtin (R := wants (fun r s₂ => r = .none ∧ ∃ h' tk, s₂ = { s with heap := h', toks := tk } ∧ SetFst P w h' s.heap.objs.size xs xs.length ∧ ∀ b o, b < s.heap.objs.size → s.heap.get? b = some o → h'.get? b = some o) E)
      PySem.F.called_set.init.plain PySem.F.entry_set_init (check_set_init_1 tS ?_)) fun r₂ s₂ hr₂ => ?_
    · have len : xs.length = items.size := by rw [← StrsAre.len_eq are, Array.length_toList]
      have got : ∀ (i : Nat) (v : Value), items[i]? = some v → ∃ t, v = .str (xs.getD i Str.empty) t := fun i v hv => SS.strs_at are i v (by rw [Array.getElem?_toList]; exact hv)
      have calm3 : A.in1.in1.in1.handled = none := by simp [calm]
      have sz : (s.heap.push (setNew led)).objs.size = s.heap.objs.size + 1 := by rw [Heap.size_push]
      rcases at_ with at_ | at_
      · obtain ⟨⟨oc, od, odt, osl⟩, ho, hc, nl, hd⟩ := at_
        simp only at hc hd
        subst hc hd
        have ll : l < s.heap.objs.size := Heap.lt_size ho
        have ho2 := Heap.get?_push_of_some (setNew led) ho
        have u1 := PySem.F.sub_list_set
        have u2 := PySem.F.sub_list_frozenset
        have u3 : (Value.type "list" == Value.type "dict") = false := by decide
        have isl : (s.heap.push (setNew led)).IsList l items := ⟨_, ho2, rfl, nl, rfl⟩
        unfold Builtin.«set.__init__» noKeywords Builtin.Frozenset.updateFrom
        generalize hPI : pyIter = PI
        wp_walk
        subst hPI
        refine wpAny_pyIter_list isl (wpAny_bind (wpAny_runValue ?_))
        have W := (Walks.list (prog := P) (w := w) (A := A.in1.in1.in1) calm3 ((s.heap.push (setNew led)).objs.size) l (Nat.ne_of_lt (by rw [sz]; exact Nat.lt_succ_of_lt ll)) items).toS
        rw [← len] at W
        have few2 : 0 < scanBound := by unfold scanBound; omega
        refine fill_texts W (S := s.heap.objs.size) (fun z => by
          rcases List.mem_cons.mp z with z | z
          · exact absurd z (Nat.ne_of_lt (by rw [sz]; exact Nat.lt_succ_self _))
          · exact absurd (List.mem_singleton.mp z) (Nat.ne_of_gt ll)) few got (fun s' mv so => ?_) xs.length 0 _ (by omega) ⟨fun _ _ _ e => e, rfl, rfl, rfl, Nat.le_refl _⟩ ⟨⟨_, Heap.get?_push_size _ rfl, rfl, rfl⟩, isl.push _⟩ ?_
        · obtain ⟨h', g', d', tk', os'⟩ := s'
          obtain rfl : g' = s.gens := mv.gens
          obtain rfl : d' = s.drawn := mv.drawn
          obtain rfl : os' = s.os := mv.os
          refine wpAny_pure (show wpAny _ _ (ret Value.none) _ _ _ from wpAny_pure ⟨rfl, h', tk', rfl, so, fun b o hb e => mv.heap b o ?_ (Heap.get?_push_of_some _ (Heap.get?_push_of_some _ e))⟩)
          intro z
          rcases List.mem_cons.mp z with z | z
          · exact absurd z (Nat.ne_of_lt hb)
          · exact absurd (List.mem_singleton.mp z) (Nat.ne_of_lt (by rw [sz]; exact Nat.lt_succ_of_lt hb))
        · exact SetOf_congr ((setObjOf_fresh (knd := PySem.strKind P w) led).setOf (Heap.get?_push_of_some _ gS) few2) (fun _ => rfl) rfl
      · obtain ⟨⟨oc, od, odt, osl⟩, ho, hc, nl, hd⟩ := at_
        simp only at hc hd
        subst hc hd
        have ll : l < s.heap.objs.size := Heap.lt_size ho
        have ho2 := Heap.get?_push_of_some (setNew led) ho
        have u1 := PySem.F.sub_tuple_set
        have u2 := PySem.F.sub_tuple_frozenset
        have u3 : (Value.type "tuple" == Value.type "dict") = false := by decide
        have isl : (s.heap.push (setNew led)).IsTuple l items := ⟨_, ho2, rfl, nl, rfl⟩
        unfold Builtin.«set.__init__» noKeywords Builtin.Frozenset.updateFrom
        generalize hPI : pyIter = PI
        wp_walk
        subst hPI
        refine wpAny_pyIter_tuple isl (wpAny_bind (wpAny_runValue ?_))
        have W := (Walks.tuple (prog := P) (w := w) (A := A.in1.in1.in1) calm3 ((s.heap.push (setNew led)).objs.size) l (Nat.ne_of_lt (by rw [sz]; exact Nat.lt_succ_of_lt ll)) items).toS
        rw [← len] at W
        have few2 : 0 < scanBound := by unfold scanBound; omega
        refine fill_texts W (S := s.heap.objs.size) (fun z => by
          rcases List.mem_cons.mp z with z | z
          · exact absurd z (Nat.ne_of_lt (by rw [sz]; exact Nat.lt_succ_self _))
          · exact absurd (List.mem_singleton.mp z) (Nat.ne_of_gt ll)) few got (fun s' mv so => ?_) xs.length 0 _ (by omega) ⟨fun _ _ _ e => e, rfl, rfl, rfl, Nat.le_refl _⟩ ⟨⟨_, Heap.get?_push_size _ rfl, rfl, rfl⟩, isl.push _⟩ ?_
        · obtain ⟨h', g', d', tk', os'⟩ := s'
          obtain rfl : g' = s.gens := mv.gens
          obtain rfl : d' = s.drawn := mv.drawn
          obtain rfl : os' = s.os := mv.os
          refine wpAny_pure (show wpAny _ _ (ret Value.none) _ _ _ from wpAny_pure ⟨rfl, h', tk', rfl, so, fun b o hb e => mv.heap b o ?_ (Heap.get?_push_of_some _ (Heap.get?_push_of_some _ e))⟩)
          intro z
          rcases List.mem_cons.mp z with z | z
          · exact absurd z (Nat.ne_of_lt hb)
          · exact absurd (List.mem_singleton.mp z) (Nat.ne_of_lt (by rw [sz]; exact Nat.lt_succ_of_lt hb))
        · exact SetOf_congr ((setObjOf_fresh (knd := PySem.strKind P w) led).setOf (Heap.get?_push_of_some _ gS) few2) (fun _ => rfl) rfl
    · match r₂, hr₂ with
      | .error e, hr₂ => exact hr₂
      | .ok .next, hr₂ => exact hr₂.elim
      | .ok .brk, hr₂ => exact hr₂.elim
      | .ok .cont, hr₂ => exact hr₂.elim
      | .ok (.ret r), hr₂ =>
        obtain ⟨rfl, h', tk, rfl, so, k⟩ := hr₂
        repeat (any_goals (first | assumption | wp_step))
        exact q _ _ so k
end
end WW

set_option Elab.async false
set_option linter.all false
set_option maxRecDepth 100000
set_option maxHeartbeats 4000000
namespace WW
open PySem PySem.Spec PyProof.Rows L2
/-! ### len(set(e)) -/
def tLenSetT (K : PySem.W.Frag) (ta : TE) : TE := fun σ H Q => ta σ H fun x H1 => ∃ (l : Addr) (xs : List Str), x = .ref l ∧ (SqL K H1 l (xs.map V.str) ∨ SqT K H1 l (xs.map V.str)) ∧ xs.length ≤ 2000 ∧ Q (.int (unl xs xs.length)) H1
theorem pe_lenSetT {X : Cx} (K : PySem.W.Frag) {a : Expr} {ta : TE} {p p2 q pos : Pos} (calm : X.calm = true) (g1 : Gl X "len") (m1 : X.mg "len" = none) (g2 : Gl X "set") (m2 : X.mg "set" = none) (ha : PE X a ta) (hK : X.K = K := by rfl)
    (na : starEach [a] X.env = (false, eval a X.env) :: starEach [] X.env := by rfl) : PE X (.Call (.Name "len" p) [.Call (.Name "set" p2) [a] [] q] [] pos) (tLenSetT K ta) := by
  subst hK
  refine ⟨fun pins s σ H Q I h => Call_ (ld_blt I g1 m1 boot_len (PyProof.Rows.callWith_builtin1 (PyProof.Rows.args_cons (Call_ (ld_blt I g2 m2 boot_set (PyProof.Rows.callWith_type1 (PyProof.Rows.args_cons (thn (ha.run pins s σ H _ I h) fun v s1 ⟨x, H1, I1, r1, q1⟩ => PyProof.Rows.args_nil ?_) na) na rfl))) rfl) rfl rfl))⟩
  obtain ⟨l, xs, rfl, at_, le, q1⟩ := q1
  cases r1
  have few : xs.length + 1 < scanBound := by
    have : (2001 : Nat) < scanBound := by decide
    omega
  have go : ∀ (its : List Value), (s1.heap.IsList l its.toArray ∨ s1.heap.IsTuple l its.toArray) → StrsAre its xs → wpAny (model X.prog X.w) X.A (call (.type "set") [.ref l]) (fun u s2 => wpAny (model X.prog X.w) X.A (spliced (backTo pos (starEach [] X.env))) (fun vs s3 => wpAny (model X.prog X.w) X.A (call (.builtin "len") (u :: vs)) (EP X pins σ Q) X.xe s3) X.xe s2) X.xe s1 := fun its h1 h2 => by
    refine set_texts (I1.ok.hd calm) h1 (by simpa using h2) few fun h' tk so k => PyProof.Rows.args_nil ?_
    obtain ⟨o, es, ep, t, ho, hex, hd, _, _, _, hf, hn⟩ := so
    have I2 : Inv X pins σ H1 { s1 with heap := h', toks := tk } := I1.kept fun b u e => k b u (Heap.lt_size e) e
    have le2 := unl_le xs xs.length
    exact call_len_set ho hex hd hf (by rw [hn]; omega) ⟨.int (unl xs xs.length), H1, I2.tok _, ⟨_, by rw [hn]⟩, q1⟩
  rcases at_ with at_ | at_
  · obtain ⟨its, r, pl, hz⟩ := I1.list at_
    exact go its (.inl pl.isList) (strsAre_of r)
  · obtain ⟨its, r, pl, hz⟩ := I1.tuple at_
    exact go its (.inr pl) (strsAre_of r)
end WW

set_option Elab.async false
set_option linter.all false
set_option maxRecDepth 100000
set_option maxHeartbeats 4000000
namespace WW
open PySem PySem.Spec PyProof.Rows L2
/-! ### plain values as typed ones -/
instance : Enc V := ⟨fun _ _ v a => v = a, fun _ h => h⟩
theorem pair_V {K : PySem.W.Frag} {S : Hp} : ∀ xs : List V, Paired (Enc.rep K S) xs xs
  | [] => .nil
  | x :: r => .cons rfl (pair_V r)
theorem vals_V {K : PySem.W.Frag} {S : Hp} : ∀ {vs xs : List V}, Paired (Enc.rep K S) vs xs → vs = xs
  | _, _, .nil => rfl
  | _, _, .cons h r => by cases h; rw [vals_V r]
section
variable {K : PySem.W.Frag} {B : Addr → Prop} {ρ ρ' ρ1 ρ2 : List Slot} {ta tb tc te : TE} {t u : TT} {ts tu tz : TS} {Φ : Post} {i j : Int}
theorem d_vi (h : DE K B te ρ (V.int i)) : DE K B te ρ i := h
theorem d_iv (h : DE K B te ρ i) : DE K B te ρ (V.int i) := h
theorem d_nv : DE K B (tC .non) ρ V.non := fun _ _ S H _ E Q q => q _ S H (Ext.refl E.i) rfl
theorem d_bv {b : Bool} (h : DE K B te ρ b) : DE K B te ρ (V.bl b) := h
theorem d_isNV {x : V} (ha : DE K B ta ρ x) : DE K B (tOp (fun x y H Q => y = .non ∧ Q (.bl (decide (x = .non))) H) ta (tC .non)) ρ (decide (x = .non)) :=
  d_op ha d_unit fun v w S H hi r1 r2 Q q => ⟨r2, by cases r1; exact q _ S H (Ext.refl hi) rfl⟩
theorem d_notNV {x : V} (ha : DE K B ta ρ x) : DE K B (tOp (fun x y H Q => y = .non ∧ Q (.bl (!decide (x = .non))) H) ta (tC .non)) ρ (!decide (x = .non)) :=
  d_op ha d_unit fun v w S H hi r1 r2 Q q => ⟨r2, by cases r1; exact q _ S H (Ext.refl hi) rfl⟩
/-- a list of ints as one of values -/
theorem d_ivs {xs : List Int} (h : DE K B te ρ xs) : DE K B te ρ (xs.map V.int) := fun S0 H0 S H σ E Q q => h S0 H0 S H σ E _ fun v S1 H1 e1 ⟨hl, p, vs, e, hh, r⟩ => q v S1 H1 e1 ⟨by rw [List.length_map]; exact hl, p, vs, e, hh, by rw [vals_int r]; exact pair_V _⟩
end
end WW

set_option Elab.async false
set_option linter.all false
set_option maxRecDepth 100000
set_option maxHeartbeats 4000000
namespace WW
open PySem PySem.Spec PyProof.Rows L2
/-! ### any plain values, nested -/
inductive AV where
  | non
  | bl (b : Bool)
  | int (i : Int)
  | str (z : Str)
  | lst (xs : List AV)
  | tup (xs : List AV)
mutual
def AV.rep (K : PySem.W.Frag) (S : Hp) (v : V) : AV → Prop
  | .non => v = .non
  | .bl b => v = .bl b
  | .int i => v = .int i
  | .str z => v = .str z
  | .lst xs => xs.length ≤ BIG ∧ ∃ p vs, v = .ref p ∧ S p = some (.lst vs) ∧ AV.reps K S vs xs
  | .tup xs => xs.length ≤ BIG ∧ ∃ p vs, v = .ref p ∧ SqT K S p vs ∧ AV.reps K S vs xs
def AV.reps (K : PySem.W.Frag) (S : Hp) (vs : List V) : List AV → Prop
  | [] => vs = []
  | x :: r => ∃ v us, vs = v :: us ∧ AV.rep K S v x ∧ AV.reps K S us r
end
theorem AV.pr {K : PySem.W.Frag} {S : Hp} : ∀ {xs : List AV} {vs : List V}, AV.reps K S vs xs ↔ Paired (AV.rep K S) vs xs
  | [], vs => by
    rw [AV.reps]
    exact ⟨fun h => by subst h; exact .nil, fun h => by cases h; rfl⟩
  | x :: r, vs => by
    rw [AV.reps]
    constructor
    · rintro ⟨v, us, rfl, h1, h2⟩
      exact .cons h1 (AV.pr.mp h2)
    · intro h
      cases h with
      | cons h1 h2 => exact ⟨_, _, rfl, h1, AV.pr.mpr h2⟩
mutual
theorem AV.mono {K : PySem.W.Frag} {S S' : Hp} (e : Same S S') : ∀ {v : V} (a : AV), AV.rep K S v a → AV.rep K S' v a
  | v, .non, h => by rw [AV.rep] at h ⊢; exact h
  | v, .bl b, h => by rw [AV.rep] at h ⊢; exact h
  | v, .int b, h => by rw [AV.rep] at h ⊢; exact h
  | v, .str b, h => by rw [AV.rep] at h ⊢; exact h
  | v, .lst xs, h => by
    rw [AV.rep] at h ⊢
    obtain ⟨hl, p, vs, r, hq, hp⟩ := h
    exact ⟨hl, p, vs, r, e _ _ hq, AV.monos e xs hp⟩
  | v, .tup xs, h => by
    rw [AV.rep] at h ⊢
    obtain ⟨hl, p, vs, r, hq, hp⟩ := h
    exact ⟨hl, p, vs, r, Evl.ex_t e hq, AV.monos e xs hp⟩
theorem AV.monos {K : PySem.W.Frag} {S S' : Hp} (e : Same S S') : ∀ {vs : List V} (xs : List AV), AV.reps K S vs xs → AV.reps K S' vs xs
  | vs, [], h => by rw [AV.reps] at h ⊢; exact h
  | vs, x :: r, h => by
    rw [AV.reps] at h ⊢
    obtain ⟨v, us, e1, h1, h2⟩ := h
    exact ⟨v, us, e1, AV.mono e x h1, AV.monos e r h2⟩
end
instance : Enc AV := ⟨AV.rep, fun e h => AV.mono e _ h⟩
/-- what is not at p stays so when p, a dict, is changed -/
theorem sqT_upd {K : PySem.W.Frag} {S : Hp} {p q : Addr} {o : HO} {kvs : List (Key × V)} {vs : List V} (hp : S p = some (.dK kvs)) (h : SqT K S q vs) : SqT K (upd S p o) q vs := by
  have ne : ∀ {u}, S q = some u → (∀ l, u ≠ .dK l) → q ≠ p := fun {u} h1 h2 e => by
    rw [e, hp] at h1
    cases h1
    exact h2 _ rfl
  rcases h with (h | ⟨u, h⟩) | h
  · exact .inl (.inl (by rw [upd_ne (ne h fun _ z => nomatch z)]; exact h))
  · exact .inl (.inr ⟨u, by rw [upd_ne (ne h fun _ z => nomatch z)]; exact h⟩)
  · exact .inr h
mutual
theorem AV.updD {K : PySem.W.Frag} {S : Hp} {p : Addr} {o : HO} {kvs : List (Key × V)} (hp : S p = some (.dK kvs)) : ∀ {v : V} (a : AV), AV.rep K S v a → AV.rep K (upd S p o) v a
  | v, .non, h => by rw [AV.rep] at h ⊢; exact h
  | v, .bl b, h => by rw [AV.rep] at h ⊢; exact h
  | v, .int b, h => by rw [AV.rep] at h ⊢; exact h
  | v, .str b, h => by rw [AV.rep] at h ⊢; exact h
  | v, .lst xs, h => by
    rw [AV.rep] at h ⊢
    obtain ⟨hl, q, vs, r, hq, hr⟩ := h
    exact ⟨hl, q, vs, r, by rw [upd_ne (fun e => by rw [e, hp] at hq; cases hq)]; exact hq, AV.updDs hp xs hr⟩
  | v, .tup xs, h => by
    rw [AV.rep] at h ⊢
    obtain ⟨hl, q, vs, r, hq, hr⟩ := h
    exact ⟨hl, q, vs, r, sqT_upd hp hq, AV.updDs hp xs hr⟩
theorem AV.updDs {K : PySem.W.Frag} {S : Hp} {p : Addr} {o : HO} {kvs : List (Key × V)} (hp : S p = some (.dK kvs)) : ∀ {vs : List V} (xs : List AV), AV.reps K S vs xs → AV.reps K (upd S p o) vs xs
  | vs, [], h => by rw [AV.reps] at h ⊢; exact h
  | vs, x :: r, h => by
    rw [AV.reps] at h ⊢
    obtain ⟨v, us, e1, h1, h2⟩ := h
    exact ⟨v, us, e1, AV.updD hp x h1, AV.updDs hp r h2⟩
end
/-! ### four things -/
structure T4 (α β γ δ : Type) where
  a : α
  b : β
  c : γ
  d : δ
instance {α β γ δ : Type} [Enc α] [Enc β] [Enc γ] [Enc δ] : Enc (T4 α β γ δ) where
  rep K S v t := ∃ p v1 v2 v3 v4, v = .ref p ∧ SqT K S p [v1, v2, v3, v4] ∧ Enc.rep K S v1 t.a ∧ Enc.rep K S v2 t.b ∧ Enc.rep K S v3 t.c ∧ Enc.rep K S v4 t.d
  mono e h := by
    obtain ⟨p, v1, v2, v3, v4, r, hq, h1, h2, h3, h4⟩ := h
    exact ⟨p, v1, v2, v3, v4, r, Evl.ex_t e hq, Enc.mono e h1, Enc.mono e h2, Enc.mono e h3, Enc.mono e h4⟩
/-! ### typed values as plain ones -/
class IsAV (α : Type) [Enc α] where
  av : α → AV
  iff : ∀ {K : PySem.W.Frag} {S : Hp} {v : V} {a : α}, AV.rep K S v (av a) ↔ Enc.rep K S v a
instance : IsAV AV := ⟨id, Iff.rfl⟩
instance : IsAV Int := ⟨.int, by intro K S v a; show AV.rep K S v (.int a) ↔ v = .int a; rw [AV.rep]⟩
instance : IsAV Bool := ⟨.bl, by intro K S v a; show AV.rep K S v (.bl a) ↔ v = .bl a; rw [AV.rep]⟩
instance : IsAV Str := ⟨.str, by intro K S v a; show AV.rep K S v (.str a) ↔ v = .str a; rw [AV.rep]⟩
theorem av_pair {α : Type} [Enc α] [i : IsAV α] {K : PySem.W.Frag} {S : Hp} : ∀ {xs : List α} {vs : List V}, Paired (AV.rep K S) vs (xs.map i.av) ↔ Paired (Enc.rep K S) vs xs
  | [], vs => by
    rw [List.map_nil]
    exact ⟨fun h => by cases h; exact .nil, fun h => by cases h; exact .nil⟩
  | x :: r, vs => by
    rw [List.map_cons]
    constructor
    · intro h
      cases h with
      | cons h1 h2 => exact .cons (i.iff.mp h1) (av_pair.mp h2)
    · intro h
      cases h with
      | cons h1 h2 => exact .cons (i.iff.mpr h1) (av_pair.mpr h2)
instance {α : Type} [Enc α] [i : IsAV α] : IsAV (L α) where
  av xs := .lst (List.map i.av xs)
  iff {K S v a} := by
    rw [AV.rep]
    have ll : (List.map i.av a).length = List.length a := List.length_map ..
    constructor
    · rintro ⟨hl, p, vs, e, hq, r⟩
      exact ⟨Nat.le_trans (Nat.le_of_eq ll.symm) hl, p, vs, e, hq, av_pair.mp (AV.pr.mp r)⟩
    · rintro ⟨hl, p, vs, e, hq, r⟩
      exact ⟨Nat.le_trans (Nat.le_of_eq ll) hl, p, vs, e, hq, AV.pr.mpr (av_pair.mpr r)⟩
instance {α : Type} [Enc α] [i : IsAV α] : IsAV (U α) where
  av xs := .tup (List.map i.av xs)
  iff {K S v a} := by
    rw [AV.rep]
    have ll : (List.map i.av a).length = List.length a := List.length_map ..
    constructor
    · rintro ⟨hl, p, vs, e, hq, r⟩
      exact ⟨Nat.le_trans (Nat.le_of_eq ll.symm) hl, p, vs, e, hq, av_pair.mp (AV.pr.mp r)⟩
    · rintro ⟨hl, p, vs, e, hq, r⟩
      exact ⟨Nat.le_trans (Nat.le_of_eq ll) hl, p, vs, e, hq, AV.pr.mpr (av_pair.mpr r)⟩
instance {α β : Type} [Enc α] [Enc β] [i : IsAV α] [j : IsAV β] : IsAV (α × β) where
  av t := .tup [i.av t.1, j.av t.2]
  iff {K S v a} := by
    rw [AV.rep]
    simp only [AV.reps, i.iff, j.iff]
    constructor
    · rintro ⟨_, p, vs, rfl, hq, v1, u1, rfl, h1, v2, u2, rfl, h2, rfl⟩
      exact ⟨p, v1, v2, rfl, hq, h1, h2⟩
    · rintro ⟨p, v1, v2, rfl, hq, h1, h2⟩
      exact ⟨by show 2 ≤ BIG; decide, p, _, rfl, hq, v1, _, rfl, h1, v2, _, rfl, h2, rfl⟩
instance {α β γ : Type} [Enc α] [Enc β] [Enc γ] [i : IsAV α] [j : IsAV β] [k : IsAV γ] : IsAV (T3 α β γ) where
  av t := .tup [i.av t.a, j.av t.b, k.av t.c]
  iff {K S v a} := by
    rw [AV.rep]
    simp only [AV.reps, i.iff, j.iff, k.iff]
    constructor
    · rintro ⟨_, p, vs, rfl, hq, v1, u1, rfl, h1, v2, u2, rfl, h2, v3, u3, rfl, h3, rfl⟩
      exact ⟨p, v1, v2, v3, rfl, hq, h1, h2, h3⟩
    · rintro ⟨p, v1, v2, v3, rfl, hq, h1, h2, h3⟩
      exact ⟨by show 3 ≤ BIG; decide, p, _, rfl, hq, v1, _, rfl, h1, v2, _, rfl, h2, v3, _, rfl, h3, rfl⟩
instance {α β γ δ : Type} [Enc α] [Enc β] [Enc γ] [Enc δ] [i : IsAV α] [j : IsAV β] [k : IsAV γ] [l : IsAV δ] : IsAV (T4 α β γ δ) where
  av t := .tup [i.av t.a, j.av t.b, k.av t.c, l.av t.d]
  iff {K S v a} := by
    rw [AV.rep]
    simp only [AV.reps, i.iff, j.iff, k.iff, l.iff]
    constructor
    · rintro ⟨_, p, vs, rfl, hq, v1, u1, rfl, h1, v2, u2, rfl, h2, v3, u3, rfl, h3, v4, u4, rfl, h4, rfl⟩
      exact ⟨p, v1, v2, v3, v4, rfl, hq, h1, h2, h3, h4⟩
    · rintro ⟨p, v1, v2, v3, v4, rfl, hq, h1, h2, h3, h4⟩
      exact ⟨by show 4 ≤ BIG; decide, p, _, rfl, hq, v1, _, rfl, h1, v2, _, rfl, h2, v3, _, rfl, h3, v4, _, rfl, h4, rfl⟩
theorem inV_str (z : Str) : ∀ ws : List Str, inV (.str z) (ws.map V.str) = decide (z ∈ ws) := fun ws => by
  unfold inV
  rw [List.any_map, Bool.eq_iff_iff, List.any_eq_true, decide_eq_true_iff]
  constructor
  · rintro ⟨y, hy, e⟩
    have e : (y == z) = true := e
    rwa [← beq_iff_eq.mp e]
  · exact fun h => ⟨z, h, (beq_self_eq_true z : (z == z) = true)⟩
/-! ### what they are -/
def AV.tn : AV → String
  | .non => "NoneType"
  | .bl _ => "bool"
  | .int _ => "int"
  | .str _ => "str"
  | .lst _ => "list"
  | .tup _ => "tuple"
def AV.isStr : AV → Bool
  | .str _ => true
  | _ => false
def AV.isTup : AV → Bool
  | .tup _ => true
  | _ => false
def AV.isInt : AV → Bool
  | .int _ => true
  | _ => false
def AV.isNum : AV → Bool
  | .int i => decide (0 ≤ i)
  | _ => false
def AV.isSeq : AV → Bool
  | .lst _ => true
  | .tup _ => true
  | _ => false
def AV.items : AV → List AV
  | .lst xs => xs
  | .tup xs => xs
  | _ => []
def AV.txt : AV → Str
  | .str z => z
  | _ => Str.empty
def AV.num : AV → Int
  | .int i => i
  | _ => 0
mutual
def AV.sm : AV → Bool
  | .str z => decide (z.length ≤ 1000)
  | .lst xs => decide (xs.length ≤ 1000) && AV.sms xs
  | .tup xs => decide (xs.length ≤ 1000) && AV.sms xs
  | _ => true
def AV.sms : List AV → Bool
  | [] => true
  | x :: r => AV.sm x && AV.sms r
end
theorem AV.sms_iff : ∀ {xs : List AV}, AV.sms xs = true ↔ ∀ x ∈ xs, x.sm = true
  | [] => by simp [AV.sms]
  | x :: r => by rw [AV.sms, Bool.and_eq_true, AV.sms_iff]; simp
theorem AV.sm_items {a : AV} (h : a.sm = true) : a.items.length ≤ 1000 ∧ ∀ x ∈ a.items, x.sm = true := by
  cases a with
  | lst xs =>
    rw [AV.sm, Bool.and_eq_true, AV.sms_iff] at h
    exact ⟨of_decide_eq_true h.1, h.2⟩
  | tup xs =>
    rw [AV.sm, Bool.and_eq_true, AV.sms_iff] at h
    exact ⟨of_decide_eq_true h.1, h.2⟩
  | _ => exact ⟨by show 0 ≤ 1000; decide, fun x hx => nomatch hx⟩
theorem AV.sm_txt {a : AV} (h : a.sm = true) : a.txt.length ≤ 1000 := by
  cases a with
  | str z =>
    rw [AV.sm] at h
    exact of_decide_eq_true h
  | _ => show 0 ≤ 1000; decide
theorem AV.ty {K : PySem.W.Frag} {S : Hp} {v : V} : ∀ {a : AV}, AV.rep K S v a → TyX K S v (.type a.tn)
  | .non, h => by rw [AV.rep] at h; subst h; exact .base .non
  | .bl b, h => by rw [AV.rep] at h; subst h; exact .base (.bl b)
  | .int b, h => by rw [AV.rep] at h; subst h; exact .base (.int b)
  | .str b, h => by rw [AV.rep] at h; subst h; exact .base (.str b)
  | .lst xs, h => by rw [AV.rep] at h; obtain ⟨_, p, vs, rfl, hh, _⟩ := h; exact .base (.lst hh)
  | .tup xs, h => by rw [AV.rep] at h; obtain ⟨_, p, vs, rfl, hh, _⟩ := h; exact ty_t hh
instance : TyE AV := ⟨AV.tn, fun h => AV.ty h⟩
theorem AV.hasT {K : PySem.W.Frag} {S : Hp} {v : V} : ∀ {a : AV}, AV.rep K S v a → HasT K S v a.isSeq
  | .non, h => by rw [AV.rep] at h; subst h; exact hasT_non
  | .bl b, h => by rw [AV.rep] at h; subst h; exact hasT_bl b
  | .int b, h => by rw [AV.rep] at h; subst h; exact hasT_int b
  | .str b, h => by rw [AV.rep] at h; subst h; exact hasT_str b
  | .lst xs, h => by rw [AV.rep] at h; obtain ⟨_, p, vs, rfl, hh, _⟩ := h; exact Sq.hasT (.l hh)
  | .tup xs, h => by rw [AV.rep] at h; obtain ⟨_, p, vs, rfl, hh, _⟩ := h; exact Sq.hasT (.inr hh)
section
variable {K : PySem.W.Frag} {B : Addr → Prop} {ρ ρ' ρ1 ρ2 : List Slot} {ta tb tc td te : TE} {t u : TT} {ts tu tz : TS} {Φ : Post} {α β γ δ : Type} {e_α : Enc α} {e_β : Enc β} {e_γ : Enc γ} {e_δ : Enc δ} {a : α} {b : β} {i j : Int} {x : AV}
theorem DE.conv {a : α} {b : β} (h : DE K B te ρ a) (f : ∀ S v, Enc.rep K S v a → Enc.rep K S v b) : DE K B te ρ b := fun S0 H0 S H σ E Q q => h S0 H0 S H σ E Q fun v S1 H1 e r => q v S1 H1 e (f _ _ r)
theorem DN.conv {P : α → Prop} {P' : β → Prop} (h : DN K B te ρ P) (f : ∀ a, P a → ∃ b, P' b ∧ ∀ S v, Enc.rep K S v a → Enc.rep K S v b) : DN K B te ρ P' := fun S0 H0 S H σ E Q q => h S0 H0 S H σ E Q fun v a S1 H1 pa e r => by
  obtain ⟨b, pb, g⟩ := f a pa
  exact q v b S1 H1 pb e (g _ _ r)
theorem d_av [s : IsAV α] (h : DE K B te ρ a) : DE K B te ρ (s.av a) := h.conv fun _ _ r => s.iff.mpr r
theorem d_va [s : IsAV α] (h : DE K B te ρ (s.av a)) : DE K B te ρ a := h.conv fun _ _ r => s.iff.mp r
theorem dn_av [s : IsAV α] {P : α → Prop} (h : DN K B te ρ P) : DN K B te ρ (fun b : AV => ∃ a, P a ∧ b = s.av a) := h.conv fun a pa => ⟨s.av a, ⟨a, pa, rfl⟩, fun _ _ r => s.iff.mpr r⟩
theorem d_avS {z : Str} (h : DE K B te ρ z) : DE K B te ρ (AV.str z) := d_av h
theorem d_avI (h : DE K B te ρ i) : DE K B te ρ (AV.int i) := d_av h
theorem d_avB {b : Bool} (h : DE K B te ρ b) : DE K B te ρ (AV.bl b) := d_av h
theorem d_chLeLe {k : Int} (ha : DE K B ta ρ i) (hb : DE K B tb ρ j) (hc : DE K B tc ρ k) : DE K B (tChain (rI0 fun i j => .bl (decide (i ≤ j))) (rI0 fun i j => .bl (decide (i ≤ j))) ta tb tc) ρ (decide (i ≤ j) && decide (j ≤ k)) :=
  d_chain ha hb (fun _ => hc) (fun v w S H _ h1 h2 Q q => ⟨i, j, h1, h2, q⟩) fun v w S H _ h1 h2 Q q => ⟨j, k, h1, h2, q⟩
theorem d_avN : DE K B (tC .non) ρ AV.non := fun _ _ S H _ E Q q => q _ S H (Ext.refl E.i) (by show AV.rep K S _ .non; rw [AV.rep])
theorem d_asStrA (h : DE K B te ρ x) (hs : x.isStr = true) : DE K B te ρ x.txt := h.conv fun S v r => by
  cases x with
  | str z => exact IsAV.iff.mp r
  | _ => cases hs
theorem d_asInt (h : DE K B te ρ x) (hs : x.isInt = true) : DE K B te ρ x.num := h.conv fun S v r => by
  cases x with
  | int z => exact IsAV.iff.mp r
  | _ => cases hs
theorem d_asSeq (h : DE K B te ρ x) (hs : x.isSeq = true) : DE K B te ρ x.items := h.conv fun S v r => by
  have r : AV.rep K S v x := r
  cases x with
  | lst xs =>
    rw [AV.rep] at r
    obtain ⟨hl, p, vs, e, hq, r⟩ := r
    exact ⟨hl, p, vs, e, .l hq, AV.pr.mp r⟩
  | tup xs =>
    rw [AV.rep] at r
    obtain ⟨hl, p, vs, e, hq, r⟩ := r
    exact ⟨hl, p, vs, e, .inr hq, AV.pr.mp r⟩
  | _ => cases hs
theorem d_isA {nm : String} {r : AV → Bool} (h : DE K B te ρ x) (hk : ∀ y : AV, L2.kitB y.tn nm = some (r y)) : DE K B (tCB (rIsi K) (tCons te (tCons (tC (.ty nm)) tNil))) ρ (r x) := d_isi h inferInstance (hk x)
def AV.isBl : AV → Bool
  | .bl _ => true
  | _ => false
theorem kit_str : ∀ y : AV, L2.kitB y.tn "str" = some y.isStr
  | .non => (by decide +kernel : L2.kitB "NoneType" "str" = some false)
  | .bl _ => (by decide +kernel : L2.kitB "bool" "str" = some false)
  | .int _ => (by decide +kernel : L2.kitB "int" "str" = some false)
  | .str _ => (by decide +kernel : L2.kitB "str" "str" = some true)
  | .lst _ => (by decide +kernel : L2.kitB "list" "str" = some false)
  | .tup _ => (by decide +kernel : L2.kitB "tuple" "str" = some false)
theorem kit_tup : ∀ y : AV, L2.kitB y.tn "tuple" = some y.isTup
  | .non => (by decide +kernel : L2.kitB "NoneType" "tuple" = some false)
  | .bl _ => (by decide +kernel : L2.kitB "bool" "tuple" = some false)
  | .int _ => (by decide +kernel : L2.kitB "int" "tuple" = some false)
  | .str _ => (by decide +kernel : L2.kitB "str" "tuple" = some false)
  | .lst _ => (by decide +kernel : L2.kitB "list" "tuple" = some false)
  | .tup _ => (by decide +kernel : L2.kitB "tuple" "tuple" = some true)
theorem kit_int : ∀ y : AV, L2.kitB y.tn "int" = some (y.isInt || y.isBl)
  | .non => (by decide +kernel : L2.kitB "NoneType" "int" = some false)
  | .bl _ => (by decide +kernel : L2.kitB "bool" "int" = some true)
  | .int _ => (by decide +kernel : L2.kitB "int" "int" = some true)
  | .str _ => (by decide +kernel : L2.kitB "str" "int" = some false)
  | .lst _ => (by decide +kernel : L2.kitB "list" "int" = some false)
  | .tup _ => (by decide +kernel : L2.kitB "tuple" "int" = some false)
theorem kit_bool : ∀ y : AV, L2.kitB y.tn "bool" = some y.isBl
  | .non => (by decide +kernel : L2.kitB "NoneType" "bool" = some false)
  | .bl _ => (by decide +kernel : L2.kitB "bool" "bool" = some true)
  | .int _ => (by decide +kernel : L2.kitB "int" "bool" = some false)
  | .str _ => (by decide +kernel : L2.kitB "str" "bool" = some false)
  | .lst _ => (by decide +kernel : L2.kitB "list" "bool" = some false)
  | .tup _ => (by decide +kernel : L2.kitB "tuple" "bool" = some false)
/-- isinstance(x, (list, tuple)) -/
theorem d_isSeqA (h : DE K B te ρ x) : DE K B (tCB (rIsiT K) (tCons te (tCons (tTup (tCons (tC (.ty "list")) (tCons (tC (.ty "tuple")) tNil))) tNil))) ρ x.isSeq := fun S0 H0 S H σ E Q q =>
  h S0 H0 S H σ E _ fun v S1 H1 e1 r => ⟨by show 2 ≤ sizeLine; decide, fun w hw => by
    obtain ⟨t, b1, b2, ty, k1, k2, z, k3⟩ := AV.hasT r
    exact ⟨_, w, _, t, _, _, rfl, upd_same, .cons (.ty "list") (.cons (.ty "tuple") .nil), tyx_same (e1.i.trans (same_new hw)) ty, k3, q _ S1 _ (e1.trans (Ext.grow e1.i (same_new hw))) rfl⟩⟩
/-- isinstance(x, int) and not isinstance(x, bool) -/
theorem d_isIntA (h : DE K B te ρ x) : DE K B (tAndV (tCB (rIsi K) (tCons te (tCons (tC (.ty "int")) tNil))) (tNotV (tCB (rIsi K) (tCons te (tCons (tC (.ty "bool")) tNil))))) ρ x.isInt := by
  refine DE.is (d_andV (d_isA h kit_int) fun _ => d_notV (d_isA h kit_bool)) ?_
  cases x <;> rfl
/-! ### texts in lists -/
theorem d_inS {z : Str} {ws : List Str} (h1 : DE K B ta ρ z) (h2 : DE K B tb ρ ws) : DE K B (tOp (rIn K false) ta tb) ρ (decide (z ∈ ws)) :=
  d_op h1 h2 fun x y S H i r1 ⟨hl, p, vs, e, hq, r⟩ Q q => by
    cases r1
    cases vals_str r
    refine ⟨p, _, e, hq.ex i, rfl, ?_, ?_⟩
    · rw [List.all_map]
      exact List.all_eq_true.mpr fun _ _ => rfl
    · have e : inV (.str z) (ws.map V.str) = decide (z ∈ ws) := inV_str z ws
      rw [e]
      exact q _ S H (Ext.refl i) rfl
theorem d_notInS {z : Str} {ws : List Str} (h1 : DE K B ta ρ z) (h2 : DE K B tb ρ ws) : DE K B (tOp (rIn K true) ta tb) ρ (!decide (z ∈ ws)) :=
  d_op h1 h2 fun x y S H i r1 ⟨hl, p, vs, e, hq, r⟩ Q q => by
    cases r1
    cases vals_str r
    refine ⟨p, _, e, hq.ex i, rfl, ?_, ?_⟩
    · rw [List.all_map]
      exact List.all_eq_true.mpr fun _ _ => rfl
    · have e : inV (.str z) (ws.map V.str) = decide (z ∈ ws) := inV_str z ws
      rw [e]
      exact q _ S H (Ext.refl i) rfl
/-- len(set(xs)) -/
theorem d_lenSet {ws : List Str} (h : DE K B te ρ ws) (hl : ws.length ≤ 2000) : DE K B (tLenSetT K te) ρ (unl ws ws.length : Int) := fun S0 H0 S H σ E Q q =>
  h S0 H0 S H σ E _ fun v S1 H1 e1 ⟨_, p, vs, e, hq, r⟩ => by
    cases vals_str r
    exact ⟨p, ws, e, hq.ex e1.i, hl, q _ S1 H1 e1 rfl⟩
/-- s.partition(t) -/
theorem d_partition {y z : Str} (h1 : DE K B ta ρ y) (h2 : DE K B tb ρ z) (hz : (z.length == 0) = false) (hy : y.length ≤ BIG) : DE K B (tM1 (fun x xs H Q => ∃ a b, x = .str a ∧ xs = [.str b] ∧ (b.length == 0) = false ∧ a.length ≤ sizeLine ∧ ∀ p, H p = none → Q (.ref p) (upd H p (.tup [.str (Txt.partition a b).1, .str (Txt.partition a b).2.1, .str (Txt.partition a b).2.2]))) ta tb) ρ (T3.mk (Txt.partition y z).1 (Txt.partition y z).2.1 (Txt.partition y z).2.2) := fun S0 H0 S H σ E Q q =>
  h1 S0 H0 S H σ E _ fun v S1 H1 e1 r1 => by
    cases r1
    refine ⟨⟨y, rfl⟩, h2 S0 H0 S1 H1 σ (E.go e1) _ fun w S2 H2 e2 r2 => ?_⟩
    cases r2
    refine ⟨y, z, rfl, rfl, hz, Nat.le_trans hy big_line, fun p hp => ?_⟩
    have e3 : Ext B S2 H2 (upd S2 p (.tup [.str (Txt.partition y z).1, .str (Txt.partition y z).2.1, .str (Txt.partition y z).2.2])) (upd H2 p (.tup [.str (Txt.partition y z).1, .str (Txt.partition y z).2.1, .str (Txt.partition y z).2.2])) := Ext.new e2.i hp
    exact q _ _ _ ((e1.trans e2).trans e3) ⟨p, _, _, _, rfl, .inl (.inl upd_same), rfl, rfl, rfl⟩
/-! ### four things -/
theorem d_quad {a : α} {b : β} {c : γ} {d : δ} (ha : DE K B ta ρ a) (hb : DE K B tb ρ b) (hc : DE K B tc ρ c) (hd : DE K B td ρ d) : DE K B (tTup (tCons ta (tCons tb (tCons tc (tCons td tNil))))) ρ (T4.mk a b c d) := fun S0 H0 S H σ E Q q =>
  ha S0 H0 S H σ E _ fun x S1 H1 e1 r1 => hb S0 H0 S1 H1 σ (E.go e1) _ fun y S2 H2 e2 r2 => hc S0 H0 S2 H2 σ (E.go (e1.trans e2)) _ fun z S3 H3 e3 r3 => hd S0 H0 S3 H3 σ (E.go ((e1.trans e2).trans e3)) _ fun w S4 H4 e4 r4 => ⟨by show 4 ≤ sizeLine; decide, fun p hp => by
    have e5 : Ext B S4 H4 (upd S4 p (.tup [x, y, z, w])) (upd H4 p (.tup [x, y, z, w])) := Ext.new e4.i hp
    exact q _ _ _ ((((e1.trans e2).trans e3).trans e4).trans e5) ⟨p, x, y, z, w, rfl, .inl (.inl upd_same), Enc.mono (((e2.s.trans e3.s).trans e4.s).trans e5.s) r1, Enc.mono ((e3.s.trans e4.s).trans e5.s) r2, Enc.mono (e4.s.trans e5.s) r3, Enc.mono e5.s r4⟩⟩
end
end WW

set_option Elab.async false
set_option linter.all false
set_option maxRecDepth 100000
set_option maxHeartbeats 4000000
namespace WW
open PySem PySem.Spec PyProof.Rows L2
/-! ### the older promises, typed -/
theorem FnAt.imp {P : Program} {w : World} {K : PySem.W.Frag} {mg : Str → Option Value} {base : Heap} {CX : CXT} {k : Nat} {x : Str} {ps : List Str} {sp sp' : Sp} (F : FnAt P w K mg base CX k x ps sp) (h : ∀ vs H Q E, sp' vs H Q E → sp vs H Q E) : FnAt P w K mg base CX k x ps sp' := by
  obtain ⟨⟨fd, F1, b⟩, kp, g⟩ := F
  exact ⟨⟨fd, F1.imp h, b⟩, kp, g⟩
section
variable {B : Addr → Prop} {S H : Hp} {b : Addr}
theorem Ext.box {x y z : Int} (i : Same S H) (hb : B b) (s : S b = none) : Ext B S H S (upd H b (bx x y z)) := by
  refine ⟨Same.refl S, fun a o ha => ?_, fun a h1 h2 => ⟨h1, ?_⟩⟩
  · have n : a ≠ b := fun e => by rw [e, s] at ha; cases ha
    rw [upd_ne n]
    exact i _ _ ha
  · by_cases e : a = b
    · subst e
      exact .inr ⟨hb, x, y, z, upd_same⟩
    · exact .inl (upd_ne e)
end
section
variable {K : PySem.W.Frag}
abbrev dpTake : List Slot → (Slot → Prop) → Prop := dpb1 (fun m : Int => 0 < m ∧ m < 1073741824) (fun m (c : Int) => 0 ≤ c ∧ c < m)
theorem imp_take (vs : List V) (H : Hp) (Q : VK) (E : XK) (h : spT K dpTake vs H Q E) : spTake vs H Q E := by
  obtain ⟨B, S, ss, R, i, hb, ar, ⟨m, rfl, ⟨m0, m1⟩, r⟩, q⟩ := h
  cases ar with
  | cons h1 h2 h3 =>
    cases h3 with
    | cons k1 k2 k3 =>
      cases k3
      obtain ⟨p, rfl, bp⟩ := h1
      cases k1
      obtain ⟨sn, bx⟩ := hb p bp
      exact ⟨p, m, rfl, bx, m0, m1, fun x y z d d0 d1 => q (.val d) _ S _ (r d ⟨d0, d1⟩) (Ext.box i bp sn) rfl⟩
abbrev dpPick (α : Type) [Enc α] : List Slot → (Slot → Prop) → Prop := dpb1 (fun xs : L α => 0 < List.length xs ∧ List.length xs < 1000) (fun (xs : L α) (c : α) => List.Mem c xs)
theorem paired_mem {α : Type} {r : V → α → Prop} : ∀ {vs : List V} {xs : List α}, Paired r vs xs → ∀ v ∈ vs, ∃ x, x ∈ xs ∧ r v x
  | _, _, .nil, v, h => nomatch h
  | _, _, .cons h t, v, hm => by
    rcases List.mem_cons.mp hm with rfl | hm
    · exact ⟨_, List.mem_cons_self, h⟩
    · obtain ⟨x, h1, h2⟩ := paired_mem t v hm
      exact ⟨x, List.mem_cons_of_mem _ h1, h2⟩
theorem imp_pick {α : Type} [Enc α] (vs : List V) (H : Hp) (Q : VK) (E : XK) (h : spT K (dpPick α) vs H Q E) : spPick K vs H Q E := by
  obtain ⟨B, S, ss, R, i, hb, ar, ⟨xs, rfl, ⟨m0, m1⟩, r⟩, q⟩ := h
  cases ar with
  | cons h1 h2 h3 =>
    cases h3 with
    | cons k1 k2 k3 =>
      cases k3
      obtain ⟨p, rfl, bp⟩ := h1
      obtain ⟨_, l, ws, rfl, hh, pr⟩ := k1
      obtain ⟨sn, bx⟩ := hb p bp
      have hl := pr.length
      refine ⟨p, l, ws, rfl, bx, Sq.l (i _ _ hh), ?_, by omega, by omega, fun x y z v hv => ?_⟩
      · intro e
        subst e
        rw [sn] at hh
        cases hh
      · obtain ⟨c, c1, c2⟩ := paired_mem pr v hv
        exact q (.val c) v S _ (r c c1) (Ext.box i bp sn) c2
end
/-! ### the law's script, and a box made by the def itself -/
structure Scr where
  ns : List Int
instance : Enc Scr where
  rep K S v x := ∃ a, v = .ref a ∧ SqL K S a (x.ns.map V.int)
  mono e h := by
    obtain ⟨a, z, h⟩ := h
    exact ⟨a, z, Evl.ex_l e h⟩
section
variable {K : PySem.W.Frag} {B : Addr → Prop} {ρ : List Slot} {ta tb te : TE} {tz : TS} {Φ : Post} {S0 H0 S H S1 H1 : Hp} {σ : L2.St}
theorem pair_int {S : Hp} : ∀ ns : List Int, Paired (Enc.rep K S) (ns.map V.int) ns
  | [] => .nil
  | _ :: r => .cons rfl (pair_int r)
theorem d_scr {x : Scr} (h : DE K B te ρ x) (hl : x.ns.length ≤ BIG) : DE K B te ρ x.ns := fun S0 H0 S H σ E Q q =>
  h S0 H0 S H σ E Q fun v S1 H1 e ⟨a, z, r⟩ => q v S1 H1 e ⟨hl, a, _, z, .inl r, pair_int _⟩
theorem SlotOk.unbox {p : Addr} {o : Option V} {s : Slot} (h : SlotOk K (fun q => q = p ∨ B q) H1 S H o s) (fr : ∀ a, H1 a = none → H0 a = none) : SlotOk K B H0 S H o s.unbox := by
  cases s with
  | no => cases o <;> trivial
  | box => cases o <;> trivial
  | val a =>
    cases o with
    | none => exact h
    | some v => exact h
  | obj P =>
    cases o with
    | none => exact h
    | some v =>
      obtain ⟨q, vs, e, f, r⟩ := h
      exact ⟨q, vs, e, fr q f, r⟩
  | out P => cases o <;> trivial
theorem Ext.unbox {p : Addr} (i0 : Same S0 H0) (e1 : Ext B S0 H0 S H) (hp : H0 p = none) (e2 : Ext (fun q => q = p ∨ B q) S H S1 H1) : Ext B S0 H0 S1 H1 := by
  refine ⟨e1.s.trans e2.s, e2.i, fun a h1 h2 => ?_⟩
  obtain ⟨q1, q2⟩ := e1.p a h1 h2
  have ha : H a ≠ none := by
    rcases q2 with q2 | ⟨_, x, y, z, q2⟩
    · rw [q2]; exact h2
    · rw [q2]; exact fun z => nomatch z
  obtain ⟨r1, r2⟩ := e2.p a q1 ha
  refine ⟨r1, ?_⟩
  rcases r2 with r2 | ⟨rb | rb, r3⟩
  · rcases q2 with q2 | ⟨qb, q2⟩
    · exact .inl (r2.trans q2)
    · exact .inr ⟨qb, by rw [r2]; exact q2⟩
  · rw [rb] at h2
    exact absurd hp h2
  · exact .inr ⟨rb, r3⟩
theorem En.unbox {p : Addr} {ρ' : List Slot} {σ' : L2.St} (i0 : Same S0 H0) (e1 : Ext B S0 H0 S H) (hb : ∀ q, B q → H0 q ≠ none) (hp : H0 p = none) (E : En K (fun q => q = p ∨ B q) S H S1 H1 σ' ρ') : En K B S0 H0 S1 H1 σ' (ρ'.map Slot.unbox) := by
  refine ⟨i0, fun q hq => ⟨(E.bx q (.inr hq)).1, (E.bx q (.inr hq)).2.1, hb q hq⟩, e1.unbox i0 hp E.ext, by rw [List.length_map]; exact E.len, fun i s h => ?_, fun i j s u n h1 h2 o1 o2 => ?_⟩
  · rw [List.getElem?_map] at h
    cases hs : ρ'[i]? with
    | none => rw [hs] at h; cases h
    | some s' =>
      rw [hs] at h
      cases h
      obtain ⟨o, e, ok⟩ := E.at' i s' hs
      exact ⟨o, e, ok.unbox fun a ha => e1.free i0 ha⟩
  · rw [List.getElem?_map] at h1 h2
    cases hs : ρ'[i]? with
    | none => rw [hs] at h1; cases h1
    | some s' =>
      cases hu : ρ'[j]? with
      | none => rw [hu] at h2; cases h2
      | some u' =>
        rw [hs] at h1
        rw [hu] at h2
        cases h1
        cases h2
        refine E.ne i j s' u' n hs hu ?_ ?_
        · cases s' <;> first | exact o1 | cases o1
        · cases u' <;> first | exact o2 | cases o2
/-- a new box -/
def DBox (K : PySem.W.Frag) (B : Addr → Prop) (te : TE) (ρ : List Slot) : Prop := ∀ S0 H0 S H σ, En K B S0 H0 S H σ ρ → ∀ Q : VK, (∀ p S2 H2 H', Ext B S H S2 H2 → Same H2 H' → H2 p = none → IsBx (H' p) → Q (.ref p) H') → te σ H Q
/-- box = ..: from here on the box may change -/
theorem dq_boxG {n : Nat} (hb : DBox K B te ρ) (ho : ∀ s ∈ ρ, s.isOwn = false) (px : Φ.px = fun _ _ => True)
    (h : ∀ p, DS K (fun q => q = p ∨ B q) tz (ρ.set n .box) ⟨fun ρ' => Φ.nx (ρ'.map Slot.unbox), fun s => s.unbox = s ∧ Φ.rt s, fun ρ' => Φ.bk (ρ'.map Slot.unbox), fun ρ' => Φ.ct (ρ'.map Slot.unbox), fun _ _ => True⟩) :
    DS K B (tSeq (tAsg te (gName n)) tz) ρ Φ := fun S0 H0 S H σ D E _ nx rt bk ct =>
  hb S0 H0 S H σ E _ fun p S2 H2 H' e12 sm np bx' => by
    have E2 := E.go e12
    have e3 : Ext B S2 H2 S2 H' := Ext.grow e12.i sm
    have E3 := E2.go e3
    have hp0 : H0 p = none := E2.ext.free E2.i0 np
    have sp : S2 p = none := e12.i.free np
    have E4 : En K (fun q => q = p ∨ B q) S2 H' S2 H' σ ρ := by
      refine ⟨e3.i, fun q hq => ?_, Ext.refl e3.i, E3.len, fun i s hs => ?_, fun i j s u nn hs hu o1 o2 => ?_⟩
      · rcases hq with rfl | hq
        · exact ⟨sp, bx', bx'.choose_spec.choose_spec.choose_spec ▸ fun z => nomatch z⟩
        · obtain ⟨q1, q2, _⟩ := E3.bx q hq
          exact ⟨q1, q2, q2.ne⟩
      · obtain ⟨o, e, ok⟩ := E3.at' i s hs
        refine ⟨o, e, ?_⟩
        have hs := ho s (List.mem_of_getElem? hs)
        cases s with
        | no => cases o <;> trivial
        | box =>
          cases o with
          | none => exact ok
          | some v =>
            obtain ⟨q, e, hq⟩ := ok
            exact ⟨q, e, .inr hq⟩
        | val _ =>
          cases o with
          | none => exact ok
          | some v => exact ok
        | obj _ => cases hs
        | out P =>
          cases o with
          | none => exact ok
          | some v =>
            obtain ⟨q, u, e, nb, h0, hs, hh, r⟩ := ok
            refine ⟨q, u, e, fun z => ?_, (by rw [hh]; exact fun z => nomatch z), hs, hh, r⟩
            rcases z with z | z
            · exact h0 (by rw [z]; exact hp0)
            · exact nb z
      · rw [ho s (List.mem_of_getElem? hs)] at o1
        cases o1
    have E5 : En K (fun q => q = p ∨ B q) S2 H' S2 H' (σ.set n (some (.ref p))) (ρ.set n .box) := E4.set (o := some (.ref p)) (s := .box) ⟨p, rfl, .inl rfl⟩ rfl
    have hbn : ∀ q, B q → H0 q ≠ none := fun q hq => (E.bx q hq).2.2
    have sm2 : Same S S2 := e12.s
    refine h p S2 H' S2 H' _ D E5 trivial (fun ρ' σ' S' H'' hn sm' E' => nx _ σ' S' H'' hn (sm2.trans sm') (E'.unbox E.i0 E3.ext hbn hp0)) (fun s v S' H'' hs ex ok => ?_) (fun ρ' σ' S' H'' hn sm' E' => bk _ σ' S' H'' hn (sm2.trans sm') (E'.unbox E.i0 E3.ext hbn hp0)) (fun ρ' σ' S' H'' hn sm' E' => ct _ σ' S' H'' hn (sm2.trans sm') (E'.unbox E.i0 E3.ext hbn hp0))
    refine rt s v S' H'' hs.2 (E3.ext.unbox E.i0 hp0 ex) ?_
    have := ok.unbox (H0 := H0) (B := B) (fun a ha => E3.ext.free E.i0 ha)
    rw [hs.1] at this
    exact this
end
end WW

set_option Elab.async false
set_option linter.all false
set_option maxRecDepth 100000
set_option maxHeartbeats 4000000
namespace WW
open PySem PySem.Spec PyProof.Rows L2
/-! ### xs == [], xs != [] of any list -/
def rEmp (K : PySem.W.Frag) (neg : Bool) : R2 := fun x y H Q => ∃ (a b : Addr) (xs : List V), x = .ref a ∧ y = .ref b ∧ SqL K H a xs ∧ SqL K H b [] ∧ Q (.bl (if neg then !xs.isEmpty else xs.isEmpty)) H
theorem op_eqE {X : Cx} {j : Nat} (K : PySem.W.Frag) (hr : Room j X.A) (h : X.K = K := by rfl) : OpR X (compareOp .Eq) (rEmp K false) := by
  subst h
  intro pins s σ H x y u v Q I rx ry h
  obtain ⟨a, b, xs, rfl, rfl, ha, hb, q⟩ := h
  cases rx
  cases ry
  obtain ⟨its, rv, pl, hz⟩ := I.list ha
  obtain ⟨its2, rv2, pl2, hz2⟩ := I.list hb
  have hu : X.A.units < cLine := by have := hr.un; omega
  cases rv2
  cases rv with
  | nil => exact SeqAt.RcAt.lists (e := fun _ => true) pl.isList pl2.isList rfl hu (fun j h1 h2 => absurd h1 (by simp)) _ _ _ _ ⟨.bl true, H, I, rfl, q⟩
  | cons r t => exact SeqAt.RcAt.lists_lengths pl.isList pl2.isList (by simp) hu _ _ _ _ ⟨.bl false, H, I, rfl, q⟩
theorem op_neE {X : Cx} {j : Nat} (K : PySem.W.Frag) (hr : Room j X.A) (h : X.K = K := by rfl) : OpR X (compareOp .NotEq) (rEmp K true) := by
  subst h
  intro pins s σ H x y u v Q I rx ry h
  obtain ⟨a, b, xs, rfl, rfl, ha, hb, q⟩ := h
  cases rx
  cases ry
  obtain ⟨its, rv, pl, hz⟩ := I.list ha
  obtain ⟨its2, rv2, pl2, hz2⟩ := I.list hb
  have hu : X.A.units < cLine := by have := hr.un; omega
  cases rv2
  cases rv with
  | nil => exact SeqAt.RcNeAt.lists (e := fun _ => true) pl.isList pl2.isList rfl hu (fun j h1 h2 => absurd h1 (by simp)) _ _ _ _ ⟨.bl false, H, I, rfl, q⟩
  | cons r t => exact SeqAt.RcNeAt.lists_lengths pl.isList pl2.isList (by simp) hu _ _ _ _ ⟨.bl true, H, I, rfl, q⟩
/-! ### dicts by texts -/
structure Dct (α : Type) where
  kv : List (Str × α)
def KvR {α : Type} [Enc α] (K : PySem.W.Frag) (S : Hp) (p : Key × V) (x : Str × α) : Prop := p.1 = Sum.inr x.1 ∧ Enc.rep K S p.2 x.2
theorem KvR.mono {α : Type} [Enc α] {K : PySem.W.Frag} {S S' : Hp} {p : Key × V} {x : Str × α} (e : Same S S') (h : KvR K S p x) : KvR K S' p x := ⟨h.1, Enc.mono e h.2⟩
instance {α : Type} [Enc α] : Enc (Dct α) where
  rep K S v d := d.kv.length ≤ 1000 ∧ ∃ p kvs, v = .ref p ∧ S p = some (.dK kvs) ∧ Paired (KvR K S) kvs d.kv
  mono e h := by
    obtain ⟨hl, p, kvs, r, hq, hp⟩ := h
    exact ⟨hl, p, kvs, r, e _ _ hq, Paired.mono (fun _ _ => KvR.mono e) hp⟩
def Dct.get {α : Type} (d : Dct α) (z : Str) : Option α := (d.kv.find? fun x => decide (x.1 = z)).map (·.2)
def ownD {α : Type} [Enc α] (xs : List (Str × α)) : OwnP := ⟨fun K S _ o => xs.length ≤ 1000 ∧ ∃ kvs, o = .dK kvs ∧ Paired (KvR K S) kvs xs, fun e ⟨l, kvs, r, h⟩ => ⟨l, kvs, r, Paired.mono (fun _ _ => KvR.mono e) h⟩⟩
theorem valV_kv {α : Type} [Enc α] {K : PySem.W.Frag} {S : Hp} {z : Str} {a : α} : ∀ {kvs : List (Key × V)} {xs : List (Str × α)}, Paired (KvR K S) kvs xs → (Dct.mk xs).get z = some a → ∃ v, valV kvs (Sum.inr z) = some v ∧ Enc.rep K S v a
  | _, _, .nil, h => by cases h
  | p :: r, x :: t, .cons h1 h2, h => by
    unfold Dct.get at h
    rw [List.find?_cons] at h
    by_cases c : x.1 = z
    · rw [decide_eq_true c] at h
      cases h
      refine ⟨p.2, valV_pos ?_, h1.2⟩
      rw [h1.1, c]
    · rw [decide_eq_false c] at h
      obtain ⟨v, q1, q2⟩ := valV_kv h2 h
      refine ⟨v, ?_, q2⟩
      rw [valV_neg (by rw [h1.1]; exact fun e => c (by injection e))]
      exact q1
theorem valV_none {α : Type} [Enc α] {K : PySem.W.Frag} {S : Hp} {z : Str} : ∀ {kvs : List (Key × V)} {xs : List (Str × α)}, Paired (KvR K S) kvs xs → z ∉ xs.map (·.1) → valV kvs (Sum.inr z) = none
  | _, _, .nil, h => valV_nil
  | p :: r, x :: t, .cons h1 h2, h => by
    rw [List.map_cons, List.mem_cons, not_or] at h
    rw [valV_neg (by rw [h1.1]; exact fun e => h.1 (by injection e with e; exact e.symm))]
    exact valV_none h2 h.2
section
variable {K : PySem.W.Frag} {B : Addr → Prop} {ρ ρ' ρ1 ρ2 : List Slot} {ta tb tc td te tk tv : TE} {t u : TT} {ts tu tz : TS} {Φ : Post} {α β γ δ : Type} {e_α : Enc α} {e_β : Enc β} {e_γ : Enc γ} {e_δ : Enc δ} {a : α} {b : β} {i j : Int} {z : Str}
theorem d_eqE {xs : List α} (h : DE K B te ρ (α := L α) xs) : DE K B (tOp (rEmp K false) te (tLst tNil)) ρ xs.isEmpty := fun S0 H0 S H σ E Q q =>
  h S0 H0 S H σ E _ fun v S1 H1 e1 ⟨hl, p, vs, e, hq, r⟩ => ⟨Nat.zero_le _, fun w hw => by
    have n : Same H1 (upd H1 w (.lst [])) := same_new hw
    refine ⟨p, w, vs, e, rfl, .inl (.inl (n _ _ (e1.i _ _ hq))), .inl (.inl upd_same), ?_⟩
    have ee : vs.isEmpty = xs.isEmpty := by cases r <;> rfl
    show Q (.bl vs.isEmpty) _
    rw [ee]
    exact q _ S1 _ (e1.trans (Ext.grow e1.i n)) rfl⟩
theorem d_neE {xs : List α} (h : DE K B te ρ (α := L α) xs) : DE K B (tOp (rEmp K true) te (tLst tNil)) ρ (!xs.isEmpty) := fun S0 H0 S H σ E Q q =>
  h S0 H0 S H σ E _ fun v S1 H1 e1 ⟨hl, p, vs, e, hq, r⟩ => ⟨Nat.zero_le _, fun w hw => by
    have n : Same H1 (upd H1 w (.lst [])) := same_new hw
    refine ⟨p, w, vs, e, rfl, .inl (.inl (n _ _ (e1.i _ _ hq))), .inl (.inl upd_same), ?_⟩
    have ee : vs.isEmpty = xs.isEmpty := by cases r <;> rfl
    show Q (.bl (!vs.isEmpty)) _
    rw [ee]
    exact q _ S1 _ (e1.trans (Ext.grow e1.i n)) rfl⟩
/-- d[z] -/
theorem d_getD {d : Dct α} (h : DE K B td ρ d) (hk : DE K B tk ρ z) (hx : d.get z = some a) : DE K B (tDGet td tk) ρ a := fun S0 H0 S H σ E Q q =>
  h S0 H0 S H σ E _ fun v S1 H1 e1 r1 => hk S0 H0 S1 H1 σ (E.go e1) _ fun w S2 H2 e2 r2 => by
    cases r2
    obtain ⟨hl, p, kvs, e, hq, r⟩ := Enc.mono e2.s r1
    obtain ⟨y, q1, q2⟩ := valV_kv r hx
    refine ⟨p, y, e, ?_, q y S2 H2 (e1.trans e2) q2⟩
    rw [← q1]
    exact DGet.k (k := Sum.inr z) (e2.i _ _ hq)
theorem dn_getD {P : Dct α → Prop} {P' : α → Prop} (h : DN K B td ρ P) (hk : DE K B tk ρ z) (hx : ∀ d, P d → ∃ a, d.get z = some a ∧ P' a) : DN K B (tDGet td tk) ρ P' := fun S0 H0 S H σ E Q q =>
  h S0 H0 S H σ E _ fun v d S1 H1 pd e1 r1 => hk S0 H0 S1 H1 σ (E.go e1) _ fun w S2 H2 e2 r2 => by
    cases r2
    obtain ⟨a, hx, pa⟩ := hx d pd
    obtain ⟨hl, p, kvs, e, hq, r⟩ := Enc.mono e2.s r1
    obtain ⟨y, q1, q2⟩ := valV_kv r hx
    refine ⟨p, y, e, ?_, q y a S2 H2 pa (e1.trans e2) q2⟩
    rw [← q1]
    exact DGet.k (k := Sum.inr z) (e2.i _ _ hq)
/-- a new object of one's own -/
def DOb (K : PySem.W.Frag) (B : Addr → Prop) (te : TE) (ρ : List Slot) (P : OwnP) : Prop := ∀ S0 H0 S H σ, En K B S0 H0 S H σ ρ → ∀ Q : VK, (∀ p o S' H', Ext B S H S' H' → H p = none → S' p = none → H' p = some o → P.rep K S' p o → Q (.ref p) H') → te σ H Q
theorem ds_asgOb {n : Nat} {P : OwnP} (h : DOb K B te ρ P) (k : Φ.nx (ρ.set n (.obj P))) : DS K B (tAsg te (gName n)) ρ Φ := fun S0 H0 S H σ D E px nx r b c =>
  h S0 H0 S H σ E _ fun p o S1 H1 e1 hp hs hh rr => nx _ _ S1 H1 k e1.s (E.setOb e1 hp hs hh rr)
/-- the pairs of a display -/
def DPs {α : Type} [Enc α] (K : PySem.W.Frag) (B : Addr → Prop) (trs : List (TE × TE)) (ρ : List Slot) (xs : List (Str × α)) : Prop := ∀ S0 H0 S H σ, En K B S0 H0 S H σ ρ → ∀ Q : List (V × V) → Hp → Prop, (∀ (kvs : List (Key × V)) S' H', Ext B S H S' H' → Paired (KvR K S') kvs xs → Q (kvs.map fun kv => (kV kv.1, kv.2)) H') → tPairs trs σ H Q
theorem dps_nil : DPs K B [] ρ ([] : List (Str × α)) := fun S0 H0 S H σ E Q q => q [] S H (Ext.refl E.i) .nil
theorem dps_cons {trs : List (TE × TE)} {xs : List (Str × α)} (hk : DE K B tk ρ z) (hv : DE K B tv ρ a) (hr : DPs K B trs ρ xs) : DPs K B ((tk, tv) :: trs) ρ ((z, a) :: xs) := fun S0 H0 S H σ E Q q =>
  hk S0 H0 S H σ E _ fun v S1 H1 e1 r1 => hv S0 H0 S1 H1 σ (E.go e1) _ fun w S2 H2 e2 r2 => hr S0 H0 S2 H2 σ (E.go (e1.trans e2)) _ fun kvs S3 H3 e3 r3 => by
    cases r1
    exact q ((Sum.inr z, w) :: kvs) S3 H3 ((e1.trans e2).trans e3) (.cons ⟨rfl, Enc.mono e3.s r2⟩ r3)
theorem merge_nd : ∀ {kvs acc : List (Key × V)}, ((acc ++ kvs).map (·.1)).Nodup → mergeK acc kvs = acc ++ kvs
  | [], acc, _ => by rw [List.append_nil]; rfl
  | p :: r, acc, h => by
    have hn : valV acc p.1 = none := by
      have h2 : p.1 ∉ acc.map (·.1) := fun hm => by
        rw [List.map_append, List.nodup_append] at h
        exact h.2.2 _ hm _ (List.mem_map.mpr ⟨p, List.mem_cons_self, rfl⟩) rfl
      clear h
      induction acc with
      | nil => exact valV_nil
      | cons x t ih =>
        rw [List.map_cons, List.mem_cons, not_or] at h2
        rw [valV_neg (fun e => h2.1 e.symm)]
        exact ih h2.2
    have e : mergeK acc (p :: r) = mergeK (acc ++ [p]) r := by
      show mergeK (putK acc p.1 p.2) r = _
      rw [putK_new p.2 hn]
    rw [e, merge_nd (by rw [List.append_assoc]; exact h), List.append_assoc]
    rfl
theorem kv_keys {S : Hp} : ∀ {kvs : List (Key × V)} {xs : List (Str × α)}, Paired (KvR K S) kvs xs → kvs.map (·.1) = xs.map fun x => (Sum.inr x.1 : Key)
  | _, _, .nil => rfl
  | _, _, .cons h t => by rw [List.map_cons, List.map_cons, kv_keys t, h.1]
theorem keys_nd {xs : List (Str × α)} (h : (xs.map (·.1)).Nodup) : (xs.map fun x => (Sum.inr x.1 : Key)).Nodup := by
  have e : (xs.map fun x => (Sum.inr x.1 : Key)) = (xs.map (·.1)).map Sum.inr := by rw [List.map_map]; rfl
  rw [e]
  exact h.map _ fun a b hne e => hne (by injection e)
/-- {k: v, ..} -/
theorem do_disp {trs : List (TE × TE)} {xs : List (Str × α)} (h : DPs K B trs ρ xs) (nd : (xs.map (·.1)).Nodup) (hl : xs.length ≤ 15) : DOb K B (tDisp trs) ρ (ownD xs) := fun S0 H0 S H σ E Q q p hp => by
  have e1 : Ext B S H S (upd H p (.dK [])) := Ext.priv E.i hp
  have sp : S p = none := E.i.free hp
  have nB : ¬ B p := fun z => (E.bx p z).2.2 (E.ext.free E.i0 hp)
  refine h S0 H0 S _ σ (E.go e1) _ fun kvs S2 H2 e2 r2 => ?_
  obtain ⟨s2, h2⟩ := e2.p p sp (by rw [upd_same]; exact fun z => nomatch z)
  have hp2 : H2 p = some (.dK []) := by
    rcases h2 with z | ⟨z, _⟩
    · rw [z, upd_same]
    · exact absurd z nB
  have kl : kvs.length ≤ 15 := by rw [r2.length]; exact hl
  refine ⟨hp2, kvs, rfl, kl, ?_⟩
  have em : mergeK [] kvs = kvs := by
    rw [merge_nd (by rw [List.nil_append, kv_keys r2]; exact keys_nd nd), List.nil_append]
  rw [em]
  exact q p _ S2 _ ((e1.trans e2).mut hp s2) hp s2 upd_same ⟨by omega, kvs, rfl, r2⟩
/-- d[z] = v, z new, d one's own -/
theorem ds_dput {n : Nat} {xs : List (Str × α)} (hn : ρ[n]? = some (.obj (ownD xs))) (hv : DE K B tv ρ a) (hk : DE K B tk ρ z) (nz : z ∉ xs.map (·.1)) (hl : xs.length < 1000) (k : Φ.nx (ρ.set n (.obj (ownD (xs ++ [(z, a)]))))) : DS K B (sDPut (tVar n) tk tv) ρ Φ := fun S0 H0 S H σ D E px nx r b c => by
  refine hv S0 H0 S H σ E _ fun v S1 H1 e1 r1 => ?_
  obtain ⟨p, o, g1, h0, hs, hh, pr⟩ := (E.go e1).obj hn
  refine ⟨_, g1, ?_⟩
  refine hk S0 H0 S1 H1 σ (E.go e1) _ fun w S2 H2 e2 r2 => ?_
  cases r2
  have E2 := (E.go e1).go e2
  obtain ⟨p', o', g1', h0', hs', hh', hl', kvs, rfl, rr⟩ := E2.obj hn
  rw [g1] at g1'
  cases g1'
  refine ⟨p, _, rfl, DPut.k (k := Sum.inr z) hh' (by rw [rr.length]; exact Nat.lt_trans hl (by decide)), ?_⟩
  rw [putK_new _ (valV_none rr nz)]
  refine nx _ σ S2 _ k (e1.s.trans e2.s) (E2.chgOb hn g1 ⟨by rw [List.length_append]; exact hl, _, rfl, Paired.app rr (.cons ⟨rfl, Enc.mono e2.s r1⟩ .nil)⟩)
/-- one's own dict becomes a value -/
theorem ds_frzD {n : Nat} {xs : List (Str × α)} (hx : ρ[n]? = some (.obj (ownD xs))) (h : DS K B ts (ρ.set n (.val (Dct.mk xs))) Φ) : DS K B ts ρ Φ := fun S0 H0 S H σ D E px nx r b c => by
  have cv : ∀ (S1 : Hp) (p : Addr) (u : HO), S1 p = some u → (ownD xs).rep K S1 p u → Enc.rep K S1 (.ref p) (Dct.mk xs) := fun S1 p u hp ⟨hl, kvs, e, r⟩ => ⟨hl, p, kvs, rfl, by rw [hp, e], r⟩
  obtain ⟨S1, ex, sm, E1⟩ := E.frzOb hx cv
  exact h S0 H0 S1 H σ D E1 px (fun ρ' σ' S' H' q s E' => nx ρ' σ' S' H' q (sm.trans s) E') r (fun ρ' σ' S' H' q s E' => b ρ' σ' S' H' q (sm.trans s) E') (fun ρ' σ' S' H' q s E' => c ρ' σ' S' H' q (sm.trans s) E')
/-- dict(ps) -/
theorem d_dict {xs : List (Str × α)} (h : DE K B te ρ (α := L (Str × α)) xs) (nd : (xs.map (·.1)).Nodup) (hl : xs.length ≤ 1000) : DE K B (tCB (fun vs H Q => ∃ (a : Addr) (ps : List Addr) (kvs : List (Key × V)), vs = [.ref a] ∧ SqL K H a (ps.map V.ref) ∧ Paired (fun p kv => SqT K H p [kV kv.1, kv.2]) ps kvs ∧ ∀ p, H p = none → Q (.ref p) (upd H p (.dK (mergeK [] kvs)))) (tCons te tNil)) ρ (Dct.mk xs) := fun S0 H0 S H σ E Q q =>
  h S0 H0 S H σ E _ fun v S1 H1 e1 ⟨_, p, vs, e, hq, r⟩ => by
    have core : ∀ {vs : List V} {xs : List (Str × α)}, Paired (Enc.rep K S1) vs xs → ∃ (ps : List Addr) (kvs : List (Key × V)), vs = ps.map V.ref ∧ Paired (fun p kv => SqT K H1 p [kV kv.1, kv.2]) ps kvs ∧ Paired (KvR K S1) kvs xs := by
      intro vs xs r
      induction r with
      | nil => exact ⟨[], [], rfl, .nil, .nil⟩
      | cons h1 t ih =>
        rename_i v x vs xs
        obtain ⟨ps, kvs, e1', r1, r2⟩ := ih
        obtain ⟨p, v1, v2, rfl, hq, q1, q2⟩ := h1
        cases q1
        exact ⟨p :: ps, (Sum.inr x.1, v2) :: kvs, by rw [e1']; rfl, .cons (Evl.ex_t e1.i hq) r1, .cons ⟨rfl, q2⟩ r2⟩
    obtain ⟨ps, kvs, rfl, r1, r2⟩ := core r
    refine ⟨p, ps, kvs, by rw [e], .inl (.inl (e1.i _ _ hq)), r1, fun w hw => ?_⟩
    rw [merge_nd (by rw [List.nil_append, kv_keys r2]; exact keys_nd nd), List.nil_append]
    have e2 : Ext B S1 H1 (upd S1 w (.dK kvs)) (upd H1 w (.dK kvs)) := Ext.new e1.i hw
    exact q _ _ _ (e1.trans e2) ⟨hl, w, kvs, rfl, upd_same, Paired.mono (fun _ _ => KvR.mono e2.s) r2⟩
/-! ### texts put together -/
theorem d_addS {y : Str} (h1 : DE K B ta ρ z) (h2 : DE K B tb ρ y) (hl : z.length + y.length ≤ BIG) : DE K B (tOp (fun x y H Q => ∃ i j, x = .str i ∧ y = .str j ∧ i.length + j.length ≤ sizeLine ∧ Q (.str (i ++ j)) H) ta tb) ρ (z ++ y) :=
  d_op h1 h2 fun v w S H hi r1 r2 Q q => by
    cases r1
    cases r2
    exact ⟨z, y, rfl, rfl, Nat.le_trans hl big_line, q _ S H (Ext.refl hi) rfl⟩
/-! ### more of what is drawn -/
theorem dn_if {P : α → Prop} {c : Bool} (h : DT K B t ρ c) (h1 : c = true → DN K B ta ρ P) (h2 : c = false → DN K B tb ρ P) : DN K B (tIf t ta tb) ρ P := fun S0 H0 S H σ E Q q => h S0 H0 S H σ E _ fun S1 H1 e => by
  cases c with
  | true => exact h1 rfl S0 H0 S1 H1 σ (E.go e) Q fun v a S2 H2 pa e2 r2 => q v a S2 H2 pa (e.trans e2) r2
  | false => exact h2 rfl S0 H0 S1 H1 σ (E.go e) Q fun v a S2 H2 pa e2 r2 => q v a S2 H2 pa (e.trans e2) r2
/-- a test that may come out either way -/
def DTN (K : PySem.W.Frag) (B : Addr → Prop) (tt : TT) (ρ : List Slot) (P : Bool → Prop) : Prop := ∀ S0 H0 S H σ, En K B S0 H0 S H σ ρ → ∀ Q : Bool → Hp → Prop, (∀ b S' H', P b → Ext B S H S' H' → Q b H') → tt σ H Q
theorem DT.n {c : Bool} (h : DT K B t ρ c) : DTN K B t ρ fun b => b = c := fun S0 H0 S H σ E Q q => h S0 H0 S H σ E _ fun S1 H1 e => q c S1 H1 rfl e
theorem dtn_test {P : Bool → Prop} (h : DN K B te ρ P) : DTN K B (tTest te) ρ P := fun S0 H0 S H σ E Q q => h S0 H0 S H σ E _ fun v b S1 H1 pb e r => ⟨b, r, q b S1 H1 pb e⟩
theorem dtn_B {P : Bool → Prop} (h : DN K B te ρ P) : DTN K B (tB te) ρ P := fun S0 H0 S H σ E Q q => h S0 H0 S H σ E _ fun v b S1 H1 pb e r => ⟨b, r, q b S1 H1 pb e⟩
theorem dtn_and {b : Bool} {P : Bool → Prop} (h1 : DT K B t ρ b) (h2 : b = true → DTN K B u ρ P) : DTN K B (tAnd t u) ρ (fun c => if b = true then P c else c = false) := fun S0 H0 S H σ E Q q => h1 S0 H0 S H σ E _ fun S1 H1 e => by
  cases b with
  | true => exact h2 rfl S0 H0 S1 H1 σ (E.go e) Q fun c S2 H2 pc e2 => q c S2 H2 pc (e.trans e2)
  | false => exact q false S1 H1 rfl e
theorem dn_ifN {P : α → Prop} {PT : Bool → Prop} (h : DTN K B t ρ PT) (h1 : PT true → DN K B ta ρ P) (h2 : PT false → DN K B tb ρ P) : DN K B (tIf t ta tb) ρ P := fun S0 H0 S H σ E Q q => h S0 H0 S H σ E _ fun c S1 H1 pc e => by
  cases c with
  | true => exact h1 pc S0 H0 S1 H1 σ (E.go e) Q fun v a S2 H2 pa e2 r2 => q v a S2 H2 pa (e.trans e2) r2
  | false => exact h2 pc S0 H0 S1 H1 σ (E.go e) Q fun v a S2 H2 pa e2 r2 => q v a S2 H2 pa (e.trans e2) r2
theorem dn_eqI {P P' : Int → Prop} (ha : DN K B ta ρ P) (hb : DN K B tb ρ P') : DN K B (tOp rEq ta tb) ρ fun c : Bool => ∃ a b, P a ∧ P' b ∧ c = decide (a = b) :=
  dn_op ha hb fun a b pa pb x y S H hi r1 r2 Q q => by
    obtain ⟨h1, h2⟩ := Flat.eq (α := Int) r1 r2
    refine ⟨h1, ?_⟩
    rw [h2]
    exact q _ _ S H ⟨a, b, pa, pb, rfl⟩ (Ext.refl hi) rfl
theorem dn_quad {P1 : α → Prop} {P2 : β → Prop} {P3 : γ → Prop} {P4 : δ → Prop} (ha : DN K B ta ρ P1) (hb : DN K B tb ρ P2) (hc : DN K B tc ρ P3) (hd : DN K B td ρ P4) : DN K B (tTup (tCons ta (tCons tb (tCons tc (tCons td tNil))))) ρ (fun t : T4 α β γ δ => P1 t.a ∧ P2 t.b ∧ P3 t.c ∧ P4 t.d) := fun S0 H0 S H σ E Q q =>
  ha S0 H0 S H σ E _ fun x a1 S1 H1 p1 e1 r1 => hb S0 H0 S1 H1 σ (E.go e1) _ fun y a2 S2 H2 p2 e2 r2 => hc S0 H0 S2 H2 σ (E.go (e1.trans e2)) _ fun z a3 S3 H3 p3 e3 r3 => hd S0 H0 S3 H3 σ (E.go ((e1.trans e2).trans e3)) _ fun w a4 S4 H4 p4 e4 r4 => ⟨by show 4 ≤ sizeLine; decide, fun p hp => by
    have e5 : Ext B S4 H4 (upd S4 p (.tup [x, y, z, w])) (upd H4 p (.tup [x, y, z, w])) := Ext.new e4.i hp
    exact q _ (T4.mk a1 a2 a3 a4) _ _ ⟨p1, p2, p3, p4⟩ ((((e1.trans e2).trans e3).trans e4).trans e5) ⟨p, x, y, z, w, rfl, .inl (.inl upd_same), Enc.mono (((e2.s.trans e3.s).trans e4.s).trans e5.s) r1, Enc.mono ((e3.s.trans e4.s).trans e5.s) r2, Enc.mono (e4.s.trans e5.s) r3, Enc.mono e5.s r4⟩⟩
theorem dn_pair {P1 : α → Prop} {P2 : β → Prop} (ha : DN K B ta ρ P1) (hb : DN K B tb ρ P2) : DN K B (tTup (tCons ta (tCons tb tNil))) ρ (fun t : α × β => P1 t.1 ∧ P2 t.2) := fun S0 H0 S H σ E Q q =>
  ha S0 H0 S H σ E _ fun x a1 S1 H1 p1 e1 r1 => hb S0 H0 S1 H1 σ (E.go e1) _ fun y a2 S2 H2 p2 e2 r2 => ⟨by show 2 ≤ sizeLine; decide, fun p hp => by
    have e5 : Ext B S2 H2 (upd S2 p (.tup [x, y])) (upd H2 p (.tup [x, y])) := Ext.new e2.i hp
    exact q _ (a1, a2) _ _ ⟨p1, p2⟩ ((e1.trans e2).trans e5) ⟨p, x, y, rfl, .inl (.inl upd_same), Enc.mono (e2.s.trans e5.s) r1, Enc.mono e5.s r2⟩⟩
theorem DG.quad {g1 g2 g3 g4 : TG} {a : α} {b : β} {c : γ} {d : δ} {ρ3 ρ4 : List Slot} {js1 js2 js3 js4 : List Nat} (h1 : DG K B g1 a ρ ρ1 js1) (h2 : DG K B g2 b ρ1 ρ2 js2) (h3 : DG K B g3 c ρ2 ρ3 js3) (h4 : DG K B g4 d ρ3 ρ4 js4) : DG K B (gTup K 4 (gCons g1 (gCons g2 (gCons g3 (gCons g4 gNil))))) (T4.mk a b c d) ρ ρ4 (js1 ++ (js2 ++ (js3 ++ js4))) := fun S0 H0 S H σ v E r R q => by
  obtain ⟨p, v1, v2, v3, v4, rfl, hq, r1, r2, r3, r4⟩ := r
  refine ⟨p, [v1, v2, v3, v4], rfl, Evl.ex_t E.i hq, rfl, v1, [v2, v3, v4], rfl, ?_⟩
  refine h1 S0 H0 S H σ v1 E r1 _ fun σ1 E1 l1 f1 => ⟨v2, [v3, v4], rfl, ?_⟩
  refine h2 S0 H0 S H σ1 v2 E1 r2 _ fun σ2 E2 l2 f2 => ⟨v3, [v4], rfl, ?_⟩
  refine h3 S0 H0 S H σ2 v3 E2 r3 _ fun σ3 E3 l3 f3 => ⟨v4, [], rfl, ?_⟩
  refine h4 S0 H0 S H σ3 v4 E3 r4 _ fun σ4 E4 l4 f4 => ⟨rfl, q σ4 E4 (((l4.trans l3).trans l2).trans l1) fun i hi => ?_⟩
  simp only [List.mem_append, not_or] at hi
  rw [f4 i hi.2.2.2, f3 i hi.2.2.1, f2 i hi.2.1, f1 i hi.1]
/-- for x in range(n), n drawn -/
theorem ds_forN {g : TG} {P : Int → Prop} (h : DN K B te ρ P) (hs : ∀ n, P n → DS K B (tFor (iRng1 (tCons (tC (.int n)) tNil)) g ts) ρ Φ) : DS K B (tFor (iRng1 (tCons te tNil)) g ts) ρ Φ := fun S0 H0 S H σ D E px nx r b c => h S0 H0 S H σ E _ fun v n S1 H1 pn e1 r1 => by
  cases r1
  exact hs n pn S0 H0 S1 H1 σ D (E.go e1) px (fun ρ' σ' S' H' q s E' => nx ρ' σ' S' H' q (e1.s.trans s) E') r (fun ρ' σ' S' H' q s E' => b ρ' σ' S' H' q (e1.s.trans s) E') (fun ρ' σ' S' H' q s E' => c ρ' σ' S' H' q (e1.s.trans s) E')
theorem dq_forN {g : TG} {P : Int → Prop} (h : DN K B te ρ P) (hs : ∀ n, P n → DS K B (tSeq (tFor (iRng1 (tCons (tC (.int n)) tNil)) g ts) tz) ρ Φ) : DS K B (tSeq (tFor (iRng1 (tCons te tNil)) g ts) tz) ρ Φ := fun S0 H0 S H σ D E px nx r b c => h S0 H0 S H σ E _ fun v n S1 H1 pn e1 r1 => by
  cases r1
  exact hs n pn S0 H0 S1 H1 σ D (E.go e1) px (fun ρ' σ' S' H' q s E' => nx ρ' σ' S' H' q (e1.s.trans s) E') r (fun ρ' σ' S' H' q s E' => b ρ' σ' S' H' q (e1.s.trans s) E') (fun ρ' σ' S' H' q s E' => c ρ' σ' S' H' q (e1.s.trans s) E')
/-- [e for x in xs], e drawn each time -/
theorem dn_mapN {wi : TI} {g : TG} {vs : List Nat} {xs : List α} (P : α → β → Prop) (hi : DI K B wi ρ xs) (hl : xs.length ≤ BIG)
    (h : ∀ x ∈ xs, ∃ ρ' js, DG K B g x (wipeS ρ vs) ρ' js ∧ (∀ i ∈ js, i ∈ vs) ∧ DN K B te ρ' (P x)) : DN K B (tLc wi g tYes te vs) ρ (α := L β) (fun ys => Paired P xs ys) := by
  intro S0 H0 S H σ E Q q
  refine hi S0 H0 S H σ E _ fun J S1 H1 e1 y D hD => ?_
  have hD0 : H D = none := e1.free E.i hD
  have nB : ¬ B D := fun z => (E.bx D z).2.2 (E.ext.free E.i0 hD0)
  let Pv : Nat → Hp → Prop := fun i Hc => ∃ Sc ws ys, Ext B S1 H1 Sc Hc ∧ Sc D = none ∧ Hc D = some (.lst ws) ∧ Paired (Enc.rep K Sc) ws ys ∧ Paired P (xs.take i) ys
  refine ⟨fun i m Hc => m = xs.length - i ∧ i ≤ xs.length ∧ Pv i Hc, ⟨xs.length, by simp, Nat.zero_le _, S1, [], [], Ext.priv e1.i hD, e1.i.free hD, upd_same, .nil, .nil⟩, ?_⟩
  rintro i m Hc ⟨rfl, hle, Sc, ws, ys, ex, hs, hh, r, pp⟩
  have yy := y Sc Hc ex.s (E.ext.trans (e1.trans ex))
  by_cases hlt : i < xs.length
  · refine .inr ?_
    obtain ⟨x, hx⟩ : ∃ x, xs[i]? = some x := ⟨_, List.getElem?_eq_getElem hlt⟩
    obtain ⟨hgo, hy⟩ := yy.1 i x hx
    refine ⟨hgo, Pv (i + 1), fun H' hp => ⟨xs.length - (i + 1), by omega, rfl, hlt, hp⟩, fun v H' hyl => ?_⟩
    obtain ⟨S2, e2, r2⟩ := hy v H' hyl
    obtain ⟨ρ', js, hg, hjs, he⟩ := h x (List.mem_of_getElem? hx)
    have lw : ws.length < sizeLine := by
      rw [r.length, ← pp.length, List.length_take]
      have := big_line
      omega
    refine hg S0 H0 S2 H' (wipe σ vs) v ((E.go ((e1.trans ex).trans e2)).wp vs) r2 _ fun σ2 E2 l2 f2 => ⟨?_, ?_⟩
    · have z := wipe_eq (vs := vs) l2 fun i hi => f2 i fun z => hi (hjs i z)
      rw [z, wipe_wipe]
    · show tYes σ2 H' _
      refine he S0 H0 S2 H' σ2 E2 _ fun w b S4 H4 pb e4 r4 => ?_
      have e24 := e2.trans e4
      obtain ⟨a1, a2⟩ := e24.p D hs (by rw [hh]; exact fun z => nomatch z)
      have a3 : H4 D = some (.lst ws) := by
        rcases a2 with z | ⟨z, _⟩
        · rw [z]; exact hh
        · exact absurd z nB
      refine ⟨ws, a3, lw, S4, ws ++ [w], ys ++ [b], (ex.trans e24).mut hD a1, a1, upd_same, ?_, ?_⟩
      · exact Paired.app (Paired.mono (fun _ _ => Enc.mono e24.s) r) (.cons r4 .nil)
      · rw [List.take_add_one, hx]
        exact Paired.app pp (.cons pb .nil)
  · refine .inl ⟨?_, ?_⟩
    · rw [show i = xs.length by omega]
      exact yy.2
    · rw [List.take_of_length_le (by omega)] at pp
      have fz : Ext B S H (upd Sc D (.lst ws)) Hc := (e1.trans ex).frz hD0 E.i hh hs
      exact q _ ys _ Hc pp fz ⟨by rw [← pp.length]; exact hl, D, ws, rfl, upd_same, Paired.mono (fun _ _ => Enc.mono (same_new hs)) r⟩
/-! ### one's own list handed on to be read -/
theorem da_own {n : Nat} {tr : TA} {ss : List Slot} {P : OwnP} (h : ρ[n]? = some (.obj P)) (hr : DA K B tr ρ ss) : DA K B (tCons (tVar n) tr) ρ (.out P :: ss) := fun S0 H0 S H σ E Q q => by
  obtain ⟨p, o, h1, h0, hs, hh, pr⟩ := E.obj h
  have nB : ¬ B p := fun z => (E.bx p z).2.2 h0
  refine ⟨_, h1, hr S0 H0 S H σ E _ fun vs S2 H2 e2 r2 => ?_⟩
  obtain ⟨q1, q2⟩ := e2.p p hs (by rw [hh]; exact fun z => nomatch z)
  have h2 : H2 p = some o := by
    rcases q2 with z | ⟨z, _⟩
    · rw [z, hh]
    · exact absurd z nB
  exact q _ S2 H2 e2 (.cons ⟨p, o, rfl, nB, (by rw [h2]; exact fun z => nomatch z), q1, h2, P.mono e2.s pr⟩ rfl r2)
theorem da_out {n : Nat} {tr : TA} {ss : List Slot} {P : OwnP} (h : ρ[n]? = some (.out P)) (hr : DA K B tr ρ ss) : DA K B (tCons (tVar n) tr) ρ (.out P :: ss) := fun S0 H0 S H σ E Q q => by
  obtain ⟨p, o, h1, nB, h0, hs, hh, pr⟩ := E.out h
  refine ⟨_, h1, hr S0 H0 S H σ E _ fun vs S2 H2 e2 r2 => ?_⟩
  obtain ⟨q1, q2⟩ := e2.p p hs (by rw [hh]; exact fun z => nomatch z)
  have h2 : H2 p = some o := by
    rcases q2 with z | ⟨z, _⟩
    · rw [z, hh]
    · exact absurd z nB
  exact q _ S2 H2 e2 (.cons ⟨p, o, rfl, nB, (by rw [h2]; exact fun z => nomatch z), q1, h2, P.mono e2.s pr⟩ rfl r2)
theorem d_neEOut {n : Nat} {xs : List α} (h : ρ[n]? = some (.out (ownL xs))) : DE K B (tOp (rEmp K true) (tVar n) (tLst tNil)) ρ (!xs.isEmpty) := fun S0 H0 S H σ E Q q => by
  obtain ⟨p, o, h1, nB, h0, hs, hh, hl, vs, rfl, r⟩ := E.out h
  refine ⟨_, h1, Nat.zero_le _, fun w hw => ?_⟩
  have n : Same H (upd H w (.lst [])) := same_new hw
  refine ⟨p, w, vs, rfl, rfl, .inl (.inl (n _ _ hh)), .inl (.inl upd_same), ?_⟩
  have ee : vs.isEmpty = xs.isEmpty := by cases r <;> rfl
  show Q (.bl (!vs.isEmpty)) _
  rw [ee]
  exact q _ S _ (Ext.grow E.i n) rfl
theorem di_out {n : Nat} {xs : List α} (h : ρ[n]? = some (.out (ownL xs))) : DI K B (iSeq K (tVar n)) ρ xs := fun S0 H0 S H σ E R q => by
  obtain ⟨p, o, h1, nB, h0, hs, hh, hl, vs, rfl, r⟩ := E.out h
  have s0 : S0 p = none := by
    cases z : S0 p with
    | none => rfl
    | some u =>
      have := E.ext.s _ _ z
      rw [hs] at this
      cases this
  have he : H p = H0 p := by
    rcases (E.ext.p p s0 h0).2 with z | ⟨z, _⟩
    · exact z
    · exact absurd z nB
  refine ⟨_, h1, p, rfl, .inl ⟨⟨vs, .inl (.inl hh)⟩, q _ S H (Ext.refl E.i) fun S2 H2 s2 x2 => ?_⟩⟩
  have h2 : H2 p = some (.lst vs) := by
    rcases (x2.p p s0 h0).2 with z | ⟨z, _⟩
    · rw [z, ← he, hh]
    · exact absurd z nB
  refine ⟨fun i x hx => ?_, vs, .inl (.inl h2), by rw [r.length]; exact Nat.le_refl _⟩
  obtain ⟨w, k1, k2⟩ := Paired.at r hx
  refine ⟨⟨vs, w, .inl (.inl h2), k1⟩, fun v H3 hy => ⟨S2, ?_, ?_⟩⟩
  · rw [hy.1]
    exact Ext.refl x2.i
  · have z := hy.2 vs (.inl (.inl h2))
    rw [k1] at z
    cases z
    exact Enc.mono s2 k2
abbrev dpPickO (α : Type) [Enc α] : List Slot → (Slot → Prop) → Prop := fun ss R => ∃ xs : List α, ss = [.box, .out (ownL xs)] ∧ 0 < xs.length ∧ xs.length < 1000 ∧ ∀ c : α, c ∈ xs → R (.val c)
theorem imp_pickO {α : Type} [Enc α] (vs : List V) (H : Hp) (Q : VK) (E : XK) (h : spT K (dpPickO α) vs H Q E) : spPick K vs H Q E := by
  obtain ⟨B, S, ss, R, i, hb, ar, ⟨xs, rfl, m0, m1, r⟩, q⟩ := h
  cases ar with
  | cons h1 h2 h3 =>
    cases h3 with
    | cons k1 k2 k3 =>
      cases k3
      obtain ⟨p, rfl, bp⟩ := h1
      obtain ⟨l, o, rfl, nB, _, hs, hh, _, ws, rfl, pr⟩ := k1
      obtain ⟨sn, bx⟩ := hb p bp
      have hl := pr.length
      refine ⟨p, l, ws, rfl, bx, Sq.l hh, fun e => nB (by rw [e]; exact bp), by omega, by omega, fun x y z v hv => ?_⟩
      obtain ⟨c, c1, c2⟩ := paired_mem pr v hv
      exact q (.val c) v S _ (r c c1) (Ext.box i bp sn) c2
theorem dn_pickO {n m : Nat} {xs : List α} (hb : ρ[m]? = some .box) (h : ρ[n]? = some (.out (ownL xs))) (h0 : 0 < xs.length) (h1 : xs.length < 1000) : DN K B (tCall (spT K (dpPickO α)) [] E0 (tCons (tVar m) (tCons (tVar n) tNil))) ρ (fun c : α => c ∈ xs) :=
  dn_call (da_box hb (da_out h da_nil)) ⟨xs, rfl, h0, h1, fun c hc => ⟨c, hc, rfl⟩⟩
/-- d[z], d handed on to be read -/
theorem d_getDO {n : Nat} {xs : List (Str × α)} (h : ρ[n]? = some (.out (ownD xs))) (hk : DE K B tk ρ z) (hx : (Dct.mk xs).get z = some a) : DE K B (tDGet (tVar n) tk) ρ a := fun S0 H0 S H σ E Q q => by
  obtain ⟨p, o, h1, _⟩ := E.out h
  refine ⟨_, h1, hk S0 H0 S H σ E _ fun w S2 H2 e2 r2 => ?_⟩
  cases r2
  obtain ⟨p', o', h1', nB, h0, hs, hh, hl, kvs, rfl, r⟩ := (E.go e2).out h
  rw [h1] at h1'
  cases h1'
  obtain ⟨y, q1, q2⟩ := valV_kv r hx
  refine ⟨p, y, rfl, ?_, q y S2 H2 e2 q2⟩
  rw [← q1]
  exact DGet.k (k := Sum.inr z) hh
theorem ds_dputN {n : Nat} {xs : List (Str × α)} {P : α → Prop} (hn : ρ[n]? = some (.obj (ownD xs))) (hv : DN K B tv ρ P) (hk : DE K B tk ρ z) (nz : z ∉ xs.map (·.1)) (hl : xs.length < 1000) (k : ∀ a, P a → Φ.nx (ρ.set n (.obj (ownD (xs ++ [(z, a)]))))) : DS K B (sDPut (tVar n) tk tv) ρ Φ := fun S0 H0 S H σ D E px nx r b c => by
  refine hv S0 H0 S H σ E _ fun v a S1 H1 pa e1 r1 => ?_
  obtain ⟨p, o, g1, h0, hs, hh, pr⟩ := (E.go e1).obj hn
  refine ⟨_, g1, ?_⟩
  refine hk S0 H0 S1 H1 σ (E.go e1) _ fun w S2 H2 e2 r2 => ?_
  cases r2
  have E2 := (E.go e1).go e2
  obtain ⟨p', o', g1', h0', hs', hh', hl', kvs, rfl, rr⟩ := E2.obj hn
  rw [g1] at g1'
  cases g1'
  refine ⟨p, _, rfl, DPut.k (k := Sum.inr z) hh' (by rw [rr.length]; exact Nat.lt_trans hl (by decide)), ?_⟩
  rw [putK_new _ (valV_none rr nz)]
  refine nx _ σ S2 _ (k a pa) (e1.s.trans e2.s) (E2.chgOb hn g1 ⟨by rw [List.length_append]; exact hl, _, rfl, Paired.app rr (.cons ⟨rfl, Enc.mono e2.s r1⟩ .nil)⟩)
theorem ds_par3O {n m l : Nat} {xs : List γ} (h1 : DE K B ta ρ a) (h2 : DE K B tb ρ b) (h3 : DO K B tc ρ xs) (k : Φ.nx (((ρ.set n (.val a)).set m (.val b)).set l (.own xs))) : DS K B (tPar3 n m l (tCons ta (tCons tb (tCons tc tNil)))) ρ Φ := fun S0 H0 S H σ D E px nx r b c =>
  h1 S0 H0 S H σ E _ fun v S1 H1 e1 r1 => h2 S0 H0 S1 H1 σ (E.go e1) _ fun w S2 H2 e2 r2 => h3 S0 H0 S2 H2 σ (E.go (e1.trans e2)) _ fun p vs S3 H3 e3 hp hs hh rr hl =>
    ⟨v, w, _, rfl, nx _ _ S3 H3 k ((e1.s.trans e2.s).trans e3.s) (En.setO (((E.go (e1.trans e2)).setV (Enc.mono e2.s r1)).setV r2) e3 hp hs hh rr hl)⟩
theorem idx_mem {ws : List Str} {z : Str} (h : z ∈ ws) : ws[ws.idxOf z]? = some z ∧ ∀ m, m < ws.idxOf z → ws[m]? ≠ some z := by
  have hl : ws.idxOf z < ws.length := List.idxOf_lt_length_iff.mpr h
  refine ⟨by rw [List.getElem?_eq_getElem hl, List.getElem_idxOf hl], fun m hlt he => ?_⟩
  have : ws.idxOf z ≤ m := by
    clear h hl
    induction ws generalizing m with
    | nil => simp at he
    | cons a r ih =>
      rw [List.idxOf_cons] at hlt ⊢
      by_cases c : (a == z) = true
      · rw [c] at hlt
        exact absurd hlt (Nat.not_lt_zero _)
      · have c : (a == z) = false := by simpa using c
        rw [c] at hlt ⊢
        cases m with
        | zero =>
          simp at he
          rw [he] at c
          simp at c
        | succ m =>
          have := ih m (by simpa using hlt) (by simpa using he)
          simpa using this
  omega
end
end WW

set_option Elab.async false
set_option linter.all false
set_option maxRecDepth 100000
set_option maxHeartbeats 4000000
namespace WW
open PySem PySem.Spec PyProof.Rows L2
/-! ### plain lists in parts; one's own list, drawn -/
theorem Paired.set {α β : Type} {F : α → β → Prop} {x : α} {y : β} (hf : F x y) : ∀ {l : List α} {r : List β} (n : Nat), Paired F l r → Paired F (l.set n x) (r.set n y)
  | _, _, _, .nil => .nil
  | _, _, 0, .cons f t => .cons hf t
  | _, _, n + 1, .cons f t => .cons f (Paired.set hf n t)
section
variable {K : PySem.W.Frag} {B : Addr → Prop} {ρ ρ' ρ1 ρ2 : List Slot} {ta tb tc td te ti : TE} {t u : TT} {ts tu tz : TS} {Φ : Post} {α β γ δ : Type} {e_α : Enc α} {e_β : Enc β} {e_γ : Enc γ} {e_δ : Enc δ} {a : α} {b : β} {i j : Int} {z : Str}
theorem DS.nxI {N : List Slot → Prop} (h : DS K B ts ρ { Φ with nx := N }) (hn : ∀ ρ', N ρ' → Φ.nx ρ') : DS K B ts ρ Φ := fun S0 H0 S H σ D E px n r b c =>
  h S0 H0 S H σ D E px (fun ρ' σ' S' H' q => n ρ' σ' S' H' (hn ρ' q)) r b c
theorem d_lstA {xs : List AV} (h : DE K B te ρ (AV.lst xs)) : DE K B te ρ (α := L AV) xs := h.conv fun S v r => by
  have r : AV.rep K S v (.lst xs) := r
  rw [AV.rep] at r
  obtain ⟨hl, p, vs, e, hq, r⟩ := r
  exact ⟨hl, p, vs, e, hq, AV.pr.mp r⟩
theorem d_lstOf {xs : List AV} (h : DE K B te ρ (α := L AV) xs) : DE K B te ρ (AV.lst xs) := h.conv fun S v r => by
  obtain ⟨hl, p, vs, e, hq, r⟩ := r
  show AV.rep K S v (.lst xs)
  rw [AV.rep]
  exact ⟨hl, p, vs, e, hq, AV.pr.mpr r⟩
theorem d_tupOf {xs : List AV} (h : DE K B te ρ (α := U AV) xs) : DE K B te ρ (AV.tup xs) := h.conv fun S v r => by
  obtain ⟨hl, p, vs, e, hq, r⟩ := r
  show AV.rep K S v (.tup xs)
  rw [AV.rep]
  exact ⟨hl, p, vs, e, hq, AV.pr.mpr r⟩
theorem d_tupA {tr : TA} {xs : List AV} (h : DL K B tr ρ xs) (hl : xs.length ≤ BIG) : DE K B (tTup tr) ρ (AV.tup xs) := d_tupOf (d_tupU h hl)
/-- a new list of one's own, one of some -/
def DON {α : Type} [Enc α] (K : PySem.W.Frag) (B : Addr → Prop) (te : TE) (ρ : List Slot) (P : List α → Prop) : Prop := ∀ S0 H0 S H σ, En K B S0 H0 S H σ ρ → ∀ Q : VK, (∀ p vs xs S' H', P xs → Ext B S H S' H' → H p = none → S' p = none → H' p = some (.lst vs) → Paired (Enc.rep K S') vs xs → xs.length ≤ BIG → Q (.ref p) H') → te σ H Q
theorem DON.n {P : List α → Prop} (h : DON K B te ρ P) : DN K B te ρ (α := L α) P := fun S0 H0 S H σ E Q q =>
  h S0 H0 S H σ E Q fun p vs xs S1 H1 px e1 hp hs hh rr hl => q _ xs _ H1 px (e1.frz hp E.i hh hs) ⟨hl, p, vs, rfl, upd_same, Paired.mono (fun _ _ => Enc.mono (same_new hs)) rr⟩
theorem don_cat {P1 P2 : List α → Prop} (h1 : DN K B ta ρ (α := L α) P1) (h2 : DN K B tb ρ (α := L α) P2) (hl : ∀ xs ys, P1 xs → P2 ys → xs.length + ys.length ≤ BIG) : DON K B (tOp rCat ta tb) ρ (fun zs : List α => ∃ xs ys : List α, P1 xs ∧ P2 ys ∧ zs = xs ++ ys) := fun S0 H0 S H σ E Q q =>
  h1 S0 H0 S H σ E _ fun v (xs : List α) S1 H1 px e1 r1 => h2 S0 H0 S1 H1 σ (E.go e1) _ fun w (ys : List α) S2 H2 py e2 ⟨l2, p2, vs2, z2, hh2, r2⟩ => by
    obtain ⟨l1, p1, vs1, z1, hh1, r1'⟩ := Enc.mono e2.s r1
    subst z1
    subst z2
    have r := Paired.app r1' r2
    refine ⟨p1, p2, vs1, vs2, rfl, rfl, e2.i _ _ hh1, e2.i _ _ hh2, ?_, fun p hp => q p _ (xs ++ ys) S2 _ ⟨xs, ys, px, py, rfl⟩ ((e1.trans e2).trans (Ext.priv e2.i hp)) ((e1.trans e2).free E.i hp) (e2.i.free hp) upd_same r ?_⟩
    · rw [r1'.length, r2.length]
      exact Nat.le_trans (hl _ _ px py) big_line
    · rw [List.length_append]
      exact hl _ _ px py
theorem DON.imp {P P' : List α → Prop} (h : DON K B te ρ P) (f : ∀ xs, P xs → P' xs) : DON K B te ρ P' := fun S0 H0 S H σ E Q q => h S0 H0 S H σ E Q fun p vs xs S1 H1 px => q p vs xs S1 H1 (f xs px)
theorem ds_retON {P : List α → Prop} (h : DON K B te ρ P) (k : ∀ xs, P xs → Φ.rt (.own xs)) : DS K B (tRet te) ρ Φ := fun S0 H0 S H σ D E px n r b c =>
  h S0 H0 S H σ E _ fun p vs xs S1 H1 pa e1 hp hs hh rr hl => r _ _ S1 H1 (k xs pa) (E.ext.trans e1) ⟨p, _, rfl, E.ext.free E.i0 hp, hs, hh, hl, vs, rfl, rr⟩
theorem ds_asgON {n : Nat} {P : List α → Prop} (h : DON K B te ρ P) (k : ∀ xs, P xs → Φ.nx (ρ.set n (.own xs))) : DS K B (tAsg te (gName n)) ρ Φ := fun S0 H0 S H σ D E px n r b c =>
  h S0 H0 S H σ E _ fun p vs xs S1 H1 pa e1 hp hs hh rr hl => n _ _ S1 H1 (k xs pa) e1.s (E.setO e1 hp hs hh rr hl)
theorem don_call {dp : List Slot → (Slot → Prop) → Prop} {tr : TA} {ss : List Slot} {P : List α → Prop} (h : DA K B tr ρ ss) (hd : dp ss fun s => ∃ xs : List α, P xs ∧ s = .own xs) : DON K B (tCall (spT K dp) [] E0 tr) ρ P := fun S0 H0 S H σ E Q q =>
  h S0 H0 S H σ E _ fun vs S1 H1 e1 r1 => by
    show spT K dp (vs ++ []) H1 Q E0
    rw [List.append_nil]
    refine ⟨B, S1, ss, _, e1.i, fun p hp => ⟨((E.go e1).bx p hp).1, ((E.go e1).bx p hp).2.1⟩, r1.base, hd, fun s v S2 H2 hs e2 ok => ?_⟩
    obtain ⟨xs, px, rfl⟩ := hs
    obtain ⟨p, o, rfl, hp, hs, hh, hl, vs, rfl, rr⟩ := ok
    exact q p vs xs S2 H2 px (e1.trans e2) (e1.free E.i hp) hs hh rr hl
theorem ixN_in {n : Nat} (h0 : 0 ≤ i) (h : i.toNat < n) : ixN n i = some i.toNat := by
  unfold ixN
  rw [if_pos h0, if_pos (by omega)]
/-- xs[i] = a, xs one's own -/
theorem ds_setO {n : Nat} {xs : List α} (hx : ρ[n]? = some (.own xs)) (hv : DE K B te ρ a) (hi : DE K B ti ρ i) (h0 : 0 ≤ i) (hl : i.toNat < xs.length) (k : Φ.nx (ρ.set n (.own (xs.set i.toNat a)))) : DS K B (tAsg te (gSub (tVar n) ti rSetL)) ρ Φ := fun S0 H0 S H σ D E px nx r b c => by
  refine hv S0 H0 S H σ E _ fun w S1 H1 e1 r1 => ?_
  obtain ⟨_, p, vs, g1, h0', hs, hh, rr⟩ := (E.go e1).own hx
  refine ⟨_, g1, ?_⟩
  refine hi S0 H0 S1 H1 σ (E.go e1) _ fun v S2 H2 e2 r2 => ?_
  cases r2
  have E2 := (E.go e1).go e2
  obtain ⟨lx, p', vs', g1', h0', hs', hh', rr'⟩ := E2.own hx
  rw [g1] at g1'
  cases g1'
  refine ⟨p, vs', i, i.toNat, rfl, rfl, hh', ?_, nx _ σ S2 _ k (e1.s.trans e2.s) (E2.chg hx g1 (Paired.set (Enc.mono e2.s r1) i.toNat rr') ?_)⟩
  · rw [rr'.length]
    exact ixN_in h0 hl
  · rw [List.length_set]
    exact lx
theorem dn_call1 {pre : α → Prop} {f : α → γ} {P : α → Prop} (h : DN K B ta ρ P) (hp : ∀ x, P x → pre x) : DN K B (tCall (spT K (dp1 pre f)) [] E0 (tCons ta tNil)) ρ (fun y => ∃ x, P x ∧ y = f x) := fun S0 H0 S H σ E Q q =>
  h S0 H0 S H σ E _ fun v a S1 H1 pa e1 r1 => by
    show spT K _ ([v] ++ []) H1 Q E0
    rw [List.append_nil]
    refine ⟨B, S1, [.val a], fun s => s = .val (f a), e1.i, fun p hp => ⟨((E.go e1).bx p hp).1, ((E.go e1).bx p hp).2.1⟩, .cons r1 rfl .nil, ⟨a, rfl, hp a pa, rfl⟩, fun s v S2 H2 hs e2 ok => ?_⟩
    cases hs
    exact q v (f a) S2 H2 ⟨a, pa, rfl⟩ (e1.trans e2) ok
/-- for x in xs, xs one of some -/
def DIN {α : Type} [Enc α] (K : PySem.W.Frag) (B : Addr → Prop) (wi : TI) (ρ : List Slot) (P : List α → Prop) : Prop := ∀ S0 H0 S H σ, En K B S0 H0 S H σ ρ → ∀ R : It → Hp → Prop, (∀ J xs S' H', P xs → Ext B S H S' H' → Yld K B S0 H0 J S' xs → R J H') → wi σ H R
theorem din_seq {P : List α → Prop} (h : DN K B te ρ (α := L α) P) : DIN K B (iSeq K te) ρ P := fun S0 H0 S H σ E R q =>
  h S0 H0 S H σ E _ fun v xs S1 H1 px e1 ⟨hl, p, vs, e, hq, r⟩ => by
    have hh : SqL K S1 p vs := SqL.of hq
    refine ⟨p, e, ?_⟩
    refine .inl ⟨⟨vs, Evl.ex_l e1.i hh⟩, q _ xs S1 H1 px e1 fun S2 H2 s2 x2 => have i2 := x2.i; ⟨fun i x hx => ?_, vs, Evl.ex_l (s2.trans i2) hh, by rw [r.length]; exact Nat.le_refl _⟩⟩
    obtain ⟨w, h1, h2⟩ := Paired.at r hx
    refine ⟨⟨vs, w, Evl.ex_l (s2.trans i2) hh, h1⟩, fun v H3 hy => ⟨S2, ?_, ?_⟩⟩
    · rw [hy.1]
      exact Ext.refl i2
    · have z := hy.2 vs (Evl.ex_l (s2.trans i2) hh)
      rw [h1] at z
      cases z
      exact Enc.mono s2 h2
theorem ds_forWN {wi : TI} {g : TG} {P : List α → Prop} (ρf : List Slot) (hi : DIN K B wi ρ P) (h0 : Wk ρ ρf)
    (hs : ∀ xs, P xs → ∀ x ∈ xs, ∃ ρ2 js, DG K B g x ρf ρ2 js ∧ DS K B ts ρ2 ⟨fun r => Wk r ρf, Φ.rt, Φ.nx, fun r => Wk r ρf, Φ.px⟩) (hd : ∀ r, Wk r ρf → Φ.nx r) : DS K B (tFor wi g ts) ρ Φ := fun S0 H0 S H σ D E px n r b c => by
  refine hi S0 H0 S H σ E _ fun J xs S1 H1 pxs e1 y => ?_
  refine ⟨fun i m σ' Hc => m = xs.length - i ∧ i ≤ xs.length ∧ ∃ ρ' Sc, Wk ρ' ρf ∧ Same S1 Sc ∧ En K B S0 H0 Sc Hc σ' ρ', ⟨xs.length, by simp, Nat.zero_le _, ρ, S1, h0, Same.refl _, E.go e1⟩, ?_⟩
  rintro i m σ' Hc ⟨rfl, hle, ρ', Sc, hI, sm, E'⟩
  have yy := y Sc Hc sm E'.ext
  by_cases hlt : i < xs.length
  · refine .inr ?_
    obtain ⟨x, hx⟩ : ∃ x, xs[i]? = some x := ⟨_, List.getElem?_eq_getElem hlt⟩
    obtain ⟨hgo, hy⟩ := yy.1 i x hx
    refine ⟨hgo, fun σ2 H2 => ∃ ρ2 S2, Wk ρ2 ρf ∧ Same S1 S2 ∧ En K B S0 H0 S2 H2 σ2 ρ2, fun σ2 H2 hp => ⟨xs.length - (i + 1), by omega, rfl, hlt, hp⟩, fun v H' hyl => ?_⟩
    obtain ⟨S2, e2, r2⟩ := hy v H' hyl
    obtain ⟨ρ2, js, hg, hb⟩ := hs xs pxs x (List.mem_of_getElem? hx)
    refine (hg.weak hI) S0 H0 S2 H' σ' v (E'.go e2) r2 _ fun σ2 E2 _ _ => ?_
    refine hb S0 H0 S2 H' σ2 _ E2 px (fun ρ3 σ3 S3 H3 q s E3 => ⟨ρ3, S3, q, (sm.trans e2.s).trans s, E3⟩) r (fun ρ3 σ3 S3 H3 q s E3 => n ρ3 σ3 S3 H3 q (((e1.s.trans sm).trans e2.s).trans s) E3) (fun ρ3 σ3 S3 H3 q s E3 => ⟨ρ3, S3, q, (sm.trans e2.s).trans s, E3⟩)
  · refine .inl ⟨?_, ?_⟩
    · rw [show i = xs.length by omega]
      exact yy.2
    · exact n ρ' σ' Sc Hc (hd ρ' hI) (e1.s.trans sm) E'
end
end WW

set_option Elab.async false
set_option linter.all false
set_option maxRecDepth 100000
set_option maxHeartbeats 4000000
namespace WW
open PySem PySem.Spec PyProof.Rows L2
/-! ### sorted: tuples of two texts and two ints -/
structure TotB {α : Type} (lt : α → α → Bool) : Prop where
  irr : ∀ x, lt x x = false
  tri : ∀ x y, x = y ∨ lt x y = true ∨ lt y x = true
  tr : ∀ x y z, lt x y = true → lt y z = true → lt x z = true
theorem TotB.asym {α : Type} {lt : α → α → Bool} (T : TotB lt) {x y : α} (h : lt x y = true) : lt y x = false := by
  cases h2 : lt y x with
  | false => rfl
  | true =>
    have := T.tr x y x h h2
    rw [T.irr] at this
    cases this
theorem TotB.swo {α : Type} {lt : α → α → Bool} (T : TotB lt) : SrtO.Swo lt := by
  refine ⟨fun x y h => T.asym h, fun x y z h1 h2 => ?_⟩
  rcases T.tri x y with e | e | e
  · rw [e]; exact h2
  · rcases T.tri y z with f | f | f
    · rw [← f]; exact h1
    · exact T.asym (T.tr x y z e f)
    · rw [f] at h2; cases h2
  · rw [e] at h1; cases h1
theorem TotB.map {α β : Type} {lt : α → α → Bool} (T : TotB lt) (f : β → α) (inj : ∀ x y, f x = f y → x = y) : TotB fun x y => lt (f x) (f y) :=
  ⟨fun x => T.irr _, fun x y => by rcases T.tri (f x) (f y) with h | h | h; exact .inl (inj _ _ h); exact .inr (.inl h); exact .inr (.inr h), fun x y z => T.tr _ _ _⟩
def lx {α β : Type} [DecidableEq α] (l1 : α → α → Bool) (l2 : β → β → Bool) (p q : α × β) : Bool := if p.1 = q.1 then l2 p.2 q.2 else l1 p.1 q.1
theorem TotB.lx {α β : Type} [DecidableEq α] {l1 : α → α → Bool} {l2 : β → β → Bool} (T1 : TotB l1) (T2 : TotB l2) : TotB (WW.lx l1 l2) := by
  refine ⟨fun x => ?_, fun x y => ?_, fun x y z h1 h2 => ?_⟩
  · unfold WW.lx
    rw [if_pos rfl]
    exact T2.irr _
  · obtain ⟨a, b⟩ := x
    obtain ⟨c, d⟩ := y
    unfold WW.lx
    by_cases e : a = c
    · subst e
      rw [if_pos rfl, if_pos rfl]
      rcases T2.tri b d with h | h | h
      · exact .inl (by rw [h])
      · exact .inr (.inl h)
      · exact .inr (.inr h)
    · rw [if_neg e, if_neg (fun z => e z.symm)]
      rcases T1.tri a c with h | h | h
      · exact absurd h e
      · exact .inr (.inl h)
      · exact .inr (.inr h)
  · obtain ⟨a, b⟩ := x
    obtain ⟨c, d⟩ := y
    obtain ⟨e, f⟩ := z
    unfold WW.lx at h1 h2 ⊢
    by_cases e1 : a = c
    · subst e1
      rw [if_pos rfl] at h1
      by_cases e2 : a = e
      · subst e2
        rw [if_pos rfl] at h2 ⊢
        exact T2.tr _ _ _ h1 h2
      · rw [if_neg e2] at h2 ⊢
        exact h2
    · rw [if_neg e1] at h1
      by_cases e2 : c = e
      · subst e2
        rw [if_neg e1]
        exact h1
      · rw [if_neg e2] at h2
        have h3 := T1.tr _ _ _ h1 h2
        by_cases e3 : a = e
        · have h3 : l1 a e = true := h3
          rw [e3, T1.irr] at h3
          cases h3
        · rw [if_neg e3]
          exact h3
def ltI (i j : Int) : Bool := decide (i < j)
theorem totI : TotB ltI := ⟨fun x => decide_eq_false (Int.lt_irrefl x), fun x y => by unfold ltI; simp only [decide_eq_true_eq]; omega, fun x y z => by unfold ltI; simp only [decide_eq_true_eq]; omega⟩
def ltS (x y : Str) : Bool := decide (x.cps.toList < y.cps.toList)
theorem totS : TotB ltS := by
  refine ⟨fun x => decide_eq_false (List.lt_irrefl _), fun x y => ?_, fun x y z h1 h2 => ?_⟩
  · unfold ltS
    simp only [decide_eq_true_eq]
    by_cases h1 : x.cps.toList < y.cps.toList
    · exact .inr (.inl h1)
    · by_cases h2 : y.cps.toList < x.cps.toList
      · exact .inr (.inr h2)
      · refine .inl ?_
        have e := List.le_antisymm (List.not_lt.mp h2) (List.not_lt.mp h1)
        obtain ⟨⟨a⟩⟩ := x
        obtain ⟨⟨b⟩⟩ := y
        have e : a = b := e
        rw [e]
  · unfold ltS at h1 h2 ⊢
    rw [decide_eq_true_eq] at h1 h2 ⊢
    exact List.lt_trans h1 h2
def kL (t : T4 Str Str Int Int) : Str × (Str × (Int × Int)) := (t.a, t.b, t.c, t.d)
def ltL (p q : T4 Str Str Int Int) : Bool := lx ltS (lx ltS (lx ltI ltI)) (kL p) (kL q)
theorem totL : TotB ltL := (totS.lx (totS.lx (totI.lx totI))).map kL fun x y h => by
  obtain ⟨a, b, c, d⟩ := x
  obtain ⟨a', b', c', d'⟩ := y
  injection h with h1 h2
  injection h2 with h2 h3
  injection h3 with h3 h4
  subst h1 h2 h3 h4
  rfl
abbrev LkT := T4 Str Str Int Int
def IsLk (h : PySem.Heap) (v : Value) (p : LkT) : Prop := ∃ a o t1 t2 t3 t4 n, v = .ref a ∧ h.get? a = some o ∧ o.cls = .type "tuple" ∧ o.data = .seq #[.str p.a t1, .str p.b t2, .int p.c t3, .int p.d t4] n
theorem IsLk.keeps {h h' : PySem.Heap} {v : Value} {p : LkT} (l : IsLk h v p) (k : ∀ b o, h.get? b = some o → o.cls = .type "tuple" → h'.get? b = some o) : IsLk h' v p := by
  obtain ⟨a, o, t1, t2, t3, t4, n, e, ho, hc, hd⟩ := l
  exact ⟨a, o, t1, t2, t3, t4, n, e, k _ _ ho hc, hc, hd⟩
section
variable {prog : Program} {w : World} {A : Around} {E : Value → Shared → Prop} {s : Shared}
theorem link_cmp {vs : List Value} {k : Value → LkT} (hp : ∀ v ∈ vs, IsLk s.heap v (k v)) : SrtO.Cmp prog w A s (tuples' true) (fun p => p.1 ∈ vs) (SrtO.lt2 fun v u => ltL (k v) (k u)) := by
  intro p q hm hm'
  have h1 := hp _ hm
  have h2 := hp _ hm'
  show wpAny (model prog w) A (keyLt' (tuples' true) p.1 q.1) (fun r s' => s' = s ∧ r = ltL (k p.1) (k q.1)) (fun _ _ => False) s
  generalize k p.1 = x at h1 ⊢
  generalize k q.1 = y at h2 ⊢
  obtain ⟨xa, xb, xc, xd⟩ := x
  obtain ⟨ya, yb, yc, yd⟩ := y
  obtain ⟨a, o, t1, t2, t3, t4, n, e, ho, hc, hd⟩ := h1
  obtain ⟨a', o', u1, u2, u3, u4, n', e', ho', hc', hd'⟩ := h2
  rw [e, e']
  refine PySem.W.kat_lt ho hd ho' hd' ?_
  show PySem.W.KatLex prog w A true (decide (4 < 4)) _ [(.str xa t1, .str ya u1), (.str xb t2, .str yb u2), (.int xc t3, .int yc u3), (.int xd t4, .int yd u4)] 0 s
  have bs : ∀ {i : Nat} {x y : Str}, (x == y) = true → x = y := fun h => eq_of_beq h
  have bn : ∀ {x y : Str}, (x == y) = false → ¬ x = y := fun h e => by rw [e] at h; simp at h
  have l1 : ∀ {r r' : Str × (Int × Int)}, ltL ⟨xa, xb, xc, xd⟩ ⟨ya, yb, yc, yd⟩ = if xa = ya then (if xb = yb then (if xc = yc then ltI xd yd else ltI xc yc) else ltS xb yb) else ltS xa ya := rfl
  have l1 := @l1 (xb, xc, xd) (xb, xc, xd)
  refine PySem.W.kat_cons (SeqAt.EqAt.str_str xa t1 ya u1 prog w _ _ ?_)
  refine PySem.W.kat_go (fun e1 => ?_) (fun e1 => ?_)
  · rw [if_pos (eq_of_beq e1)] at l1
    refine PySem.W.kat_yes (PySem.W.kat_cons (SeqAt.EqAt.str_str xb t2 yb u2 prog w _ _ ?_))
    refine PySem.W.kat_go (fun e2 => ?_) (fun e2 => ?_)
    · rw [if_pos (eq_of_beq e2)] at l1
      refine PySem.W.kat_yes (PySem.W.kat_cons (SeqAt.EqAt.int_int xc t3 yc u3 prog w _ _ ?_))
      refine PySem.W.kat_go (fun e3 => ?_) (fun e3 => ?_)
      · rw [if_pos (eq_of_beq e3)] at l1
        refine PySem.W.kat_yes (PySem.W.kat_cons (SeqAt.EqAt.int_int xd t4 yd u4 prog w _ _ ?_))
        refine PySem.W.kat_go (fun e4 => ?_) (fun e4 => ?_)
        · have e5 : ltI xd yd = false := by rw [eq_of_beq e4]; exact totI.irr _
          refine PySem.W.kat_yes (PySem.W.kat_nil ⟨rfl, ?_⟩)
          rw [l1, e5]
          rfl
        · refine PySem.W.kat_no (PySem.W.kat_one _ _ (PyProof.Rows.lt_int ?_))
          exact (show s = s ∧ decide (xd < yd) = ltL ⟨xa, xb, xc, xd⟩ ⟨ya, yb, yc, yd⟩ from ⟨rfl, l1.symm⟩)
      · have n3 : ¬ xc = yc := fun z => by rw [z] at e3; simp at e3
        rw [if_neg n3] at l1
        refine PySem.W.kat_no (PySem.W.kat_one _ _ (PyProof.Rows.lt_int ?_))
        exact (show s = s ∧ decide (xc < yc) = ltL ⟨xa, xb, xc, xd⟩ ⟨ya, yb, yc, yd⟩ from ⟨rfl, l1.symm⟩)
    · rw [if_neg (bn e2)] at l1
      refine PySem.W.kat_no (PySem.W.kat_one _ _ (PyProof.Rows.lt_str ?_))
      exact (show s = s ∧ decide (xb.cps.toList < yb.cps.toList) = ltL ⟨xa, xb, xc, xd⟩ ⟨ya, yb, yc, yd⟩ from ⟨rfl, l1.symm⟩)
  · rw [if_neg (bn e1)] at l1
    exact PySem.W.kat_no (PyProof.Rows.oneLt_str ⟨rfl, l1.symm⟩)
theorem link_firsts {h : PySem.Heap} : ∀ {vs : List Value}, (∀ v ∈ vs, ∃ p, IsLk h v p) → ∃ fs : List Value, PySem.W.KatTups h vs fs ∧ fs.length = vs.length ∧ ∀ f ∈ fs, ∃ x t, f = Value.str x t
  | [], _ => ⟨[], PySem.W.KatTups.nil, rfl, fun _ hm => by simp at hm⟩
  | v :: vs, hp => by
    obtain ⟨fs, h1, h2, h3⟩ := link_firsts (vs := vs) fun v' hm => hp v' (List.mem_cons_of_mem _ hm)
    obtain ⟨p, a, o, t1, t2, t3, t4, n, e, ho, hc, hd⟩ := hp v (List.mem_cons_self ..)
    subst e
    refine ⟨.str p.a t1 :: fs, PySem.W.KatTups.cons ho hc hd rfl h1, by rw [List.length_cons, List.length_cons, h2], fun f hm => ?_⟩
    rcases List.mem_cons.mp hm with rfl | hm
    · exact ⟨_, _, rfl⟩
    · exact h3 f hm
theorem links_sortable {a : Addr} {vs : List Value} {k : Value → LkT} (h0 : 0 < vs.length) (hp : ∀ v ∈ vs, IsLk s.heap v (k v)) (ha : ∀ o, s.heap.get? a = some o → o.cls ≠ .type "tuple") : SrtO.SortableO prog w A s a vs fun v u => ltL (k v) (k u) := by
  intro h' keep
  have hp' : ∀ v ∈ vs, IsLk h' v (k v) := fun v hm => (hp v hm).keeps fun b o e c => keep b o (fun z => by subst z; exact ha o e c) e
  obtain ⟨fs, h1, h2, h3⟩ := link_firsts fun v hm => ⟨_, hp' v hm⟩
  refine ⟨tuples' true, fun Q E hq => ?_, link_cmp hp'⟩
  refine PySem.W.kat_kind (T := .type "str") h1 (by omega) (fun f hm => ?_) (by rfl) ?_
  · obtain ⟨x, t, rfl⟩ := h3 f hm
    exact PySem.W.Looks.now
  · have e : (Value.type "str" != Value.type "tuple") = true := by first | decide +kernel | rfl | decide
    rw [e]
    exact hq
theorem sorted_links {l : Addr} {vs : List Value} {k : Value → LkT} {Q : Value → Shared → Prop} (hl : s.heap.IsList l vs.toArray) (hz : vs.length ≤ sizeLine) (hp : ∀ v ∈ vs, IsLk s.heap v (k v))
    (h : ∀ (h' : PySem.Heap) (d : Addr) (out : List Value), SrtO.Srtd (fun v u => ltL (k v) (k u)) out → SrtO.Stb (fun v u => ltL (k v) (k u)) out vs → (∀ b o, s.heap.get? b = some o → h'.get? b = some o) → s.heap.objs.size ≤ d → (∃ n, h'.get? d = some (seqObj "list" out.toArray n)) → Q (.ref d) { s with heap := h' }) :
    wpAny (model prog w) A (call (.builtin "sorted") [.ref l]) Q E s := by
  refine SrtO.sorted_ord (ltv := fun v u => ltL (k v) (k u)) ?_ hl hz (fun h2 h₁ a ha kk => ?_) fun out hs hb => ?_
  · have S := totL.swo
    exact ⟨fun x y => S.asym (k x) (k y), fun x y z => S.tr (k x) (k y) (k z)⟩
  · refine links_sortable (s := { s with heap := h₁ }) (by omega) (fun v hm => (hp v hm).keeps fun b o e _ => (kk b o e).2) fun o e => ?_
    have e' : some o = some (seqObj "list" vs.toArray 0) := e.symm.trans ha
    cases e'
    intro c
    exact absurd (Value.type.inj c) (by decide)
  · exact h _ _ out hs hb (fun b o e => sortedAll_old e) (Nat.le_succ _) (sortedAll_at s.heap vs out.toArray)
end
/-- sorted(xs), xs a list of such tuples (k says which): a new list, sorted -/
def rSortedL0 (K : PySem.W.Frag) : List V → Hp → VK → Prop := fun vs H Q => ∃ (a : Addr) (xs : List V) (k : V → LkT), vs = [V.ref a] ∧ SqL K H a xs ∧ (∀ x ∈ xs, ∃ t, x = V.ref t ∧ SqT K H t [.str (k x).a, .str (k x).b, .int (k x).c, .int (k x).d]) ∧
  ∀ ys p, SrtO.Srtd (fun v u => ltL (k v) (k u)) ys → ys.Perm xs → H p = none → Q (.ref p) (upd H p (.lst ys))
theorem cr_sortedL0 {X : Cx} (K : PySem.W.Frag) (hK : X.K = K := by rfl) : CallR X (.builtin "sorted") (rSortedL0 K) := by
  subst hK
  intro pins s σ H vs us Q I r h
  obtain ⟨a, xs, k, rfl, hs, hx, q⟩ := h
  obtain ⟨its, rv, hl, hz⟩ := I.list hs
  obtain ⟨u, rfl, ru⟩ := vals1 r
  obtain rfl : u = Value.ref a := ru
  obtain ⟨e1, e2⟩ := refs_back rv fun x m => by
    obtain ⟨t, e, _⟩ := hx x m
    exact ⟨t, e⟩
  refine sorted_links (k := fun u => k (backV u)) hl.isList (by rw [← rv.length]; exact hz) (fun v hv => ?_) fun h' d out h1 h2 kp hd hn => ?_
  · obtain ⟨t, rfl⟩ := e2 v hv
    have hm : V.ref t ∈ xs := by rw [e1]; exact List.mem_map.mpr ⟨_, hv, rfl⟩
    obtain ⟨t', e, ht⟩ := hx _ hm
    cases e
    obtain ⟨its2, r2, ⟨o, ho, hc, n, hd⟩, _⟩ := I.tuple ht
    cases r2 with
    | cons r1 r2 => cases r2 with
      | cons r2 r3 => cases r3 with
        | cons r3 r4 => cases r4 with
          | cons r4 r5 =>
            cases r5
            obtain ⟨t1, rfl⟩ := r1
            obtain ⟨t2, rfl⟩ := r2
            obtain ⟨t3, rfl⟩ := r3
            obtain ⟨t4, rfl⟩ := r4
            exact ⟨t, o, t1, t2, t3, t4, n, rfl, ho, hc, hd⟩
  · have h3 : ∀ u ∈ out, ∃ a, u = Value.ref a := fun u hu => e2 u (h2.perm.mem_iff.mp hu)
    obtain ⟨n, hn⟩ := hn
    have hp : (out.map backV).Perm xs := by
      rw [e1]
      exact h2.perm.map _
    refine ⟨.ref d, upd H d (.lst (out.map backV)), I.laid (t' := s.toks) kp hd ⟨?_, out, n, vals_back h3, hn⟩, rfl, q _ d ?_ hp (I.hok.fresh hd)⟩
    · rw [hp.length_eq]
      exact hz
    · exact List.pairwise_map.mpr (List.Pairwise.imp (fun h => h) h1)
def LkR (K : PySem.W.Frag) (H : Hp) (x : V) (t : LkT) : Prop := ∃ p, x = V.ref p ∧ SqT K H p [.str t.a, .str t.b, .int t.c, .int t.d]
/-- sorted(xs), xs such tuples: a new list of them, sorted -/
def rSortedL (K : PySem.W.Frag) : List V → Hp → VK → Prop := fun vs H Q => ∃ (a : Addr) (xs : List V) (ts : List LkT) (R : V → LkT → Prop), vs = [V.ref a] ∧ SqL K H a xs ∧ Paired R xs ts ∧ (∀ x t, R x t → LkR K H x t) ∧
  ∀ ys us p, Paired R ys us → SrtO.Srtd ltL us → us.Perm ts → H p = none → Q (.ref p) (upd H p (.lst ys))
theorem paired_mapf {α β : Type} {F : α → β → Prop} {f : α → β} : ∀ {l : List α}, (∀ x ∈ l, F x (f x)) → Paired F l (l.map f)
  | [], _ => .nil
  | x :: r, h => .cons (h x List.mem_cons_self) (paired_mapf fun y hy => h y (List.mem_cons_of_mem _ hy))
theorem paired_eqf {α β : Type} {F : α → β → Prop} {f : α → β} (h : ∀ x y, F x y → y = f x) : ∀ {l : List α} {r : List β}, Paired F l r → r = l.map f
  | _, _, .nil => rfl
  | _, _, .cons a t => by rw [List.map_cons, ← paired_eqf h t, h _ _ a]
theorem paired_left {α β : Type} {F : α → β → Prop} : ∀ {l : List α} {r : List β}, Paired F l r → ∀ x ∈ l, ∃ y, F x y
  | _, _, .nil, x, h => nomatch h
  | _, _, .cons a t, x, h => by
    rcases List.mem_cons.mp h with rfl | h
    · exact ⟨_, a⟩
    · exact paired_left t x h
open Classical in
theorem cr_sortedL {X : Cx} (K : PySem.W.Frag) (hK : X.K = K := by rfl) : CallR X (.builtin "sorted") (rSortedL K) := by
  subst hK
  intro pins s σ H vs us Q I r h
  obtain ⟨a, xs, ts, R, rfl, hs, hp, hR, q⟩ := h
  have un : ∀ x t t', LkR X.K H x t → LkR X.K H x t' → t' = t := fun x t t' ⟨p, e, h1⟩ ⟨p', e', h2⟩ => by
    rw [e] at e'
    cases e'
    have := I.tuple_inj h1 h2
    obtain ⟨a1, b1, c1, d1⟩ := t
    obtain ⟨a2, b2, c2, d2⟩ := t'
    simp only [List.cons.injEq, V.str.injEq, V.int.injEq, and_true] at this
    obtain ⟨rfl, rfl, rfl, rfl⟩ := this
    rfl
  let k : V → LkT := fun x => if h : ∃ t, LkR X.K H x t then h.choose else ⟨"", "", 0, 0⟩
  have hk : ∀ x t, LkR X.K H x t → t = k x := fun x t ht => by
    have ex : ∃ t, LkR X.K H x t := ⟨t, ht⟩
    show t = if h : ∃ t, LkR X.K H x t then h.choose else ⟨"", "", 0, 0⟩
    rw [dif_pos ex]
    exact un _ _ _ ex.choose_spec ht
  have hr : ∀ x ∈ xs, R x (k x) := fun x hx => by
    obtain ⟨t, ht⟩ := paired_left hp x hx
    rw [← hk x t (hR x t ht)]
    exact ht
  refine cr_sortedL0 X.K rfl pins s σ H _ us Q I r ⟨a, xs, k, rfl, hs, fun x hx => ?_, fun ys p h1 h2 h3 => ?_⟩
  · obtain ⟨p, e, h⟩ := hR _ _ (hr x hx)
    exact ⟨p, e, h⟩
  · refine q ys (ys.map k) p (paired_mapf fun y hy => hr y (h2.mem_iff.mp hy)) ?_ ?_ h3
    · exact List.pairwise_map.mpr (List.Pairwise.imp (fun h => h) h1)
    · rw [paired_eqf (fun x t h => hk x t (hR x t h)) hp]
      exact h2.map _
def srt {α : Type} (lt : α → α → Bool) (xs : List α) : List α := xs.mergeSort fun x y => !lt y x
theorem srt_is {α : Type} {lt : α → α → Bool} (T : TotB lt) {us ts : List α} (h1 : SrtO.Srtd lt us) (h2 : us.Perm ts) : us = srt lt ts := by
  have p2 : (srt lt ts).Perm ts := List.mergeSort_perm ts _
  have s2 : SrtO.Srtd lt (srt lt ts) := by
    have := List.pairwise_mergeSort (le := fun x y => !lt y x) (fun a b c h1 h2 => by
      have h1 : (!lt b a) = true := h1
      have h2 : (!lt c b) = true := h2
      show (!lt c a) = true
      rw [Bool.not_eq_true'] at h1 h2 ⊢
      exact T.swo.tr a b c h1 h2) (fun a b => by
      show (!lt b a || !lt a b) = true
      cases h : lt b a with
      | false => rfl
      | true => rw [T.asym h]; rfl) ts
    exact List.Pairwise.imp (fun h => by simpa using h) this
  refine List.Perm.eq_of_pairwise (le := fun x y => lt y x = false) (fun a b _ _ h1 h2 => ?_) h1 s2 (h2.trans p2.symm)
  rcases T.tri a b with h | h | h
  · exact h
  · rw [h] at h2; cases h2
  · rw [h] at h1; cases h1
section
variable {K : PySem.W.Frag} {B : Addr → Prop} {ρ : List Slot} {te : TE}
theorem d_sortL {ts : List LkT} (h : DE K B te ρ (α := L LkT) ts) : DO K B (tCB (rSortedL K) (tCons te tNil)) ρ (srt ltL ts) := fun S0 H0 S H σ E Q q =>
  h S0 H0 S H σ E _ fun v S1 H1 e1 ⟨hl, p, vs, z, hh, r⟩ => by
    refine ⟨p, vs, ts, Enc.rep K S1, by rw [z], SqL.of (e1.i _ _ hh), r, fun x t hx => ?_, fun ys us w h1 h2 h3 hn => ?_⟩
    · obtain ⟨p, v1, v2, v3, v4, e, hq, r1, r2, r3, r4⟩ := hx
      cases r1
      cases r2
      cases r3
      cases r4
      exact ⟨p, e, Evl.ex_t e1.i hq⟩
    · have e := srt_is totL h2 h3
      subst e
      exact q w _ S1 _ (e1.trans (Ext.priv e1.i hn)) (e1.free E.i hn) (e1.i.free hn) upd_same h1 (by rw [h3.length_eq]; exact hl)
end
end WW

set_option Elab.async false
set_option linter.all false
set_option maxRecDepth 100000
set_option maxHeartbeats 4000000
namespace WW
open PySem PySem.Spec PyProof.Rows L2
/-! ### texts: min, sorted -/
theorem holdStrs {h : PySem.Heap} : ∀ {its : List Value} {zs : List Str}, StrsAre its zs → PySem.W.HoldAll h its zs
  | _, [], .nil => PySem.W.HoldAll.nil
  | _, _ :: _, .cons y t r => PySem.W.HoldAll.cons (PySem.W.holds_str _ _) (holdStrs r)
def minS (z : Str) (zs : List Str) : Str := zs.foldl (fun a y => if ltS y a = true then y else a) z
theorem minS_is : ∀ {zs : List Str} {z : Str}, minS z zs ∈ z :: zs ∧ ∀ y ∈ z :: zs, ltS y (minS z zs) = false
  | [], z => ⟨List.mem_cons_self, fun y hy => by rw [List.mem_singleton.mp hy]; exact totS.irr _⟩
  | x :: r, z => by
    show minS (if ltS x z = true then x else z) r ∈ z :: x :: r ∧ _
    obtain ⟨h1, h2⟩ := minS_is (zs := r) (z := if ltS x z = true then x else z)
    have h3 := h2 _ List.mem_cons_self
    have e : minS z (x :: r) = minS (if ltS x z = true then x else z) r := rfl
    rw [e]
    generalize minS (if ltS x z = true then x else z) r = m at *
    refine ⟨?_, fun y hy => ?_⟩
    · rcases List.mem_cons.mp h1 with h | h
      · rw [h]
        split
        · exact List.mem_cons_of_mem _ List.mem_cons_self
        · exact List.mem_cons_self
      · exact List.mem_cons_of_mem _ (List.mem_cons_of_mem _ h)
    · by_cases c : ltS x z = true
      · rw [if_pos c] at h3
        rcases List.mem_cons.mp hy with rfl | hy
        · exact totS.swo.tr m x y h3 (totS.asym c)
        · rcases List.mem_cons.mp hy with rfl | hy
          · exact h3
          · exact h2 y (List.mem_cons_of_mem _ hy)
      · rw [if_neg c] at h3
        have c : ltS x z = false := by simpa using c
        rcases List.mem_cons.mp hy with rfl | hy
        · exact h3
        · rcases List.mem_cons.mp hy with rfl | hy
          · exact totS.swo.tr m z y h3 c
          · exact h2 y (List.mem_cons_of_mem _ hy)
def rMinS (K : PySem.W.Frag) : List V → Hp → VK → Prop := fun vs H Q => ∃ (a : Addr) (z : Str) (zs : List Str), vs = [V.ref a] ∧ SqL K H a ((z :: zs).map V.str) ∧ Q (.str (minS z zs)) H
theorem cr_minS {X : Cx} (K : PySem.W.Frag) (hc : X.calm = true) (hu : X.A.units + 64 < cLine) (hK : X.K = K := by rfl) : CallR X (.builtin "min") (rMinS K) := by
  subst hK
  intro pins s σ H vs us Q I r h
  obtain ⟨a, z, zs, rfl, hs, q⟩ := h
  obtain ⟨its, rv, hl, _⟩ := I.list hs
  rw [Vals.ref1 r]
  have st := Vals.strs rv
  refine PySem.W.min_list_datum (x := z) (xs := zs) (I.ok.hd hc) hl.isList (holdStrs st) (by show X.A.units + 1 + 0 < cLine; omega) fun i v h' tk hi hv hk => ?_
  obtain ⟨as, rd⟩ := hv
  have e : PySem.W.minOf z zs = minS z zs := rfl
  rw [e] at rd
  have rd : PySem.Reads h' v (.str (minS z zs)) as := rd
  cases rd
  exact ⟨.str _, H, I.kept hk, ⟨_, rfl⟩, q⟩
theorem rising_srt : ∀ {r : List Str} {x : Str}, risingS x r = true → SrtO.Srtd ltS (x :: r)
  | [], x, _ => List.pairwise_singleton _ _
  | y :: r, x, h => by
    have h : (!ltCps y.cps.toList x.cps.toList && risingS y r) = true := h
    rw [Bool.and_eq_true, ltCps_eq] at h
    obtain ⟨h1, h2⟩ := h
    have h1 : ltS y x = false := by simpa [ltS] using h1
    have ih := rising_srt h2
    refine List.pairwise_cons.mpr ⟨fun z hz => ?_, ih⟩
    rcases List.mem_cons.mp hz with rfl | hz
    · exact h1
    · exact totS.swo.tr x y z h1 ((List.pairwise_cons.mp ih).1 z hz)
theorem sortedS_srt {ys : List Str} (h : sortedS ys = true) : SrtO.Srtd ltS ys := by
  cases ys with
  | nil => exact List.Pairwise.nil
  | cons x r => exact rising_srt h
theorem cr_sortedSK {X : Cx} (K : PySem.W.Frag) (hK : X.K = K := by rfl) : CallR X (.builtin "sorted") (rSortedS K) := by
  subst hK
  exact cr_sortedS
section
variable {K : PySem.W.Frag} {B : Addr → Prop} {ρ : List Slot} {te : TE}
theorem d_sortS {zs : List Str} (h : DE K B te ρ (α := L Str) zs) (h64 : zs.length < 64) : DO K B (tCB (rSortedS K) (tCons te tNil)) ρ (srt ltS zs) := fun S0 H0 S H σ E Q q =>
  h S0 H0 S H σ E _ fun v S1 H1 e1 ⟨hl, p, vs, e, hh, r⟩ => by
    cases vals_str r
    refine ⟨p, zs, by rw [e], SqL.of (e1.i _ _ hh), h64, fun ys w h1 h2 hn => ?_⟩
    have e := srt_is totS (sortedS_srt h2) h1
    subst e
    exact q w _ S1 _ (e1.trans (Ext.priv e1.i hn)) (e1.free E.i hn) (e1.i.free hn) upd_same (paired_map V.str (fun _ => rfl) _) (by rw [h1.length_eq]; exact hl)
theorem d_minS {z : Str} {zs : List Str} (h : DE K B te ρ (α := L Str) (z :: zs)) : DE K B (tCB (rMinS K) (tCons te tNil)) ρ (minS z zs) := fun S0 H0 S H σ E Q q =>
  h S0 H0 S H σ E _ fun v S1 H1 e1 ⟨hl, p, vs, e, hh, r⟩ => by
    cases vals_str r
    exact ⟨p, z, zs, by rw [e], SqL.of (e1.i _ _ hh), q _ S1 H1 e1 rfl⟩
end
end WW

set_option Elab.async false
set_option linter.all false
set_option maxRecDepth 100000
set_option maxHeartbeats 4000000
namespace WW
open PySem PySem.Spec PyProof.Rows L2
/-! ### f-strings; dicts as sets and as maps of texts -/
/-- keys of a dict, all texts -/
structure KSet where
  has : Str → Bool
instance : Enc KSet where
  rep K S v k := ∃ p kvs, v = .ref p ∧ S p = some (.dK kvs) ∧ ∀ z, (valV kvs (Sum.inr z)).isSome = k.has z
  mono e h := by
    obtain ⟨p, kvs, r, hq, hp⟩ := h
    exact ⟨p, kvs, r, e _ _ hq, hp⟩
/-- one's own map of texts to texts, at most n entries -/
def ownM (n : Nat) (f : Str → Option Str) : OwnP := ⟨fun K S _ o => ∃ kvs, o = .dK kvs ∧ kvs.length ≤ n ∧ ∀ z, valV kvs (Sum.inr z) = (f z).map V.str, fun e ⟨kvs, r, l, h⟩ => ⟨kvs, r, l, h⟩⟩
theorem putK_le {k : Key} {x : V} {kvs : List (Key × V)} : (putK kvs k x).length ≤ kvs.length + 1 := by
  unfold putK
  by_cases e : (kvs.any fun kv => decide (kv.1 = k)) = true
  · rw [if_pos e, List.length_map]
    omega
  · rw [if_neg e, List.length_append]
    simp
section
variable {K : PySem.W.Frag} {B : Addr → Prop} {ρ ρ' ρ1 ρ2 : List Slot} {ta tb tc td te tk tv : TE} {t u : TT} {ts tu tz : TS} {Φ : Post} {α β γ δ : Type} {e_α : Enc α} {e_β : Enc β} {a : α} {b : β} {i j : Int} {z y : Str}
def DJs (K : PySem.W.Frag) (B : Addr → Prop) (js : List TE) (ρ : List Slot) (zs : List Str) : Prop := ∀ S0 H0 S H σ, En K B S0 H0 S H σ ρ → ∀ (acc : Str) (Q : Str → Hp → Prop), acc.length + (zs.map (·.length)).sum ≤ BIG → (∀ S' H', Ext B S H S' H' → Q (zs.foldl (· ++ ·) acc) H') → tJs js acc σ H Q
theorem dj_nil : DJs K B [] ρ [] := fun S0 H0 S H σ E acc Q l q => q S H (Ext.refl E.i)
theorem str_app_len (a b : Str) : (a ++ b).length = a.length + b.length := by
  show (a.cps ++ b.cps).size = _
  rw [Array.size_append]
  rfl
theorem dj_cons {js : List TE} {zs : List Str} (h : DE K B te ρ z) (hr : DJs K B js ρ zs) : DJs K B (te :: js) ρ (z :: zs) := fun S0 H0 S H σ E acc Q l q =>
  h S0 H0 S H σ E _ fun v S1 H1 e1 r1 => by
    rw [List.map_cons, List.sum_cons] at l
    refine ⟨z, r1, by rw [str_app_len]; exact Nat.le_trans (by omega) big_line, hr S0 H0 S1 H1 σ (E.go e1) (acc ++ z) Q (by rw [str_app_len]; omega) fun S2 H2 e2 => q S2 H2 (e1.trans e2)⟩
theorem d_fmtS (h : DE K B te ρ z) (hl : z.length ≤ BIG) : DE K B (tFmt te) ρ z := fun S0 H0 S H σ E Q q =>
  h S0 H0 S H σ E _ fun v S1 H1 e1 r1 => .inl ⟨z, r1, Nat.le_trans hl big_line, q _ S1 H1 e1 rfl⟩
theorem d_joined {js : List TE} {zs : List Str} (h : DJs K B js ρ zs) (hl : (zs.map (·.length)).sum ≤ BIG) : DE K B (fun σ H Q => tJs js Str.empty σ H fun out H1 => Q (.str out) H1) ρ (zs.foldl (· ++ ·) Str.empty) := fun S0 H0 S H σ E Q q =>
  h S0 H0 S H σ E Str.empty _ (by show 0 + _ ≤ _; omega) fun S1 H1 e1 => q _ S1 H1 e1 rfl
theorem empty_app (a : Str) : Str.empty ++ a = a := by
  obtain ⟨a⟩ := a
  show (⟨#[] ++ a⟩ : Str) = ⟨a⟩
  rw [Array.empty_append]
theorem paired_rev {α β : Type} {F : α → β → Prop} : ∀ {l : List α} {r : List β}, Paired F l r → Paired F l.reverse r.reverse
  | _, _, .nil => .nil
  | _, _, .cons a t => by rw [List.reverse_cons, List.reverse_cons]; exact Paired.app (paired_rev t) (.cons a .nil)
/-- {k: v for x in xs if ..}, all values alike: the keys -/
theorem d_dcSet {wi : TI} {g : TG} {vs : List Nat} {xs : List α} (p : α → Bool) (f : α → Str) (hi : DI K B wi ρ xs) (hl : xs.length ≤ BIG)
    (h : ∀ x ∈ xs, ∃ ρ' js, DG K B g x (wipeS ρ vs) ρ' js ∧ (∀ i ∈ js, i ∈ vs) ∧ DT K B t ρ' (p x) ∧ (p x = true → DE K B tk ρ' (f x) ∧ DE K B tv ρ' true)) : DE K B (tDc wi g t tk tv vs) ρ (KSet.mk fun z => xs.any fun x => p x && decide (f x = z)) := by
  intro S0 H0 S H σ E Q q
  refine hi S0 H0 S H σ E _ fun J S1 H1 e1 y D hD => ?_
  have hD0 : H D = none := e1.free E.i hD
  have nB : ¬ B D := fun z => (E.bx D z).2.2 (E.ext.free E.i0 hD0)
  let Pv : Nat → Hp → Prop := fun i Hc => ∃ Sc kvs, Ext B S1 H1 Sc Hc ∧ Sc D = none ∧ Hc D = some (.dK kvs) ∧ kvs.length ≤ i ∧ ∀ z, (valV kvs (Sum.inr z)).isSome = (xs.take i).any fun x => p x && decide (f x = z)
  refine ⟨fun i m Hc => m = xs.length - i ∧ i ≤ xs.length ∧ Pv i Hc, ⟨xs.length, by simp, Nat.zero_le _, S1, [], Ext.priv e1.i hD, e1.i.free hD, upd_same, Nat.le_refl _, fun z => by rw [List.take_zero]; rfl⟩, ?_⟩
  rintro i m Hc ⟨rfl, hle, Sc, kvs, ex, hs, hh, kl, hv⟩
  have yy := y Sc Hc ex.s (E.ext.trans (e1.trans ex))
  by_cases hlt : i < xs.length
  · refine .inr ?_
    obtain ⟨x, hx⟩ : ∃ x, xs[i]? = some x := ⟨_, List.getElem?_eq_getElem hlt⟩
    obtain ⟨hgo, hy⟩ := yy.1 i x hx
    refine ⟨hgo, Pv (i + 1), fun H' hp => ⟨xs.length - (i + 1), by omega, rfl, hlt, hp⟩, fun v H' hyl => ?_⟩
    obtain ⟨S2, e2, r2⟩ := hy v H' hyl
    obtain ⟨ρ', js, hg, hjs, ht, he⟩ := h x (List.mem_of_getElem? hx)
    refine hg S0 H0 S2 H' (wipe σ vs) v ((E.go ((e1.trans ex).trans e2)).wp vs) r2 _ fun σ2 E2 l2 f2 => ⟨?_, ?_⟩
    · have z := wipe_eq (vs := vs) l2 fun i hi => f2 i fun z => hi (hjs i z)
      rw [z, wipe_wipe]
    · have st : ∀ S4 H4, Ext B Sc Hc S4 H4 → S4 D = none ∧ H4 D = some (.dK kvs) := fun S4 H4 e => by
        obtain ⟨q1, q2⟩ := e.p D hs (by rw [hh]; exact fun z => nomatch z)
        refine ⟨q1, ?_⟩
        rcases q2 with q2 | ⟨q2, _⟩
        · rw [q2]; exact hh
        · exact absurd q2 nB
      refine ht S0 H0 S2 H' σ2 E2 _ fun S3 H3 e3 => ?_
      cases hp : p x with
      | false =>
        obtain ⟨a1, a2⟩ := st S3 H3 (e2.trans e3)
        refine ⟨S3, kvs, ex.trans (e2.trans e3), a1, a2, Nat.le_succ_of_le kl, fun z => ?_⟩
        rw [List.take_add_one, hx, List.any_append, hv z]
        show _ = (_ || (p x && decide (f x = z) || false))
        rw [hp]
        simp
      | true =>
        obtain ⟨hk, hv2⟩ := he hp
        refine hk S0 H0 S3 H3 σ2 (E2.go e3) _ fun kk S4 H4 e4 r4 => ?_
        cases r4
        refine hv2 S0 H0 S4 H4 σ2 (E2.go (e3.trans e4)) _ fun w S5 H5 e5 r5 => ?_
        have e25 := ((e2.trans e3).trans e4).trans e5
        obtain ⟨a1, a2⟩ := st S5 H5 e25
        refine ⟨kvs, Sum.inr (f x), rfl, a2, ?_, S5, putK kvs (Sum.inr (f x)) w, (ex.trans e25).mut hD a1, a1, upd_same, ?_, fun z => ?_⟩
        · have := big_line
          omega
        · exact Nat.le_trans (putK_le) (Nat.succ_le_succ kl)
        · rw [valV_put, List.take_add_one, hx, List.any_append]
          show _ = (_ || (p x && decide (f x = z) || false))
          rw [hp, ← hv z]
          by_cases c : z = f x
          · subst c
            rw [if_pos rfl, decide_eq_true rfl]
            simp
          · rw [if_neg (fun e => c (by injection e)), decide_eq_false (fun e => c e.symm)]
            simp
  · refine .inl ⟨?_, ?_⟩
    · rw [show i = xs.length by omega]
      exact yy.2
    · rw [List.take_of_length_le (by omega)] at hv
      have fz : Ext B S H (upd Sc D (.dK kvs)) Hc := (e1.trans ex).frz hD0 E.i hh hs
      exact q _ _ Hc fz ⟨D, kvs, rfl, upd_same, hv⟩
/-- z in d -/
theorem d_inK {k : KSet} (h1 : DE K B te ρ z) (h2 : DE K B td ρ k) : DE K B (tDIn te td) ρ (k.has z) := fun S0 H0 S H σ E Q q =>
  h1 S0 H0 S H σ E _ fun v S1 H1 e1 r1 => h2 S0 H0 S1 H1 σ (E.go e1) _ fun w S2 H2 e2 ⟨p, kvs, e, hq, hv⟩ => by
    cases r1
    refine ⟨p, valV kvs (Sum.inr z), e, DGet.k (k := Sum.inr z) (e2.i _ _ hq), ?_⟩
    rw [hv z]
    exact q _ S2 H2 (e1.trans e2) rfl
/-- {} -/
theorem dob_map : DOb K B tDNewK ρ (ownM 0 fun _ => none) := fun S0 H0 S H σ E Q q p hp => q p _ S _ (Ext.priv E.i hp) hp (E.i.free hp) upd_same ⟨[], rfl, Nat.le_refl _, fun z => rfl⟩
/-- d[z] = y, d one's own map -/
theorem ds_mput {n m : Nat} {f : Str → Option Str} (hn : ρ[n]? = some (.obj (ownM m f))) (hv : DE K B tv ρ y) (hk : DE K B tk ρ z) (hm : m < BIG) (k : Φ.nx (ρ.set n (.obj (ownM (m + 1) fun x => if x = z then some y else f x)))) : DS K B (sDPut (tVar n) tk tv) ρ Φ := fun S0 H0 S H σ D E px nx r b c => by
  refine hv S0 H0 S H σ E _ fun v S1 H1 e1 r1 => ?_
  cases r1
  obtain ⟨p, o, g1, h0, hs, hh, pr⟩ := (E.go e1).obj hn
  refine ⟨_, g1, ?_⟩
  refine hk S0 H0 S1 H1 σ (E.go e1) _ fun w S2 H2 e2 r2 => ?_
  cases r2
  have E2 := (E.go e1).go e2
  obtain ⟨p', o', g1', h0', hs', hh', kvs, rfl, kl, rr⟩ := E2.obj hn
  rw [g1] at g1'
  cases g1'
  refine ⟨p, _, rfl, DPut.k (k := Sum.inr z) hh' (by have := big_line; omega), ?_⟩
  refine nx _ σ S2 _ k (e1.s.trans e2.s) (E2.chgOb hn g1 ⟨_, rfl, Nat.le_trans (putK_le) (Nat.succ_le_succ kl), fun x => ?_⟩)
  rw [valV_put, rr x]
  by_cases c : x = z
  · subst c
    rw [if_pos rfl]
    show _ = Option.map V.str (if x = x then some y else f x)
    rw [if_pos rfl]
    rfl
  · rw [if_neg (fun e => c (by injection e))]
    show _ = Option.map V.str (if x = z then some y else f x)
    rw [if_neg c]
/-- d[z], d one's own map -/
theorem d_mget {n m : Nat} {f : Str → Option Str} (hn : ρ[n]? = some (.obj (ownM m f))) (hk : DE K B tk ρ z) (hf : f z = some y) : DE K B (tDGet (tVar n) tk) ρ y := fun S0 H0 S H σ E Q q => by
  obtain ⟨p, o, g1, _⟩ := E.obj hn
  refine ⟨_, g1, hk S0 H0 S H σ E _ fun w S2 H2 e2 r2 => ?_⟩
  cases r2
  obtain ⟨p', o', g1', h0', hs', hh', kvs, rfl, kl, rr⟩ := (E.go e2).obj hn
  rw [g1] at g1'
  cases g1'
  have r := rr z
  rw [hf] at r
  refine ⟨p, .str y, rfl, ?_, q _ S2 H2 e2 rfl⟩
  show DGet H2 p (V.str z) (some (.str y))
  have g := DGet.k (k := Sum.inr z) hh'
  rw [r] at g
  exact g
/-- xs[::-1] -/
theorem do_rev {xs : List α} (h : DE K B te ρ (α := L α) xs) : DO K B (tRevL K te) ρ xs.reverse := fun S0 H0 S H σ E Q q =>
  h S0 H0 S H σ E _ fun v S1 H1 e1 ⟨hl, p, vs, e, hq, r⟩ => ⟨p, vs, e, SqL.of (e1.i _ _ hq), fun w hw => q w vs.reverse S1 _ (e1.trans (Ext.priv e1.i hw)) (e1.free E.i hw) (e1.i.free hw) upd_same (paired_rev r) (by rw [List.length_reverse]; exact hl)⟩
end
end WW

set_option Elab.async false
set_option linter.all false
set_option maxRecDepth 100000
set_option maxHeartbeats 4000000
namespace WW
open PySem PySem.Spec PyProof.Rows L2
/-! ### calls of defs by keywords alone, told in the opposite order -/
structure FnAtR (P : Program) (w : World) (K : PySem.W.Frag) (mg : Str → Option Value) (base : Heap) (CX : CXT) (k : Nat) (x : Str) (ps : List Str) (sp : Sp) : Prop where
  ex : ∃ fd, FnOk P w K mg base CX k (He.ga K x) fd ps sp ∧ KBn K fd ps 0 ps.reverse (fun us ws => us ++ ws.reverse) (fun vs zs => vs ++ zs.reverse)
  kp : PySem.W.keepIn K (.ref (He.ga K x)) = true
  g : mg x = some (.ref (He.ga K x))
theorem kb_rev {K : PySem.W.Frag} {x qual : Str} {params : Arguments} {body : List Stmt} {scope : Scope} {f : Addr} {fd : FuncData} {ps : List Str} (F : FunD K x qual params body scope [] [] f fd)
    (h : ∀ (kV doc pm : Value) (an : Option Addr) (cdv ct : Value) (ws : List Value), ws.length = ps.reverse.length → bindArgs (PySem.W.fnOf x qual params body scope .none kV doc pm an cdv ct) ⟨[], ps.reverse.zip ws⟩ = pure (ps.zip ws.reverse)) : KBn K fd ps 0 ps.reverse (fun us ws => us ++ ws.reverse) (fun vs zs => vs ++ zs.reverse) := by
  obtain ⟨oc, od, dV, kV, doc, pm, an, cdv, ct, osl, rfl, lk, hcd, hD, hK⟩ := F.ex
  rcases hD with ⟨_, rfl⟩ | ⟨e, _⟩
  · refine ⟨fun s us ws _ l1 l2 => ?_, fun r1 r2 => r1.append (paired_rev r2)⟩
    obtain rfl := List.eq_nil_of_length_eq_zero l1
    exact .of_eq (h kV doc pm an cdv ct ws l2)
  · exact absurd rfl e
def tCallR (m : Nat) (sp : Sp) (tk : TA) : TE := fun σ H Q => tk σ H fun zs H2 => zs.length = m ∧ sp zs.reverse H2 Q E0
section
variable {X : Cx} {k j : Nat} {x : Str} {ps : List Str} {sp : Sp} {kws : List Keyword} {tk : TA} {p pos : Pos}
theorem pe_fnR (F : FnAtR X.prog X.w X.K X.mg X.base CX0 k x ps sp) (hr : Room j X.A) (hg : Gl X x) (hkw : PK X kws tk) (hk : k ≤ j := by decide)
    (hall : (backToKw pos (keywordEach kws X.env)).all (·.1.isSome) = true := by rfl) (hks : (backToKw pos (keywordEach kws X.env)).filterMap (·.1) = ps.reverse := by rfl) (hdb : (x == ("__debug__" : Str)) = false := by decide)
    (hpl : ((backTo pos (starEach [] X.env)).any (·.1) || (backToKw pos (keywordEach kws X.env)).any (·.1.isNone)) = false := by rfl) :
    PE X (.Call (.Name x p) [] kws pos) (tCallR ps.length sp tk) := by
  obtain ⟨fd, F1, hb⟩ := F.ex
  refine ⟨fun pins s σ H Q I h => ?_⟩
  refine wpAny_Call_Name_kw (ld_glob I hg F.g ?_ hdb)
  refine PySem.W.callWith_KW0 (h₀ := X.base) I.ok.mod.kin F.kp hall ?_ hpl
  refine thn (hkw.run pos pins s σ H _ I h) fun ws s2 ⟨zs, H2, I2, rz, l2, q2⟩ => ⟨I2.kIn, ?_⟩
  rw [hks]
  exact run_fnN (us := []) (vs := []) F1 (hr.mono hk) hb pass0 I2 .nil rz rfl (by rw [l2, List.length_reverse]) q2
end
theorem ArgsOk.app {K : PySem.W.Frag} {B : Addr → Prop} {H0 S H : Hp} : ∀ {vs ws : List V} {ss ts : List Slot}, ArgsOk K B H0 S H vs ss → ArgsOk K B H0 S H ws ts → ArgsOk K B H0 S H (vs ++ ws) (ss ++ ts)
  | _, _, _, _, .nil, h => h
  | _, _, _, _, .cons a b c, h => .cons a b (c.app h)
theorem ArgsOk.rev {K : PySem.W.Frag} {B : Addr → Prop} {H0 S H : Hp} : ∀ {vs : List V} {ss : List Slot}, ArgsOk K B H0 S H vs ss → ArgsOk K B H0 S H vs.reverse ss.reverse
  | _, _, .nil => .nil
  | _, _, .cons a b c => by
    rw [List.reverse_cons, List.reverse_cons]
    exact c.rev.app (.cons a b .nil)
section
variable {K : PySem.W.Frag} {B : Addr → Prop} {ρ : List Slot} {α : Type} {e_α : Enc α} {a : α}
theorem d_callR {dp : List Slot → (Slot → Prop) → Prop} {tr : TA} {m : Nat} {ss : List Slot} (h : DA K B tr ρ ss) (hm : ss.length = m) (hd : dp ss.reverse fun s => s = .val a) : DE K B (tCallR m (spT K dp) tr) ρ a := fun S0 H0 S H σ E Q q =>
  h S0 H0 S H σ E _ fun vs S1 H1 e1 r1 => by
    refine ⟨by rw [r1.length, hm], B, S1, ss.reverse, _, e1.i, fun p hp => ⟨((E.go e1).bx p hp).1, ((E.go e1).bx p hp).2.1⟩, r1.base.rev, hd, fun s v S2 H2 hs e2 ok => ?_⟩
    cases hs
    exact q v S2 H2 (e1.trans e2) ok
theorem dn_callR {dp : List Slot → (Slot → Prop) → Prop} {P : α → Prop} {tr : TA} {m : Nat} {ss : List Slot} (h : DA K B tr ρ ss) (hm : ss.length = m) (hd : dp ss.reverse fun s => ∃ a, P a ∧ s = .val a) : DN K B (tCallR m (spT K dp) tr) ρ P := fun S0 H0 S H σ E Q q =>
  h S0 H0 S H σ E _ fun vs S1 H1 e1 r1 => by
    refine ⟨by rw [r1.length, hm], B, S1, ss.reverse, _, e1.i, fun p hp => ⟨((E.go e1).bx p hp).1, ((E.go e1).bx p hp).2.1⟩, r1.base.rev, hd, fun s v S2 H2 hs e2 ok => ?_⟩
    obtain ⟨a, pa, rfl⟩ := hs
    exact q v a S2 H2 pa (e1.trans e2) ok
end
end WW

set_option Elab.async false
set_option linter.all false
set_option maxRecDepth 100000
set_option maxHeartbeats 4000000
namespace WW
open PySem PySem.Spec PyProof.Rows L2
/-! ### own exceptions made as values -/
/-- a new exception object of the class at C: its dict, one field -/
def newX (H : Hp) (C a d : Addr) (fld : Str) (y : V) : Hp := upd (upd H d (.xd [(fld, y)])) a (exo a C (some d))
def tNewX (C : Addr) (fld : Str) (te : TE) : TE := fun σ H Q => te σ H fun y H1 => ∀ a d, H1 a = none → H1 d = none → d ≠ a → Q (.ref a) (newX H1 C a d fld y)
section
variable {X : Cx} {pins : List (Addr × Obj)} {σ : L2.St} {H1 : Hp} {hp h' : Heap} {g : Array GenState} {dr : Drawn} {tk tk' : Nat} {os : OsState} {a d C t1 : Addr} {fld : Str} {y : V} {u : Value}
theorem inv_newX (I : Inv X pins σ H1 ⟨hp, g, dr, tk, os⟩) (ry : RelV y u) (k : ∀ b o, hp.get? b = some o → h'.get? b = some o) (na : hp.objs.size ≤ a) (nd : hp.objs.size ≤ d) (ne : d ≠ a)
    (hx : h'.get? a = some ({ cls := .ref C, dict := some d, data := .fields #[.ref t1, .none, .none, .none, .bool false, .none] } : Obj)) (hns : h'.Ns1 d fun z => if z = fld then some u else none) : Inv X pins σ (newX H1 C a d fld y) ⟨h', g, dr, tk', os⟩ := by
  have ha : H1 a = none := I.hok.fresh na
  have hd : H1 d = none := I.hok.fresh nd
  have lt : ∀ {b : Addr} {o : Obj}, hp.get? b = some o → b ≠ a ∧ b ≠ d := fun {b o} e => by
    have l : b < hp.objs.size := Heap.lt_size e
    exact ⟨(fun z => by rw [z] at l; exact absurd l (Nat.not_lt.mpr na)), (fun z => by rw [z] at l; exact absurd l (Nat.not_lt.mpr nd))⟩
  have off : ∀ {b : Addr}, b ≠ a → b ≠ d → newX H1 C a d fld y b = H1 b := fun {b} h1 h2 => by unfold newX; rw [upd_ne h1, upd_ne h2]
  have on : ∀ {b : Addr} {o : HO}, H1 b = some o → b ≠ a ∧ b ≠ d := fun {b o} e => ⟨(fun z => by rw [z, ha] at e; cases e), (fun z => by rw [z, hd] at e; cases e)⟩
  have U : Un X.fs [] H1 (newX H1 C a d fld y) hp h' := {
    keep := fun b o q _ _ _ => k b o q
    slot := fun b o q _ _ _ => ⟨o.slots, k b o q⟩
    free := fun b o q n _ => by rw [off (lt q).1 (lt q).2]; exact n
    there := fun b o q _ => ⟨o, k b o q⟩
    tups := fun b xs q => by rw [off (on q).1 (on q).2]; exact q
    frzs := fun b o v q => by rw [off (on q).1 (on q).2]; exact q
    tbls := fun b ps q => ⟨#[], by rw [off (on q).1 (on q).2, q]; simp⟩ }
  refine I.un (t' := tk') U fun b o q => ?_
  by_cases ba : b = a
  · subst ba
    have q : newX H1 C b d fld y b = some o := q
    unfold newX at q
    rw [upd_same] at q
    cases q
    exact exo_ok hx
  · by_cases bd : b = d
    · subst bd
      have q : newX H1 C a b fld y b = some o := q
      unfold newX at q
      rw [upd_ne ba, upd_same] at q
      cases q
      exact ⟨_, hns, relO_put (fs := []) ry fun g => True.intro⟩
    · have q : newX H1 C a d fld y b = some o := q
      rw [off ba bd] at q
      exact (I.hok b o q).stay (fun c v _ z => k c v z) (fun c hc => by rw [off (on hc).1 (on hc).2]; exact hc) fun c xs hc => by rw [off (on hc).1 (on hc).2]; exact hc
end
section
variable {X : Cx} {e : Expr} {te : TE} {p pos : Pos}
theorem pe_sup {x fld : Str} {k : Nat} (S : SupAt X.prog X.K X.mg x fld) (hr : Room k X.A) (hg : Gl X x) (ha : PE X e te) (hk : 1 ≤ k := by decide)
    (hdb : (x == ("__debug__" : Str)) = false := by decide) (he : starEach [e] X.env = (false, eval e X.env) :: starEach [] X.env := by rfl) :
    PE X (.Call (.Name x p) [e] [] pos) (tNewX (He.ga X.K x) fld te) := by
  refine ⟨fun pins s σ H Q I h => ?_⟩
  obtain ⟨fI, qual, params, scope, p0, p1, p2, p3, p4, p5, p6, p7, p8, p9, j, txt, px, pl, SC, SS, hev, hbind⟩ := S.ex
  have T := SC.oex
  obtain ⟨nm, q, N, bs, bm, sn, sub, ab, col, dd, k0, k1, k2, k3, k5, hC, hbm⟩ := T.cls
  refine wpAny_Call_Name_kw (ld_glob I hg S.g ?_ hdb)
  refine PySem.W.callWith_K (h₀ := X.base) I.ok.mod.kin T.kC (PyProof.Rows.args_cons (thn (ha.run pins s σ H _ I h) fun u s1 ⟨y, H1, I1, ry, q1⟩ => PyProof.Rows.args_nil ⟨I1.kIn, ?_⟩) he) he rfl
  show wpAny _ _ (call (.ref (He.ga X.K x)) [u]) _ _ _
  obtain ⟨hp, g, dr, tk, os⟩ := s1
  have kk : ∀ b o, hp.get? b = some o → ((hp.push (PySem.W.kdv_tup [u])).push (PySem.HandSPX.excO (He.ga X.K x) hp.objs.size)).get? b = some o := fun b o e => Heap.get?_push_of_some _ (Heap.get?_push_of_some _ e)
  have hget : ((hp.push (PySem.W.kdv_tup [u])).push (PySem.HandSPX.excO (He.ga X.K x) hp.objs.size)).get? (hp.objs.size + 1) = some (PySem.HandSPX.excO (He.ga X.K x) hp.objs.size) := by heap_get
  have hsz2 : hp.objs.size ≤ ((hp.push (PySem.W.kdv_tup [u])).push (PySem.HandSPX.excO (He.ga X.K x) hp.objs.size)).objs.size := Nat.le_of_lt (Nat.lt_trans (Nat.lt_succ_self _) (Heap.lt_size hget))
  have hab : X.base.get? (hp.objs.size + 1) = none := by
    cases z : X.base.get? (hp.objs.size + 1) with
    | none => rfl
    | some o => exact absurd (Heap.lt_size (I1.bk _ _ z)) (by show ¬ hp.objs.size + 1 < hp.objs.size; omega)
  refine wpAny_call (PySem.HandSPX.call_own F.excBase_ValueError (fun Y => PySem.HandSPX.refsVE_contains Y bm hbm) (I1.kIn _ _ hC) (PySem.W.looks_findIn I1.kIn SC.ini) (fun self => PySem.W.bind_fn I1.kIn self SC.tyI) (by show 1 ≤ sizeLine; decide)
    (sup_code SC SS I.ok.mod (fun b o e => kk b o (I1.bk b o e)) hab S.sup ((hr.mono hk).make (He.ga X.K x) [u] []).depth S.no hev hbind hget (fun h' tk' dx t1 kq dn dne hx hns => ?_)))
  refine ⟨rfl, ?_⟩
  have na : hp.objs.size ≤ hp.objs.size + 1 := Nat.le_succ _
  have nd := Nat.le_trans hsz2 dn
  exact ⟨.ref (hp.objs.size + 1), _, inv_newX (tk' := tk') I1 ry (fun b o z => kq b o (fun w => by rw [w] at z; have l : hp.objs.size + 1 < hp.objs.size := Heap.lt_size z; omega) (kk b o z)) na nd dne hx hns, rfl, q1 _ dx (I1.hok.fresh na) (I1.hok.fresh nd) dne⟩
theorem pe_supK {x fld : Str} {k : Nat} (S : SupAtK X.prog X.K X.mg x fld) (hr : Room k X.A) (hg : Gl X x) (ha : PE X e te) (hk : 1 ≤ k := by decide)
    (hdb : (x == ("__debug__" : Str)) = false := by decide) (he : starEach [e] X.env = (false, eval e X.env) :: starEach [] X.env := by rfl) :
    PE X (.Call (.Name x p) [e] [] pos) (tNewX (He.ga X.K x) fld te) := by
  refine ⟨fun pins s σ H Q I h => ?_⟩
  obtain ⟨fI, qual, params, scope, p0, p1, p2, p3, p4, p5, p6, p7, p8, p9, j, txt, px, pl, SC, SS, hev, hbind⟩ := S.ex
  have T := SC.oex
  obtain ⟨nm, q, N, bs, sn, sub, ab, col, dd, k0, k1, k2, k3, k5, hC⟩ := T.cls
  refine wpAny_Call_Name_kw (ld_glob I hg S.g ?_ hdb)
  refine PySem.W.callWith_K (h₀ := X.base) I.ok.mod.kin T.kC (PyProof.Rows.args_cons (thn (ha.run pins s σ H _ I h) fun u s1 ⟨y, H1, I1, ry, q1⟩ => PyProof.Rows.args_nil ⟨I1.kIn, ?_⟩) he) he rfl
  show wpAny _ _ (call (.ref (He.ga X.K x)) [u]) _ _ _
  obtain ⟨hp, g, dr, tk, os⟩ := s1
  have kk : ∀ b o, hp.get? b = some o → ((hp.push (PySem.W.kdv_tup [u])).push (PySem.HandSPX.excO (He.ga X.K x) hp.objs.size)).get? b = some o := fun b o e => Heap.get?_push_of_some _ (Heap.get?_push_of_some _ e)
  have hget : ((hp.push (PySem.W.kdv_tup [u])).push (PySem.HandSPX.excO (He.ga X.K x) hp.objs.size)).get? (hp.objs.size + 1) = some (PySem.HandSPX.excO (He.ga X.K x) hp.objs.size) := by heap_get
  have hsz2 : hp.objs.size ≤ ((hp.push (PySem.W.kdv_tup [u])).push (PySem.HandSPX.excO (He.ga X.K x) hp.objs.size)).objs.size := Nat.le_of_lt (Nat.lt_trans (Nat.lt_succ_self _) (Heap.lt_size hget))
  have hab : X.base.get? (hp.objs.size + 1) = none := by
    cases z : X.base.get? (hp.objs.size + 1) with
    | none => rfl
    | some o => exact absurd (Heap.lt_size (I1.bk _ _ z)) (by show ¬ hp.objs.size + 1 < hp.objs.size; omega)
  refine wpAny_call (ke_call (I1.kIn _ _ hC) (PySem.W.looks_findIn I1.kIn SC.ini) (fun self => PySem.W.bind_fn I1.kIn self SC.tyI) (by show 1 ≤ sizeLine; decide)
    (sup_codeK SC SS I.ok.mod (fun b o e => kk b o (I1.bk b o e)) hab S.sup ((hr.mono hk).make (He.ga X.K x) [u] []).depth S.no hev hbind hget (fun h' tk' dx t1 kq dn dne hx hns => ?_)))
  refine ⟨rfl, ?_⟩
  have na : hp.objs.size ≤ hp.objs.size + 1 := Nat.le_succ _
  have nd := Nat.le_trans hsz2 dn
  exact ⟨.ref (hp.objs.size + 1), _, inv_newX (tk' := tk') I1 ry (fun b o z => kq b o (fun w => by rw [w] at z; have l : hp.objs.size + 1 < hp.objs.size := Heap.lt_size z; omega) (kk b o z)) na nd dne hx hns, rfl, q1 _ dx (I1.hok.fresh na) (I1.hok.fresh nd) dne⟩
end
/-! ### fields of such values, and of which class they are -/
def tXfld (C : Addr) (f : Str) (te : TE) : TE := fun σ H Q => te σ H fun x H1 => ∃ (a d : Addr) (fs : List (Str × V)) (v : V), x = .ref a ∧ H1 a = some (exo a C (some d)) ∧ H1 d = some (.xd fs) ∧ fs.lookup f = some v ∧ Q v H1
theorem pe_xfld {X : Cx} {C : Addr} {e : Expr} {te : TE} {pos : Pos} {n : Str} (T : XfC X.K C) (hno : PySem.W.findIn X.K (.ref C) n = some none) (he : PE X e te) (hb : attributeBase e n X.env (eval e X.env) = eval e X.env := by rfl) :
    PE X (.Attribute e n pos) (tXfld C n te) := by
  refine ⟨fun pins s σ H Q I h => ?_⟩
  refine attr_of hb (thn (he.run pins s σ H _ I h) fun u s1 hh => ?_)
  obtain ⟨x, H1, I1, rx, a, d, fs, v, ex, ea, ed, l, q⟩ := hh
  subst ex
  obtain rfl : u = Value.ref a := rx
  obtain ⟨t1, ha⟩ := exo_at I1.hok ea
  obtain ⟨mA, hns, hr⟩ : ObjOk X.prog X.w H1 s1.heap d (.xd fs) := I1.hok d _ ed
  obtain ⟨od, ho, hl⟩ := lookIn_ns hns
  obtain ⟨u, hu, ru⟩ := RelO.some_of (v := v) (o := mA n) (by rw [← l]; exact hr n)
  have J : PySem.W.InstAt s1.heap a { cls := .ref C, dict := some d, data := .fields #[.ref t1, .none, .none, .none, .bool false, .none] } C (some od) := ⟨ha, rfl, rfl, ho⟩
  exact HandSPX.exc_get I1.kIn J T.ga T.gg T.exC (PySem.W.findObj_own T.hdC hno rfl (by rw [hl, hu])) (handed_of ru) ⟨v, H1, I1.tok _, ru, q⟩
end WW

set_option Elab.async false
set_option linter.all false
set_option maxRecDepth 100000
set_option maxHeartbeats 4000000
namespace WW
open PySem PySem.Spec PyProof.Rows L2
open PySem.HandSPX in
section
variable {M : Model} {A : Around} {E : Value → Shared → Prop} {h : Heap} {g : Array GenState} {d : Drawn} {t : Nat} {os : OsState}
variable {nm q : Str} {C N : Addr} {bs bm bmB : List Value} {hdct : Bool} {sn : List Str} {sub : List Value} {ab : Bool} {col : Option Bool} {dd : Option Addr} {k0 k1 k2 k3 k5 : Option Value} {B newId initId : String}
theorem check_newKw (F : ExcBaseFacts B newId initId bmB) (hT : ∀ X : String, bm.contains (.type X) = bmB.contains (.type X)) {kw : List (Str × Value)} {Q : Unit → Shared → Prop}
    (hC : h.get? C = some (excClassObj nm q C N bs bm hdct sn sub ab col dd k0 k1 k2 k3 k5 newId)) (hq : Q () ⟨h, g, d, t, os⟩) : wpAny M A (checkBuiltinCall newId ⟨[.ref C], kw⟩) Q E ⟨h, g, d, t, os⟩ := by
  have hcont : (Value.ref C :: bm).contains (.type B) = true := by rw [List.contains_cons, hT, F.hasB, Bool.or_true]
  have hstar := F.noStar
  simp only [checkBuiltinCall, F.newKind, F.newSplit, F.newRow]
  repeat (first | refine wpAny_loadPart_at hC ?_ | (refine wpAny_isSubtype_exc hC ?_; rw [hcont]) | refine wpAny_staticBase_exc hC ?_ | refine wpAny_madeBy_exc hC ?_ | simp only [bne_self_eq_false, Bool.false_eq_true, if_false] | wp_step)
  exact hq
end
open PySem.HandSPX in
section
variable {prog : Program} {w : World} {A : Around} {E : Value → Shared → Prop} {R : Result → Shared → Prop} {h : Heap} {g : Array GenState} {d : Drawn} {t : Nat} {os : OsState}
variable {nm q : Str} {C N : Addr} {bs bm bmB : List Value} {hdct : Bool} {sn : List Str} {sub : List Value} {ab : Bool} {col : Option Bool} {dd : Option Addr} {k0 k1 k2 k3 k5 : Option Value} {B newId initId : String}
theorem new_ownKw (F : ExcBaseFacts B newId initId bmB) (hT : ∀ X : String, bm.contains (.type X) = bmB.contains (.type X)) {kw : List (Str × Value)}
    (hC : h.get? C = some (excClassObj nm q C N bs bm hdct sn sub ab col dd k0 k1 k2 k3 k5 newId))
    (hq : R (.ok (.ret (.ref (h.objs.size + 1)))) ⟨(h.push (W.kdv_tup [])).push (excO C h.objs.size), g, d, t, os⟩) :
    codeAny (model prog w) A (.builtin newId ⟨[.ref C], kw⟩) R ⟨h, g, d, t, os⟩ := by
  have hends := F.ends
  have hcB : (Value.ref C :: bm).contains (.type B) = true := by rw [List.contains_cons, hT, F.hasB, Bool.or_true]
  have hcA : (Value.ref C :: bm).contains (.type "AttributeError") = false := by rw [List.contains_cons, hT, F.noAttr]; rfl
  have hcN : (Value.ref C :: bm).contains (.type "NameError") = false := by rw [List.contains_cons, hT, F.noName]; rfl
  have hrest : ([] : List Value).length ≤ sizeLine := Nat.zero_le _
  refine codeAny_builtinAt F.entry ?_
  unfold Builtin.«BaseException.__new__»
  refine PySem.wpAt_bind ?_
  show PySem.wpAt _ _ _ (stack >>= _) _ _ _
  refine PySem.wpAt_bind (PySem.wpAt_stack fun p below => wpAt_of_wpAny ?_)
  wp_walk
  refine wpAt_of_wpAny ?_
  rw [F.owner]
  repeat (first | with_reducible refine wpAny_madeHere_exc F.canon hC ?_ | with_reducible refine wpAny_loadPart_at hC ?_ | (with_reducible refine wpAny_isSubtype_exc hC ?_; first | rw [hcB] | rw [hcA] | rw [hcN]) | wp_step)
  show R _ _
  rw [Heap.size_push]
  exact hq
theorem type_callKw (F : ExcBaseFacts B newId initId bmB) (hT : ∀ X : String, bm.contains (.type X) = bmB.contains (.type X)) {kw : List (Str × Value)} {fI : Addr} {Q : Fin → Shared → Prop}
    (hC : h.get? C = some (excClassObj nm q C N bs bm hdct sn sub ab col dd k0 k1 k2 k3 k5 newId))
    (hi : W.Looks (model prog w) h (typeLookup (.ref C) "__init__") (some (.ref fI))) (hb : ∀ self, W.Looks (model prog w) h (bindSpecial (.ref fI) self) (.ref fI, [self]))
    (hq : codeAny (model prog w) A (.call (.ref fI) ⟨[.ref (h.objs.size + 1)], kw⟩)
      (fun r s' => match r with | .ok (.ret v) => v = .none ∧ Q (.done (.ret (.ref (h.objs.size + 1)))) s' | .ok _ => False | .error e => E e s')
      ⟨(h.push (W.kdv_tup [])).push (excO C h.objs.size), g, d, t, os⟩) :
    wpAny (model prog w) A (Builtin.«type.__call__» ⟨[.ref C], kw⟩) Q E ⟨h, g, d, t, os⟩ := by
  repeat (first | with_reducible refine wpAny_loadPart_at hC ?_ | with_reducible refine wpAny_madeBy_exc hC ?_ | wp_step)
  refine codeAny_call_builtin_code (Code.quiet_builtin _ F.quiet) (check_newKw F hT hC ?_)
  refine new_ownKw F hT hC ?_
  show wpAny _ _ _ _ _ _
  have k : ∀ b o, h.get? b = some o → ((h.push (W.kdv_tup [])).push (excO C h.objs.size)).get? b = some o := fun b o e => Heap.get?_push_of_some _ (Heap.get?_push_of_some _ e)
  have hC₁ := k _ _ hC
  have hget : ((h.push (W.kdv_tup [])).push (excO C h.objs.size)).get? (h.objs.size + 1) = some (excO C h.objs.size) := by heap_get
  have hcC : (Value.ref C :: bm).contains (.ref C) = true := by simp
  have i1 := hi.keeps k
  have b1 := (hb (.ref (h.objs.size + 1))).keeps k
  unfold isInstance
  repeat (first | with_reducible refine wpAny_loadPart_at hget ?_ | (with_reducible refine wpAny_isSubtype_exc hC₁ ?_; rw [hcC]) | wp_step)
  show wpAny _ _ (typeLookup (.ref C) _) _ _ _
  refine i1.at ?_
  refine wpAny_holding (wpAny_bind (b1.at ?_))
  refine wpAny_bind (wpAny_call (codeAny_mono hq fun r s' z => ?_))
  rcases r with e | (v | _ | _ | _) <;> first | exact z | exact z.elim | skip
  obtain ⟨rfl, z⟩ := z
  first
    | exact wpAny_pure (wpAny_pure z)
    | (wp_walk; exact z)
theorem call_ownKw (F : ExcBaseFacts B newId initId bmB) (hT : ∀ X : String, bm.contains (.type X) = bmB.contains (.type X)) {kw : List (Str × Value)} {fI : Addr}
    (hC : h.get? C = some (excClassObj nm q C N bs bm hdct sn sub ab col dd k0 k1 k2 k3 k5 newId))
    (hi : W.Looks (model prog w) h (typeLookup (.ref C) "__init__") (some (.ref fI))) (hb : ∀ self, W.Looks (model prog w) h (bindSpecial (.ref fI) self) (.ref fI, [self]))
    (hq : codeAny (model prog w) (A.under (.builtin "type.__call__" ⟨[.ref C], kw⟩)) (.call (.ref fI) ⟨[.ref (h.objs.size + 1)], kw⟩) (W.InitBack (h.objs.size + 1) R)
      ⟨(h.push (W.kdv_tup [])).push (excO C h.objs.size), g, d, t, os⟩) :
    codeAny (model prog w) A (.call (.ref C) ⟨[], kw⟩) R ⟨h, g, d, t, os⟩ := by
  have f1 := tc_lookup
  have f2 := tc_bind (.ref C)
  have hTy : (⟨h, g, d, t, os⟩ : Shared).TypeIs (.ref C) "type" := ⟨_, hC, rfl⟩
  refine codeAny_of_tree ?_
  show wpAny _ _ (callAny (.ref C) _) _ _ _
  repeat (any_goals (first | assumption | with_reducible refine wpAny_loadPart_at hC ?_ | wp_step))
  refine ⟨rfl, ?_⟩
  refine codeAny_call_builtin_at (Code.quiet_builtin _ (by decide +kernel)) entry_typeCall (wpAny_check_type_call_sub hC (type_callKw F hT hC hi hb ?_))
  refine codeAny_mono hq fun r s' z => ?_
  rcases r with e | (v | _ | _ | _) <;> exact z
end
section
variable {P : Program} {w : World} {A : Around} {Er : Value → Shared → Prop} {R : Result → Shared → Prop} {hp : Heap} {g : Array GenState} {d : PySem.Drawn} {t : Nat} {os : OsState}
variable {nm qn : Str} {C N : Addr} {bs : List Value} {hdct : Bool} {sn : List Str} {sub : List Value} {ab : Bool} {col : Option Bool} {dd : Option Addr} {k0 k1 k2 k3 k5 : Option Value}
theorem ke_chkW {kw : List (Str × Value)} {Q : Unit → Shared → Prop} (c1 : hp.get? C = some (keObj nm qn C N bs hdct sn sub ab col dd k0 k1 k2 k3 k5)) (q : Q () ⟨hp, g, d, t, os⟩) : wpAny (model P w) A (checkBuiltinCall "LookupError.__new__" ⟨[.ref C], kw⟩) Q Er ⟨hp, g, d, t, os⟩ := by
  have n0 := leF.noStar
  simp only [checkBuiltinCall, leF.newKind, leF.newSplit, leF.newRow]
  repeat (first | refine wpAny_loadPart_at c1 ?_ | (refine wpAny_isSubtype_exc c1 ?_; rw [ke_has]) | refine wpAny_staticBase_exc c1 ?_ | refine wpAny_madeBy_exc c1 ?_ | simp only [bne_self_eq_false, Bool.false_eq_true, if_false] | wp_step)
  exact q
theorem ke_newW {kw : List (Str × Value)} (c1 : hp.get? C = some (keObj nm qn C N bs hdct sn sub ab col dd k0 k1 k2 k3 k5))
    (q : R (.ok (.ret (.ref (hp.objs.size + 1)))) ⟨(hp.push (W.kdv_tup [])).push (PySem.HandSPX.excO C hp.objs.size), g, d, t, os⟩) :
    codeAny (model P w) A (.builtin "LookupError.__new__" ⟨[.ref C], kw⟩) R ⟨hp, g, d, t, os⟩ := by
  have n1 := leF.ends
  have hl : ([] : List Value).length ≤ sizeLine := Nat.zero_le _
  refine codeAny_builtinAt leF.entry ?_; unfold Builtin.«BaseException.__new__»; refine PySem.wpAt_bind ?_
  show PySem.wpAt _ _ _ (stack >>= _) _ _ _; refine PySem.wpAt_bind (PySem.wpAt_stack fun p below => wpAt_of_wpAny ?_)
  wp_walk
  refine wpAt_of_wpAny ?_
  rw [leF.owner]
  repeat (first | with_reducible refine wpAny_madeHere_exc leF.canon c1 ?_ | with_reducible refine wpAny_loadPart_at c1 ?_ | (with_reducible refine wpAny_isSubtype_exc c1 ?_; first | rw [ke_has] | rw [ke_noA] | rw [ke_noN]) | wp_step)
  show R _ _; rw [Heap.size_push]; exact q
theorem ke_typeW {kw : List (Str × Value)} {fI : Addr} {Q : PySem.Fin → Shared → Prop} (c1 : hp.get? C = some (keObj nm qn C N bs hdct sn sub ab col dd k0 k1 k2 k3 k5))
    (c2 : W.Looks (model P w) hp (typeLookup (.ref C) "__init__") (some (.ref fI))) (c3 : ∀ self, W.Looks (model P w) hp (bindSpecial (.ref fI) self) (.ref fI, [self]))
    (q : codeAny (model P w) A (.call (.ref fI) ⟨[.ref (hp.objs.size + 1)], kw⟩) (fun r s' => match r with | .ok (.ret v) => v = .none ∧ Q (.done (.ret (.ref (hp.objs.size + 1)))) s' | .ok _ => False | .error e => Er e s') ⟨(hp.push (W.kdv_tup [])).push (PySem.HandSPX.excO C hp.objs.size), g, d, t, os⟩) :
    wpAny (model P w) A (Builtin.«type.__call__» ⟨[.ref C], kw⟩) Q Er ⟨hp, g, d, t, os⟩ := by
  repeat (first | with_reducible refine wpAny_loadPart_at c1 ?_ | with_reducible refine wpAny_madeBy_exc c1 ?_ | wp_step)
  refine codeAny_call_builtin_code (Code.quiet_builtin _ leF.quiet) (ke_chkW c1 ?_); refine ke_newW c1 ?_
  show wpAny _ _ _ _ _ _
  have kk : ∀ b o, hp.get? b = some o → ((hp.push (W.kdv_tup [])).push (PySem.HandSPX.excO C hp.objs.size)).get? b = some o := fun b o e => Heap.get?_push_of_some _ (Heap.get?_push_of_some _ e)
  have c1' := kk _ _ c1
  have he : ((hp.push (W.kdv_tup [])).push (PySem.HandSPX.excO C hp.objs.size)).get? (hp.objs.size + 1) = some (PySem.HandSPX.excO C hp.objs.size) := by heap_get
  have hs : (Value.ref C :: keTail).contains (.ref C) = true := by rw [List.contains_cons, beq_self_eq_true, Bool.true_or]
  have j1 := c2.keeps kk
  have j2 := (c3 (.ref (hp.objs.size + 1))).keeps kk
  unfold isInstance
  repeat (first | with_reducible refine wpAny_loadPart_at he ?_ | (with_reducible refine wpAny_isSubtype_exc c1' ?_; rw [hs]) | wp_step)
  show wpAny _ _ (typeLookup (.ref C) _) _ _ _; refine j1.at ?_
  refine wpAny_holding (wpAny_bind (j2.at ?_)); refine wpAny_bind (wpAny_call (codeAny_mono q fun r s' z => ?_))
  rcases r with e | (v | _ | _ | _) <;> first | exact z | exact z.elim | skip
  obtain ⟨rfl, z⟩ := z
  first
    | exact wpAny_pure (wpAny_pure z)
    | (wp_walk; exact z)
theorem ke_callW {kw : List (Str × Value)} {fI : Addr} (c1 : hp.get? C = some (keObj nm qn C N bs hdct sn sub ab col dd k0 k1 k2 k3 k5))
    (c2 : W.Looks (model P w) hp (typeLookup (.ref C) "__init__") (some (.ref fI))) (c3 : ∀ self, W.Looks (model P w) hp (bindSpecial (.ref fI) self) (.ref fI, [self]))
    (q : codeAny (model P w) (A.under (.builtin "type.__call__" ⟨[.ref C], kw⟩)) (.call (.ref fI) ⟨[.ref (hp.objs.size + 1)], kw⟩) (W.InitBack (hp.objs.size + 1) R) ⟨(hp.push (W.kdv_tup [])).push (PySem.HandSPX.excO C hp.objs.size), g, d, t, os⟩) :
    codeAny (model P w) A (.call (.ref C) ⟨[], kw⟩) R ⟨hp, g, d, t, os⟩ := by
  have f1 := tc_lookup
  have f2 := tc_bind (.ref C)
  have tC : (⟨hp, g, d, t, os⟩ : Shared).TypeIs (.ref C) "type" := ⟨_, c1, rfl⟩
  refine codeAny_of_tree ?_; show wpAny _ _ (callAny (.ref C) _) _ _ _
  repeat (any_goals (first | assumption | with_reducible refine wpAny_loadPart_at c1 ?_ | wp_step))
  refine ⟨rfl, ?_⟩
  refine codeAny_call_builtin_at (Code.quiet_builtin _ (by decide +kernel)) entry_typeCall (wpAny_check_type_call_sub c1 (ke_typeW c1 c2 c3 ?_))
  refine codeAny_mono q fun r s' z => ?_; rcases r with e | (v | _ | _ | _) <;> exact z
end
end WW

set_option Elab.async false
set_option linter.all false
set_option maxRecDepth 100000
set_option maxHeartbeats 4000000
namespace WW
open PySem PySem.Spec PyProof.Rows L2
/-! ### made by keyword; without a field; without an own __init__ -/
/-- as SupAt, the parameter's name is the field's; called by place or by name -/
structure SupAt2 (P : Program) (K : PySem.W.Frag) (mg : Str → Option Value) (x fld : Str) : Prop where
  ex : ∃ (fI : Addr) (qual : Str) (params : Arguments) (scope : Scope) (p0 p1 p2 p3 p4 p5 p6 p7 p8 p9 : Pos) (j : Nat) (txt : Str) (pl : Env → Sem Bool),
    SupC P K (He.ga K x) fI qual params (supBody p0 p1 p2 p3 p4 p5 p6 p7 p8 p9 j txt fld fld) scope ∧ SupScope scope params fld ∧
    (∀ env : Env, eval (.Call (.Attribute (.Call (.Name "super" p0) [] [] p1) "__init__" p2) [.Constant (.str txt) j p9] [] p3) env = (do
      let ov ← attributeBase (.Call (.Name "super" p0) [] [] p1) "__init__" env (eval (.Call (.Name "super" p0) [] [] p1) env)
      standAt p2.atName
      let (f, first) ← holding [ov] (getMethod ov "__init__" (pl env))
      callWith p3 f first (backTo p3 (starEach [.Constant (.str txt) j p9] env)) [])) ∧
    (∀ (nm : Str) (kV doc pm : Value) (an : Option Addr) (cdv ct : Value) (cc : Addr) (us : List Value), us.length = 2 → bindArgs (PySem.W.ksFn nm qual params (supBody p0 p1 p2 p3 p4 p5 p6 p7 p8 p9 j txt fld fld) scope .none kV doc pm an cdv ct cc) ⟨us, []⟩ = pure ((["self", fld] : List Str).zip us)) ∧
    (∀ (nm : Str) (kV doc pm : Value) (an : Option Addr) (cdv ct : Value) (cc : Addr) (a u : Value), bindArgs (PySem.W.ksFn nm qual params (supBody p0 p1 p2 p3 p4 p5 p6 p7 p8 p9 j txt fld fld) scope .none kV doc pm an cdv ct cc) ⟨[a], [(fld, u)]⟩ = pure [(("self" : Str), a), (fld, u)])
  no : PySem.W.findIn K (.ref (He.ga K x)) fld = some none
  g : mg x = some (.ref (He.ga K x))
  sup : mg "super" = none
theorem SupAt2.at {P : Program} {K : PySem.W.Frag} {mg : Str → Option Value} {x fld : Str} (S : SupAt2 P K mg x fld) : SupAt P K mg x fld := by
  obtain ⟨⟨fI, qual, params, scope, p0, p1, p2, p3, p4, p5, p6, p7, p8, p9, j, txt, pl, a, b, c, d, _⟩, e, f, g⟩ := S
  exact ⟨⟨fI, qual, params, scope, p0, p1, p2, p3, p4, p5, p6, p7, p8, p9, j, txt, fld, pl, a, b, c, d⟩, e, f, g⟩
structure SupAtK2 (P : Program) (K : PySem.W.Frag) (mg : Str → Option Value) (x fld : Str) : Prop where
  ex : ∃ (fI : Addr) (qual : Str) (params : Arguments) (scope : Scope) (p0 p1 p2 p3 p4 p5 p6 p7 p8 p9 : Pos) (j : Nat) (txt : Str) (pl : Env → Sem Bool),
    SupCk P K (He.ga K x) fI qual params (supBody p0 p1 p2 p3 p4 p5 p6 p7 p8 p9 j txt fld fld) scope ∧ SupScope scope params fld ∧
    (∀ env : Env, eval (.Call (.Attribute (.Call (.Name "super" p0) [] [] p1) "__init__" p2) [.Constant (.str txt) j p9] [] p3) env = (do
      let ov ← attributeBase (.Call (.Name "super" p0) [] [] p1) "__init__" env (eval (.Call (.Name "super" p0) [] [] p1) env)
      standAt p2.atName
      let (f, first) ← holding [ov] (getMethod ov "__init__" (pl env))
      callWith p3 f first (backTo p3 (starEach [.Constant (.str txt) j p9] env)) [])) ∧
    (∀ (nm : Str) (kV doc pm : Value) (an : Option Addr) (cdv ct : Value) (cc : Addr) (us : List Value), us.length = 2 → bindArgs (PySem.W.ksFn nm qual params (supBody p0 p1 p2 p3 p4 p5 p6 p7 p8 p9 j txt fld fld) scope .none kV doc pm an cdv ct cc) ⟨us, []⟩ = pure ((["self", fld] : List Str).zip us)) ∧
    (∀ (nm : Str) (kV doc pm : Value) (an : Option Addr) (cdv ct : Value) (cc : Addr) (a u : Value), bindArgs (PySem.W.ksFn nm qual params (supBody p0 p1 p2 p3 p4 p5 p6 p7 p8 p9 j txt fld fld) scope .none kV doc pm an cdv ct cc) ⟨[a], [(fld, u)]⟩ = pure [(("self" : Str), a), (fld, u)])
  no : PySem.W.findIn K (.ref (He.ga K x)) fld = some none
  g : mg x = some (.ref (He.ga K x))
  sup : mg "super" = none
theorem SupAtK2.at {P : Program} {K : PySem.W.Frag} {mg : Str → Option Value} {x fld : Str} (S : SupAtK2 P K mg x fld) : SupAtK P K mg x fld := by
  obtain ⟨⟨fI, qual, params, scope, p0, p1, p2, p3, p4, p5, p6, p7, p8, p9, j, txt, pl, a, b, c, d, _⟩, e, f, g⟩ := S
  exact ⟨⟨fI, qual, params, scope, p0, p1, p2, p3, p4, p5, p6, p7, p8, p9, j, txt, fld, pl, a, b, c, d⟩, e, f, g⟩
def tNewXW (C : Addr) (fld : Str) (tk : TA) : TE := fun σ H Q => tk σ H fun zs H1 => ∃ y, zs = [y] ∧ ∀ a d, H1 a = none → H1 d = none → d ≠ a → Q (.ref a) (newX H1 C a d fld y)
section
variable {X : Cx} {kws : List Keyword} {tk : TA} {p pos : Pos}
theorem pe_supW {x fld : Str} {k : Nat} (S : SupAt2 X.prog X.K X.mg x fld) (hr : Room k X.A) (hg : Gl X x) (hkw : PK X kws tk) (hk : 1 ≤ k := by decide)
    (hall : (backToKw pos (keywordEach kws X.env)).all (·.1.isSome) = true := by rfl) (hks : (backToKw pos (keywordEach kws X.env)).filterMap (·.1) = [fld] := by rfl) (hdb : (x == ("__debug__" : Str)) = false := by decide)
    (hpl : ((backTo pos (starEach [] X.env)).any (·.1) || (backToKw pos (keywordEach kws X.env)).any (·.1.isNone)) = false := by rfl) :
    PE X (.Call (.Name x p) [] kws pos) (tNewXW (He.ga X.K x) fld tk) := by
  refine ⟨fun pins s σ H Q I h => ?_⟩
  obtain ⟨fI, qual, params, scope, p0, p1, p2, p3, p4, p5, p6, p7, p8, p9, j, txt, pl, SC, SS, hev, _, hbind⟩ := S.ex
  have T := SC.oex
  obtain ⟨nm, q, N, bs, bm, sn, sub, ab, col, dd, k0, k1, k2, k3, k5, hC, hbm⟩ := T.cls
  refine wpAny_Call_Name_kw (ld_glob I hg S.g ?_ hdb)
  refine PySem.W.callWith_KW0 (h₀ := X.base) I.ok.mod.kin T.kC hall ?_ hpl
  refine thn (hkw.run pos pins s σ H _ I h) fun ws s1 ⟨zs, H1, I1, rz, y, ez, q1⟩ => ⟨I1.kIn, ?_⟩
  subst ez
  obtain ⟨u, rfl, ry⟩ := vals1 rz
  rw [hks]
  show wpAny _ _ (call (.ref (He.ga X.K x)) [] [(fld, u)]) _ _ _
  obtain ⟨hp, g, dr, tk, os⟩ := s1
  have kk : ∀ b o, hp.get? b = some o → ((hp.push (PySem.W.kdv_tup [])).push (PySem.HandSPX.excO (He.ga X.K x) hp.objs.size)).get? b = some o := fun b o e => Heap.get?_push_of_some _ (Heap.get?_push_of_some _ e)
  have hget : ((hp.push (PySem.W.kdv_tup [])).push (PySem.HandSPX.excO (He.ga X.K x) hp.objs.size)).get? (hp.objs.size + 1) = some (PySem.HandSPX.excO (He.ga X.K x) hp.objs.size) := by heap_get
  have hsz2 : hp.objs.size ≤ ((hp.push (PySem.W.kdv_tup [])).push (PySem.HandSPX.excO (He.ga X.K x) hp.objs.size)).objs.size := Nat.le_of_lt (Nat.lt_trans (Nat.lt_succ_self _) (Heap.lt_size hget))
  have hab : X.base.get? (hp.objs.size + 1) = none := by
    cases z : X.base.get? (hp.objs.size + 1) with
    | none => rfl
    | some o => exact absurd (Heap.lt_size (I1.bk _ _ z)) (by show ¬ hp.objs.size + 1 < hp.objs.size; omega)
  refine wpAny_call (call_ownKw F.excBase_ValueError (fun Y => PySem.HandSPX.refsVE_contains Y bm hbm) (I1.kIn _ _ hC) (PySem.W.looks_findIn I1.kIn SC.ini) (fun self => PySem.W.bind_fn I1.kIn self SC.tyI)
    (sup_codeG SC SS I1.ok.mod (fun b o e => kk b o (I1.bk b o e)) hab S.sup ((hr.mono hk).make (He.ga X.K x) [] [(fld, u)]).depth S.no hev (fun nm kV doc pm an cdv ct cc => hbind nm kV doc pm an cdv ct cc _ u) hget (fun h' tk' dx t1 kq dn dne hx hns => ?_)))
  refine ⟨rfl, ?_⟩
  have na : hp.objs.size ≤ hp.objs.size + 1 := Nat.le_succ _
  have nd := Nat.le_trans hsz2 dn
  exact ⟨.ref (hp.objs.size + 1), _, inv_newX (tk' := tk') I1 ry (fun b o z => kq b o (fun w => by rw [w] at z; have l : hp.objs.size + 1 < hp.objs.size := Heap.lt_size z; omega) (kk b o z)) na nd dne hx hns, rfl, q1 _ dx (I1.hok.fresh na) (I1.hok.fresh nd) dne⟩
theorem pe_supKW {x fld : Str} {k : Nat} (S : SupAtK2 X.prog X.K X.mg x fld) (hr : Room k X.A) (hg : Gl X x) (hkw : PK X kws tk) (hk : 1 ≤ k := by decide)
    (hall : (backToKw pos (keywordEach kws X.env)).all (·.1.isSome) = true := by rfl) (hks : (backToKw pos (keywordEach kws X.env)).filterMap (·.1) = [fld] := by rfl) (hdb : (x == ("__debug__" : Str)) = false := by decide)
    (hpl : ((backTo pos (starEach [] X.env)).any (·.1) || (backToKw pos (keywordEach kws X.env)).any (·.1.isNone)) = false := by rfl) :
    PE X (.Call (.Name x p) [] kws pos) (tNewXW (He.ga X.K x) fld tk) := by
  refine ⟨fun pins s σ H Q I h => ?_⟩
  obtain ⟨fI, qual, params, scope, p0, p1, p2, p3, p4, p5, p6, p7, p8, p9, j, txt, pl, SC, SS, hev, _, hbind⟩ := S.ex
  have T := SC.oex
  obtain ⟨nm, q, N, bs, sn, sub, ab, col, dd, k0, k1, k2, k3, k5, hC⟩ := T.cls
  refine wpAny_Call_Name_kw (ld_glob I hg S.g ?_ hdb)
  refine PySem.W.callWith_KW0 (h₀ := X.base) I.ok.mod.kin T.kC hall ?_ hpl
  refine thn (hkw.run pos pins s σ H _ I h) fun ws s1 ⟨zs, H1, I1, rz, y, ez, q1⟩ => ⟨I1.kIn, ?_⟩
  subst ez
  obtain ⟨u, rfl, ry⟩ := vals1 rz
  rw [hks]
  show wpAny _ _ (call (.ref (He.ga X.K x)) [] [(fld, u)]) _ _ _
  obtain ⟨hp, g, dr, tk, os⟩ := s1
  have kk : ∀ b o, hp.get? b = some o → ((hp.push (PySem.W.kdv_tup [])).push (PySem.HandSPX.excO (He.ga X.K x) hp.objs.size)).get? b = some o := fun b o e => Heap.get?_push_of_some _ (Heap.get?_push_of_some _ e)
  have hget : ((hp.push (PySem.W.kdv_tup [])).push (PySem.HandSPX.excO (He.ga X.K x) hp.objs.size)).get? (hp.objs.size + 1) = some (PySem.HandSPX.excO (He.ga X.K x) hp.objs.size) := by heap_get
  have hsz2 : hp.objs.size ≤ ((hp.push (PySem.W.kdv_tup [])).push (PySem.HandSPX.excO (He.ga X.K x) hp.objs.size)).objs.size := Nat.le_of_lt (Nat.lt_trans (Nat.lt_succ_self _) (Heap.lt_size hget))
  have hab : X.base.get? (hp.objs.size + 1) = none := by
    cases z : X.base.get? (hp.objs.size + 1) with
    | none => rfl
    | some o => exact absurd (Heap.lt_size (I1.bk _ _ z)) (by show ¬ hp.objs.size + 1 < hp.objs.size; omega)
  refine wpAny_call (ke_callW (I1.kIn _ _ hC) (PySem.W.looks_findIn I1.kIn SC.ini) (fun self => PySem.W.bind_fn I1.kIn self SC.tyI)
    (sup_codeKG SC SS I1.ok.mod (fun b o e => kk b o (I1.bk b o e)) hab S.sup ((hr.mono hk).make (He.ga X.K x) [] [(fld, u)]).depth S.no hev (fun nm kV doc pm an cdv ct cc => hbind nm kV doc pm an cdv ct cc _ u) hget (fun h' tk' dx t1 kq dn dne hx hns => ?_)))
  refine ⟨rfl, ?_⟩
  have na : hp.objs.size ≤ hp.objs.size + 1 := Nat.le_succ _
  have nd := Nat.le_trans hsz2 dn
  exact ⟨.ref (hp.objs.size + 1), _, inv_newX (tk' := tk') I1 ry (fun b o z => kq b o (fun w => by rw [w] at z; have l : hp.objs.size + 1 < hp.objs.size := Heap.lt_size z; omega) (kk b o z)) na nd dne hx hns, rfl, q1 _ dx (I1.hok.fresh na) (I1.hok.fresh nd) dne⟩
end
/-- a class whose __init__ says super().__init__(text) alone -/
def supBody0 (p0 p1 p2 p3 p4 p9 : Pos) (j : Nat) (txt : Str) : List Stmt := [.Expr (.Call (.Attribute (.Call (.Name "super" p0) [] [] p1) "__init__" p2) [.Constant (.str txt) j p9] [] p3) p4]
structure SupScope0 (scope : Scope) (params : Arguments) : Prop where
  ks : scope.names.lookup ("super" : Str) = some .globalImplicit
  kc : scope.names.lookup ("__class__" : Str) = some .free
  kself : scope.names.lookup ("self" : Str) = some .local
  kind : scope.kind = .function
  co : scope.isCoroutine = false
  gen : scope.isGenerator = false
  nocell : ∀ x ∈ scope.names, x.2 ≠ .cell
  hd : ∃ ar, (params.posonlyargs ++ params.args).head? = some ar ∧ ar.arg = ("self" : Str)
theorem sup_code0 {prog : Program} {w : World} {A : Around} {K : PySem.W.Frag} {mg : Str → Option Value} {base hp : Heap} {g : Array GenState} {d : PySem.Drawn} {t : Nat} {os : OsState} {C fI a t0 : Addr} {qual : Str} {params : Arguments} {scope : Scope} {R : Result → Shared → Prop}
    {p0 p1 p2 p3 p4 p9 : Pos} {j : Nat} {txt : Str}
    (SC : SupC prog K C fI qual params (supBody0 p0 p1 p2 p3 p4 p9 j txt) scope) (SS : SupScope0 scope params) (M0 : Mod K mg base) (kb : ∀ b o, base.get? b = some o → hp.get? b = some o) (hab : base.get? a = none) (hsup : mg "super" = none)
    (hroom : A.depth < recursionLimit) {pl : Env → Sem Bool}
    (hev : ∀ env : Env, eval (.Call (.Attribute (.Call (.Name "super" p0) [] [] p1) "__init__" p2) [.Constant (.str txt) j p9] [] p3) env = (do
      let ov ← attributeBase (.Call (.Name "super" p0) [] [] p1) "__init__" env (eval (.Call (.Name "super" p0) [] [] p1) env)
      standAt p2.atName
      let (f, first) ← holding [ov] (getMethod ov "__init__" (pl env))
      callWith p3 f first (backTo p3 (starEach [.Constant (.str txt) j p9] env)) []))
    {args : Args} (hbind : ∀ (nm : Str) (kV doc pm : Value) (an : Option Addr) (cdv ct : Value) (cc : Addr), bindArgs (PySem.W.ksFn nm qual params (supBody0 p0 p1 p2 p3 p4 p9 j txt) scope .none kV doc pm an cdv ct cc) args = pure [(("self" : Str), .ref a)])
    (hx : hp.get? a = some (PySem.HandSPX.excO C t0))
    (hq : ∀ h' tk' t1, (∀ b o, b ≠ a → hp.get? b = some o → h'.get? b = some o) → h'.get? a = some ({ cls := .ref C, dict := none, data := .fields #[.ref t1, .none, .none, .none, .bool false, .none] } : Obj) → R (.ok (.ret .none)) ⟨h', g, d, tk', os⟩) :
    codeAny (model prog w) A (.call (.ref fI) args) R ⟨hp, g, d, t, os⟩ := by
  obtain ⟨nm, oc, od, kV, doc, pm, an, cda, cc, ct, osl, ccl, cdd, vs, ccs, file, tf, cl, cld, csl, hf, hcd, hcode, hvs, hfile, hcell⟩ := SC.fn
  have X : K.In hp := M0.kin.keeps kb
  have bt : BindsTo ⟨hp, g, d, t, os⟩ (PySem.W.ksFn nm qual params (supBody0 p0 p1 p2 p3 p4 p9 j txt) scope .none kV doc pm an (.ref cda) ct cc) args [(("self" : Str), .ref a)] := by
    intro M A Q E hQ
    rw [hbind]
    exact wpAny_pure hQ
  refine PySem.ks_codeAny_call_defAt hroom (X _ _ hf) rfl (M0.nolimit.keeps kb) (PySem.W.codeRec_of X hcd) rfl bt SS.nocell ?_ (fun h₀ hns k0 => ?_) SS.co SS.gen SS.kind
  · intro x hx
    simp only [List.mem_cons, List.not_mem_nil, or_false] at hx
    subst hx
    exact SS.kself
  have X0 : K.In h₀ := X.keeps k0
  have hx0 : h₀.get? a = some (PySem.HandSPX.excO C t0) := k0 _ _ hx
  obtain ⟨ar, har, hself⟩ := SS.hd
  obtain ⟨mb, hb1, hb2⟩ := M0.blt
  obtain ⟨nm', q', N', bs', bm', sn', sub', ab', col', dd', e0, e1, e2, e3, e5, hC, hbm⟩ := SC.oex.cls
  have hcl : PySem.W.clsIn K C = some { name := nm', bases := bs', mro := .ref C :: bm', ns := N', qualname := q', hasDict := true, slotNames := sn', subclasses := sub', abstract := ab', collection := col', hasDel := false } := by unfold PySem.W.clsIn; rw [hC] <;> rfl
  have kbh : ∀ b o, base.get? b = some o → h₀.get? b = some o := fun b o e => k0 b o (kb b o e)
  have v1 : (fun x => [(("self" : Str), Value.ref a)].reverse.lookup x) ("self" : Str) = some (.ref a) := by
    show ([(("self" : Str), Value.ref a)] : List (Str × Value)).lookup ("self" : Str) = _
    simp [List.lookup]
  generalize (fun x => [(("self" : Str), Value.ref a)].reverse.lookup x) = m at hns v1
  show PySem.wpAt (model prog w) (A.deeper (PySem.W.ksEnv qual scope hp.objs.size fI (.ref cda) cc)) (.func (supBody0 p0 p1 p2 p3 p4 p9 j txt) (PySem.W.ksEnv qual scope hp.objs.size fI (.ref cda) cc)) (execs [.Expr (.Call (.Attribute (.Call (.Name "super" p0) [] [] p1) "__init__" p2) [.Constant (.str txt) j p9] [] p3) p4] (PySem.W.ksEnv qual scope hp.objs.size fI (.ref cda) cc)) _ _ ⟨h₀, g, d, t + 1, os⟩
  refine PySem.ks_wpAt_execs_cons (PySem.ks_wpAt_Expr_any (PySem.ks_wpAt_MethodCall ?_ (hev _)) (by show (scope.kind == .module && _) = false; rw [SS.kind]; rfl))
  refine PySem.ks_wpAt_super_base (env := PySem.W.ksEnv qual scope hp.objs.size fI (.ref cda) cc) SS.ks SS.kc (by decide) rfl (X0 _ _ hf) rfl har rfl (X0 _ _ hcode) rfl hvs hfile SC.top ?_
  refine PySem.W.ks_loadName_global SS.kind SS.ks (Calls.loadGlobal_builtin (env := PySem.W.ksEnv qual scope hp.objs.size fI (.ref cda) cc) (M0.glob.keeps kbh) hsup (hb1.keeps kbh) ((hb2 _ (by decide)).trans (by kernel_rfl)) ⟨rfl, ?_⟩)
  refine wpAny_loadName_free SS.kind SS.kc rfl ⟨_, X0 _ _ hcell, rfl⟩ ?_
  rw [hself]
  refine wpAny_loadName_local SS.kind SS.kself hns v1 ?_
  refine PySem.ks_wpAny_isType_cls (X0 _ _ hC) rfl ⟨rfl, ?_⟩
  refine PySem.ks_wpAny_call_super (X0 _ _ hC) rfl hx0 rfl (fun c e => nomatch e) (PySem.W.looks_mroIn X0 SC.sub) (fun h1 hso k1 => ?_)
  have X1 : K.In h1 := X0.keeps k1
  have hx1 := k1 _ _ hx0
  have I1 : PySem.W.InstAt h1 a (PySem.HandSPX.excO C t0) C none := ⟨hx1, rfl, rfl, trivial⟩
  have hsI : PySem.W.alongIn K "__init__" (((Value.ref C :: bm').dropWhile (· != .ref C)).drop 1) = some (some (.builtin "ValueError.__init__")) := by
    have z := SC.sup
    unfold PySem.W.ks_superIn at z
    rw [hcl] at z
    exact z
  refine PySem.W.kxs_getMethod PySem.W.kxs_ValueError hso (PySem.W.looks_opaque X1 SC.opq) (l₀ := Value.ref C :: bm') ?_ rfl X1 hsI (I1.type.andThen (PySem.W.looks_subIn X1 SC.ve)) (PySem.W.ks_ne X1 I1 hcl) (by decide) ?_
  · exact fun A Q E s k q => wpAny_bind ((PySem.W.looks_clsIn X1 hcl) A _ E s k (wpAny_pure q))
  have hu : (h1.push (PySem.W.kxs_mw "ValueError.__init__" a)).get? h1.objs.size = some (PySem.W.kxs_mw "ValueError.__init__" a) := Heap.get?_push_at rfl rfl
  have k2 : ∀ b o, h1.get? b = some o → (h1.push (PySem.W.kxs_mw "ValueError.__init__" a)).get? b = some o := fun b o e => Heap.get?_push_of_some _ e
  generalize h1.push (PySem.W.kxs_mw "ValueError.__init__" a) = h2 at hu k2
  have hse : starEach [Expr.Constant (Const.str txt) j p9] (PySem.W.ksEnv qual scope hp.objs.size fI (.ref cda) cc) = (false, eval (Expr.Constant (Const.str txt) j p9) (PySem.W.ksEnv qual scope hp.objs.size fI (.ref cda) cc)) :: starEach [] (PySem.W.ksEnv qual scope hp.objs.size fI (.ref cda) cc) := rfl
  dsimp only
  refine PySem.W.kxs_callWith (i := "ValueError.__init__") (x := a) rfl ?_
  rw [hse]
  refine Calls.evalArgs_plain ?_
  show wpAny _ _ (spliced (backTo p3 (starEach [Expr.Constant (Const.str txt) j p9] (PySem.W.ksEnv qual scope hp.objs.size fI (.ref cda) cc)))) _ _ _
  refine PyProof.Rows.args_cons (wpAny_Constant_str (PyProof.Rows.args_nil ⟨hu, ?_⟩)) hse
  have X2 : K.In h2 := X1.keeps k2
  have hx2 := k2 _ _ hx1
  refine wpAny_call (codeAny_of_tree ?_)
  show wpAny _ _ (callAny (.ref h1.objs.size) ⟨[] ++ [Value.str txt _], []⟩) _ _ _
  simp only [callAny]
  refine wpAny_bind (wpAny_load hu ?_)
  simp only [PySem.W.kxs_mw, show (Value.type "method-wrapper" == Value.type "method" || Value.type "method-wrapper" == Value.type "builtin_function_or_method" || Value.type "method-wrapper" == Value.type "method-wrapper") = true by decide, if_true]
  refine PySem.W.KFB.if_so (by decide) ?_
  refine wpAny_bind (PySem.W.check_bound_init F.excBase_ValueError.toExcCallFacts (X2 _ _ hC) hx2 rfl ?_)
  refine wpAny_bind (wpAny_pure (wpAny_pure ?_))
  refine ⟨plainId_quiet F.excBase_ValueError.init.plain _, codeAny_builtin F.excBase_ValueError.initEntry ?_⟩
  refine PySem.W.exc_init_tree (cls := .ref C) (t0 := t0) (dv := none) (c2 := .none) (c3 := .none) (b4 := .bool false) hx2 (by show 1 ≤ sizeLine; decide) (fun h3 k3 hx3 ht3 => ?_)
  have hLa : hp.objs.size ≠ a := Ne.symm (Nat.ne_of_lt (Heap.lt_size hx))
  have k03 : ∀ b o, b ≠ a → h₀.get? b = some o → h3.get? b = some o := fun b o hb e => k3 b o hb (k2 _ _ (k1 _ _ e))
  refine wpAt_of_wpAny (wpAny_execs_nil ?_)
  exact hq h3 _ _ (fun b o hb e => k03 b o hb (k0 _ _ e)) hx3
end WW

set_option Elab.async false
set_option linter.all false
set_option maxRecDepth 100000
set_option maxHeartbeats 4000000
namespace WW
open PySem PySem.Spec PyProof.Rows L2
structure SupAt0 (P : Program) (K : PySem.W.Frag) (mg : Str → Option Value) (x : Str) : Prop where
  ex : ∃ (fI : Addr) (qual : Str) (params : Arguments) (scope : Scope) (p0 p1 p2 p3 p4 p9 : Pos) (j : Nat) (txt : Str) (pl : Env → Sem Bool),
    SupC P K (He.ga K x) fI qual params (supBody0 p0 p1 p2 p3 p4 p9 j txt) scope ∧ SupScope0 scope params ∧
    (∀ env : Env, eval (.Call (.Attribute (.Call (.Name "super" p0) [] [] p1) "__init__" p2) [.Constant (.str txt) j p9] [] p3) env = (do
      let ov ← attributeBase (.Call (.Name "super" p0) [] [] p1) "__init__" env (eval (.Call (.Name "super" p0) [] [] p1) env)
      standAt p2.atName
      let (f, first) ← holding [ov] (getMethod ov "__init__" (pl env))
      callWith p3 f first (backTo p3 (starEach [.Constant (.str txt) j p9] env)) [])) ∧
    (∀ (nm : Str) (kV doc pm : Value) (an : Option Addr) (cdv ct : Value) (cc : Addr) (us : List Value), us.length = 1 → bindArgs (PySem.W.ksFn nm qual params (supBody0 p0 p1 p2 p3 p4 p9 j txt) scope .none kV doc pm an cdv ct cc) ⟨us, []⟩ = pure ((["self"] : List Str).zip us))
  g : mg x = some (.ref (He.ga K x))
  sup : mg "super" = none
def tNew0 (C : Addr) : TE := fun _ H Q => ∀ a, H a = none → Q (.ref a) (upd H a (exo a C none))
section
variable {X : Cx} {p pos : Pos}
theorem inv_new0 {pins : List (Addr × Obj)} {σ : L2.St} {H1 : Hp} {hp h' : Heap} {g : Array GenState} {dr : Drawn} {tk tk' : Nat} {os : OsState} {a C t1 : Addr} (I : Inv X pins σ H1 ⟨hp, g, dr, tk, os⟩) (k : ∀ b o, hp.get? b = some o → h'.get? b = some o) (na : hp.objs.size ≤ a)
    (hx : h'.get? a = some ({ cls := .ref C, dict := none, data := .fields #[.ref t1, .none, .none, .none, .bool false, .none] } : Obj)) : Inv X pins σ (upd H1 a (exo a C none)) ⟨h', g, dr, tk', os⟩ := by
  have ha : H1 a = none := I.hok.fresh na
  have hn : hp.get? a = none := by
    cases z : hp.get? a with
    | none => rfl
    | some o => exact absurd (show a < hp.objs.size from Heap.lt_size z) (Nat.not_lt.mpr na)
  exact I.laidN (t' := tk') k hn ha (exo_ok hx)
theorem pe_sup0 {x : Str} {k : Nat} (S : SupAt0 X.prog X.K X.mg x) (hr : Room k X.A) (hg : Gl X x) (hk : 1 ≤ k := by decide) (hdb : (x == ("__debug__" : Str)) = false := by decide) :
    PE X (.Call (.Name x p) [] [] pos) (tNew0 (He.ga X.K x)) := by
  refine ⟨fun pins s σ H Q I h => ?_⟩
  obtain ⟨fI, qual, params, scope, p0, p1, p2, p3, p4, p9, j, txt, pl, SC, SS, hev, hbind⟩ := S.ex
  have T := SC.oex
  obtain ⟨nm, q, N, bs, bm, sn, sub, ab, col, dd, k0, k1, k2, k3, k5, hC, hbm⟩ := T.cls
  refine wpAny_Call_Name_kw (ld_glob I hg S.g ?_ hdb)
  refine PySem.W.callWith_K0 I.kIn T.kC ?_
  show wpAny _ _ (call (.ref (He.ga X.K x)) []) _ _ _
  obtain ⟨hp, g, dr, tk, os⟩ := s
  have kk : ∀ b o, hp.get? b = some o → ((hp.push (PySem.W.kdv_tup [])).push (PySem.HandSPX.excO (He.ga X.K x) hp.objs.size)).get? b = some o := fun b o e => Heap.get?_push_of_some _ (Heap.get?_push_of_some _ e)
  have hget : ((hp.push (PySem.W.kdv_tup [])).push (PySem.HandSPX.excO (He.ga X.K x) hp.objs.size)).get? (hp.objs.size + 1) = some (PySem.HandSPX.excO (He.ga X.K x) hp.objs.size) := by heap_get
  have hab : X.base.get? (hp.objs.size + 1) = none := by
    cases z : X.base.get? (hp.objs.size + 1) with
    | none => rfl
    | some o => exact absurd (Heap.lt_size (I.bk _ _ z)) (by show ¬ hp.objs.size + 1 < hp.objs.size; omega)
  refine wpAny_call (PySem.HandSPX.call_own F.excBase_ValueError (fun Y => PySem.HandSPX.refsVE_contains Y bm hbm) (I.kIn _ _ hC) (PySem.W.looks_findIn I.kIn SC.ini) (fun self => PySem.W.bind_fn I.kIn self SC.tyI) (by show 0 ≤ sizeLine; exact Nat.zero_le _)
    (sup_code0 SC SS I.ok.mod (fun b o e => kk b o (I.bk b o e)) hab S.sup ((hr.mono hk).make (He.ga X.K x) [] []).depth hev (fun nm kV doc pm an cdv ct cc => hbind nm kV doc pm an cdv ct cc [_] rfl) hget (fun h' tk' t1 kq hx => ?_)))
  refine ⟨rfl, ?_⟩
  have na : hp.objs.size ≤ hp.objs.size + 1 := Nat.le_succ _
  exact ⟨.ref (hp.objs.size + 1), _, inv_new0 (tk' := tk') I (fun b o z => kq b o (fun w => by rw [w] at z; have l : hp.objs.size + 1 < hp.objs.size := Heap.lt_size z; omega) (kk b o z)) na hx, rfl, h _ (I.hok.fresh na)⟩
/-- X(), a class without an own __init__ -/
theorem pe_exc0 {C : Addr} {bmB : List Value} {B newId initId : String} {x : Str} (F : ExcBaseFacts B newId initId bmB) (q : PySem.W.excIn X.K C bmB newId = true) (gC : X.mg x = some (.ref C)) (kC : PySem.W.keepIn X.K (.ref C) = true) (hg : Gl X x) (hdb : (x == ("__debug__" : Str)) = false := by decide) :
    PE X (.Call (.Name x p) [] [] pos) (tNew0 C) := by
  refine ⟨fun pins s σ H Q I h => ?_⟩
  refine wpAny_Call_Name_kw (ld_glob I hg gC ?_ hdb)
  refine PySem.W.callWith_K0 I.kIn kC ?_
  show wpAny _ _ (call (.ref C) []) _ _ _
  obtain ⟨bm, N, nm, qn, bs, hdct, sn, sub, ab, col, dd, k0, k1, k2, k3, k5, mN, hC, hN, hni, T⟩ := exc_obj I.kIn q
  refine wpAny_call_exc_subT F T hC hN hni (fun h' a hm => ?_) (by show 0 ≤ sizeLine; exact Nat.zero_le _)
  have hn : H a = none := I.hok.gone hm.new
  obtain ⟨t, ht, _, _⟩ := hm.there
  exact ⟨.ref a, upd H a (exo a C none), I.laidN hm.keeps hm.new hn (exo_ok ht), rfl, h a hn⟩
end
/-- isinstance(e, c), e an exception made as a value -/
def rIsE (K : PySem.W.Frag) : List V → Hp → VK → Prop := fun xs H Q => ∃ (a D : Addr) (d : Option Addr) (c : V) (u : Value) (b : Bool), xs = [.ref a, c] ∧ H a = some (exo a D d) ∧ ExcC K D ∧ (∀ dd, d = some dd → ∃ fs, H dd = some (.xd fs)) ∧ ClsV c u ∧ PySem.W.kitOne K (.ref D) u = some b ∧ Q (.bl b) H
theorem call_isE {X : Cx} (K : PySem.W.Frag) (hK : X.K = K := by rfl) : CallR X (.builtin "isinstance") (rIsE K) := by
  subst hK
  intro pins s σ H xs us Q I r h
  obtain ⟨a, D, d, c, u, b, rfl, ha, C, hd, k, e, q⟩ := h
  obtain ⟨u1, u2, rfl, r1, r2⟩ := vals2 r
  have e2 := k.eq r2
  subst e2
  cases r1
  obtain ⟨t1, hget⟩ := exo_at I.hok ha
  have J : ∃ od, PySem.W.InstAt s.heap a { cls := .ref D, dict := d, data := .fields #[.ref t1, .none, .none, .none, .bool false, .none] } D od := by
    cases hd' : d with
    | none => exact ⟨none, by rw [← hd']; exact hget, rfl, rfl, trivial⟩
    | some dd =>
      obtain ⟨fs, e⟩ := hd dd hd'
      obtain ⟨mA, ⟨o, es, ep, ho, _⟩, _⟩ : ObjOk X.prog X.w H s.heap dd (.xd fs) := I.hok dd _ e
      exact ⟨some o, by rw [← hd']; exact hget, rfl, rfl, ho⟩
  obtain ⟨od, J⟩ := J
  exact PySem.W.kia_one (PySem.W.kitx_exc (by obtain ⟨cd, hc, _⟩ := PySem.W.any_some C.hd; rw [hc]; rfl) C.hg C.hk C.hs C.ha C.hn C.ht C.hm) I.kIn J e (fun z => nomatch z) fun tk => ⟨.bl b, H, I.tok tk, rfl, q⟩
end WW

set_option Elab.async false
set_option linter.all false
set_option maxRecDepth 100000
set_option maxHeartbeats 4000000
namespace WW
open PySem PySem.Spec PyProof.Rows L2
/-! ### plain values as data; tuples of plain values cut and put together -/
mutual
def AV.dat : AV → PyData
  | .non => .none
  | .bl b => .bool b
  | .int i => .int i
  | .str z => .str z
  | .lst xs => .list (AV.dats xs)
  | .tup xs => .tuple (AV.dats xs)
def AV.dats : List AV → List PyData
  | [] => []
  | x :: r => AV.dat x :: AV.dats r
end
mutual
theorem AV.dp {K : PySem.W.Frag} {S : Hp} : ∀ {v : V} (a : AV), AV.rep K S v a → Dp K S v a.dat
  | v, .non, h => by rw [AV.rep] at h; subst h; rw [AV.dat]; exact .non
  | v, .bl b, h => by rw [AV.rep] at h; subst h; rw [AV.dat]; exact .bl _
  | v, .int b, h => by rw [AV.rep] at h; subst h; rw [AV.dat]; exact .int _
  | v, .str b, h => by rw [AV.rep] at h; subst h; rw [AV.dat]; exact .str _
  | v, .lst xs, h => by
    rw [AV.rep] at h
    obtain ⟨hl, p, vs, rfl, hq, hp⟩ := h
    rw [AV.dat]
    exact .lst (.inl (.inl hq)) (AV.dps xs hp)
  | v, .tup xs, h => by
    rw [AV.rep] at h
    obtain ⟨hl, p, vs, rfl, hq, hp⟩ := h
    rw [AV.dat]
    exact .tup hq (AV.dps xs hp)
theorem AV.dps {K : PySem.W.Frag} {S : Hp} : ∀ {vs : List V} (xs : List AV), AV.reps K S vs xs → DpAll K S vs (AV.dats xs)
  | vs, [], h => by rw [AV.reps] at h; subst h; rw [AV.dats]; exact .nil
  | vs, x :: r, h => by
    rw [AV.reps] at h
    obtain ⟨v, us, rfl, h1, h2⟩ := h
    rw [AV.dats]
    exact .cons (AV.dp x h1) (AV.dps r h2)
end
/-- good to be compared: texts that can lie, not too deep -/
structure AV.Gd (k : Nat) (x : AV) : Prop where
  c : x.dat.canLay0 = true
  d : x.dat.depth ≤ k
def Gds (k : Nat) (xs : List AV) : Prop := ∀ x ∈ xs, x.Gd k
theorem Gds.nil {k : Nat} : Gds k [] := fun x h => nomatch h
theorem Gds.cons {k : Nat} {x : AV} {xs : List AV} (h : x.Gd k) (t : Gds k xs) : Gds k (x :: xs) := fun y hy => by
  rcases List.mem_cons.mp hy with rfl | hy
  · exact h
  · exact t y hy
theorem Gds.app {k : Nat} {xs ys : List AV} (h : Gds k xs) (t : Gds k ys) : Gds k (xs ++ ys) := fun y hy => (List.mem_append.mp hy).elim (h y) (t y)
theorem Gds.sub {k : Nat} {xs ys : List AV} (h : Gds k xs) (t : ∀ y ∈ ys, y ∈ xs) : Gds k ys := fun y hy => h y (t y hy)
theorem dats_can : ∀ {xs : List AV}, PyData.canLayAll0 (AV.dats xs) = true ↔ ∀ x ∈ xs, x.dat.canLay0 = true
  | [] => by simp [AV.dats, PyData.canLayAll0]
  | x :: r => by rw [AV.dats, PyData.canLayAll0, Bool.and_eq_true, dats_can]; simp
theorem dats_dep {k : Nat} : ∀ {xs : List AV}, PyData.depthAll (AV.dats xs) ≤ k ↔ ∀ x ∈ xs, x.dat.depth ≤ k
  | [] => by simp [AV.dats, PyData.depthAll]
  | x :: r => by
    rw [AV.dats, PyData.depthAll, Nat.max_le, dats_dep]
    simp
theorem gd_tup {k : Nat} {xs : List AV} : (AV.tup xs).Gd (k + 1) ↔ Gds k xs := by
  constructor
  · rintro ⟨c, d⟩
    rw [AV.dat, PyData.canLay0, dats_can] at c
    rw [AV.dat, PyData.depth, Nat.succ_le_succ_iff, dats_dep] at d
    exact fun x hx => ⟨c x hx, d x hx⟩
  · intro h
    refine ⟨?_, ?_⟩
    · rw [AV.dat, PyData.canLay0, dats_can]
      exact fun x hx => (h x hx).c
    · rw [AV.dat, PyData.depth, Nat.succ_le_succ_iff, dats_dep]
      exact fun x hx => (h x hx).d
theorem gd_lst {k : Nat} {xs : List AV} : (AV.lst xs).Gd (k + 1) ↔ Gds k xs := by
  constructor
  · rintro ⟨c, d⟩
    rw [AV.dat, PyData.canLay0, dats_can] at c
    rw [AV.dat, PyData.depth, Nat.succ_le_succ_iff, dats_dep] at d
    exact fun x hx => ⟨c x hx, d x hx⟩
  · intro h
    refine ⟨?_, ?_⟩
    · rw [AV.dat, PyData.canLay0, dats_can]
      exact fun x hx => (h x hx).c
    · rw [AV.dat, PyData.depth, Nat.succ_le_succ_iff, dats_dep]
      exact fun x hx => (h x hx).d
theorem gd_non {k : Nat} : AV.non.Gd k := ⟨by simp [AV.dat, PyData.canLay0], by simp [AV.dat, PyData.depth]⟩
theorem gd_bl {k : Nat} {b : Bool} : (AV.bl b).Gd k := ⟨by simp [AV.dat, PyData.canLay0], by simp [AV.dat, PyData.depth]⟩
theorem gd_int {k : Nat} {b : Int} : (AV.int b).Gd k := ⟨by simp [AV.dat, PyData.canLay0], by simp [AV.dat, PyData.depth]⟩
theorem gd_str {k : Nat} {z : Str} (h : PyData.strOk z = true) : (AV.str z).Gd k := ⟨by rw [AV.dat, PyData.canLay0]; exact h, by simp [AV.dat, PyData.depth]⟩
theorem AV.Gd.up {k l : Nat} {x : AV} (h : x.Gd k) (hl : k ≤ l) : x.Gd l := ⟨h.c, Nat.le_trans h.d hl⟩
theorem AV.Gd.items {k : Nat} {x : AV} (h : x.Gd k) : Gds k x.items := by
  cases x with
  | tup xs =>
    cases k with
    | zero =>
      have := h.d
      rw [AV.dat, PyData.depth] at this
      omega
    | succ k => exact fun y hy => (gd_tup.mp h y hy).up (Nat.le_succ k)
  | lst xs =>
    cases k with
    | zero =>
      have := h.d
      rw [AV.dat, PyData.depth] at this
      omega
    | succ k => exact fun y hy => (gd_lst.mp h y hy).up (Nat.le_succ k)
  | _ => exact Gds.nil
theorem AV.Gd.shaped {k : Nat} {x : AV} (h : x.Gd k) (hk : k ≤ 64) : SeqAt.shaped x.dat = true := by
  unfold SeqAt.shaped
  rw [h.c, Bool.true_and]
  exact decide_eq_true (Nat.le_trans h.d hk)
def AV.isS (z : Str) : AV → Bool
  | .str y => decide (y = z)
  | _ => false
theorem eqv_avS {x : AV} {z : Str} : PyData.eqv x.dat (.str z) = x.isS z := by
  cases x with
  | str y =>
    rw [AV.dat, PyData.eqv]
    show (y == z) = decide (y = z)
    rw [Bool.eq_iff_iff, beq_iff_eq, decide_eq_true_iff]
  | _ => simp [AV.dat, PyData.eqv, AV.isS]
def AV.isEmp : AV → Bool
  | .tup [] => true
  | _ => false
theorem eqv_avE {x : AV} : PyData.eqv (.tuple [x.dat]) (.tuple [.tuple []]) = x.isEmp := by
  cases x with
  | tup xs => cases xs <;> simp [AV.dat, AV.dats, PyData.eqv, PyData.eqvAll, AV.isEmp]
  | _ => simp [AV.dat, PyData.eqv, PyData.eqvAll, AV.isEmp]
def AV.isNon : AV → Bool
  | .non => true
  | _ => false
theorem av_non {K : PySem.W.Frag} {S : Hp} {v : V} : ∀ {x : AV}, AV.rep K S v x → decide (v = .non) = x.isNon
  | .non, h => by rw [AV.rep] at h; subst h; rfl
  | .bl _, h => by rw [AV.rep] at h; subst h; rfl
  | .int _, h => by rw [AV.rep] at h; subst h; rfl
  | .str _, h => by rw [AV.rep] at h; subst h; rfl
  | .lst _, h => by rw [AV.rep] at h; obtain ⟨_, p, vs, rfl, _⟩ := h; rfl
  | .tup _, h => by rw [AV.rep] at h; obtain ⟨_, p, vs, rfl, _⟩ := h; rfl
theorem isNum_int {x : AV} (h : x.isNum = true) : x.isInt = true ∧ 0 ≤ x.num := by
  cases x with
  | int i => exact ⟨rfl, of_decide_eq_true h⟩
  | _ => cases h
theorem AV.map_id (xs : List AV) : xs.map (IsAV.av (α := AV)) = xs := by
  show xs.map id = xs
  exact List.map_id xs
instance : IsAV (Option Int) where
  av o := match o with
    | none => .non
    | some i => .int i
  iff {K S v a} := by
    cases a with
    | none => show AV.rep K S v .non ↔ v = .non; rw [AV.rep]
    | some i => show AV.rep K S v (.int i) ↔ v = .int i; rw [AV.rep]
theorem getDg {β : Type} {l : List β} {i : Nat} {d : β} (h : i < l.length) : l.getD i d = l[i] := by rw [List.getD_eq_getElem?_getD, List.getElem?_eq_getElem h]; rfl
section
variable {K : PySem.W.Frag} {B : Addr → Prop} {ρ : List Slot} {ta tb te : TE} {x y : AV} {α : Type} {e_α : Enc α}
theorem d_tupV {xs : List AV} (h : DE K B te ρ (α := U AV) xs) : DE K B te ρ (AV.tup xs) := by
  have z := d_av h
  rw [show IsAV.av (α := U AV) xs = AV.tup (xs.map (IsAV.av (α := AV))) from rfl, AV.map_id] at z
  exact z
theorem d_asTup (h : DE K B te ρ x) (hs : x.isTup = true) : DE K B te ρ (α := U AV) x.items := h.conv fun S v r => by
  have r : AV.rep K S v x := r
  cases x with
  | tup xs =>
    rw [AV.rep] at r
    obtain ⟨hl, p, vs, e, hq, r⟩ := r
    exact ⟨hl, p, vs, e, hq, AV.pr.mp r⟩
  | _ => cases hs
theorem d_numA (h : DE K B te ρ x) (hs : x.isNum = true) : DE K B te ρ x.num := d_asInt h (isNum_int hs).1
theorem d_isNA (ha : DE K B ta ρ x) : DE K B (tOp (fun x y H Q => y = .non ∧ Q (.bl (decide (x = .non))) H) ta (tC .non)) ρ x.isNon := fun S0 H0 S H σ E Q q =>
  ha S0 H0 S H σ E _ fun v S1 H1 e1 r1 => ⟨rfl, by rw [av_non r1]; exact q _ S1 H1 e1 rfl⟩
theorem d_notNA (ha : DE K B ta ρ x) : DE K B (tOp (fun x y H Q => y = .non ∧ Q (.bl (!decide (x = .non))) H) ta (tC .non)) ρ (!x.isNon) := fun S0 H0 S H σ E Q q =>
  ha S0 H0 S H σ E _ fun v S1 H1 e1 r1 => ⟨rfl, by rw [av_non r1]; exact q _ S1 H1 e1 rfl⟩
theorem d_neA {k l : Nat} (ha : DE K B ta ρ x) (hb : DE K B tb ρ y) (gx : x.Gd k) (gy : y.Gd l) (hk : k ≤ 64) (hl : l ≤ 64) : DE K B (tOp (rNeD K) ta tb) ρ (!PyData.eqv x.dat y.dat) :=
  d_op ha hb fun v w S H hi r1 r2 Q q => ⟨_, _, AV.dp _ (AV.mono hi x r1), AV.dp _ (AV.mono hi y r2), gx.shaped hk, gy.shaped hl, q _ S H (Ext.refl hi) rfl⟩
theorem d_eqA {k l : Nat} (ha : DE K B ta ρ x) (hb : DE K B tb ρ y) (gx : x.Gd k) (gy : y.Gd l) (hk : k ≤ 64) (hl : l ≤ 64) : DE K B (tOp (rEqD K) ta tb) ρ (PyData.eqv x.dat y.dat) :=
  d_op ha hb fun v w S H hi r1 r2 Q q => ⟨_, _, AV.dp _ (AV.mono hi x r1), AV.dp _ (AV.mono hi y r2), gx.shaped hk, gy.shaped hl, q _ S H (Ext.refl hi) rfl⟩
theorem d_neAS {k : Nat} {z : Str} (ha : DE K B ta ρ x) (hb : DE K B tb ρ z) (gx : x.Gd k) (hk : k ≤ 64) (hz : PyData.strOk z = true) : DE K B (tOp (rNeD K) ta tb) ρ (!x.isS z) := by
  have := d_neA ha (d_avS hb) gx (gd_str (k := 0) hz) hk (Nat.zero_le _)
  rw [show (AV.str z).dat = .str z by rw [AV.dat], eqv_avS] at this
  exact this
/-- a part of a tuple -/
theorem d_sliceU {tl th : TO} {xs : List α} {lo hi : Option Int} (h : DE K B te ρ (α := U α) xs) (hl : DP K B tl ρ lo) (hh : DP K B th ρ hi) : DE K B (tSl (rSlQ K) te tl th) ρ (α := U α) (cutA xs lo hi) := fun S0 H0 S H σ E Q q =>
  h S0 H0 S H σ E _ fun v S1 H1 e1 r1 => hl S0 H0 S1 H1 σ (E.go e1) _ fun S2 H2 e2 => hh S0 H0 S2 H2 σ (E.go (e1.trans e2)) _ fun S3 H3 e3 => by
    have e13 := (e1.trans e2).trans e3
    obtain ⟨hl, p, vs, rfl, hq, r⟩ := Enc.mono (e2.s.trans e3.s) r1
    have lc : (cutA xs lo hi).length ≤ BIG := Nat.le_trans (cutA_len _ _ _) hl
    by_cases hw : HT.sIx vs.length 0 lo = 0 ∧ HT.sIx vs.length vs.length hi = vs.length
    · refine .inr (.inr ⟨p, vs, rfl, Evl.ex_t e3.i hq, hw, q _ S3 H3 e13 ⟨lc, p, vs, rfl, hq, ?_⟩⟩)
      have ev : cutV vs lo hi = vs := by
        unfold cutV
        rw [hw.1, hw.2]
        simp
      have r' := paired_cut (lo := lo) (hi := hi) r
      rw [ev] at r'
      exact r'
    · refine .inr (.inl ⟨p, vs, rfl, Evl.ex_t e3.i hq, hw, fun w hw => ?_⟩)
      have e4 : Ext B S3 H3 (upd S3 w (.tup (cutV vs lo hi))) (upd H3 w (.tup (cutV vs lo hi))) := Ext.new e3.i hw
      exact q _ _ _ (e13.trans e4) ⟨lc, w, _, rfl, .inl (.inl upd_same), Paired.mono (fun _ _ => Enc.mono e4.s) (paired_cut r)⟩
/-- tuples put together -/
theorem d_catU {xs ys : List α} (h1 : DE K B ta ρ (α := U α) xs) (h2 : DE K B tb ρ (α := U α) ys) (hl : xs.length + ys.length ≤ BIG) : DE K B (tOp (rCatA K) ta tb) ρ (α := U α) (xs ++ ys) := fun S0 H0 S H σ E Q q =>
  h1 S0 H0 S H σ E _ fun v S1 H1 e1 r1 => h2 S0 H0 S1 H1 σ (E.go e1) _ fun w S2 H2 e2 r2 => by
    obtain ⟨l1, p1, vs1, rfl, hq1, r1⟩ := Enc.mono e2.s r1
    obtain ⟨l2, p2, vs2, rfl, hq2, r2⟩ := r2
    have r := Paired.app r1 r2
    have la : (xs ++ ys).length ≤ BIG := by rw [List.length_append]; exact hl
    refine ⟨p1, p2, vs1, vs2, rfl, rfl, Evl.ex_t e2.i hq1, Evl.ex_t e2.i hq2, ?_, fun z => ?_, fun _ z => ?_, fun _ _ p hp => ?_⟩
    · rw [r1.length, r2.length]
      exact Nat.le_trans hl big_line
    · subst z
      rw [List.nil_append] at r
      exact q _ S2 H2 (e1.trans e2) ⟨la, p2, vs2, rfl, hq2, r⟩
    · subst z
      rw [List.append_nil] at r
      exact q _ S2 H2 (e1.trans e2) ⟨la, p1, vs1, rfl, hq1, r⟩
    · have e3 : Ext B S2 H2 (upd S2 p (.tup (vs1 ++ vs2))) (upd H2 p (.tup (vs1 ++ vs2))) := Ext.new e2.i hp
      exact q _ _ _ ((e1.trans e2).trans e3) ⟨la, p, _, rfl, .inl (.inl upd_same), Paired.mono (fun _ _ => Enc.mono e3.s) r⟩
theorem op_catAK {X : Cx} (K : PySem.W.Frag) (h : X.K = K := by rfl) : OpR X (binaryOp .Add) (rCatA K) := by
  subst h
  exact op_catA
end
end WW

set_option Elab.async false
set_option linter.all false
set_option maxRecDepth 100000
set_option maxHeartbeats 4000000
namespace WW
open PySem PySem.Spec PyProof.Rows L2
/-! ### the very value; an own list with its place; a list with its place -/
structure PV where
  v : V
instance : Enc PV := ⟨fun _ _ v p => v = p.v, fun _ h => h⟩
def ownLA (p0 : Addr) {α : Type} [Enc α] (xs : List α) : OwnP := ⟨fun K S p o => p = p0 ∧ (ownL xs).rep K S p o, fun e h => ⟨h.1, (ownL xs).mono e h.2⟩⟩
structure PinL (α : Type) where
  p : Addr
  xs : List α
instance {α : Type} [Enc α] : Enc (PinL α) where
  rep K S v x := v = .ref x.p ∧ Enc.rep K S v (α := L α) x.xs
  mono e h := ⟨h.1, Enc.mono e h.2⟩
/-- an own exception: its class, its dict with the field -/
structure XV where
  C : Addr
  f : Option (Str × V)
instance : Enc XV where
  rep K S v x := ∃ a, v = .ref a ∧ match x.f with
    | none => S a = some (exo a x.C none)
    | some q => ∃ d, S a = some (exo a x.C (some d)) ∧ S d = some (.xd [q])
  mono {K S S' v x} e h := by
    obtain ⟨a, h1, h2⟩ := h
    refine ⟨a, h1, ?_⟩
    obtain ⟨C, f⟩ := x
    cases f with
    | none => exact e _ _ h2
    | some q =>
      obtain ⟨d, h2, h3⟩ := h2
      exact ⟨d, e _ _ h2, e _ _ h3⟩
section
variable {K : PySem.W.Frag} {B : Addr → Prop} {ρ : List Slot} {ta tb te : TE} {tr : TA} {ts tz : TS} {Φ : Post} {α β : Type} {e_α : Enc α} {e_β : Enc β} {a : α} {i n : Nat} {p : Addr} {xs : List α} {y : V} {x : XV} {C : Addr} {fld : Str}
theorem upd_self {H : Hp} {o : HO} (h : H p = some o) : upd H p o = H := by
  funext b
  unfold upd
  by_cases z : b = p
  · rw [if_pos z, z, h]
  · rw [if_neg z]
theorem ds_pinO (h : ρ[i]? = some (.own xs)) (k : ∀ p, DS K B ts (ρ.set i (.obj (ownLA p xs))) Φ) : DS K B ts ρ Φ := fun S0 H0 S H σ D E px nx r b c => by
  obtain ⟨p, o, e1, h0, hs, hh, rr⟩ := E.obj h
  have E2 := E.chgOb (P' := ownLA p xs) (u' := o) h e1 ⟨rfl, rr⟩
  rw [upd_self hh] at E2
  exact k p S0 H0 S H σ D E2 px nx r b c
theorem d_pv (h : ρ[i]? = some (.obj (ownLA p xs))) : DE K B (tVar i) ρ (PV.mk (.ref p)) := fun S0 H0 S H σ E Q q => by
  obtain ⟨p', o, e1, h0, hs, hh, hp, rr⟩ := E.obj h
  exact ⟨_, e1, q _ S H (Ext.refl E.i) (by rw [hp]; rfl)⟩
theorem ds_appLA (hx : ρ[i]? = some (.obj (ownLA p xs))) (h : DE K B te ρ a) (hl : xs.length < BIG) (k : Φ.nx (ρ.set i (.obj (ownLA p (xs ++ [a]))))) : DS K B (tDrop (tBM K "list" rAppend (tVar i) (tCons te tNil))) ρ Φ := fun S0 H0 S H σ D E px nx r b c => by
  obtain ⟨q, o, e1, h0, hs, hh, hq, l0, vs, rfl, rr⟩ := E.obj hx
  refine ⟨_, e1, .inl ⟨rfl, vs, SqL.of hh⟩, ?_⟩
  refine h S0 H0 S H σ E _ fun w S1 H1 ex r1 => ?_
  have E1 := E.go ex
  obtain ⟨q', o', e1', h0', hs', hh', hq', l0', vs', rfl, rr'⟩ := E1.obj hx
  rw [e1] at e1'
  cases e1'
  refine ⟨q, vs', w, rfl, rfl, hh', by rw [rr'.length]; exact Nat.lt_of_lt_of_le hl big_line, nx _ σ S1 _ k ex.s (E1.chgOb (P' := ownLA p (xs ++ [a])) hx e1 ⟨hq', by rw [List.length_append]; exact hl, _, rfl, Paired.app rr' (.cons r1 .nil)⟩)⟩
theorem ds_frzLA (hx : ρ[i]? = some (.obj (ownLA p xs))) (h : DS K B ts (ρ.set i (.val (PinL.mk p xs))) Φ) : DS K B ts ρ Φ := fun S0 H0 S H σ D E px nx r b c => by
  obtain ⟨S1, _, sm, E1⟩ := E.frzOb (a := PinL.mk p xs) hx fun S1 q u hu ⟨hq, l0, vs, ho, rr⟩ => by
    subst hq
    subst ho
    exact ⟨rfl, l0, q, vs, rfl, hu, rr⟩
  exact h S0 H0 S1 H σ D E1 px (fun ρ' σ' S' H' q s E' => nx ρ' σ' S' H' q (sm.trans s) E') r (fun ρ' σ' S' H' q s E' => b ρ' σ' S' H' q (sm.trans s) E') (fun ρ' σ' S' H' q s E' => c ρ' σ' S' H' q (sm.trans s) E')
theorem d_pinL {x : PinL α} (h : DE K B te ρ x) : DE K B te ρ (α := L α) x.xs := h.conv fun _ _ r => r.2
/-- values that are the very lists in some slots -/
theorem d_pins {ys : List PV} {zs : List AV} (h : DE K B te ρ (α := L PV) ys) (pr : Paired (fun (y : PV) (z : AV) => ∃ (i : Nat) (x : PinL AV), ρ[i]? = some (.val x) ∧ y.v = .ref x.p ∧ z = .lst x.xs) ys zs) : DE K B te ρ (α := L AV) zs := fun S0 H0 S H σ E Q q =>
  h S0 H0 S H σ E Q fun v S1 H1 e ⟨hl, p, vs, ev, hq, rr⟩ => q v S1 H1 e ⟨by rw [← Paired.length pr]; exact hl, p, vs, ev, hq, by
    have key : ∀ {ys : List PV} {zs : List AV} {vs : List V}, Paired (fun (y : PV) (z : AV) => ∃ (i : Nat) (x : PinL AV), ρ[i]? = some (.val x) ∧ y.v = .ref x.p ∧ z = .lst x.xs) ys zs → Paired (Enc.rep K S1) vs ys → Paired (Enc.rep K S1) vs zs := by
      intro ys
      induction ys with
      | nil => intro zs vs a b; cases a; cases b; exact .nil
      | cons y ys ih =>
        intro zs vs a b
        cases a with
        | cons a1 a2 =>
          cases b with
          | cons b1 b2 =>
            obtain ⟨i, x, hi, hy, rfl⟩ := a1
            obtain ⟨w, g1, g2, g3⟩ := E.val hi
            have b1 : _ = _ := b1
            subst b1
            refine .cons ?_ (ih a2 b2)
            rw [hy]
            have g3 := Enc.mono e.s g3
            rw [g2] at g3
            show AV.rep K S1 (.ref x.p) (.lst x.xs)
            obtain ⟨l, q, us, eq, hs, pp⟩ := g3
            rw [AV.rep]
            exact ⟨l, q, us, eq, hs, AV.pr.mpr pp⟩
    exact key pr rr⟩
/-! ### new exceptions -/
theorem ext_new2 {S H : Hp} {a d : Addr} {o u : HO} (i : Same S H) (ha : H a = none) (hd : H d = none) (ne : d ≠ a) : Ext B S H (upd (upd S d o) a u) (upd (upd H d o) a u) := by
  have e1 : Ext B S H (upd S d o) (upd H d o) := Ext.new i hd
  exact e1.trans (Ext.new e1.i (by rw [upd_ne (fun z => ne z.symm)]; exact ha))
theorem dn_newX (h : DE K B te ρ (PV.mk y)) : DE K B (tNewX C fld te) ρ (XV.mk C (some (fld, y))) := fun S0 H0 S H σ E Q q =>
  h S0 H0 S H σ E _ fun v S1 H1 e1 r1 => fun a d ha hd ne => by
    have r1 : v = y := r1
    subst r1
    have e2 := ext_new2 (B := B) (o := .xd [(fld, v)]) (u := exo a C (some d)) e1.i ha hd ne
    exact q _ _ _ (e1.trans e2) ⟨a, rfl, d, upd_same, by rw [upd_ne ne, upd_same]⟩
theorem dn_newXW (h : DA K B tr ρ [.val (PV.mk y)]) : DE K B (tNewXW C fld tr) ρ (XV.mk C (some (fld, y))) := fun S0 H0 S H σ E Q q =>
  h S0 H0 S H σ E _ fun vs S1 H1 e1 r1 => by
    cases r1 with
    | cons r1 _ r2 =>
      cases r2
      rename_i v _
      have r1 : v = y := r1
      subst r1
      refine ⟨v, rfl, fun a d ha hd ne => ?_⟩
      have e2 := ext_new2 (B := B) (o := .xd [(fld, v)]) (u := exo a C (some d)) e1.i ha hd ne
      exact q _ _ _ (e1.trans e2) ⟨a, rfl, d, upd_same, by rw [upd_ne ne, upd_same]⟩
theorem dn_new0 : DE K B (tNew0 C) ρ (XV.mk C none) := fun S0 H0 S H σ E Q q a ha => by
  have e2 : Ext B S H (upd S a (exo a C none)) (upd H a (exo a C none)) := Ext.new E.i ha
  exact q _ _ _ e2 ⟨a, rfl, upd_same⟩
end
/-! ### a field read, of any own class; the class asked -/
def tXg (K : PySem.W.Frag) (f : Str) (te : TE) : TE := fun σ H Q => te σ H fun x H1 => ∃ (a C d : Addr) (fs : List (Str × V)) (v : V), x = .ref a ∧ H1 a = some (exo a C (some d)) ∧ XfC K C ∧ PySem.W.findIn K (.ref C) f = some none ∧ H1 d = some (.xd fs) ∧ fs.lookup f = some v ∧ Q v H1
theorem pe_xg {X : Cx} (K : PySem.W.Frag) {e : Expr} {te : TE} {pos : Pos} {n : Str} (he : PE X e te) (hK : X.K = K := by rfl) (hb : attributeBase e n X.env (eval e X.env) = eval e X.env := by rfl) : PE X (.Attribute e n pos) (tXg K n te) := by
  subst hK
  refine ⟨fun pins s σ H Q I h => ?_⟩
  refine attr_of hb (thn (he.run pins s σ H _ I h) fun u s1 hh => ?_)
  obtain ⟨x, H1, I1, rx, a, C, d, fs, v, ex, ea, T, hno, ed, l, q⟩ := hh
  subst ex
  obtain rfl : u = Value.ref a := rx
  obtain ⟨t1, ha⟩ := exo_at I1.hok ea
  obtain ⟨mA, hns, hr⟩ : ObjOk X.prog X.w H1 s1.heap d (.xd fs) := I1.hok d _ ed
  obtain ⟨od, ho, hl⟩ := lookIn_ns hns
  obtain ⟨u, hu, ru⟩ := RelO.some_of (v := v) (o := mA n) (by rw [← l]; exact hr n)
  have J : PySem.W.InstAt s1.heap a { cls := .ref C, dict := some d, data := .fields #[.ref t1, .none, .none, .none, .bool false, .none] } C (some od) := ⟨ha, rfl, rfl, ho⟩
  exact HandSPX.exc_get I1.kIn J T.ga T.gg T.exC (PySem.W.findObj_own T.hdC hno rfl (by rw [hl, hu])) (handed_of ru) ⟨v, H1, I1.tok _, ru, q⟩
section
variable {K : PySem.W.Frag} {B : Addr → Prop} {ρ : List Slot} {te : TE} {x : XV} {f : Str} {y : V} {c : V} {u : Value} {b : Bool}
theorem d_xg (h : DE K B te ρ x) (e : x.f = some (f, y)) (T : XfC K x.C) (hno : PySem.W.findIn K (.ref x.C) f = some none) : DE K B (tXg K f te) ρ (PV.mk y) := fun S0 H0 S H σ E Q q =>
  h S0 H0 S H σ E _ fun v S1 H1 e1 r1 => by
    obtain ⟨C, g⟩ := x
    have e : g = some (f, y) := e
    subst e
    obtain ⟨a, rfl, d, h1, h2⟩ := r1
    exact ⟨a, C, d, _, y, rfl, e1.i _ _ h1, T, hno, e1.i _ _ h2, by simp [List.lookup], q y S1 H1 e1 rfl⟩
theorem d_isE (h : DE K B te ρ x) (C : ExcC K x.C) (k : ClsV c u) (e : PySem.W.kitOne K (.ref x.C) u = some b) : DE K B (tCB (rIsE K) (tCons te (tCons (tC c) tNil))) ρ b := fun S0 H0 S H σ E Q q =>
  h S0 H0 S H σ E _ fun v S1 H1 e1 r1 => by
    obtain ⟨D, g⟩ := x
    obtain ⟨a, rfl, r⟩ := r1
    cases g with
    | none => exact ⟨a, D, none, c, u, b, rfl, e1.i _ _ r, C, (fun dd z => nomatch z), k, e, q _ S1 H1 e1 rfl⟩
    | some g =>
      obtain ⟨d, h1, h2⟩ := r
      exact ⟨a, D, some d, c, u, b, rfl, e1.i _ _ h1, C, (fun dd z => by cases z; exact ⟨_, e1.i _ _ h2⟩), k, e, q _ S1 H1 e1 rfl⟩
end
end WW

set_option Elab.async false
set_option linter.all false
set_option maxRecDepth 100000
set_option maxHeartbeats 4000000
namespace WW
open PySem PySem.Spec PyProof.Rows L2
/-! ### typed defs that may raise; the error may keep what lies in the heap -/
abbrev XPH := Hp → Addr → List (Str × V) → Prop
def PXH (B : Addr → Prop) (X : XPH) (E : XK) (S0 H0 : Hp) : Prop := ∀ C fs d S' H', X S' C fs → Ext B S0 H0 S' H' → H0 d = none → H' d = some (.xd fs) → E (.ref C) (some d) H'
def spTXH (K : PySem.W.Frag) (dp : List Slot → (Slot → Prop) → XPH → Prop) : Sp := fun vs H Q E => ∃ B S ss R X, Same S H ∧ (∀ p, B p → S p = none ∧ IsBx (H p)) ∧ ArgsOk K B H S H vs ss ∧ dp ss R X ∧ (∀ s v S' H', R s → Ext B S H S' H' → SlotOk K B H S' H' (some v) s → Q v H') ∧ PXH B X E S H
section
variable {K : PySem.W.Frag} {B : Addr → Prop} {ρ : List Slot} {ta tb tc te : TE} {Φ : Post} {α : Type} {e_α : Enc α} {a : α}
theorem ds_raiseH {C : Addr} {fld : Str} {E : XK} {X : XPH} (h : DE K B te ρ a) (hx : ∀ S v, Enc.rep K S v a → X S C [(fld, v)]) (hp : ∀ S0 H0, Φ.px S0 H0 → PXH B X E S0 H0) :
    DS K B (fun _ σ H => tMkS C fld te σ H fun cls d H' => E cls d H') ρ Φ := fun S0 H0 S H σ D En px n r b c =>
  h S0 H0 S H σ En _ fun v S1 H1 e1 r1 d hd => hp S0 H0 px C _ d S1 _ (hx S1 v r1) ((En.ext.trans e1).trans (Ext.priv e1.i hd)) ((En.ext.trans e1).free En.i0 hd) upd_same
/-- the promise used where what is raised is handed on -/
theorem PXH.sub {X X' : XPH} {E : XK} {S0 H0 S1 H1 : Hp} (h : PXH B X E S0 H0) (i : Same S0 H0) (e : Ext B S0 H0 S1 H1) (f : ∀ S C fs, X' S C fs → X S C fs) : PXH B X' E S1 H1 := fun C fs d S' H' hX e2 nd hd =>
  h C fs d S' H' (f _ _ _ hX) (e.trans e2) (e.free i nd) hd
end
theorem okTXH {P : Program} {w : World} {K : PySem.W.Frag} {mg : Str → Option Value} {base : Heap} {x qual : Str} {params : Arguments} {body : List Stmt} {scope : Scope} {dvs : List V} {kws : List (Str × V)} {f : Addr} {fd : FuncData} {N ps : List Str} {k : Nat} {dp : List Slot → (Slot → Prop) → XPH → Prop}
    (F : FunD K x qual params body scope dvs kws f fd) (S : FnScope N ps scope) (len : ∀ ss R X, dp ss R X → ss.length = ps.length)
    (hbody : ∀ (cdv : Value) (A : Around) (outer : List PySem.Env) (s : Shared) (H : Hp) (E : XK), Room k (A.deeper (envOfC qual scope s.heap.objs.size f cdv)) →
      ∃ t, PSs (cxOf (L2.CX P w) P w K mg base N qual scope f cdv A outer s H E) body t ∧ ∀ (B : Addr → Prop) ss R X, dp ss R X → DS K B t (startS N ss) ⟨fun _ => R (.val ()), R, fun _ => False, fun _ => False, fun S0 H0 => PXH B X E S0 H0⟩) : FnOk P w K mg base (L2.CX P w) (k + 1) f fd ps (spTXH K dp) := by
  refine F.ok S (fun vs H Q E h => ?_) (fun cdv A outer s H vs Q E hr h => ?_)
  · obtain ⟨B, S, ss, R, X, _, _, ha, hd, _⟩ := h
    rw [ha.length, len ss R X hd]
  · obtain ⟨B, S, ss, R, X, hi, hb, ha, hd, q, qx⟩ := h
    obtain ⟨t, h1, h2⟩ := hbody cdv A outer s H E hr
    exact ⟨t, h1, h2 B ss R X hd S H S H _ _ (start_en hi hb ha) qx (fun ρ' σ' S' H' r _ E' => q _ _ S' H' r E'.ext rfl) (fun s v S' H' r ex ok => q s v S' H' r ex ok) (fun _ _ _ _ h => h.elim) (fun _ _ _ _ h => h.elim)⟩
end WW

set_option Elab.async false
set_option linter.all false
set_option maxRecDepth 100000
namespace WW
open PySem PySem.Spec PyProof.Rows L2
end WW

set_option Elab.async false
set_option linter.all false
set_option maxRecDepth 100000
set_option maxHeartbeats 4000000
namespace WW
open PySem PySem.Spec PyProof.Rows L2
/-! ### names, ends, links: what the program asks of any value -/
abbrev SMALLS : Str := "abcdefghijklmnopqrstuvwxyz"
def nameB (z : Str) : Bool := (decide (0 < (z.length : Int)) && decide ((z.length : Int) < 6)) && z.cps.toList.all fun c => decide (c ∈ SMALLS.cps.toList)
def isName : AV → Bool
  | .str z => nameB z
  | _ => false
def freshB (v : AV) (tk : List Str) : Bool := v.isSeq && (v.items.all (fun x => isName x && !decide (x.txt ∈ tk)) && decide (v.items.map AV.txt).Nodup)
def pairB (v : AV) : Bool := v.isTup && (decide (v.items.length = 2) && v.items.all isName)
def labelsOf (v : AV) : List Str := if v.isSeq = true then (v.items.filter pairB).map (fun p => (p.items.getD 0 .non).txt) else []
def dot : Str := "."
def endB (z : Str) : Bool := (decide (1 ≤ (Txt.split z ".").length) && decide ((Txt.split z ".").length ≤ 2)) && (Txt.split z ".").all nameB
def thereB (e : AV) (ns ls : List Str) : Bool := (e.isStr && endB e.txt) && (if decide ((Txt.partition e.txt ".").2.1 = dot) = true then decide ((Txt.partition e.txt ".").1 ∈ ls) else decide (e.txt ∈ ns))
def linkB (v : AV) (bs gs ls : List Str) : Bool := (v.isTup && decide (v.items.length = 4)) && ((thereB (v.items.getD 0 .non) bs ls && thereB (v.items.getD 1 .non) gs ls) && ((v.items.getD 2 .non).isNum && (v.items.getD 3 .non).isNum))
theorem name_str {x : AV} (h : isName x = true) : x.isStr = true ∧ x = .str x.txt ∧ nameB x.txt = true := by
  cases x <;> first | exact ⟨rfl, rfl, h⟩ | cases h
section
variable {K : PySem.W.Frag} {B : Addr → Prop} {ρ ρ' ρ1 ρ2 : List Slot} {ta tb tc td te : TE} {x : AV}
theorem pair_txt {S : Hp} : ∀ {vs : List V} {xs : List AV}, Paired (AV.rep K S) vs xs → (∀ y ∈ xs, y.isStr = true) → Paired (Enc.rep K S) vs (xs.map AV.txt)
  | _, _, .nil, _ => .nil
  | _, y :: r, .cons h t, g => .cons (by
      have := g y List.mem_cons_self
      cases y with
      | str z => rw [AV.rep] at h; exact h
      | _ => cases this) (pair_txt t fun z hz => g z (List.mem_cons_of_mem _ hz))
theorem d_asStrs (h : DE K B te ρ x) (hs : x.isSeq = true) (ha : ∀ y ∈ x.items, y.isStr = true) : DE K B te ρ (x.items.map AV.txt) := (d_asSeq h hs).conv fun S v ⟨hl, p, vs, e, hq, r⟩ => ⟨by rw [List.length_map]; exact hl, p, vs, e, hq, pair_txt r ha⟩
/-- any item of a tuple -/
theorem d_ixA {i : Int} {y : AV} (h : DE K B ta ρ x) (hs : x.isSeq = true) (hi : DE K B tb ρ i) (hy : atI x.items i = some y) : DE K B (tOp (rIxQ K) ta tb) ρ y := d_ix (d_asSeq h hs) hi hy
end
theorem op_inK {X : Cx} (K : PySem.W.Frag) (h : X.K = K := by rfl) : OpR X (compareOp .In) (rIn K false) := by
  subst h
  exact op_in_seq
theorem op_notInK {X : Cx} (K : PySem.W.Frag) (h : X.K = K := by rfl) : OpR X (compareOp .NotIn) (rIn K true) := by
  subst h
  exact op_notIn_seq
theorem all_get {α : Type} {p : α → Bool} {l : List α} (h : l.all p = true) {x : α} (hx : x ∈ l) : p x = true := List.all_eq_true.mp h x hx
section
variable {P : Program} {w : World} {K : PySem.W.Frag} {mg : Str → Option Value} {base : Heap} {f : Addr} {fd : FuncData}
abbrev Sm1 : AV → Prop := fun v => v.sm = true
abbrev dpInt := dp1 (fun _ : AV => True) AV.isInt
abbrev dpNum := dp1 (fun _ : AV => True) AV.isNum
abbrev dpSeq := dp1 (fun _ : AV => True) AV.isSeq
abbrev dpName := dp1 Sm1 isName
end
end WW

set_option Elab.async false
set_option linter.all false
set_option maxRecDepth 100000
set_option maxHeartbeats 4000000
namespace WW
open PySem PySem.Spec PyProof.Rows L2
/-! ### Module(..) -/
structure M6 where
  n : AV
  i : AV
  o : AV
  s : AV
  l : AV
  c : AV
def AV.names (v : AV) : List Str := v.items.map AV.txt
def M6.begins (m : M6) : List Str := m.i.names ++ m.s.names
def M6.goes (m : M6) : List Str := m.s.names ++ m.o.names
def M6.linksB (m : M6) : Bool := m.l.isSeq && m.l.items.all fun k => linkB k m.begins m.goes (labelsOf m.c)
def strsA (zs : List Str) : AV := .lst (zs.map .str)
def M6.callsB (m : M6) : Bool := m.c.isSeq && !decide ((labelsOf m.c).length < m.c.items.length)
def wrongMod (m : M6) : Option Str :=
  if isName m.n = false then some "name"
  else if freshB m.i [] = false then some "inlets"
  else if freshB m.o m.i.names = false then some "outlets"
  else if freshB m.s (m.i.names ++ m.o.names) = false then some "stations"
  else if m.linksB = false then some "links"
  else if m.callsB = false then some "calls"
  else if freshB (strsA (labelsOf m.c)) (m.i.names ++ m.o.names ++ m.s.names) = false then some "calls"
  else none
structure M6.Sm (m : M6) : Prop where
  n : m.n.sm = true
  i : m.i.sm = true
  o : m.o.sm = true
  s : m.s.sm = true
  l : m.l.sm = true
  c : m.c.sm = true
/-- the attributes of a module -/
def ModF (K : PySem.W.Frag) (S : Hp) (fs : List (Str × V)) (m : M6) : Prop := ∃ v0 v1 v2 v3 v4 v5, fs = ([("name", v0), ("inlets", v1), ("outlets", v2), ("stations", v3), ("links", v4), ("calls", v5)] : List (Str × V)) ∧ AV.rep K S v0 m.n ∧
  Enc.rep K S v1 (show U AV from m.i.items) ∧ Enc.rep K S v2 (show U AV from m.o.items) ∧ Enc.rep K S v3 (show U AV from m.s.items) ∧ Enc.rep K S v4 (show U AV from m.l.items) ∧ Enc.rep K S v5 (show U AV from m.c.items)
def noB : Addr → Prop := fun _ => False
/-- only x was changed -/
structure Off (x : Addr) (S H S' H' : Hp) : Prop where
  s : Same S S'
  i : Same S' H'
  x0 : S' x = none
  p : ∀ a, S a = none → H a ≠ none → a ≠ x → S' a = none ∧ H' a = H a
section
variable {x : Addr} {S H S1 H1 S2 H2 : Hp}
theorem Off.refl (i : Same S H) (sx : S x = none) : Off x S H S H := ⟨Same.refl S, i, sx, fun a h _ _ => ⟨h, rfl⟩⟩
theorem Off.ext (o : Off x S H S1 H1) (e : Ext noB S1 H1 S2 H2) (hx : H1 x ≠ none) : Off x S H S2 H2 := by
  refine ⟨o.s.trans e.s, e.i, (e.p x o.x0 hx).1, fun a h1 h2 h3 => ?_⟩
  obtain ⟨q1, q2⟩ := o.p a h1 h2 h3
  obtain ⟨r1, r2⟩ := e.p a q1 (by rw [q2]; exact h2)
  refine ⟨r1, ?_⟩
  rcases r2 with r2 | ⟨z, _⟩
  · rw [r2, q2]
  · exact z.elim
theorem Off.put {u : HO} (o : Off x S H S1 H1) : Off x S H S1 (upd H1 x u) := by
  refine ⟨o.s, fun a v h => ?_, o.x0, fun a h1 h2 h3 => ?_⟩
  · rw [upd_ne (fun z => by rw [z, o.x0] at h; cases h)]
    exact o.i _ _ h
  · rw [upd_ne h3]
    exact o.p a h1 h2 h3
end
def modX (CI : Addr) (m : M6) : XP := fun C fs => C = CI ∧ ∃ w, wrongMod m = some w ∧ fs = ([("word", .str w)] : List (Str × V))
def spInitMod (K : PySem.W.Frag) (C CI : Addr) : Sp := fun vs H Q E => ∃ (S : Hp) (x dx : Addr) (m : M6), Same S H ∧ S x = none ∧ H x = some (.ins C dx []) ∧
  ArgsOk K noB H S H vs [.val (V.ref x), .val m.n, .val m.i, .val m.o, .val m.s, .val m.l, .val m.c] ∧ m.Sm ∧ PX noB (modX CI m) E S H ∧
  (wrongMod m = none → ∀ S' H' fs, Off x S H S' H' → H' x = some (.ins C dx fs) → ModF K S' fs m → Q .non H')
theorem fresh_ok {v : AV} {tk : List Str} (h : freshB v tk = true) : v.isSeq = true ∧ (∀ y ∈ v.items, y.isStr = true) ∧ v.names.Nodup ∧ (∀ z ∈ v.names, z ∉ tk ∧ nameB z = true) := by
  unfold freshB at h
  simp only [Bool.and_eq_true, List.all_eq_true, decide_eq_true_eq, Bool.not_eq_true', decide_eq_false_iff_not] at h
  obtain ⟨h1, h2, h3⟩ := h
  refine ⟨h1, fun y hy => (name_str (h2 y hy).1).1, h3, fun z hz => ?_⟩
  obtain ⟨y, hy, rfl⟩ := List.mem_map.mp hz
  exact ⟨(h2 y hy).2, (name_str (h2 y hy).1).2.2⟩
section
variable {K : PySem.W.Frag} {B : Addr → Prop} {ρ ρ' ρ1 ρ2 : List Slot} {ta tb tc td te : TE} {ts tz : TS} {Φ : Post} {x : AV}
theorem DS.run (h : DS K B ts ρ Φ) {S0 H0 S H : Hp} {σ : L2.St} {D : Ends} (E : En K B S0 H0 S H σ ρ) (px : Φ.px S0 H0) (n : ∀ ρ' σ' S' H', Φ.nx ρ' → Same S S' → En K B S0 H0 S' H' σ' ρ' → tz D σ' H') (r : ∀ s, Φ.rt s → False) (b : ∀ s, Φ.bk s → False) (c : ∀ s, Φ.ct s → False) : tSeq ts tz D σ H :=
  h S0 H0 S H σ { D with nx := tz D } E px n (fun s _ _ _ h => (r s h).elim) (fun s _ _ _ h => (b s h).elim) (fun s _ _ _ h => (c s h).elim)
/-- from here on as if begun here: nothing is owned, no box -/
theorem En.anew {S0 H0 S H H' : Hp} {σ : L2.St} (E : En K B S0 H0 S H σ ρ) (i : Same S H') (hv : ∀ s ∈ ρ, s.plain = true) : En K noB S H' S H' σ ρ := by
  refine ⟨i, fun _ h => h.elim, Ext.refl i, E.len, fun k s hs => ?_, fun k j s u n h1 h2 o1 o2 => ?_⟩
  · obtain ⟨o, e, ok⟩ := E.at' k s hs
    refine ⟨o, e, ?_⟩
    have q1 := hv s (List.mem_of_getElem? hs)
    cases s with
    | no => cases o <;> trivial
    | val a =>
      cases o with
      | none => exact ok
      | some v => exact ok
    | _ => cases q1
  · have q1 := hv s (List.mem_of_getElem? h1)
    cases s with
    | obj P => cases q1
    | _ => cases o1
theorem DL.is {α : Type} {e : Enc α} {ta : TA} {xs ys : List α} (h : DL K B ta ρ xs) (e : xs = ys) : DL K B ta ρ ys := e ▸ h
theorem d_names (h : DE K B te ρ x) (hs : x.isSeq = true) (ha : ∀ y ∈ x.items, y.isStr = true) : DE K B te ρ x.names := d_asStrs h hs ha
theorem names_len {v : AV} (h : v.sm = true) : v.names.length ≤ 1000 := by
  unfold AV.names
  rw [List.length_map]
  exact (AV.sm_items h).1
/-- self.f = tuple(a), self at x -/
theorem fld_step {S0 H0 S H : Hp} {σ : L2.St} {x C dx : Addr} {fs : List (Str × V)} {a : AV} {f : Str} {k : Nat} {D : Ends} (CC : Cls K C) (NA : NoAttr K C f) (E : En K B S0 H0 S H σ ρ) (hv : ∀ s ∈ ρ, s.plain = true) (h0 : ρ[0]? = some (.val (V.ref x))) (hk : ρ[k]? = some (.val a)) (sq : a.isSeq = true) (sx : S x = none) (hx : H x = some (.ins C dx fs)) (few : fs.length < 1000)
    (next : ∀ v S' H', Ext noB S H S' H' → En K noB S H S' H' σ ρ → Enc.rep K S' v (show U AV from a.items) → H' x = some (.ins C dx fs) → D.nx σ (upd H' x (.ins C dx (putF f v fs)))) : sFld K (tVar 0) (tCB (rTupQ K) (tCons (tVar k) tNil)) f D σ H := by
  have E1 := E.anew E.i hv
  refine (d_tuple (d_asSeq (x := a) (d_var hk) sq) : DE K noB _ ρ (α := U AV) a.items) S H S H σ E1 _ fun v S1 H1 e1 r1 => ?_
  obtain ⟨p1, p2⟩ := e1.p x sx (by rw [hx]; exact fun z => nomatch z)
  have hx1 : H1 x = some (.ins C dx fs) := by
    rcases p2 with z | ⟨z, _⟩
    · rw [z, hx]
    · exact z.elim
  obtain ⟨vx, gx, wx⟩ := E1.val h0
  cases wx
  exact ⟨_, gx, x, C, dx, fs, rfl, hx1, CC, NA, few, next v S1 H1 e1 (E1.go e1) r1 hx1⟩
theorem nameB_len {z : Str} (h : nameB z = true) : z.length ≤ 5 := by
  unfold nameB at h
  simp only [Bool.and_eq_true, decide_eq_true_eq] at h
  omega
theorem strsA_sm {zs : List Str} (h : zs.length ≤ 1000) (hz : ∀ z ∈ zs, z.length ≤ 1000) : (strsA zs).sm = true := by
  unfold strsA
  rw [AV.sm, Bool.and_eq_true, List.length_map, AV.sms_iff]
  refine ⟨decide_eq_true h, fun y hy => ?_⟩
  obtain ⟨z, hm, rfl⟩ := List.mem_map.mp hy
  rw [AV.sm]
  exact decide_eq_true (hz z hm)
theorem labels_name {v : AV} : ∀ z ∈ labelsOf v, nameB z = true := fun z hz => by
  unfold labelsOf at hz
  split at hz
  · obtain ⟨p, hp, rfl⟩ := List.mem_map.mp hz
    obtain ⟨_, hp⟩ := List.mem_filter.mp hp
    unfold pairB at hp
    simp only [Bool.and_eq_true, decide_eq_true_eq] at hp
    have e : p.items[0]? = some (p.items.getD 0 .non) := by rw [List.getD_eq_getElem?_getD, List.getElem?_eq_getElem (by omega)]; rfl
    exact (name_str (all_get hp.2.2 (List.mem_of_getElem? e))).2.2
  · cases hz
theorem labels_len {v : AV} (h : v.sm = true) : (labelsOf v).length ≤ 1000 := by
  unfold labelsOf
  split
  · rw [List.length_map]
    exact Nat.le_trans (List.length_filter_le _ _) (AV.sm_items h).1
  · exact Nat.zero_le _
end
section
variable {P : Program} {w : World} {K : PySem.W.Frag} {mg : Str → Option Value} {base : Heap} {f : Addr} {fd : FuncData}
/-- what of the text the class must have -/
structure ModC (K : PySem.W.Frag) (C : Addr) : Prop where
  cls : Cls K C
  n : PySem.W.findIn K (.ref C) "name" = some none
  i : PySem.W.findIn K (.ref C) "inlets" = some none
  o : PySem.W.findIn K (.ref C) "outlets" = some none
  s : PySem.W.findIn K (.ref C) "stations" = some none
  l : PySem.W.findIn K (.ref C) "links" = some none
  c : PySem.W.findIn K (.ref C) "calls" = some none
end
end WW

set_option Elab.async false
set_option linter.all false
set_option maxRecDepth 100000
set_option maxHeartbeats 4000000
namespace WW
open PySem PySem.Spec PyProof.Rows L2
/-! ### calls of defs that may raise -/
section
variable {X : Cx} {k j : Nat} {x : Str} {ps : List Str} {sp : Sp} {e : Expr} {es : List Expr} {t : TA} {p pos : Pos} {W : WX}
theorem pe_fnX (K : PySem.W.Frag) (F : FnAt X.prog X.w K X.mg X.base (L2.CX X.prog X.w) k x ps sp) (tk : Takes X W) (hr : Room j X.A) (hg : Gl X x) (ha : PA X (e :: es) t) (hk : k ≤ j := by decide) (hK : X.K = K := by rfl)
    (hdb : (x == ("__debug__" : Str)) = false := by decide) (he : starEach (e :: es) X.env = (false, eval e X.env) :: starEach es X.env := by rfl) (hpl : (backTo pos (starEach es X.env)).any (·.1) = false := by rfl) :
    PE X (.Call (.Name x p) (e :: es) [] pos) (tCallS sp (WE W) t) := by
  subst hK
  obtain ⟨fd, F1, b⟩ := F.ex
  exact pe_callS F1 (hr.mono hk) hg F.g F.kp b (fun σ => passAt tk σ) ha hdb he hpl
end
/-- an expression that may raise what px lets -/
def DX {α : Type} [Enc α] (K : PySem.W.Frag) (B : Addr → Prop) (te : TE) (ρ : List Slot) (P : α → Prop) (px : Hp → Hp → Prop) : Prop := ∀ S0 H0 S H σ, En K B S0 H0 S H σ ρ → px S0 H0 → ∀ Q : VK, (∀ v a S' H', P a → Ext B S H S' H' → Enc.rep K S' v a → Q v H') → te σ H Q
def DXW {α : Type} [Enc α] (K : PySem.W.Frag) (B : Addr → Prop) (te : TE) (ρ : List Slot) (P : α → Prop) (X : XPH) (W : WX) : Prop := ∀ S0 H0 S H σ, En K B S0 H0 S H σ ρ → ∀ Q : VK, (∀ v a S' H', P a → Ext B S H S' H' → Enc.rep K S' v a → Q v H') →
  (∀ C fs d S' H', X S' C fs → Ext B S H S' H' → H d = none → H' d = some (.xd fs) → W (.ref C) (some d) σ H') → te σ H Q
section
variable {K : PySem.W.Frag} {B : Addr → Prop} {ρ ρ' : List Slot} {te : TE} {tr t : TA} {ts tz : TS} {α β : Type} {e_α : Enc α} {e_β : Enc β} {P : α → Prop} {px : Hp → Hp → Prop} {Φ : Post} {n : Nat} {ss : List Slot}
theorem DN.x (h : DN K B te ρ P) : DX K B te ρ P px := fun S0 H0 S H σ E _ Q q => h S0 H0 S H σ E Q q
theorem DE.x {a : α} (h : DE K B te ρ a) : DX K B te ρ (fun b => b = a) px := (DE.n h).x
theorem DX.imp {P' : α → Prop} (h : DX K B te ρ P px) (f : ∀ a, P a → P' a) : DX K B te ρ P' px := fun S0 H0 S H σ E x Q q => h S0 H0 S H σ E x Q fun v a S' H' pa => q v a S' H' (f a pa)
theorem DX.conv {P' : β → Prop} (h : DX K B te ρ P px) (f : ∀ a, P a → ∃ b, P' b ∧ ∀ S v, Enc.rep K S v a → Enc.rep K S v b) : DX K B te ρ P' px := fun S0 H0 S H σ E x Q q => h S0 H0 S H σ E x Q fun v a S' H' pa e r => by
  obtain ⟨b, pb, hb⟩ := f a pa
  exact q v b S' H' pb e (hb _ _ r)
theorem ds_asgGX {g : TG} (h : DX K B te ρ P Φ.px) (hg : ∀ a, P a → ∃ ρ' js, DG K B g a ρ ρ' js ∧ Φ.nx ρ') : DS K B (tAsg te g) ρ Φ := fun S0 H0 S H σ D E px n r b c =>
  h S0 H0 S H σ E px _ fun v a S1 H1 pa e1 r1 => by
    obtain ⟨ρ', js, h1, h2⟩ := hg a pa
    exact h1 S0 H0 S1 H1 σ v (E.go e1) r1 _ fun σ' E' _ _ => n ρ' σ' S1 H1 h2 e1.s E'
theorem ds_asgX (h : DX K B te ρ P Φ.px) (k : ∀ a, P a → Φ.nx (ρ.set n (.val a))) : DS K B (tAsg te (gName n)) ρ Φ := ds_asgGX h fun a pa => ⟨_, _, dg_name, k a pa⟩
theorem dq_asgX (h : DX K B te ρ P Φ.px) (k : ∀ a, P a → DS K B tz (ρ.set n (.val a)) Φ) : DS K B (tSeq (tAsg te (gName n)) tz) ρ Φ := ds_seq (ds_asgX h k)
theorem ds_retX (h : DX K B te ρ P Φ.px) (k : ∀ a, P a → Φ.rt (.val a)) : DS K B (tRet te) ρ Φ := fun S0 H0 S H σ D E px n r b c =>
  h S0 H0 S H σ E px _ fun v a S1 H1 pa e1 r1 => r _ v S1 H1 (k a pa) (E.ext.trans e1) r1
theorem ds_dropX (h : DX K B te ρ P Φ.px) (k : Φ.nx ρ) : DS K B (tDrop te) ρ Φ := fun S0 H0 S H σ D E px n r b c =>
  h S0 H0 S H σ E px _ fun v a S1 H1 pa e1 r1 => n ρ σ S1 H1 k e1.s (E.go e1)
/-- a call that may raise, in a def that may raise -/
theorem dx_call {dp : List Slot → (Slot → Prop) → XPH → Prop} {X X' : XPH} {E : XK} (h : DA K B tr ρ ss) (hd : dp ss (fun s => ∃ a, P a ∧ s = .val a) X') (f : ∀ S C fs, X' S C fs → X S C fs) : DX K B (tCallS (spTXH K dp) (WE fun cls d _ H => E cls d H) tr) ρ P (PXH B X E) := fun S0 H0 S H σ En px Q q =>
  h S0 H0 S H σ En _ fun vs S1 H1 e1 r1 => ⟨B, S1, ss, _, X', e1.i, (fun p hp => by
      have := (En.go e1).bx p hp
      exact ⟨this.1, this.2.1⟩), r1, hd, (fun s v S' H' ⟨a, pa, es⟩ e2 ok => by
      subst es
      exact q v a S' H' pa (e1.trans e2) ok), px.sub En.i0 (En.ext.trans e1) f⟩
/-- nothing is raised -/
theorem dn_callX {dp : List Slot → (Slot → Prop) → XPH → Prop} {W : WX} (h : DA K B tr ρ ss) (hd : dp ss (fun s => ∃ a, P a ∧ s = .val a) fun _ _ _ => False) : DN K B (tCallS (spTXH K dp) (WE W) tr) ρ P := fun S0 H0 S H σ En Q q =>
  h S0 H0 S H σ En _ fun vs S1 H1 e1 r1 => ⟨B, S1, ss, _, _, e1.i, (fun p hp => by
      have := (En.go e1).bx p hp
      exact ⟨this.1, this.2.1⟩), r1, hd, (fun s v S' H' ⟨a, pa, es⟩ e2 ok => by
      subst es
      exact q v a S' H' pa (e1.trans e2) ok), fun C fs d S' H' hX => hX.elim⟩
end
/-! ### __init__ by typed slots -/
def PXO (x : Addr) (X : XPH) (E : XK) (S0 H0 : Hp) : Prop := ∀ C fs d S' H', X S' C fs → Off x S0 H0 S' H' → H0 d = none → H' d = some (.xd fs) → E (.ref C) (some d) H'
def spInitT (K : PySem.W.Frag) (C : Addr) (dp : List Slot → (Hp → List (Str × V) → Prop) → XPH → Prop) : Sp := fun vs H Q E => ∃ (S : Hp) (x dx : Addr) (ss : List Slot) (R : Hp → List (Str × V) → Prop) (X : XPH), Same S H ∧ S x = none ∧ H x = some (.ins C dx []) ∧
  ArgsOk K noB H S H vs (.val (V.ref x) :: ss) ∧ (∀ s ∈ ss, s.plain = true) ∧ dp ss R X ∧ PXO x X E S H ∧ (∀ S' H' fs, Off x S H S' H' → H' x = some (.ins C dx fs) → R S' fs → Q .non H')
theorem Off.free {x d : Addr} {S0 H0 S H : Hp} (o : Off x S0 H0 S H) (i : Same S0 H0) (hx : H x ≠ none) (h : H d = none) : H0 d = none := by
  cases q : H0 d with
  | none => rfl
  | some v =>
    have n : d ≠ x := fun z => hx (by rw [← z]; exact h)
    cases r : S0 d with
    | some u =>
      rw [o.i _ _ (o.s _ _ r)] at h
      cases h
    | none =>
      have := (o.p d r (by rw [q]; exact fun z => nomatch z) n).2
      rw [h, q] at this
      cases this
theorem PXO.at' {x : Addr} {X X' : XPH} {E : XK} {S0 H0 S H : Hp} (h : PXO x X E S0 H0) (i : Same S0 H0) (o : Off x S0 H0 S H) (hx : H x ≠ none) (f : ∀ S C fs, X' S C fs → X S C fs) : PXH noB X' E S H := fun C fs d S' H' hX e2 nd hd =>
  h C fs d S' H' (f _ _ _ hX) (o.ext e2 hx) (o.free i hx nd) hd
section
variable {K : PySem.W.Frag} {B : Addr → Prop} {ρ ρ' : List Slot} {te : TE} {tr t : TA} {ts tz : TS} {α β : Type} {e_α : Enc α} {e_β : Enc β} {P : α → Prop} {ss : List Slot}
/-- where an __init__ stands -/
structure Self (K : PySem.W.Frag) (C x dx : Addr) (S0 H0 : Hp) (fs : List (Str × V)) (ρ : List Slot) (S H : Hp) (σ : L2.St) : Prop where
  off : Off x S0 H0 S H
  hx : H x = some (.ins C dx fs)
  en : En K noB S H S H σ ρ
theorem Self.put {C x dx : Addr} {S0 H0 S H S1 H1 : Hp} {fs fs' : List (Str × V)} {σ : L2.St} (st : Self K C x dx S0 H0 fs ρ S H σ) (hv : ∀ s ∈ ρ, s.plain = true) (e : Ext noB S H S1 H1) : H1 x = some (.ins C dx fs) ∧ Self K C x dx S0 H0 fs' ρ S1 (upd H1 x (.ins C dx fs')) σ := by
  have hn : H x ≠ none := by rw [st.hx]; exact fun z => nomatch z
  obtain ⟨p1, p2⟩ := e.p x st.off.x0 hn
  have h1 : H1 x = some (.ins C dx fs) := by
    rcases p2 with z | ⟨z, _⟩
    · rw [z, st.hx]
    · exact z.elim
  have o1 := (st.off.ext e hn).put (u := .ins C dx fs')
  exact ⟨h1, o1, upd_same, (st.en.go e).anew o1.i hv⟩
/-- self.f = e -/
theorem self_fld {C x dx : Addr} {S0 H0 S H : Hp} {fs : List (Str × V)} {σ : L2.St} {f : Str} {D : Ends} {X X' : XPH} {E : XK} (CC : Cls K C) (NA : NoAttr K C f) (st : Self K C x dx S0 H0 fs ρ S H σ) (hv : ∀ s ∈ ρ, s.plain = true) (h0 : ρ[0]? = some (.val (V.ref x))) (i0 : Same S0 H0)
    (px : PXO x X E S0 H0) (few : fs.length < 1000) (sub : ∀ S C fs, X' S C fs → X S C fs) (h : DX K noB te ρ P (PXH noB X' E))
    (k : ∀ a v S' H', P a → Same S S' → Enc.rep K S' v a → Self K C x dx S0 H0 (putF f v fs) ρ S' H' σ → D.nx σ H') : sFld K (tVar 0) te f D σ H := by
  refine h S H S H σ st.en (px.at' i0 st.off (by rw [st.hx]; exact fun z => nomatch z) sub) _ fun v a S1 H1 pa e1 r1 => ?_
  obtain ⟨h1, s2⟩ := st.put (fs' := putF f v fs) hv e1
  obtain ⟨vx, gx, wx⟩ := st.en.val h0
  cases wx
  exact ⟨_, gx, x, C, dx, fs, rfl, h1, CC, NA, few, k a v S1 _ pa e1.s r1 s2⟩
/-- statements of an __init__ that leave self alone -/
theorem self_run {C x dx : Addr} {S0 H0 S H : Hp} {fs : List (Str × V)} {σ : L2.St} {D : Ends} {X X' : XPH} {E : XK} {nx : List Slot → Prop} (st : Self K C x dx S0 H0 fs ρ S H σ) (i0 : Same S0 H0)
    (px : PXO x X E S0 H0) (sub : ∀ S C fs, X' S C fs → X S C fs) (h : DS K noB ts ρ ⟨nx, fun _ => False, fun _ => False, fun _ => False, PXH noB X' E⟩) (hv : ∀ ρ', nx ρ' → ∀ s ∈ ρ', s.plain = true)
    (k : ∀ ρ' σ' S' H', nx ρ' → Same S S' → Self K C x dx S0 H0 fs ρ' S' H' σ' → tz D σ' H') : tSeq ts tz D σ H := by
  have hn : H x ≠ none := by rw [st.hx]; exact fun z => nomatch z
  refine DS.run h st.en (px.at' i0 st.off hn sub) (fun ρ' σ' S1 H1 hn' s1 E1 => ?_) (fun _ h => h) (fun _ h => h) (fun _ h => h)
  have e := E1.ext
  obtain ⟨p1, p2⟩ := e.p x st.off.x0 hn
  have h1 : H1 x = some (.ins C dx fs) := by
    rcases p2 with z | ⟨z, _⟩
    · rw [z, st.hx]
    · exact z.elim
  exact k ρ' σ' S1 H1 hn' s1 ⟨st.off.ext e hn, h1, E1.anew e.i (hv ρ' hn')⟩
/-- C(..), an __init__ of typed slots -/
theorem dxw_make {C : Addr} {dp : List Slot → (Hp → List (Str × V) → Prop) → XPH → Prop} {X' : XPH} {R : Hp → List (Str × V) → Prop} {W : WX} (h : DA K B t ρ ss) (hs : ∀ s ∈ ss, s.plain = true) (hd : dp ss R X')
    (hR : ∀ S fs, R S fs → ∃ a, P a ∧ ∀ S' x dx, Same S S' → S' x = some (.ins C dx fs) → Enc.rep K S' (.ref x) a) : DXW K B (tMakeS C (spInitT K C dp) [] (WE W) t) ρ P X' W := fun S0 H0 S H σ En Q q hE => by
  refine h S0 H0 S H σ En _ ?_
  intro vs S1 H1 e1 r1 x dx nx ndx hn
  have s1 : Same H1 (upd (upd H1 dx (.own x)) x (.ins C dx [])) := (same_new ndx).trans (same_new ((upd_ne (Ne.symm hn)).trans nx))
  have sx : S1 x = none := e1.i.free nx
  have toE : ∀ (S2 H2 : Hp), Off x S1 (upd (upd H1 dx (.own x)) x (.ins C dx [])) S2 H2 → Ext B S1 H1 S2 H2 := fun S2 H2 o => by
    refine ⟨o.s, o.i, fun a h1 h2 => ?_⟩
    have n1 : a ≠ x := fun z => h2 (by rw [z]; exact nx)
    have n2 : a ≠ dx := fun z => h2 (by rw [z]; exact ndx)
    have e : upd (upd H1 dx (.own x)) x (.ins C dx []) a = H1 a := by rw [upd_ne n1, upd_ne n2]
    obtain ⟨q1, q2⟩ := o.p a h1 (by rw [e]; exact h2) n1
    exact ⟨q1, .inl (by rw [q2, e])⟩
  have av : ∀ {vs : List V} {ss : List Slot}, ArgsOk K B H1 S1 H1 vs ss → (∀ s ∈ ss, s.plain = true) → ArgsOk K noB (upd (upd H1 dx (.own x)) x (.ins C dx [])) S1 (upd (upd H1 dx (.own x)) x (.ins C dx [])) vs ss := by
    intro vs ss h
    induction h with
    | nil => exact fun _ => .nil
    | cons h1 h2 _ ih =>
      intro hp
      refine .cons ?_ h2 (ih fun s hs => hp s (List.mem_cons_of_mem _ hs))
      have := hp _ List.mem_cons_self
      rename_i v s vs ss _
      cases s with
      | no => trivial
      | val a => exact h1
      | _ => cases this
  rw [List.append_nil]
  refine ⟨S1, x, dx, ss, R, X', e1.i.trans s1, sx, upd_same, .cons rfl rfl (av r1 hs), hs, hd, fun Cx fs d S2 H2 hX of nd hdd => ?_, fun S2 H2 fs of hxx hF => ⟨rfl, ?_⟩⟩
  · have n1 : d ≠ x := fun z => by rw [z, upd_same] at nd; cases nd
    rw [upd_ne n1] at nd
    have n2 : d ≠ dx := fun z => by rw [z, upd_same] at nd; cases nd
    rw [upd_ne n2] at nd
    exact hE Cx fs d S2 H2 hX (e1.trans (toE S2 H2 of)) (e1.free En.i nd) hdd
  · have ee := toE S2 H2 of
    have fz := ee.frz (p := x) nx e1.i hxx of.x0
    have up : Same S2 (upd S2 x (.ins C dx fs)) := same_new of.x0
    obtain ⟨a, pa, ha⟩ := hR S2 fs hF
    exact q _ a _ H2 pa (e1.trans fz) (ha _ x dx up upd_same)
theorem dx_make {C : Addr} {dp : List Slot → (Hp → List (Str × V) → Prop) → XPH → Prop} {X' : XPH} {R : Hp → List (Str × V) → Prop} {W : WX} {px : Hp → Hp → Prop} (h : DA K B t ρ ss) (hs : ∀ s ∈ ss, s.plain = true) (hd : dp ss R X')
    (hR : ∀ S fs, R S fs → ∃ a, P a ∧ ∀ S' x dx, Same S S' → S' x = some (.ins C dx fs) → Enc.rep K S' (.ref x) a)
    (hE : ∀ S0 H0 σ, px S0 H0 → Same S0 H0 → PXH B X' (WE W σ) S0 H0) : DX K B (tMakeS C (spInitT K C dp) [] (WE W) t) ρ P px := fun S0 H0 S H σ En pe Q q =>
  dxw_make h hs hd hR S0 H0 S H σ En Q q fun Cx fs d S' H' hX e nd hdd => hE S0 H0 σ pe En.i0 Cx fs d S' H' hX (En.ext.trans e) (En.ext.free En.i0 nd) hdd
/-- nothing is raised -/
theorem dn_make {C : Addr} {dp : List Slot → (Hp → List (Str × V) → Prop) → XPH → Prop} {R : Hp → List (Str × V) → Prop} {W : WX} (h : DA K B t ρ ss) (hs : ∀ s ∈ ss, s.plain = true) (hd : dp ss R fun _ _ _ => False)
    (hR : ∀ S fs, R S fs → ∃ a, P a ∧ ∀ S' x dx, Same S S' → S' x = some (.ins C dx fs) → Enc.rep K S' (.ref x) a) : DN K B (tMakeS C (spInitT K C dp) [] (WE W) t) ρ P := fun S0 H0 S H σ En Q q =>
  dx_make (px := fun _ _ => True) h hs hd hR (fun _ _ _ _ _ _ _ _ _ _ hX => hX.elim) S0 H0 S H σ En trivial Q q
/-- in a def that may raise -/
theorem dx_makeX {C : Addr} {dp : List Slot → (Hp → List (Str × V) → Prop) → XPH → Prop} {X X' : XPH} {E : XK} {R : Hp → List (Str × V) → Prop} (h : DA K B t ρ ss) (hs : ∀ s ∈ ss, s.plain = true) (hd : dp ss R X') (f : ∀ S C fs, X' S C fs → X S C fs)
    (hR : ∀ S fs, R S fs → ∃ a, P a ∧ ∀ S' x dx, Same S S' → S' x = some (.ins C dx fs) → Enc.rep K S' (.ref x) a) : DX K B (tMakeS C (spInitT K C dp) [] (WE fun cls d _ H => E cls d H) t) ρ P (PXH B X E) :=
  dx_make h hs hd hR fun _ _ _ px i => px.sub i (Ext.refl i) f
end
end WW

set_option Elab.async false
set_option linter.all false
set_option maxRecDepth 100000
set_option maxHeartbeats 4000000
namespace WW
open PySem PySem.Spec PyProof.Rows L2
/-! ### dict comprehensions with values -/
theorem valV_is {α : Type} [Enc α] {K : PySem.W.Frag} {S : Hp} {z : Str} : ∀ {kvs : List (Key × V)} {xs : List (Str × α)}, Paired (KvR K S) kvs xs → (valV kvs (Sum.inr z)).isSome = ((Dct.mk xs).get z).isSome
  | _, _, .nil => rfl
  | _ :: _, x :: xs, .cons k1 k2 => by
    by_cases c : x.1 = z
    · rw [valV_pos (by rw [k1.1, c])]
      show true = ((List.find? (fun x => decide (x.1 = z)) (x :: xs)).map (·.2)).isSome
      rw [List.find?_cons, decide_eq_true c]
      rfl
    · rw [valV_neg (by rw [k1.1]; exact fun e => c (by injection e)), valV_is k2]
      show _ = ((List.find? (fun x => decide (x.1 = z)) (x :: xs)).map (·.2)).isSome
      rw [List.find?_cons, decide_eq_false c]
      rfl
section
variable {K : PySem.W.Frag} {B : Addr → Prop} {ρ ρ' ρ1 ρ2 : List Slot} {ta tb tc td te tk tv : TE} {t u : TT} {ts tu tz : TS} {Φ : Post} {α β γ δ : Type} {e_α : Enc α} {e_β : Enc β} {a : α} {b : β} {i j : Int} {z y : Str}
/-- {f x: g x for x in xs}, the keys differ -/
theorem d_dcDct {wi : TI} {g : TG} {vs : List Nat} {xs : List α} (f : α → Str) (v : α → β) (hi : DI K B wi ρ xs) (hl : xs.length ≤ 1000) (nd : (xs.map f).Nodup)
    (h : ∀ x ∈ xs, ∃ ρ' js, DG K B g x (wipeS ρ vs) ρ' js ∧ (∀ i ∈ js, i ∈ vs) ∧ DE K B tk ρ' (f x) ∧ DE K B tv ρ' (v x)) : DE K B (tDc wi g tYes tk tv vs) ρ (Dct.mk (xs.map fun x => (f x, v x))) := by
  intro S0 H0 S H σ E Q q
  refine hi S0 H0 S H σ E _ fun J S1 H1 e1 y D hD => ?_
  have hD0 : H D = none := e1.free E.i hD
  have nB : ¬ B D := fun z => (E.bx D z).2.2 (E.ext.free E.i0 hD0)
  let Pv : Nat → Hp → Prop := fun i Hc => ∃ Sc kvs, Ext B S1 H1 Sc Hc ∧ Sc D = none ∧ Hc D = some (.dK kvs) ∧ Paired (KvR K Sc) kvs ((xs.take i).map fun x => (f x, v x))
  refine ⟨fun i m Hc => m = xs.length - i ∧ i ≤ xs.length ∧ Pv i Hc, ⟨xs.length, by simp, Nat.zero_le _, S1, [], Ext.priv e1.i hD, e1.i.free hD, upd_same, .nil⟩, ?_⟩
  rintro i m Hc ⟨rfl, hle, Sc, kvs, ex, hs, hh, pr⟩
  have yy := y Sc Hc ex.s (E.ext.trans (e1.trans ex))
  by_cases hlt : i < xs.length
  · refine .inr ?_
    obtain ⟨x, hx⟩ : ∃ x, xs[i]? = some x := ⟨_, List.getElem?_eq_getElem hlt⟩
    obtain ⟨hgo, hy⟩ := yy.1 i x hx
    refine ⟨hgo, Pv (i + 1), fun H' hp => ⟨xs.length - (i + 1), by omega, rfl, hlt, hp⟩, fun w H' hyl => ?_⟩
    obtain ⟨S2, e2, r2⟩ := hy w H' hyl
    obtain ⟨ρ', js, hg, hjs, hk, hv⟩ := h x (List.mem_of_getElem? hx)
    refine hg S0 H0 S2 H' (wipe σ vs) w ((E.go ((e1.trans ex).trans e2)).wp vs) r2 _ fun σ2 E2 l2 f2 => ⟨?_, ?_⟩
    · have z := wipe_eq (vs := vs) l2 fun i hi => f2 i fun z => hi (hjs i z)
      rw [z, wipe_wipe]
    · show tYes σ2 H' _
      refine hk S0 H0 S2 H' σ2 E2 _ fun kk S4 H4 e4 r4 => ?_
      cases r4
      refine hv S0 H0 S4 H4 σ2 (E2.go e4) _ fun w2 S5 H5 e5 r5 => ?_
      have e25 := (e2.trans e4).trans e5
      obtain ⟨q1, q2⟩ := e25.p D hs (by rw [hh]; exact fun z => nomatch z)
      have a2 : H5 D = some (.dK kvs) := by
        rcases q2 with q2 | ⟨q2, _⟩
        · rw [q2]; exact hh
        · exact absurd q2 nB
      have kl : kvs.length ≤ xs.length := by
        rw [pr.length, List.length_map, List.length_take]
        exact Nat.min_le_right _ _
      have nk : valV kvs (Sum.inr (f x)) = none := by
        refine valV_none pr ?_
        rw [List.map_map]
        intro hin
        have hin : f x ∈ (xs.take i).map f := hin
        rw [← List.take_append_drop (i + 1) xs, List.take_add_one, hx, List.map_append, List.map_append] at nd
        exact (List.nodup_append.mp (List.nodup_append.mp nd).1).2.2 _ hin (f x) (by simp) rfl
      refine ⟨kvs, Sum.inr (f x), rfl, a2, ?_, S5, putK kvs (Sum.inr (f x)) w2, (ex.trans e25).mut hD q1, q1, upd_same, ?_⟩
      · exact Nat.lt_of_le_of_lt (Nat.le_trans kl hl) (by decide)
      · rw [putK_new _ nk, List.take_add_one, hx, List.map_append]
        exact Paired.app (Paired.mono (fun _ _ => KvR.mono e25.s) pr) (.cons ⟨rfl, r5⟩ .nil)
  · refine .inl ⟨?_, ?_⟩
    · rw [show i = xs.length by omega]
      exact yy.2
    · rw [List.take_of_length_le (by omega)] at pr
      have fz : Ext B S H (upd Sc D (.dK kvs)) Hc := (e1.trans ex).frz hD0 E.i hh hs
      exact q _ _ Hc fz ⟨by rw [List.length_map]; exact hl, D, kvs, rfl, upd_same, Paired.mono (fun _ _ => KvR.mono (same_new hs)) pr⟩
/-- z in d, d one's own dict -/
theorem d_inOb {n : Nat} {xs : List (Str × α)} (h1 : DE K B te ρ z) (hn : ρ[n]? = some (.obj (ownD xs))) : DE K B (tDIn te (tVar n)) ρ (((Dct.mk xs).get z).isSome) := fun S0 H0 S H σ E Q q =>
  h1 S0 H0 S H σ E _ fun v S1 H1 e1 r1 => by
    cases r1
    obtain ⟨p, o, g1, h0, hs, hh, hl, kvs, rfl, rr⟩ := (E.go e1).obj hn
    refine ⟨_, g1, p, valV kvs (Sum.inr z), rfl, DGet.k (k := Sum.inr z) hh, ?_⟩
    have e := valV_is (z := z) rr
    rw [e]
    exact q _ S1 H1 e1 rfl
end
end WW

set_option Elab.async false
set_option linter.all false
set_option maxRecDepth 100000
set_option maxHeartbeats 4000000
namespace WW
open PySem PySem.Spec PyProof.Rows L2
/-! ### methods that may raise -/
def tMethX (C : Addr) (m : Str) (sp : Sp) (E : L2.St → XK) (ta : TE) (t : TA) : TE := fun σ H Q => ta σ H fun x H1 => ∃ a dx fs, x = .ref a ∧ H1 a = some (.ins C dx fs) ∧ fs.lookup m = none ∧ t σ H1 fun vs H2 => sp (x :: vs) H2 Q (E σ)
section
variable {X : Cx} {k j : Nat} {C : Addr} {m : Str} {ps : List Str} {sp : Sp} {o e : Expr} {es : List Expr} {ta : TE} {t : TA} {apos pos : Pos} {W : WX}
theorem pe_mthX (K : PySem.W.Frag) {pl : Sem Bool} (c : Cls K C) (F : MthAt X.prog X.w K X.mg X.base (L2.CX X.prog X.w) k C m ps sp) (tk : Takes X W) (hr : Room j X.A) (ho : PE X o ta) (ha : PA X (e :: es) t) (hk : k ≤ j := by decide) (hK : X.K = K := by rfl)
    (hst : starEach (e :: es) X.env = (false, eval e X.env) :: starEach es X.env := by rfl) (hpl : (backTo pos (starEach es X.env)).any (·.1) = false := by rfl)
    (ht : eval (.Call (.Attribute o m apos) (e :: es) [] pos) X.env = (do let ov ← eval o X.env; standAt apos.atName; let (f, first) ← holding [ov] (getMethod ov m pl); callWith pos f first (backTo pos (starEach (e :: es) X.env)) (backToKw pos (keywordEach [] X.env))) := by rfl) : PE X (.Call (.Attribute o m apos) (e :: es) [] pos) (tMethX C m sp (WE W) ta t) := by
  subst hK
  obtain ⟨f, fd, M, F1, b⟩ := F.ex
  refine ⟨fun pins s σ H Q I h => ?_⟩
  refine PySem.W.methodCall_KW (pl := pl) (thn (ho.run pins s σ H _ I h) fun u s1 ⟨x, H1, I1, rx, a, dx, fs, ex, ea, l, q⟩ => ?_) ht
  subst ex
  obtain rfl : u = Value.ref a := rx
  refine getmeth_ok I1 ea c M l ?_
  refine PySem.W.callWith_K (first := [.ref a]) (h₀ := X.base) I.ok.mod.kin M.kp (thn (ha.run pos pins s1 σ H1 _ I1 q) fun us s2 ⟨vs, H2, I2, r, q2⟩ => ⟨I2.kIn, ?_⟩) hst hpl
  exact run_fnS (us := .ref a :: us) (vs := .ref a :: vs) F1 (hr.mono hk) b (passAt tk σ) I2 (.cons rfl r) q2
end
section
variable {K : PySem.W.Frag} {B : Addr → Prop} {ρ ρ' : List Slot} {te td : TE} {tr t : TA} {ts tz : TS} {α β : Type} {e_α : Enc α} {e_β : Enc β} {P : α → Prop} {px : Hp → Hp → Prop} {Φ : Post} {n : Nat} {ss : List Slot} {b : β} {z : Str}
theorem dx_meth [o : OfCls β] {m : Str} {dp : List Slot → (Slot → Prop) → XPH → Prop} {X X' : XPH} {E : XK} (ho : DE K B te ρ b) (h : DA K B tr ρ ss) (hd : dp (.val b :: ss) (fun s => ∃ a, P a ∧ s = .val a) X') (f : ∀ S C fs, X' S C fs → X S C fs) (hm : m ∉ o.fl) : DX K B (tMethX (He.ga K o.cn) m (spTXH K dp) (WE fun cls d _ H => E cls d H) te tr) ρ P (PXH B X E) := fun S0 H0 S H σ En px Q q =>
  ho S0 H0 S H σ En _ fun v S1 H1 e1 r1 => by
    obtain ⟨x, dx, fs, rfl, hx, hfl⟩ := OfCls.is r1
    refine ⟨x, dx, fs, rfl, e1.i _ _ hx, look_none (by rw [hfl]; exact hm), ?_⟩
    refine h S0 H0 S1 H1 σ (En.go e1) _ fun vs S2 H2 e2 r2 => ⟨B, S2, .val b :: ss, _, X', e2.i, (fun p hp => by
      have := ((En.go e1).go e2).bx p hp
      exact ⟨this.1, this.2.1⟩), .cons (Enc.mono e2.s r1) rfl r2, hd, (fun s v S' H' ⟨a, pa, es⟩ e3 ok => by
      subst es
      exact q v a S' H' pa ((e1.trans e2).trans e3) ok), px.sub En.i0 ((En.ext.trans e1).trans e2) f⟩
theorem dn_methX [o : OfCls β] {m : Str} {dp : List Slot → (Slot → Prop) → XPH → Prop} {W : WX} (ho : DE K B te ρ b) (h : DA K B tr ρ ss) (hd : dp (.val b :: ss) (fun s => ∃ a, P a ∧ s = .val a) fun _ _ _ => False) (hm : m ∉ o.fl) : DN K B (tMethX (He.ga K o.cn) m (spTXH K dp) (WE W) te tr) ρ P := fun S0 H0 S H σ En Q q =>
  ho S0 H0 S H σ En _ fun v S1 H1 e1 r1 => by
    obtain ⟨x, dx, fs, rfl, hx, hfl⟩ := OfCls.is r1
    refine ⟨x, dx, fs, rfl, e1.i _ _ hx, look_none (by rw [hfl]; exact hm), ?_⟩
    refine h S0 H0 S1 H1 σ (En.go e1) _ fun vs S2 H2 e2 r2 => ⟨B, S2, .val b :: ss, _, _, e2.i, (fun p hp => by
      have := ((En.go e1).go e2).bx p hp
      exact ⟨this.1, this.2.1⟩), .cons (Enc.mono e2.s r1) rfl r2, hd, (fun s v S' H' ⟨a, pa, es⟩ e3 ok => by
      subst es
      exact q v a S' H' pa ((e1.trans e2).trans e3) ok), fun C fs d S' H' hX => hX.elim⟩
/-- z in d -/
theorem d_inD {d : Dct β} (h1 : DE K B te ρ z) (h2 : DE K B td ρ d) : DE K B (tDIn te td) ρ ((d.get z).isSome) := fun S0 H0 S H σ E Q q =>
  h1 S0 H0 S H σ E _ fun v S1 H1 e1 r1 => h2 S0 H0 S1 H1 σ (E.go e1) _ fun w S2 H2 e2 ⟨hl, p, kvs, e, hq, rr⟩ => by
    cases r1
    refine ⟨p, valV kvs (Sum.inr z), e, DGet.k (k := Sum.inr z) (e2.i _ _ hq), ?_⟩
    have ee := valV_is (z := z) rr
    rw [ee]
    exact q _ S2 H2 (e1.trans e2) rfl
end
end WW

set_option Elab.async false
set_option linter.all false
set_option maxRecDepth 100000
set_option maxHeartbeats 4000000
namespace WW
open PySem PySem.Spec PyProof.Rows L2
/-! ### try with several clauses, each with a name or none -/
abbrev Sui := Addr → Value → Option Addr → TS
inductive NmOk (X : Cx) : Option Str → Option Nat → Prop
  | no : NmOk X none none
  | as {n : Str} {i : Nat} (hi : X.N[i]? = some n) (hl : X.env.kindOf n = some .local) : NmOk X (some n) (some i)
def nmIn : Option Nat → Addr → L2.St → L2.St
  | none, _, σ => σ
  | some i, a, σ => σ.set i (some (.ref a))
def nmOut : Option Nat → L2.St → L2.St
  | none, σ => σ
  | some i, σ => σ.set i none
def nmEnds (o : Option Nat) (D : Ends) : Ends := { nx := fun σ H => D.nx (nmOut o σ) H, rt := D.rt, bk := fun σ H => D.bk (nmOut o σ) H, ct := fun σ H => D.ct (nmOut o σ) H }
/-- what the clauses wish of an exception -/
def wNm (K : PySem.W.Frag) (D : Ends) : List (Value × Option Nat × Sui) → WX
  | [] => fun _ _ _ _ => False
  | (c, o, ts) :: r => fun cls d σ H => ∃ b, PySem.W.exmOne K cls c = some b ∧ (b = true → ∀ a, H a = none → ts a cls d (nmEnds o D) (nmIn o a σ) H) ∧ (b = false → wNm K D r cls d σ H)
inductive ClOk (X : Cx) : List ExceptHandler → List (Value × Option Nat × Sui) → Prop
  | nil : ClOk X [] []
  | cons {x : Str} {c : Value} {on : Option Str} {o : Option Nat} {ts : Sui} {b₀ : Stmt} {suite : List Stmt} {np pos' : Pos} {hds : List ExceptHandler} {l : List (Value × Option Nat × Sui)} (hc : Names X x c) (hn : NmOk X on o)
      (hsu : ∀ (a : Addr) (oe : Obj) (cls : Value) (d : Option Addr) (pn : List (Addr × Obj)), Zc cls d oe → (∃ vs, oe.data = .fields vs) → PSs (X.suite a ((a, oe) :: pn)) (b₀ :: suite) (ts a cls d)) (r : ClOk X hds l) :
      ClOk X (.ExceptHandler (some (.Name x np)) on (b₀ :: suite) pos' :: hds) ((c, o, ts) :: l)
section
variable {X : Cx} {body : List Stmt} {h₀ : ExceptHandler} {hds : List ExceptHandler} {l : List (Value × Option Nat × Sui)} {pos : Pos} {tb : WX → TS}
theorem sp_unsuite {D : Ends} {pins : List (Addr × Obj)} {a : Addr} {q : Addr × Obj} {f : Flow} {s : Shared} (ok : X.Ok) (h : SP (X.suite a (q :: (X.pn ++ pins))) [] D f s) : SP X pins D f s := by
  cases f with
  | ret u =>
    obtain ⟨v, σ1, H1, S1, r, q1⟩ := h
    exact ⟨v, σ1, H1, S1.unsuite ok, r, q1⟩
  | _ =>
    obtain ⟨σ1, H1, S1, q1⟩ := h
    exact ⟨σ1, H1, S1.unsuite ok, q1⟩
theorem sp_oftry {D : Ends} {pins pn : List (Addr × Obj)} {xe : Value → Shared → Prop} {f : Flow} {s : Shared} (ok : X.Ok) (h : SP (X.tr (X.pn ++ pins) xe) [] D f s) : SP X pins D f s := by
  cases f with
  | ret u =>
    obtain ⟨v, σ1, H1, S1, r, q1⟩ := h
    exact ⟨v, σ1, H1, S1.ofTry ok, r, q1⟩
  | _ =>
    obtain ⟨σ1, H1, S1, q1⟩ := h
    exact ⟨σ1, H1, S1.ofTry ok, q1⟩
/-- the name's end behind its suite -/
theorem sp_gone {D : Ends} {pins : List (Addr × Obj)} {f : Flow} {s : Shared} {n : Str} {i : Nat} {p : Pos} {E : Value → Shared → Prop} (hN : X.N.Nodup) (hi : X.N[i]? = some n) (hl : X.env.kindOf n = some .local) (h : SP X pins (nmEnds (some i) D) f s) :
    wpAny (model X.prog X.w) X.A (do bindName X.env n .none; unbindBehindTheSuite X.env n p) (fun _ s7 => SP X pins D f s7) E s := by
  cases f with
  | ret u =>
    obtain ⟨v, σ1, H1, S1, r, q1⟩ := h
    exact gone_ok S1 hN hi hl fun s7 J => ⟨v, _, H1, J, r, q1⟩
  | _ =>
    obtain ⟨σ1, H1, S1, q1⟩ := h
    exact gone_ok S1 hN hi hl fun s7 J => ⟨_, H1, J, q1⟩
theorem ps_try_nm (hs : X.stack = X.env :: X.outer) (hf : X.env.frame = some X.env.locals) (hN : X.N.Nodup)
    (hb : ∀ (W : WX) (pn : List (Addr × Obj)) (xe : Value → Shared → Prop), Takes (X.tr pn xe) W → PassesOwn (model X.prog X.w) X.A X.env xe → PSs (X.tr pn xe) body (tb W))
    (hh : ClOk X (h₀ :: hds) l) : PS X (.Try body (h₀ :: hds) [] [] pos) (fun D σ H => tb (wNm X.K D l) D σ H) := by
  refine ⟨fun pins s σ H D I h => ?_⟩
  have ok := I.ok
  refine wpAny_Try_except (wpAny_mono ((hb (wNm X.K D l) (X.pn ++ pins) _ (fun u s1 xx => ?_) PassesOwn.looking).run [] s σ H D (I.toTry _) h) (fun f s1 q => ?_) fun e s1 he => he)
  · obtain ⟨a, B, sI, pins', σ1, H1, cls, d, rfl, J0, nb, up, sky, na, os, ag, w⟩ := xx
    have J : Inv X pins σ1 H1 sI := J0.ofTry ok
    have sky1 : Sky B (X.env :: X.outer) a (Zc cls d) X.env.locals s1.heap := hs ▸ sky
    show wpAny (model X.prog X.w) X.A (noteFrame (.ref a) X.env) _ _ _
    refine Sky.land Zc.steady (by rw [ok.frames, hs]) hf sky1 fun h3 fl3 up3 => ?_
    have begin_ : ∀ h4, HandSPX.FlyingZ B (X.env :: X.outer) a (Zc cls d) h4 → s1.heap.UpToSlots h4 → ∃ oe, Zc cls d oe ∧ (∃ vs, oe.data = .fields vs) ∧ h4.get? a = some oe ∧ Inv (X.suite a ((a, oe) :: (X.pn ++ pins))) [] σ1 H1 { s1 with heap := h4 } := fun h4 fl4 up4 => by
      obtain ⟨oe, vs, he, hz, hd⟩ := fl4.there
      have nfr : a ∉ frs (X.env :: X.outer) := fun hm => by
        obtain ⟨_, o2, e2, hnf⟩ := fl4.2.2.1.mem hm
        rw [he] at e2
        cases e2
        exact hnf _ hd
      refine ⟨oe, hz, ⟨vs, hd⟩, he, (show Inv X pins σ1 H1 { s1 with heap := h4 } from J.landed nb fl4.1 (up.trans up4) os ag).suite he hd na (fun z => nfr (List.mem_filterMap.mpr ⟨X.env, List.mem_cons_self, by rw [hf, z]⟩)) fun hm => ?_⟩
      obtain ⟨e, he2, q⟩ := List.mem_filterMap.mp hm
      exact nfr (List.mem_filterMap.mpr ⟨e, List.mem_cons_of_mem _ he2, q⟩)
    obtain ⟨oe3, hz3, hd3, he3, S3⟩ := begin_ h3 fl3 up3
    have J3 : Inv X pins σ1 H1 { s1 with heap := h3 } := S3.unsuite ok
    clear hb h sky sky1
    show wpAny (model X.prog X.w) X.A (handleBy (.ref a) X.env (h₀ :: hds)) _ _ _
    generalize h₀ :: hds = hl at hh
    induction hh with
    | nil => exact w.elim
    | @cons x c on o ts b₀ suite np pos' hds2 l2 hc hn hsu r ih =>
      obtain ⟨b, hb1, hyes, hno⟩ := w
      refine wpAny_handleBy_cons (codeAny_handlers_test ?_) (by intro q; cases q)
      have LM := PySem.W.exm_one (M := model X.prog X.w) J3.kIn (fun A Q E s k q => wpAny_typeOf_ref (k _ _ he3) (by rw [hz3.1]; exact q)) hb1
      have test : ∀ {Q : Value → Shared → Prop} {E : Value → Shared → Prop}, Q c { s1 with heap := h3 } → wpAny (model X.prog X.w) (X.A.mark (some (.ref a))) (eval (.Name x np) X.env) Q E { s1 with heap := h3 } := fun {Q E} q => by
        obtain ⟨hg, hdbg, hm | ⟨hm, hv, hnn⟩⟩ := hc
        · exact ld_glob (X := X.suite a ((a, oe3) :: (X.pn ++ pins))) S3 hg hm q hdbg
        · exact ld_blt (X := X.suite a ((a, oe3) :: (X.pn ++ pins))) S3 hg hm hv q hnn hdbg
      refine test (LM.here ?_)
      cases b with
      | false => exact ih (hno rfl)
      | true =>
        have go := hyes rfl a na
        cases hn with
        | no =>
          refine codeAny_handlers_suite (HandSPX.lands_againZ fl3 fun h4 fl4 up4 => ?_)
          obtain ⟨oe4, hz4, hd4, _, S4⟩ := begin_ h4 fl4 (up3.trans up4)
          exact wpAny_mono ((hsu a oe4 cls d _ hz4 hd4).run [] _ _ H1 _ S4 go) (fun f s6 q => by
            have q2 := sp_unsuite ok q
            cases f <;> exact q2) fun _ _ z => False.elim z
        | as hi hln =>
          refine codeAny_handlers_suite_as (HandSPX.lands_againZ fl3 fun h4 fl4 up4 => ?_)
          obtain ⟨oe4, hz4, hd4, _, S4⟩ := begin_ h4 fl4 (up3.trans up4)
          refine store_ok (X := X.suite a ((a, oe4) :: (X.pn ++ pins))) (v := .ref a) S4 hN hi (.inl hln) rfl (fun s5 S5 => ?_) (.inr hln)
          exact wpAny_mono ((hsu a oe4 cls d _ hz4 hd4).run [] s5 _ H1 _ S5 go) (fun f s6 q => sp_gone hN hi hln (sp_unsuite ok q)) fun _ _ z => False.elim z
  · cases f with
    | next =>
      obtain ⟨σ1, H1, J, q1⟩ := q
      exact wpAny_execs_nil ⟨σ1, H1, J.ofTry ok, q1⟩
    | _ => exact sp_oftry (pn := []) ok q
end
end WW

set_option Elab.async false
set_option linter.all false
set_option maxRecDepth 100000
set_option maxHeartbeats 4000000
namespace WW
open PySem PySem.Spec PyProof.Rows L2
/-! ### try with named clauses, typed -/
/-- a handled exception, at a, its own dict at d: one field or none -/
structure ExcV (β : Type) where
  a : Addr
  d : Addr
  nm : Str
  x : β
def FldR {β : Type} [Enc β] (K : PySem.W.Frag) (S : Hp) (fs : List (Str × V)) (nm : Str) (x : β) : Prop := ∃ v, fs = [(nm, v)] ∧ Enc.rep K S v x
instance {β : Type} [Enc β] : Enc (ExcV β) where
  rep K S v e := v = .ref e.a ∧ ∃ fs, S e.d = some (.xd fs) ∧ FldR K S fs e.nm e.x
  mono e h := by
    obtain ⟨h1, fs, h2, v, h3, h4⟩ := h
    exact ⟨h1, fs, e _ _ h2, v, h3, Enc.mono e h4⟩
abbrev XSt := List Slot → XPH
def DSW (K : PySem.W.Frag) (B : Addr → Prop) (ts : TS) (ρ : List Slot) (Φ : Post) (X : XSt) (W : WX) : Prop := ∀ S0 H0 S H σ (D : Ends), En K B S0 H0 S H σ ρ → Φ.px S0 H0 →
  (∀ ρ' C fs d σ' S1 H1 S' H', X ρ' S' C fs → Same S S1 → En K B S0 H0 S1 H1 σ' ρ' → Ext B S1 H1 S' H' → H1 d = none → H' d = some (.xd fs) → W (.ref C) (some d) σ' H') →
  (∀ ρ' σ' S' H', Φ.nx ρ' → Same S S' → En K B S0 H0 S' H' σ' ρ' → D.nx σ' H') → (∀ s v S' H', Φ.rt s → Ext B S0 H0 S' H' → SlotOk K B H0 S' H' (some v) s → D.rt v H') →
  (∀ ρ' σ' S' H', Φ.bk ρ' → Same S S' → En K B S0 H0 S' H' σ' ρ' → D.bk σ' H') → (∀ ρ' σ' S' H', Φ.ct ρ' → Same S S' → En K B S0 H0 S' H' σ' ρ' → D.ct σ' H') → ts D σ H
def setNo (o : Option Nat) (r : List Slot) : List Slot := match o with
  | none => r
  | some i => r.set i .no
/-- which clause takes an exception of class C -/
def Pick (K : PySem.W.Frag) (C : Addr) : List (Value × Option Nat × Sui) → Option Nat × Sui → Prop
  | [], _ => False
  | (c, o, ts) :: r, p => ∃ b, PySem.W.exmOne K (.ref C) c = some b ∧ (b = true → p = (o, ts)) ∧ (b = false → Pick K C r p)
section
variable {K : PySem.W.Frag} {B : Addr → Prop} {ρ ρ' : List Slot} {te td : TE} {tr t : TA} {ts tz : TS} {α β : Type} {e_α : Enc α} {e_β : Enc β} {P : α → Prop} {X X' : XPH} {Xs : XSt} {W : WX} {Φ : Post} {n : Nat} {ss : List Slot} {b : β} {z : Str}
theorem DN.xw (h : DN K B te ρ P) : DXW K B te ρ P X W := fun S0 H0 S H σ E Q q _ => h S0 H0 S H σ E Q q
theorem DXW.conv {P' : β → Prop} (h : DXW K B te ρ P X W) (f : ∀ a, P a → ∃ b, P' b ∧ ∀ S v, Enc.rep K S v a → Enc.rep K S v b) : DXW K B te ρ P' X W := fun S0 H0 S H σ E Q q x => h S0 H0 S H σ E Q (fun v a S' H' pa e r => by
  obtain ⟨b, pb, hb⟩ := f a pa
  exact q v b S' H' pb e (hb _ _ r)) x
theorem DXW.imp {P' : α → Prop} (h : DXW K B te ρ P X W) (f : ∀ a, P a → P' a) : DXW K B te ρ P' X W := h.conv fun a pa => ⟨a, f a pa, fun _ _ r => r⟩
theorem dxw_call {dp : List Slot → (Slot → Prop) → XPH → Prop} (h : DA K B tr ρ ss) (hd : dp ss (fun s => ∃ a, P a ∧ s = .val a) X) : DXW K B (tCallS (spTXH K dp) (WE W) tr) ρ P X W := fun S0 H0 S H σ En Q q x =>
  h S0 H0 S H σ En _ fun vs S1 H1 e1 r1 => ⟨B, S1, ss, _, X, e1.i, (fun p hp => by
      have := (En.go e1).bx p hp
      exact ⟨this.1, this.2.1⟩), r1, hd, (fun s v S' H' ⟨a, pa, es⟩ e2 ok => by
      subst es
      exact q v a S' H' pa (e1.trans e2) ok), fun C fs d S' H' hX e2 nd hd' => x C fs d S' H' hX (e1.trans e2) (e1.free En.i nd) hd'⟩
theorem dxw_meth [o : OfCls β] {m : Str} {dp : List Slot → (Slot → Prop) → XPH → Prop} (ho : DE K B te ρ b) (h : DA K B tr ρ ss) (hd : dp (.val b :: ss) (fun s => ∃ a, P a ∧ s = .val a) X) (hm : m ∉ o.fl) : DXW K B (tMethX (He.ga K o.cn) m (spTXH K dp) (WE W) te tr) ρ P X W := fun S0 H0 S H σ En Q q xx =>
  ho S0 H0 S H σ En _ fun v S1 H1 e1 r1 => by
    obtain ⟨x, dx, fs, rfl, hx, hfl⟩ := OfCls.is r1
    refine ⟨x, dx, fs, rfl, e1.i _ _ hx, look_none (by rw [hfl]; exact hm), ?_⟩
    refine h S0 H0 S1 H1 σ (En.go e1) _ fun vs S2 H2 e2 r2 => ⟨B, S2, .val b :: ss, _, X, e2.i, (fun p hp => by
      have := ((En.go e1).go e2).bx p hp
      exact ⟨this.1, this.2.1⟩), .cons (Enc.mono e2.s r1) rfl r2, hd, (fun s v S' H' ⟨a, pa, es⟩ e3 ok => by
      subst es
      exact q v a S' H' pa ((e1.trans e2).trans e3) ok), fun C fs d S' H' hX e3 nd hd' => xx C fs d S' H' hX ((e1.trans e2).trans e3) ((e1.trans e2).free En.i nd) hd'⟩
theorem dsw_drop (h : DXW K B te ρ P X W) (k : ∀ a, P a → Φ.nx ρ) : DSW K B (tDrop te) ρ Φ (fun r S C fs => r = ρ ∧ X S C fs) W := fun S0 H0 S H σ D E px x n r b c =>
  h S0 H0 S H σ E _ (fun v a S1 H1 pa e1 r1 => n ρ σ S1 H1 (k a pa) e1.s (E.go e1)) fun C fs d S' H' hX e nd hd => x ρ C fs d σ S H S' H' ⟨rfl, hX⟩ (Same.refl S) E e nd hd
theorem dsw_asg {n : Nat} (h : DXW K B te ρ P X W) (k : ∀ a, P a → Φ.nx (ρ.set n (.val a))) : DSW K B (tAsg te (gName n)) ρ Φ (fun r S C fs => r = ρ ∧ X S C fs) W := fun S0 H0 S H σ D E px x nx r b c =>
  h S0 H0 S H σ E _ (fun v a S1 H1 pa e1 r1 => (dg_name (n := n) : DG K B (gName n) a ρ _ [n]) S0 H0 S1 H1 σ v (E.go e1) r1 _ fun σ' E' _ _ => nx _ σ' S1 H1 (k a pa) e1.s E') fun C fs d S' H' hX e nd hd => x ρ C fs d σ S H S' H' ⟨rfl, hX⟩ (Same.refl S) E e nd hd
theorem DS.w (h : DS K B ts ρ Φ) : DSW K B ts ρ Φ Xs W := fun S0 H0 S H σ D E px _ => h S0 H0 S H σ D E px
theorem dsw_seq (h : DSW K B ts ρ { Φ with nx := fun r => DSW K B tz r Φ Xs W } Xs W) : DSW K B (tSeq ts tz) ρ Φ Xs W := fun S0 H0 S H σ D E px x n r b c =>
  h S0 H0 S H σ { D with nx := tz D } E px x (fun ρ' σ' S' H' hn s E' => hn S0 H0 S' H' σ' D E' px (fun ρ2 C fs d σ2 S1 H1 S2 H2 hX s1 => x ρ2 C fs d σ2 S1 H1 S2 H2 hX (s.trans s1)) (fun ρ2 σ2 S2 H2 hn2 s2 => n ρ2 σ2 S2 H2 hn2 (s.trans s2)) r
    (fun ρ2 σ2 S2 H2 hn2 s2 => b ρ2 σ2 S2 H2 hn2 (s.trans s2)) (fun ρ2 σ2 S2 H2 hn2 s2 => c ρ2 σ2 S2 H2 hn2 (s.trans s2))) r b c
/-- how a clause goes on -/
def SuiOk (K : PySem.W.Frag) (B : Addr → Prop) (C : Addr) (S : Hp) (fs : List (Str × V)) (ρ : List Slot) (Φ : Post) (p : Option Nat × Sui) : Prop := match p.1 with
  | none => ∀ a d, DS K B (p.2 a (.ref C) (some d)) ρ Φ
  | some i => ∃ (β : Type) (_ : Enc β) (nm : Str) (x : β), FldR K S fs nm x ∧ ∀ a d, DS K B (p.2 a (.ref C) (some d)) (ρ.set i (.val (ExcV.mk a d nm x))) { Φ with nx := fun r => Φ.nx (r.set i .no), bk := fun r => Φ.bk (r.set i .no), ct := fun r => Φ.ct (r.set i .no) }
theorem En.freeze {S0 H0 S H : Hp} {σ : L2.St} {d : Addr} {o : HO} (E : En K B S0 H0 S H σ ρ) (h0 : H0 d = none) (hd : H d = some o) (hx : ∀ (i : Nat) (s : Slot), ρ[i]? = some s → s.isOwn = true → σ[i]? ≠ some (some (V.ref d))) : ∃ S1, Same S S1 ∧ S1 d = some o ∧ En K B S0 H0 S1 H σ ρ := by
  cases q : S d with
  | some u =>
    have := E.i _ _ q
    rw [hd] at this
    cases this
    exact ⟨S, Same.refl S, q, E⟩
  | none =>
    have sm : Same S (upd S d o) := same_new q
    have ex : Ext B S0 H0 (upd S d o) H := E.ext.frz h0 E.i0 hd q
    refine ⟨_, sm, upd_same, E.i0, fun p hp => ?_, ex, E.len, fun j u hj => ?_, E.ne⟩
    · rw [upd_ne (fun z => (E.bx p hp).2.2 (by rw [z]; exact h0))]
      exact E.bx p hp
    · obtain ⟨v, h1, h2⟩ := E.at' j u hj
      refine ⟨v, h1, ?_⟩
      cases u with
      | no => cases v <;> trivial
      | box =>
        cases v with
        | none => cases h2
        | some v => exact h2
      | val a =>
        cases v with
        | none => cases h2
        | some v => exact Enc.mono sm h2
      | obj P =>
        cases v with
        | none => cases h2
        | some v =>
          obtain ⟨p, w, rfl, g0, gs, gh, gr⟩ := h2
          refine ⟨p, w, rfl, g0, ?_, gh, P.mono sm gr⟩
          rw [upd_ne (fun z => hx j _ hj rfl (by rw [h1, z]))]
          exact gs
      | out P =>
        cases v with
        | none => cases h2
        | some v =>
          obtain ⟨p, w, rfl, nb, g0, gs, gh, gr⟩ := h2
          refine ⟨p, w, rfl, nb, g0, ?_, gh, P.mono sm gr⟩
          rw [upd_ne (fun z => g0 (by rw [z]; exact h0))]
          exact gs
theorem ds_try {tb : WX → TS} {l : List (Value × Option Nat × Sui)} (hb : ∀ W, DSW K B (tb W) ρ Φ Xs W) (hs : ∀ ρ' S C fs, Xs ρ' S C fs → ∃ p, Pick K C l p ∧ SuiOk K B C S fs ρ' Φ p) : DS K B (fun D σ H => tb (wNm K D l) D σ H) ρ Φ := fun S0 H0 S H σ D E px n r b c => by
  refine hb _ S0 H0 S H σ D E px (fun ρ' C fs d σ' S1 H1 S' H' hX s1 E1 e nd hd => ?_) n r b c
  obtain ⟨p, pk, so⟩ := hs ρ' S' C fs hX
  have E2 := E1.go e
  have h0 : H0 d = none := E1.ext.free E1.i0 nd
  obtain ⟨S3, s3, hd3, E3⟩ := E2.freeze h0 hd (fun i s hi ho z => by
    obtain ⟨v, g1, g2⟩ := E1.at' i s hi
    rw [z] at g1
    cases g1
    cases s with
    | obj P =>
      obtain ⟨q, w, g3, g4, g5, g6, _⟩ := g2
      cases g3
      rw [nd] at g6
      cases g6
    | _ => cases ho)
  have sm : Same S S3 := (s1.trans e.s).trans s3
  clear hs
  induction l with
  | nil => exact pk.elim
  | cons h l ih =>
    obtain ⟨c0, o, tsu⟩ := h
    obtain ⟨bb, k1, k2, k3⟩ := pk
    refine ⟨bb, k1, fun hb1 a na => ?_, fun hb0 => ih (k3 hb0)⟩
    have e2 := k2 hb1
    subst e2
    cases o with
    | none =>
      exact (so a d) S0 H0 S3 H' σ' D E3 px (fun ρ2 σ2 S2 H2 hn s2 => n ρ2 σ2 S2 H2 hn (sm.trans s2)) r (fun ρ2 σ2 S2 H2 hn s2 => b ρ2 σ2 S2 H2 hn (sm.trans s2)) (fun ρ2 σ2 S2 H2 hn s2 => c ρ2 σ2 S2 H2 hn (sm.trans s2))
    | some i =>
      obtain ⟨β, eβ, nm, x, fr, go⟩ := so
      have E4 : WW.En K B S0 H0 S3 H' (σ'.set i (some (.ref a))) (ρ'.set i (.val (ExcV.mk a d nm x))) := E3.setV (a := ExcV.mk a d nm x) ⟨rfl, fs, hd3, by
        obtain ⟨v, f1, f2⟩ := fr
        exact ⟨v, f1, Enc.mono s3 f2⟩⟩
      exact (go a d) S0 H0 S3 H' _ (nmEnds (some i) D) E4 px (fun ρ2 σ2 S2 H2 hn s2 E5 => n _ _ S2 H2 hn (sm.trans s2) (E5.set (i := i) (o := none) (s := .no) trivial rfl)) r (fun ρ2 σ2 S2 H2 hn s2 E5 => b _ _ S2 H2 hn (sm.trans s2) (E5.set (i := i) (o := none) (s := .no) trivial rfl)) (fun ρ2 σ2 S2 H2 hn s2 E5 => c _ _ S2 H2 hn (sm.trans s2) (E5.set (i := i) (o := none) (s := .no) trivial rfl))
/-- e.f, e the handled exception -/
theorem d_xf {C : Addr} {e : ExcV β} {f : Str} (h : DE K B te ρ e) (hf : e.nm = f) : DE K B (tXf e.a (.ref C) (some e.d) C f te) ρ e.x := fun S0 H0 S H σ E Q q =>
  h S0 H0 S H σ E _ fun v S1 H1 e1 ⟨ev, fs, hd, w, hfs, r⟩ => by
    subst ev
    refine ⟨rfl, rfl, e.d, fs, w, rfl, e1.i _ _ hd, ?_, q w S1 H1 e1 r⟩
    rw [hfs, hf, List.lookup_cons, beq_self_eq_true]
/-- isinstance(e, C') -/
theorem d_xis {C C' : Addr} {e : ExcV β} {r : Bool} (h : DE K B te ρ e) (hk : PySem.W.kitOne K (.ref C) (.ref C') = some r) :
    DE K B (tCB (fun xs H Q => Value.ref C = .ref C ∧ (∀ dd, some e.d = some dd → ∃ fs, H dd = some (.xd fs)) ∧ rIsX K C e.a xs H Q) (tCons te (tCons (tC (.ref C')) tNil))) ρ r := fun S0 H0 S H σ E Q q =>
  h S0 H0 S H σ E _ fun v S1 H1 e1 ⟨ev, fs, hd, w, hfs, _⟩ => by
    subst ev
    exact ⟨rfl, fun dd ed => by cases ed; exact ⟨fs, e1.i _ _ hd⟩, _, _, r, rfl, .own _, hk, q _ S1 H1 e1 rfl⟩
end
end WW

set_option Elab.async false
set_option linter.all false
set_option maxRecDepth 100000
set_option maxHeartbeats 4000000
namespace WW
open PySem PySem.Spec PyProof.Rows L2
/-! ### defs that are called where no container is being shown (repr of data wants that) -/
structure FnOkG (P : Program) (w : World) (K : PySem.W.Frag) (mg : Str → Option Value) (base : Heap) (CX : CXT) (k : Nat) (f : Addr) (fd : FuncData) (ps : List Str) (sp : Sp) : Prop where
  len : ∀ vs H Q E, sp vs H Q E → vs.length = ps.length
  go : ∀ (A : Around) (up : List PySem.Env) (s : Shared) (H : Hp) (ar : Args) (us : List Value) (vs : List V) (Q : VK) (E : XK), A.guards = some [] → Room k A → Env0 P w K mg base A up s H → BindsTo s fd ar (ps.zip us) → Vals vs us → sp vs H Q E → codeAny (model P w) A (.call (.ref f) ar) (CR CX up P w H s Q E) s
section
variable {P : Program} {w : World} {K : PySem.W.Frag} {mg : Str → Option Value} {base : Heap} {CX : CXT} {k j : Nat} {f : Addr} {fd : FuncData} {ps N : List Str} {sp sp' : Sp}
theorem FnOkG.of (F : FnOk P w K mg base CX k f fd ps sp) : FnOkG P w K mg base CX k f fd ps sp := ⟨F.len, fun A up s H ar us vs Q E _ => F.run A up s H ar us vs Q E⟩
theorem FnOkG.imp (F : FnOkG P w K mg base CX k f fd ps sp) (h : ∀ vs H Q E, sp' vs H Q E → sp vs H Q E) : FnOkG P w K mg base CX k f fd ps sp' :=
  ⟨fun vs H Q E q => F.len vs H Q E (h _ _ _ _ q), fun A up s H ar us vs Q E g r e b v q => F.go A up s H ar us vs Q E g r e b v (h _ _ _ _ q)⟩
theorem okGsh {x qual : Str} {params : Arguments} {body : List Stmt} {scope : Scope} {dvs : List V} {kws : List (Str × V)} (F : FunD K x qual params body scope dvs kws f fd) (S : FnScope N ps scope) (len : ∀ vs H Q E, sp vs H Q E → vs.length = ps.length)
    (bd : ∀ (cdv : Value) (A : Around) (up : List PySem.Env) (s : Shared) (H : Hp) (vs : List V) (Q : VK) (E : XK), A.guards = some [] → Room k (A.deeper (envOfC qual scope s.heap.objs.size f cdv)) → sp vs H Q E →
      ∃ t, PSs (cxOf CX P w K mg base N qual scope f cdv A up s H E) body t ∧ t { nx := fun _ H' => Q .non H', rt := Q } (L2.start N vs) H) : FnOkG P w K mg base CX (k + 1) f fd ps sp := by
  obtain ⟨_, _, _, _, _, _, _, cv, _, _, rfl, look, code, _, _⟩ := F.ex
  refine ⟨len, fun A up s H ar us vs Q E g room e bs rv q => ?_⟩
  have ll := len _ _ _ _ q
  have inK : K.In s.heap := e.mod.kin.keeps fun p u hu => (e.bs p u hu).1
  have noL : s.heap.NoLimit := e.mod.nolimit.keeps fun p u hu => (e.bs p u hu).1
  have kinds : ∀ z ∈ ps.zip us, scope.names.lookup z.1 = some .local ∨ (scope.names.lookup z.1 = some .cell ∧ ((cellsFrom (s.heap.objs.size + 1) scope.names []).lookup z.1).isSome = true) := by
    intro z hz
    obtain ⟨z1, z2⟩ := z
    exact (S.par z1 (List.of_mem_zip hz).1).imp id fun c => ⟨c, PySem.W.cellsFrom_some _ _ _ (.inl c)⟩
  refine codeAny_call_function room.depth (inK _ _ look) rfl S.co S.gen rfl (PySem.W.codeRec_of inK code) (bs _ _ _ _ ?_)
  refine wpAny_newFunctionEnv_cells S.kind kinds fun env ee s2 ic => ?_
  subst ee
  refine ⟨noL.keeps ic.toInCall.keep, codeAny_func ?_⟩
  obtain ⟨t, tp, tq⟩ := bd cv A up s H vs Q E g (room.deeper _) q
  have inv := inv_start (CX := CX) (E := E) S room.hd e ll rv ic
  refine wpAny_mono (tp.run [] s2 (L2.start N vs) H _ inv tq) ?_ fun _ _ z => z
  intro fl s' sp'
  have done : ∀ {σ' : L2.St} {H' : Hp} {v : V} {u : Value}, Inv (cxOf CX P w K mg base N qual scope f cv A up s H E) [] σ' H' s' → RelV v u → Q v H' → CE up P w H s Q u s' := by
    intro σ' H' v u J r' q'
    exact ⟨v, H', J.os, J.bare, J.base, J.hok, r', q'⟩
  match fl, sp' with
  | .ret u, ⟨v, σ', H', J, r', q'⟩ => exact done J r' q'
  | .next, ⟨σ', H', J, q'⟩ => exact done (v := .non) (u := .none) J rfl q'
  | .brk, ⟨_, _, _, q'⟩ => exact q'.elim
  | .cont, ⟨_, _, _, q'⟩ => exact q'.elim
end
structure FnAtG (P : Program) (w : World) (K : PySem.W.Frag) (mg : Str → Option Value) (base : Heap) (CX : CXT) (k : Nat) (x : Str) (ps : List Str) (sp : Sp) : Prop where
  ex : ∃ fd, FnOkG P w K mg base CX k (He.ga K x) fd ps sp ∧ Binds K fd ps []
  kp : PySem.W.keepIn K (.ref (He.ga K x)) = true
  g : mg x = some (.ref (He.ga K x))
section
variable {X : Cx} {CX : CXT} {k j : Nat} {x : Str} {ps : List Str} {sp : Sp} {e : Expr} {es : List Expr} {t : TA} {p pos : Pos} {E : L2.St → XK} {W : WX} {f : Addr} {fd : FuncData}
theorem run_G {pins : List (Addr × Obj)} {σ : L2.St} {H : Hp} {s : Shared} {Q : VK} {us : List Value} {vs : List V} (F : FnOkG X.prog X.w X.K X.mg X.base CX k f fd ps sp) (gu : X.A.guards = some []) (hr : Room k X.A) (hb : Binds X.K fd ps []) (hx : PassesAt CX X σ (E σ))
    (I : Inv X pins σ H s) (r : Vals vs us) (h : sp vs H Q (E σ)) : wpAny (model X.prog X.w) X.A (call (.ref f) us) (EP X pins σ Q) X.xe s := by
  have b := hb s us I.kIn (by rw [List.append_nil, ← r.length]; exact F.len _ _ _ _ h)
  rw [List.append_nil] at b
  refine wpAny_call (codeAny_mono (F.go X.A X.stack s H ⟨us, []⟩ us vs Q (E σ) gu hr I.env0 b r h) ?_)
  intro o s' q
  match o, q with
  | .error er, q => exact hx pins H s er s' I q
  | .ok (.ret u), q => exact I.after q
theorem pe_gS (F : FnAtG X.prog X.w X.K X.mg X.base CX k x ps sp) (gu : X.A.guards = some []) (hr : Room j X.A) (hg : Gl X x) (hx : ∀ σ, PassesAt CX X σ (E σ)) (ha : PA X (e :: es) t) (hk : k ≤ j := by decide)
    (hdb : (x == ("__debug__" : Str)) = false := by decide) (he : starEach (e :: es) X.env = (false, eval e X.env) :: starEach es X.env := by rfl) (hpl : (backTo pos (starEach es X.env)).any (·.1) = false := by rfl) :
    PE X (.Call (.Name x p) (e :: es) [] pos) (tCallS sp E t) := by
  obtain ⟨fd, F1, b⟩ := F.ex
  refine ⟨fun pins s σ H Q I h => wpAny_Call_Name_kw (ld_glob I hg F.g ?_ hdb)⟩
  refine PySem.W.callWith_K (h₀ := X.base) I.ok.mod.kin F.kp (thn (ha.run pos pins s σ H _ I h) ?_) he hpl
  rintro us s1 ⟨vs, H1, I1, r, q⟩
  exact ⟨I1.kIn, run_G F1 gu (hr.mono hk) b (hx σ) I1 r q⟩
/-- a call of such a def that lets nothing out -/
theorem pe_fnG (K : PySem.W.Frag) (F : FnAtG X.prog X.w K X.mg X.base CX0 k x ps sp) (gu : X.A.guards = some []) (hr : Room j X.A) (hg : Gl X x) (ha : PA X (e :: es) t) (hk : k ≤ j := by decide) (hK : X.K = K := by rfl)
    (hdb : (x == ("__debug__" : Str)) = false := by decide) (he : starEach (e :: es) X.env = (false, eval e X.env) :: starEach es X.env := by rfl) (hpl : (backTo pos (starEach es X.env)).any (·.1) = false := by rfl) :
    PE X (.Call (.Name x p) (e :: es) [] pos) (tCallS sp (fun _ => E0) t) := by
  subst hK
  exact pe_gS F gu hr hg (fun σ _ _ _ _ _ _ h => h.elim) ha hk hdb he hpl
/-- one that may raise -/
theorem pe_fnGX (K : PySem.W.Frag) (F : FnAtG X.prog X.w K X.mg X.base (L2.CX X.prog X.w) k x ps sp) (tk : Takes X W) (gu : X.A.guards = some []) (hr : Room j X.A) (hg : Gl X x) (ha : PA X (e :: es) t) (hk : k ≤ j := by decide) (hK : X.K = K := by rfl)
    (hdb : (x == ("__debug__" : Str)) = false := by decide) (he : starEach (e :: es) X.env = (false, eval e X.env) :: starEach es X.env := by rfl) (hpl : (backTo pos (starEach es X.env)).any (·.1) = false := by rfl) :
    PE X (.Call (.Name x p) (e :: es) [] pos) (tCallS sp (WE W) t) := by
  subst hK
  exact pe_gS F gu hr hg (fun σ => passAt tk σ) ha hk hdb he hpl
end
section
variable {K : PySem.W.Frag} {B : Addr → Prop} {ρ : List Slot} {te : TE} {tr : TA} {α : Type} {e_α : Enc α} {P : α → Prop} {a : α} {ss : List Slot}
theorem dn_callG {dp : List Slot → (Slot → Prop) → Prop} (h : DA K B tr ρ ss) (hd : dp ss fun s => ∃ a : α, P a ∧ s = .val a) : DN K B (tCallS (spT K dp) (fun _ => E0) tr) ρ P := fun S0 H0 S H σ En Q q =>
  h S0 H0 S H σ En _ fun vs S1 H1 e1 r1 => ⟨B, S1, ss, _, e1.i, (fun p hp => by
      have := (En.go e1).bx p hp
      exact ⟨this.1, this.2.1⟩), r1, hd, fun s v S' H' ⟨a, pa, es⟩ e2 ok => by
      subst es
      exact q v a S' H' pa (e1.trans e2) ok⟩
theorem d_callG {dp : List Slot → (Slot → Prop) → Prop} (h : DA K B tr ρ ss) (hd : dp ss fun s => s = .val a) : DE K B (tCallS (spT K dp) (fun _ => E0) tr) ρ a :=
  DN.e (dn_callG h (by
    have : (fun s => ∃ b : α, b = a ∧ s = Slot.val b) = fun s => s = Slot.val a := funext fun s => propext ⟨fun ⟨b, e1, e2⟩ => by rw [e2, e1], fun e => ⟨a, rfl, e⟩⟩
    rw [this]
    exact hd))
end
theorem okTG {P : Program} {w : World} {K : PySem.W.Frag} {mg : Str → Option Value} {base : Heap} {x qual : Str} {params : Arguments} {body : List Stmt} {scope : Scope} {dvs : List V} {kws : List (Str × V)} {f : Addr} {fd : FuncData} {N ps : List Str} {k : Nat} {dp : List Slot → (Slot → Prop) → Prop}
    (F : FunD K x qual params body scope dvs kws f fd) (S : FnScope N ps scope) (len : ∀ ss R, dp ss R → ss.length = ps.length)
    (hbody : ∀ (cdv : Value) (A : Around) (outer : List PySem.Env) (s : Shared) (H : Hp) (E : XK), A.guards = some [] → Room k (A.deeper (envOfC qual scope s.heap.objs.size f cdv)) →
      ∃ t, PSs (cxOf CX0 P w K mg base N qual scope f cdv A outer s H E).nox body t ∧ ∀ (B : Addr → Prop) ss R, dp ss R → DS K B t (startS N ss) ⟨fun _ => R (.val ()), R, fun _ => False, fun _ => False, fun _ _ => True⟩) : FnOkG P w K mg base CX0 (k + 1) f fd ps (spT K dp) := by
  refine okGsh F S (fun vs H Q E h => ?_) (fun cdv A outer s H vs Q E gu hr h => ?_)
  · obtain ⟨B, S, ss, R, _, _, ha, hd, _⟩ := h
    rw [ha.length, len ss R hd]
  · obtain ⟨B, S, ss, R, hi, hb, ha, hd, q⟩ := h
    obtain ⟨t, h1, h2⟩ := hbody cdv A outer s H E gu hr
    exact ⟨t, h1.nox, h2 B ss R hd S H S H _ _ (start_en hi hb ha) trivial (fun ρ' σ' S' H' r _ E' => q _ _ S' H' r E'.ext rfl) (fun s v S' H' r ex ok => q s v S' H' r ex ok) (fun _ _ _ _ h => h.elim) (fun _ _ _ _ h => h.elim)⟩
end WW

set_option Elab.async false
set_option linter.all false
set_option maxRecDepth 100000
set_option maxHeartbeats 4000000
namespace WW
open PySem PySem.Spec PyProof.Rows L2
/-! ### a law whose def is such a one -/
section
variable {P : Program} {w : World} {K : PySem.W.Frag} {mg mb : Str → Option Value} {k : Nat} {fa a : Addr} {fd : FuncData} {x : Str} {sp : Sp} {s1 : Shared} {vs : List Value} {ns : List Int}
/-- the heap that is told of: nothing but the script, if the program does not know it -/
theorem top_at {H : Hp} (KX : K.In s1.heap) (nsm : s1.heap.Ns mainGlobals mg) (nsb : s1.heap.Ns builtinsNs mb) (bb : ∀ y : Str, y ≠ "__name__" → mb y = bootBuiltins y) (nl : s1.heap.NoLimit) (ge : s1.gens = #[])
    (ha : s1.heap.get? a = some { cls := .type "list", data := .seq vs.toArray }) (hr : Room k callerA) (F : ∀ base : Heap, K.In base → base.Ns mainGlobals mg → FnOkG P w K mg base CX0 k fa fd [x] sp) (bi : ∀ (s : Shared) (u : Value), BindsTo s fd ⟨[u], []⟩ [(x, u)])
    (on : Only H) (hok : HOk P w H s1.heap) (oa : ∀ b, H b ≠ none → b = a) (ka : H a ≠ none → K.lookup a = none) (q : sp [.ref a] H (fun v _ => v = .bl true) fun _ _ _ => False) :
    codeAny (model P w) callerA (.call (.ref fa) ⟨[.ref a], []⟩) (fun r s' => r = .ok (.ret (.bool true)) ∧ OldK s1.heap s'.heap ∧ s'.os = s1.os ∧ AllBare s'.gens) s1 := by
  have only : ∀ {b : Addr}, H b ≠ none → b = a := fun {b} h => oa b h
  have dict0 : ∀ {b : Addr} {o : Obj} {es : Array DictEntry} {n : Nat}, s1.heap.get? b = some o → o.data = .dict es n → H b = none := by
    intro b o es n g d
    rcases hq : H b with _ | u
    · rfl
    · have := only (b := b) (by rw [hq]; exact fun z => nomatch z)
      subst this
      rw [ha] at g
      cases g
      exact nomatch d
  have nsH : ∀ {b : Addr} {m : Str → Option Value}, s1.heap.Ns b m → (hidT s1.heap H).Ns b m := by
    rintro b m ⟨o, es, n, g, d, r⟩
    exact ⟨o, es, n, hidT_get g (dict0 g d), d, r⟩
  have inH : K.In (hidT s1.heap H) := by
    intro b o lk
    refine hidT_get (KX b o lk) ?_
    rcases hq : H b with _ | u
    · rfl
    · have nn : H b ≠ none := by rw [hq]; exact fun z => nomatch z
      have := only nn
      subst this
      rw [ka nn] at lk
      cases lk
  obtain ⟨mc, l1, l2⟩ := nl
  have e0 : Env0 P w K mg (hidT s1.heap H) callerA [] s1 H := by
    refine ⟨rfl, ⟨inH, nsH nsm, ⟨mb, nsH nsb, bb⟩, mc, nsH l1, l2⟩, fun b o g => of_hidT g, Nat.le_of_eq (hidT_size _ _), trivial, ?_, hok, .of_eq ge⟩
    intro b hb
    cases hb
  refine codeAny_mono ((F _ inH (nsH nsm)).go callerA [] s1 H ⟨[.ref a], []⟩ [.ref a] [.ref a] _ _ rfl hr e0 (bi s1 (.ref a)) (.cons rfl .nil) q) ?_
  rintro (er | fl) s' h
  · exact h.elim
  match fl, h with
  | .ret u, ⟨v, H', os, bare, un, hok', r', qv⟩ =>
    have qv : v = .bl true := qv
    subst qv
    cases (show u = Value.bool true from r')
    refine ⟨rfl, OldK.of_keep ?_, os, bare⟩
    intro b o g
    rcases on b with z | ⟨ob, xs, z⟩
    · exact un.keep b o g z (fun m => nomatch m) (fun m => nomatch m)
    · obtain ⟨g1, _⟩ := hok b _ z
      obtain ⟨g2, _⟩ := hok' b _ (un.frzs b ob _ z)
      rw [g] at g1
      cases g1
      exact g2
theorem top_G (KX : K.In s1.heap) (nsm : s1.heap.Ns mainGlobals mg) (nsb : s1.heap.Ns builtinsNs mb) (bb : ∀ y : Str, y ≠ "__name__" → mb y = bootBuiltins y) (nl : s1.heap.NoLimit) (ge : s1.gens = #[])
    (ha : s1.heap.get? a = some { cls := .type "list", data := .seq vs.toArray }) (hi : IntsAre vs ns) (hl : ns.length ≤ sizeLine) (hr : Room k callerA) (F : ∀ base : Heap, K.In base → base.Ns mainGlobals mg → FnOkG P w K mg base CX0 k fa fd [x] sp) (bi : ∀ (s : Shared) (u : Value), BindsTo s fd ⟨[u], []⟩ [(x, u)])
    (q : ∀ H : Hp, Only H → SqL K H a (ns.map V.int) → sp [.ref a] H (fun v _ => v = .bl true) fun _ _ _ => False) :
    codeAny (model P w) callerA (.call (.ref fa) ⟨[.ref a], []⟩) (fun r s' => r = .ok (.ret (.bool true)) ∧ OldK s1.heap s'.heap ∧ s'.os = s1.os ∧ AllBare s'.gens) s1 := by
  have rel := vals_ints hi
  have len := hi.length
  rcases lk : K.lookup a with _ | o
  · let ob : Obj := { cls := .type "list", data := .seq vs.toArray }
    let H : Hp := fun b => if b = a then some (.frz ob (.lst (ns.map V.int))) else none
    have at_ : H a = some (.frz ob (.lst (ns.map V.int))) := if_pos rfl
    have off : ∀ b, b ≠ a → H b = none := fun b n => if_neg n
    have on : Only H := fun b => by
      by_cases c : b = a
      · rw [c, at_]
        exact .inr ⟨_, _, rfl⟩
      · exact .inl (off b c)
    refine top_at (H := H) KX nsm nsb bb nl ge ha hr F bi on ?_ ?_ (fun _ => lk) (q H on (.inl (.inr ⟨ob, at_⟩)))
    · intro b u hu
      by_cases c : b = a
      · subst c
        rw [at_] at hu
        cases hu
        refine ⟨ha, ?_, vs, _, rel, ha⟩
        rw [List.length_map]
        exact hl
      · rw [off b c] at hu
        cases hu
    · intro b hb
      by_cases c : b = a
      · exact c
      · exact absurd (off b c) hb
  · have g := KX a o lk
    rw [ha] at g
    cases g
    refine top_at (H := fun _ => none) KX nsm nsb bb nl ge ha hr F bi (fun _ => .inl rfl) (fun b u hu => nomatch hu) (fun b hb => absurd rfl hb) (fun hb => absurd rfl hb) (q _ (fun _ => .inl rfl) ?_)
    refine .inr ⟨_, vs.toArray, _, lk, rfl, rfl, rfl, ?_, by simpa using rel⟩
    rw [List.size_toArray, len]
    exact hl
end
theorem walk_G {l : PySem.W.OpenLaw} {n k : Nat} {q : Program} {loose : List Str} {XP : (Str → Option Value) → Heap → Prop} {YP : World → Heap → Prop} {d : DefRec} {x : Str}
    (hn : l.most = some n) (n2 : n ≤ sizeLine) (df : d.params.defaults = []) (hr : Room k callerA)
    (F : ∀ (w : World) (mg : Str → Option Value) (fa : Addr) (h : Heap), YP w h → h.Ns mainGlobals mg → mg d.name = some (.ref fa) →
      ∃ (K : PySem.W.Frag) (fd : FuncData) (sp : Sp), K.In h ∧ (∀ (s : Shared) (u : Value), BindsTo s fd ⟨[u], []⟩ [(x, u)]) ∧
        (∀ (H : Hp) (a : Addr) (ns : List Int), ns.length ≤ n → Only H → SqL K H a (ns.map V.int) → sp [.ref a] H (fun v _ => v = .bl true) fun _ _ _ => False) ∧
        ∀ base : Heap, K.In base → base.Ns mainGlobals mg → FnOkG l.prog w K mg base CX0 k fa fd [x] sp) :
    PySem.W.WalkO q loose XP YP l.row.toRowW d [] (fun f vs => PySem.call f vs) := by
  refine Att.attach_call hn df ?_
  intro w s0 s1 mg mb fa o pm cd doc a vs ns G Y _ _ _ hm ho hi ll ge
  obtain ⟨K, fd, sp, KX, bi, qs, FG⟩ := F w mg fa _ Y G.T.g hm
  exact top_G KX G.T.g G.T.b G.T.builtins G.T.nolimit ge ho hi (Nat.le_trans ll n2) hr FG bi fun H on sq => qs H a ns ll on sq
end WW

set_option Elab.async false
set_option linter.all false
set_option maxRecDepth 100000
set_option maxHeartbeats 4000000
namespace WW
open PySem PySem.Spec PyProof.Rows L2
/-! ### data in lists; dicts copied -/
/-- plain data, perhaps with texts -/
class DatQ (α : Type) [Enc α] where
  d : α → PyData
  dp : ∀ {K : PySem.W.Frag} {S : Hp} {v : V} {a : α}, Enc.rep K S v a → Dp K S v (d a)
  k : Nat
  dep : ∀ a : α, PyData.depth (d a) ≤ k
  inj : ∀ (a b : α), PyData.eqv (d a) (d b) = true ↔ a = b
  nn : ∀ a : α, PyData.eqv (d a) .none = true ∨ PyData.eqv .none (d a) = true → ∀ {K : PySem.W.Frag} {S : Hp}, Enc.rep K S .non a
def canQ {α : Type} [Enc α] [q : DatQ α] (a : α) : Prop := PyData.canLay0 (q.d a) = true
theorem eqvAll_injQ {δ : Type} {e : Enc δ} (dt : DatQ δ) : ∀ (xs ys : List δ), PyData.eqvAll (xs.map dt.d) (ys.map dt.d) = true ↔ xs = ys
  | [], [] => by simp [PyData.eqvAll]
  | [], y :: q => by simp [PyData.eqvAll]
  | x :: r, [] => by simp [PyData.eqvAll]
  | x :: r, y :: q => by
    rw [List.map_cons, List.map_cons, PyData.eqvAll, Bool.and_eq_true, dt.inj, eqvAll_injQ dt r q]
    simp
theorem canAllQ {δ : Type} {e : Enc δ} (dt : DatQ δ) : ∀ xs : List δ, PyData.canLayAll0 (xs.map dt.d) = true ↔ ∀ x ∈ xs, canQ x
  | [] => by simp [PyData.canLayAll0]
  | x :: r => by
    rw [List.map_cons, PyData.canLayAll0, Bool.and_eq_true, canAllQ dt r]
    simp [canQ]
theorem depAllQ {δ : Type} {e : Enc δ} (dt : DatQ δ) : ∀ xs : List δ, PyData.depthAll (xs.map dt.d) ≤ dt.k
  | [] => by simp [PyData.depthAll]
  | x :: r => by rw [List.map_cons, PyData.depthAll]; exact Nat.max_le.mpr ⟨dt.dep x, depAllQ dt r⟩
theorem dpAllQ {K : PySem.W.Frag} {δ : Type} {e : Enc δ} (dt : DatQ δ) {S : Hp} : ∀ {vs : List V} {xs : List δ}, Paired (Enc.rep K S) vs xs → DpAll K S vs (xs.map dt.d)
  | _, _, .nil => .nil
  | _, _, .cons h r => .cons (dt.dp h) (dpAllQ dt r)
instance qStr : DatQ Str where
  d := .str
  dp h := by cases h; exact .str _
  k := 0
  dep _ := by simp [PyData.depth]
  inj a b := by simp [PyData.eqv]
  nn a h := by simp [PyData.eqv] at h
instance qInt : DatQ Int where
  d := .int
  dp h := by cases h; exact .int _
  k := 0
  dep _ := by simp [PyData.depth]
  inj a b := by simp [PyData.eqv]
  nn a h := by simp [PyData.eqv] at h
instance qBool : DatQ Bool where
  d := .bool
  dp h := by cases h; exact .bl _
  k := 0
  dep _ := by simp [PyData.depth]
  inj a b := by simp [PyData.eqv]
  nn a h := by simp [PyData.eqv] at h
theorem canI (i : Int) : canQ i := by simp [canQ, DatQ.d, PyData.canLay0]
theorem canB (i : Bool) : canQ i := by simp [canQ, DatQ.d, PyData.canLay0]
theorem canS {z : Str} : canQ z ↔ PyData.strOk z = true := by simp [canQ, DatQ.d, PyData.canLay0]
instance qU {δ : Type} [Enc δ] [dt : DatQ δ] : DatQ (U δ) where
  d xs := .tuple (List.map dt.d xs)
  dp h := by
    obtain ⟨_, p, vs, rfl, hh, r⟩ := h
    exact .tup hh (dpAllQ dt r)
  k := dt.k + 1
  dep xs := by rw [PyData.depth]; exact Nat.succ_le_succ (depAllQ dt xs)
  inj a b := by rw [PyData.eqv]; exact eqvAll_injQ dt a b
  nn a h := by simp [PyData.eqv] at h
instance qL {δ : Type} [Enc δ] [dt : DatQ δ] : DatQ (L δ) where
  d xs := .list (List.map dt.d xs)
  dp h := by
    obtain ⟨_, p, vs, rfl, hh, r⟩ := h
    exact .lst (.inl (.inl hh)) (dpAllQ dt r)
  k := dt.k + 1
  dep xs := by rw [PyData.depth]; exact Nat.succ_le_succ (depAllQ dt xs)
  inj a b := by rw [PyData.eqv]; exact eqvAll_injQ dt a b
  nn a h := by simp [PyData.eqv] at h
theorem canU {δ : Type} [Enc δ] [dt : DatQ δ] {xs : List δ} : canQ (α := U δ) xs ↔ ∀ x ∈ xs, canQ x := by
  unfold canQ
  show PyData.canLay0 (.tuple (List.map dt.d xs)) = true ↔ _
  rw [PyData.canLay0]
  exact canAllQ dt xs
theorem canL {δ : Type} [Enc δ] [dt : DatQ δ] {xs : List δ} : canQ (α := L δ) xs ↔ ∀ x ∈ xs, canQ x := by
  unfold canQ
  show PyData.canLay0 (.list (List.map dt.d xs)) = true ↔ _
  rw [PyData.canLay0]
  exact canAllQ dt xs
instance qP {δ ε : Type} [Enc δ] [Enc ε] [dt : DatQ δ] [de : DatQ ε] : DatQ (δ × ε) where
  d p := .tuple [dt.d p.1, de.d p.2]
  dp h := by
    obtain ⟨p, v1, v2, rfl, hh, r1, r2⟩ := h
    exact .tup hh (.cons (dt.dp r1) (.cons (de.dp r2) .nil))
  k := max dt.k de.k + 1
  dep p := by
    simp only [PyData.depth, PyData.depthAll]
    have h1 := dt.dep p.1
    have h2 := de.dep p.2
    omega
  inj a b := by
    rw [PyData.eqv, PyData.eqvAll, PyData.eqvAll, PyData.eqvAll, Bool.and_eq_true, Bool.and_eq_true, dt.inj, de.inj]
    constructor
    · rintro ⟨h1, h2, _⟩
      exact Prod.ext h1 h2
    · rintro rfl
      exact ⟨rfl, rfl, rfl⟩
  nn a h := by simp [PyData.eqv] at h
theorem canP {δ ε : Type} [Enc δ] [Enc ε] [dt : DatQ δ] [de : DatQ ε] {a : δ} {b : ε} : canQ (a, b) ↔ canQ a ∧ canQ b := by
  unfold canQ
  show PyData.canLay0 (.tuple [dt.d a, de.d b]) = true ↔ _
  simp [PyData.canLay0, PyData.canLayAll0]
instance q3 {δ ε ζ : Type} [Enc δ] [Enc ε] [Enc ζ] [dt : DatQ δ] [de : DatQ ε] [dz : DatQ ζ] : DatQ (T3 δ ε ζ) where
  d p := .tuple [dt.d p.a, de.d p.b, dz.d p.c]
  dp h := by
    obtain ⟨p, v1, v2, v3, rfl, hh, r1, r2, r3⟩ := h
    exact .tup hh (.cons (dt.dp r1) (.cons (de.dp r2) (.cons (dz.dp r3) .nil)))
  k := max dt.k (max de.k dz.k) + 1
  dep p := by
    simp only [PyData.depth, PyData.depthAll]
    have h1 := dt.dep p.a
    have h2 := de.dep p.b
    have h3 := dz.dep p.c
    omega
  inj a b := by
    rw [PyData.eqv, PyData.eqvAll, PyData.eqvAll, PyData.eqvAll, PyData.eqvAll, Bool.and_eq_true, Bool.and_eq_true, Bool.and_eq_true, dt.inj, de.inj, dz.inj]
    obtain ⟨a1, a2, a3⟩ := a
    obtain ⟨b1, b2, b3⟩ := b
    constructor
    · rintro ⟨h1, h2, h3, _⟩
      cases h1
      cases h2
      cases h3
      rfl
    · rintro ⟨⟩
      exact ⟨rfl, rfl, rfl, rfl⟩
  nn a h := by simp [PyData.eqv] at h
instance q4 {δ ε ζ η : Type} [Enc δ] [Enc ε] [Enc ζ] [Enc η] [dt : DatQ δ] [de : DatQ ε] [dz : DatQ ζ] [dh : DatQ η] : DatQ (T4 δ ε ζ η) where
  d p := .tuple [dt.d p.a, de.d p.b, dz.d p.c, dh.d p.d]
  dp h := by
    obtain ⟨p, v1, v2, v3, v4, rfl, hh, r1, r2, r3, r4⟩ := h
    exact .tup hh (.cons (dt.dp r1) (.cons (de.dp r2) (.cons (dz.dp r3) (.cons (dh.dp r4) .nil))))
  k := max (max dt.k (max de.k dz.k)) dh.k + 1
  dep p := by
    simp only [PyData.depth, PyData.depthAll]
    have h1 := dt.dep p.a
    have h2 := de.dep p.b
    have h3 := dz.dep p.c
    have h4 := dh.dep p.d
    omega
  inj a b := by
    rw [PyData.eqv, PyData.eqvAll, PyData.eqvAll, PyData.eqvAll, PyData.eqvAll, PyData.eqvAll, Bool.and_eq_true, Bool.and_eq_true, Bool.and_eq_true, Bool.and_eq_true, dt.inj, de.inj, dz.inj, dh.inj]
    obtain ⟨a1, a2, a3, a4⟩ := a
    obtain ⟨b1, b2, b3, b4⟩ := b
    constructor
    · rintro ⟨h1, h2, h3, h4, _⟩
      cases h1
      cases h2
      cases h3
      cases h4
      rfl
    · rintro ⟨⟩
      exact ⟨rfl, rfl, rfl, rfl, rfl⟩
  nn a h := by simp [PyData.eqv] at h
theorem can4 {δ ε ζ η : Type} [Enc δ] [Enc ε] [Enc ζ] [Enc η] [dt : DatQ δ] [de : DatQ ε] [dz : DatQ ζ] [dh : DatQ η] {a : δ} {b : ε} {c : ζ} {d : η} : canQ (T4.mk a b c d) ↔ canQ a ∧ canQ b ∧ canQ c ∧ canQ d := by
  unfold canQ
  show PyData.canLay0 (.tuple [dt.d a, de.d b, dz.d c, dh.d d]) = true ↔ _
  simp [PyData.canLay0, PyData.canLayAll0]
/-- what is never None, perhaps None -/
class DatN (α : Type) [Enc α] [q : DatQ α] : Prop where
  n1 : ∀ a : α, PyData.eqv (q.d a) .none = false
  n2 : ∀ a : α, PyData.eqv .none (q.d a) = false
instance : DatN Str := ⟨fun a => by simp [DatQ.d, PyData.eqv], fun a => by simp [DatQ.d, PyData.eqv]⟩
instance : DatN Int := ⟨fun a => by simp [DatQ.d, PyData.eqv], fun a => by simp [DatQ.d, PyData.eqv]⟩
instance {δ : Type} [Enc δ] [DatQ δ] : DatN (U δ) := ⟨fun a => by simp [DatQ.d, PyData.eqv], fun a => by simp [DatQ.d, PyData.eqv]⟩
instance {δ : Type} [Enc δ] [DatQ δ] : DatN (L δ) := ⟨fun a => by simp [DatQ.d, PyData.eqv], fun a => by simp [DatQ.d, PyData.eqv]⟩
instance {δ ε : Type} [Enc δ] [Enc ε] [DatQ δ] [DatQ ε] : DatN (δ × ε) := ⟨fun a => by simp [DatQ.d, PyData.eqv], fun a => by simp [DatQ.d, PyData.eqv]⟩
def optD {δ : Type} [Enc δ] [dt : DatQ δ] : Option δ → PyData
  | none => .none
  | some a => dt.d a
instance qO {δ : Type} [Enc δ] [dt : DatQ δ] [dn : DatN δ] : DatQ (Option δ) where
  d := optD
  dp {K S v a} h := by
    cases a with
    | none => cases h; exact .non
    | some a => exact dt.dp h
  k := dt.k
  dep a := by
    cases a with
    | none => simp [optD, PyData.depth]
    | some a => exact dt.dep a
  inj a b := by
    cases a with
    | none =>
      cases b with
      | none => simp [optD, PyData.eqv]
      | some b =>
        show PyData.eqv .none (dt.d b) = true ↔ _
        rw [dn.n2]
        simp
    | some a =>
      cases b with
      | none =>
        show PyData.eqv (dt.d a) .none = true ↔ _
        rw [dn.n1]
        simp
      | some b =>
        show PyData.eqv (dt.d a) (dt.d b) = true ↔ _
        rw [dt.inj]
        simp
  nn a h := by
    cases a with
    | none => intros; rfl
    | some a =>
      rcases h with h | h
      · have h : PyData.eqv (dt.d a) .none = true := h
        rw [dn.n1] at h
        cases h
      · have h : PyData.eqv .none (dt.d a) = true := h
        rw [dn.n2] at h
        cases h
theorem canO {δ : Type} [Enc δ] [dt : DatQ δ] [dn : DatN δ] {o : Option δ} : canQ o ↔ ∀ a, o = some a → canQ a := by
  cases o with
  | none => simp [canQ, DatQ.d, optD, PyData.canLay0]
  | some a => simp [canQ, DatQ.d, optD]
theorem eqv_decQ {δ : Type} {e : Enc δ} (dt : DatQ δ) (inst : DecidableEq δ) (x y : δ) : PyData.eqv (dt.d x) (dt.d y) = decide (x = y) := by
  by_cases c : x = y
  · rw [decide_eq_true c, (dt.inj x y).mpr c]
  · rw [decide_eq_false c]
    cases h : PyData.eqv (dt.d x) (dt.d y) with
    | false => rfl
    | true => exact absurd ((dt.inj x y).mp h) c
theorem shaped_q {δ : Type} {e : Enc δ} (dt : DatQ δ) (hk : dt.k ≤ 64) (x : δ) (c : canQ x) : SeqAt.shaped (dt.d x) = true := by
  unfold SeqAt.shaped
  rw [Bool.and_eq_true]
  exact ⟨c, decide_eq_true (Nat.le_trans (dt.dep x) hk)⟩
theorem op_inDK {X : Cx} {j : Nat} (K : PySem.W.Frag) (hr : Room j X.A) (h : X.K = K := by rfl) : OpR X (compareOp .In) (rInD K) := by
  subst h
  exact op_inD (by have := hr.un; omega)
theorem op_notInDK {X : Cx} {j : Nat} (K : PySem.W.Frag) (hr : Room j X.A) (h : X.K = K := by rfl) : OpR X (compareOp .NotIn) (rNotInD K) := by
  subst h
  exact op_notInD (by have := hr.un; omega)
section
variable {K : PySem.W.Frag} {B : Addr → Prop} {ρ : List Slot} {ta tb te : TE} {α : Type} {e_α : Enc α} {a b : α} {xs : List α}
theorem d_eqQ (ha : DE K B ta ρ a) (hb : DE K B tb ρ b) (inst : DecidableEq α) (dt : DatQ α) (hk : dt.k ≤ 64) (ca : canQ a) (cb : canQ b) : DE K B (tOp (rEqD K) ta tb) ρ (decide (a = b)) :=
  d_op ha hb fun x y S H hi r1 r2 Q q => ⟨_, _, dt.dp (Enc.mono hi r1), dt.dp (Enc.mono hi r2), shaped_q dt hk a ca, shaped_q dt hk b cb, by rw [eqv_decQ dt inst]; exact q _ S H (Ext.refl hi) rfl⟩
theorem d_neQ (ha : DE K B ta ρ a) (hb : DE K B tb ρ b) (inst : DecidableEq α) (dt : DatQ α) (hk : dt.k ≤ 64) (ca : canQ a) (cb : canQ b) : DE K B (tOp (rNeD K) ta tb) ρ (!decide (a = b)) :=
  d_op ha hb fun x y S H hi r1 r2 Q q => ⟨_, _, dt.dp (Enc.mono hi r1), dt.dp (Enc.mono hi r2), shaped_q dt hk a ca, shaped_q dt hk b cb, by rw [eqv_decQ dt inst]; exact q _ S H (Ext.refl hi) rfl⟩
theorem any_q (dt : DatQ α) {c : Bool} (hc : c = true ↔ a ∈ xs) : ((xs.map dt.d).any fun z => PyData.eqv z (dt.d a)) = c := by
  have : ((xs.map dt.d).any fun z => PyData.eqv z (dt.d a)) = true ↔ a ∈ xs := by
    rw [List.any_eq_true]
    constructor
    · rintro ⟨z, hz, e⟩
      obtain ⟨x, hx, rfl⟩ := List.mem_map.mp hz
      rw [← (dt.inj x a).mp e]
      exact hx
    · intro h
      exact ⟨_, List.mem_map.mpr ⟨a, h, rfl⟩, (dt.inj a a).mpr rfl⟩
  cases c with
  | true => exact this.mpr (hc.mp rfl)
  | false =>
    cases h : (xs.map dt.d).any fun z => PyData.eqv z (dt.d a) with
    | false => rfl
    | true => exact absurd (hc.mpr (this.mp h)) (by decide)
theorem d_inQ {c : Bool} (ha : DE K B ta ρ a) (hb : DE K B tb ρ (α := L α) xs) (hc : c = true ↔ a ∈ xs) (dt : DatQ α) (hk : dt.k ≤ 63) (ca : canQ a) (cb : ∀ x ∈ xs, canQ x) : DE K B (tOp (rInD K) ta tb) ρ c :=
  d_op ha hb fun x y S H hi r1 r2 Q q => ⟨dt.d a, xs.map dt.d, dt.dp (Enc.mono hi r1), (qL (dt := dt)).dp (Enc.mono (α := L α) hi r2), shaped_q dt (by omega) a ca, shaped_q (qL (dt := dt)) (by show dt.k + 1 ≤ 64; omega) xs (canL.mpr cb), by rw [any_q dt hc]; exact q _ S H (Ext.refl hi) rfl⟩
theorem d_notInQ {c : Bool} (ha : DE K B ta ρ a) (hb : DE K B tb ρ (α := L α) xs) (hc : c = true ↔ a ∈ xs) (dt : DatQ α) (hk : dt.k ≤ 63) (ca : canQ a) (cb : ∀ x ∈ xs, canQ x) : DE K B (tOp (rNotInD K) ta tb) ρ (!c) :=
  d_op ha hb fun x y S H hi r1 r2 Q q => ⟨dt.d a, xs.map dt.d, dt.dp (Enc.mono hi r1), (qL (dt := dt)).dp (Enc.mono (α := L α) hi r2), shaped_q dt (by omega) a ca, shaped_q (qL (dt := dt)) (by show dt.k + 1 ≤ 64; omega) xs (canL.mpr cb), by rw [any_q dt hc]; exact q _ S H (Ext.refl hi) rfl⟩
/-- dict(d): a copy of one's own -/
theorem dob_copy {d : Dct α} (h : DE K B te ρ d) : DOb K B (tCB (fun xs H Q => ∃ (a : Addr) (kvs : List (Key × V)), xs = [.ref a] ∧ Rd H a (.dK kvs) ∧ ∀ p, H p = none → Q (.ref p) (upd H p (.dK kvs))) (tCons te tNil)) ρ (ownD d.kv) := fun S0 H0 S H σ E Q q =>
  h S0 H0 S H σ E _ fun v S1 H1 e1 ⟨hl, p, kvs, ev, hq, r⟩ => by
    subst ev
    exact ⟨p, kvs, rfl, Rd.of (e1.i _ _ hq), fun x hx => q x _ S1 _ (e1.trans (Ext.priv e1.i hx)) (e1.free E.i hx) (e1.i.free hx) upd_same ⟨hl, kvs, rfl, r⟩⟩
end
end WW

set_option Elab.async false
set_option linter.all false
set_option maxRecDepth 100000
set_option maxHeartbeats 4000000
namespace WW
open PySem PySem.Spec PyProof.Rows L2
/-! ### repr of plain data -/
def rShow (K : PySem.W.Frag) : List V → Hp → VK → Prop := fun xs H Q => ∃ x d, xs = [x] ∧ Dp K H x d ∧ PyData.hasDict d = false ∧ d.showable = true ∧ d.depth ≤ 64 ∧ d.shown.length ≤ sizeLine ∧ Q (.str d.shown) H
theorem call_reprD {X : Cx} {j : Nat} (K : PySem.W.Frag) (gu : X.A.guards = some []) (hr : Room j X.A) (h : X.K = K := by rfl) : CallR X (.builtin "repr") (rShow K) := by
  subst h
  intro pins s σ H xs us Q I r q
  obtain ⟨x, d, rfl, hd, nd, sh, dep, len, q⟩ := q
  obtain ⟨u, rfl, rx⟩ := vals1 r
  have un := hr.un
  obtain ⟨as, rd⟩ := Dp.reads I d x u hd rx
  have go : ∀ h' tk u', (∀ b o, s.heap.get? b = some o → h'.get? b = some o) → EP X pins σ Q (.str d.shown u') { s with heap := h', toks := tk } := fun h' tk u' k => ⟨.str d.shown, H, I.kept k, ⟨u', rfl⟩, q⟩
  have same : ∀ tk u', EP X pins σ Q (.str d.shown u') { s with toks := tk } := fun tk u' => go s.heap tk u' fun _ _ e => e
  cases hd with
  | non => cases rx; exact PySem.P.repr_of_none (by simpa [PyData.shown] using same (s.toks + 1) s.toks)
  | bl b => cases rx; exact PySem.P.repr_of_bool (by simpa [PyData.shown] using same (s.toks + 1) s.toks)
  | int i =>
    obtain ⟨t, rfl⟩ := rx
    exact PySem.P.repr_of_int (by simpa [PyData.showable] using sh) (by simpa [PyData.shown] using same (s.toks + 1) s.toks)
  | str z =>
    obtain ⟨t, rfl⟩ := rx
    exact PySem.P.repr_of_str (by simpa [PyData.shown] using same (s.toks + 1) s.toks) (by simpa [PyData.shown] using len)
  | lst h1 h2 =>
    cases rx
    exact repr_of_reads' rd sh (PyData.noDict_hsm nd) gu (by omega) (fun _ _ e => e) (fun h' u' tk k => go h' tk u' k) len
  | tup h1 h2 =>
    cases rx
    exact repr_of_reads' rd sh (PyData.noDict_hsm nd) gu (by omega) (fun _ _ e => e) (fun h' u' tk k => go h' tk u' k) len
end WW

set_option Elab.async false
set_option linter.all false
set_option maxRecDepth 100000
set_option maxHeartbeats 4000000
namespace WW
open PySem PySem.Spec PyProof.Rows L2
/-! ### repr of any value without dicts -/
mutual
/-- every number is short -/
def AV.ish : AV → Bool
  | .int i => decide (i.natAbs < 10 ^ 12)
  | .lst xs => AV.ishs xs
  | .tup xs => AV.ishs xs
  | _ => true
def AV.ishs : List AV → Bool
  | [] => true
  | x :: xs => AV.ish x && AV.ishs xs
end
theorem log_short {i : Int} (h : i.natAbs < 10 ^ 12) : decide (i.natAbs.log2 < 1920) = true := by
  refine decide_eq_true ?_
  by_cases c : i.natAbs = 0
  · rw [c]
    decide
  · exact (Nat.log2_lt c).mpr (Nat.lt_of_lt_of_le h (Nat.le_trans (show 10 ^ 12 ≤ 2 ^ 40 by decide) (Nat.pow_le_pow_right (by decide) (by decide))))
mutual
theorem AV.shw : ∀ x : AV, x.ish = true → x.dat.showable = true ∧ x.dat.intsShort 13 = true ∧ x.dat.hasDict = false
  | .non, _ => by simp [AV.dat, PyData.showable, PyData.intsShort, PyData.hasDict]
  | .bl _, _ => by simp [AV.dat, PyData.showable, PyData.intsShort, PyData.hasDict]
  | .str _, _ => by simp [AV.dat, PyData.showable, PyData.intsShort, PyData.hasDict]
  | .int i, h => by
    rw [AV.ish] at h
    have h := of_decide_eq_true h
    refine ⟨?_, ?_, ?_⟩
    · rw [AV.dat, PyData.showable]; exact log_short h
    · rw [AV.dat, PyData.intsShort]; exact decide_eq_true (PyData.shown_int_le h)
    · rw [AV.dat, PyData.hasDict]
  | .lst xs, h => by
    rw [AV.ish] at h
    obtain ⟨h1, h2, h3⟩ := AV.shws xs h
    rw [AV.dat, PyData.showable, PyData.intsShort, PyData.hasDict]
    exact ⟨h1, h2, h3⟩
  | .tup xs, h => by
    rw [AV.ish] at h
    obtain ⟨h1, h2, h3⟩ := AV.shws xs h
    rw [AV.dat, PyData.showable, PyData.intsShort, PyData.hasDict]
    exact ⟨h1, h2, h3⟩
theorem AV.shws : ∀ xs : List AV, AV.ishs xs = true → PyData.showableAll (AV.dats xs) = true ∧ PyData.intsShortAll 13 (AV.dats xs) = true ∧ PyData.hasDictAll (AV.dats xs) = false
  | [], _ => by simp [AV.dats, PyData.showableAll, PyData.intsShortAll, PyData.hasDictAll]
  | x :: xs, h => by
    rw [AV.ishs, Bool.and_eq_true] at h
    obtain ⟨a1, a2, a3⟩ := AV.shw x h.1
    obtain ⟨b1, b2, b3⟩ := AV.shws xs h.2
    rw [AV.dats, PyData.showableAll, PyData.intsShortAll, PyData.hasDictAll, a1, a2, a3, b1, b2, b3]
    exact ⟨rfl, rfl, rfl⟩
end
theorem d_reprA {K : PySem.W.Frag} {B : Addr → Prop} {ρ : List Slot} {te : TE} {x : AV} {k : Nat} (h : DE K B te ρ x) (hs : x.ish = true) (gx : x.Gd k) (hk : k ≤ 64) (hw : x.dat.weight ≤ 2 ^ 20) : DE K B (tCB (rShow K) (tCons te tNil)) ρ x.dat.shown := fun S0 H0 S H σ E Q q =>
  h S0 H0 S H σ E _ fun v S1 H1 e1 r1 => by
    obtain ⟨s1, s2, s3⟩ := AV.shw x hs
    refine ⟨v, x.dat, rfl, AV.dp _ (AV.mono e1.i x r1), s3, s1, Nat.le_trans gx.d hk, PyData.shown_fits_of_layable0 (B := 13) (by decide) (by decide) ?_ s2, q _ S1 H1 e1 rfl⟩
    show (PyData.canLay0 x.dat && decide (PyData.depth x.dat ≤ 64) && decide (PyData.weight x.dat ≤ 2 ^ 20)) = true
    rw [gx.c, decide_eq_true (Nat.le_trans gx.d hk), decide_eq_true hw]
    rfl
end WW

set_option Elab.async false
set_option linter.all false
set_option maxRecDepth 100000
set_option maxHeartbeats 4000000
namespace WW
open PySem PySem.Spec PyProof.Rows L2
/-! ### how much plain values weigh -/
theorem wt_int {i : Int} (h : i.natAbs < 10 ^ 12) : (AV.int i).dat.weight ≤ 40 := by
  rw [AV.dat, PyData.weight]
  split
  · exact Nat.zero_le _
  · rename_i c
    have c : i.natAbs ≠ 0 := fun e => c (by
      have : i = 0 := Int.natAbs_eq_zero.mp e
      rw [this]
      rfl)
    have := (Nat.log2_lt c).mpr (Nat.lt_of_lt_of_le h (show 10 ^ 12 ≤ 2 ^ 40 by decide))
    omega
theorem wt_str {z : Str} : (AV.str z).dat.weight = z.length := by
  rw [AV.dat, PyData.weight]
  rfl
theorem wt_all {c : Nat} : ∀ {xs : List AV}, (∀ x ∈ xs, x.dat.weight ≤ c) → PyData.weightAll (AV.dats xs) ≤ xs.length * (c + 1)
  | [], _ => by simp [AV.dats, PyData.weightAll]
  | x :: xs, h => by
    rw [AV.dats, PyData.weightAll, List.length_cons, Nat.add_mul, Nat.one_mul]
    have h1 := h x List.mem_cons_self
    have h2 := wt_all (xs := xs) fun y hy => h y (List.mem_cons_of_mem _ hy)
    omega
theorem wt_tup {c : Nat} {xs : List AV} (h : ∀ x ∈ xs, x.dat.weight ≤ c) : (AV.tup xs).dat.weight ≤ xs.length * (c + 1) := by
  rw [AV.dat, PyData.weight]
  exact wt_all h
theorem wt_lst {c : Nat} {xs : List AV} (h : ∀ x ∈ xs, x.dat.weight ≤ c) : (AV.lst xs).dat.weight ≤ xs.length * (c + 1) := by
  rw [AV.dat, PyData.weight]
  exact wt_all h
theorem ishs_iff : ∀ {xs : List AV}, AV.ishs xs = true ↔ ∀ x ∈ xs, x.ish = true
  | [] => by simp [AV.ishs]
  | x :: xs => by rw [AV.ishs, Bool.and_eq_true, ishs_iff (xs := xs), List.forall_mem_cons]
end WW

set_option Elab.async false
set_option linter.all false
set_option maxRecDepth 100000
set_option maxHeartbeats 4000000
namespace WW
open PySem PySem.Spec PyProof.Rows L2
/-! ### enumerate(xs), xs a list -/
section
variable {K : PySem.W.Frag} {B : Addr → Prop} {ρ : List Slot} {te : TE} {α : Type} {e_α : Enc α}
def enumL {α : Type} (xs : List α) : List (Int × α) := xs.zipIdx.map fun p => ((p.2 : Int), p.1)
theorem enumL_at {α : Type} {xs : List α} {i : Nat} {p : Int × α} : (enumL xs)[i]? = some p ↔ ∃ x, xs[i]? = some x ∧ p = ((i : Int), x) := by
  unfold enumL
  rw [List.getElem?_map, List.getElem?_zipIdx]
  cases h : xs[i]? with
  | none => simp
  | some x =>
    simp
    exact ⟨fun h => h.symm, fun h => h.symm⟩
theorem enumL_len {α : Type} {xs : List α} : (enumL xs).length = xs.length := by
  unfold enumL
  rw [List.length_map, List.length_zipIdx]
theorem di_enum {xs : List α} (h : DE K B te ρ (α := L α) xs) : DI K B (iEnum K (tCons te tNil)) ρ (enumL xs) := fun S0 H0 S H σ E R q =>
  h S0 H0 S H σ E _ fun v S1 H1 e1 ⟨hl, p, vs, e, hq, r⟩ => by
    have hh : SqL K S1 p vs := SqL.of hq
    refine ⟨p, vs, by rw [e], Evl.ex_l e1.i hh, q _ S1 H1 e1 fun S2 H2 s2 x2 => have i2 := x2.i; ⟨fun i y hy => ?_, vs, Evl.ex_l (s2.trans i2) hh, by rw [r.length, enumL_len]; exact Nat.le_refl _⟩⟩
    obtain ⟨x, hx, rfl⟩ := enumL_at.mp hy
    obtain ⟨w, h1, h2⟩ := Paired.at r hx
    refine ⟨⟨vs, w, Evl.ex_l (s2.trans i2) hh, h1⟩, fun v H3 hyl => ?_⟩
    obtain ⟨T, x', rfl, hT, rfl, hall⟩ := hyl
    have z := hall vs (Evl.ex_l (s2.trans i2) hh)
    rw [h1] at z
    cases z
    have e4 : Ext B S2 H2 (upd S2 T (.tup [.int (i : Nat), w])) (upd H2 T (.tup [.int (i : Nat), w])) := Ext.new i2 hT
    exact ⟨_, e4, T, _, _, rfl, .inl (.inl upd_same), rfl, Enc.mono (s2.trans e4.s) h2⟩
end
end WW

set_option Elab.async false
set_option linter.all false
set_option maxRecDepth 100000
set_option maxHeartbeats 4000000
namespace WW
open PySem PySem.Spec PyProof.Rows L2
/-- what is told is a value; the heap grows -/
def spV (pre : List V → Hp → V → Prop) : Sp := fun vs H Q _ => ∃ v, pre vs H v ∧ ∀ H', Same H H' → Q v H'
def isThingV : V → Bool
  | .non => true
  | .int _ => true
  | _ => false
def belowV : V → V → Bool
  | .non, .int _ => true
  | .int i, .int j => decide (i < j)
  | _, _ => false
def risingV (xs : List V) : Bool := !((List.range (xs.length - 1)).map fun i => belowV (xs.getD (i + 1) .non) (xs.getD i .non)).any id
section
variable {P : Program} {w : World} {K : PySem.W.Frag} {mg : Str → Option Value} {base : Heap} {f : Addr} {fd : FuncData}
def spInteger (K : PySem.W.Frag) : Sp := spV fun vs H v => ∃ x sq, vs = [x] ∧ HasT K H x sq ∧ v = .bl (isIntV x)
def isNumV : V → Bool
  | .int i => decide (0 ≤ i)
  | _ => false
def spNumber (K : PySem.W.Frag) : Sp := spV fun vs H v => ∃ x sq, vs = [x] ∧ HasT K H x sq ∧ v = .bl (isNumV x)
def spSequence (K : PySem.W.Frag) : Sp := spV fun vs H v => ∃ x sq, vs = [x] ∧ HasT K H x sq ∧ v = .bl sq
def spThing (K : PySem.W.Frag) : Sp := spV fun vs H v => ∃ x sq, vs = [x] ∧ HasT K H x sq ∧ v = .bl (isThingV x)
def spBelow : Sp := spV fun vs H v => ∃ x y, vs = [x, y] ∧ isThingV x = true ∧ isThingV y = true ∧ v = .bl (belowV x y)
def spRising (K : PySem.W.Frag) : Sp := spV fun vs H v => ∃ a xs, vs = [.ref a] ∧ Sq K H a xs ∧ xs.length ≤ 50000 ∧ xs.all isThingV = true ∧ v = .bl (risingV xs)
theorem vgetD_at {xs : List V} {i : Nat} (h : i < xs.length) : atI xs (i : Int) = some (xs.getD i .non) := by
  rw [List.getD_eq_getElem?_getD, List.getElem?_eq_getElem h]
  exact atI_nat (List.getElem?_eq_getElem h)
theorem all_getD {xs : List V} {p : V → Bool} (h : xs.all p = true) {i : Nat} (hi : i < xs.length) : p (xs.getD i .non) = true := by
  rw [List.getD_eq_getElem?_getD, List.getElem?_eq_getElem hi]
  exact List.all_eq_true.mp h _ (List.getElem_mem hi)
end
end WW

set_option Elab.async false
set_option linter.all false
set_option maxRecDepth 100000
set_option maxHeartbeats 4000000
namespace WW
open PySem PySem.Spec PyProof.Rows L2
/-- an argument: no sequence, or a sequence of these -/
def Arg (K : PySem.W.Frag) (H : Hp) (x : V) : Option (List V) → Prop
  | none => HasT K H x false
  | some xs => ∃ a, x = .ref a ∧ Sq K H a xs ∧ xs.length ≤ 20000 ∧ ∀ y ∈ xs, ∃ sq, HasT K H y sq
def intOf : V → Int
  | .int i => i
  | _ => 0
def hd (xs : List V) : V := xs.getD 0 .non
def lst (xs : List V) : V := xs.getD (xs.length - 1) .non
def wrongA (xs ys : List V) (m : V) : V :=
  if (ys.isEmpty || !ys.all isThingV) = true then .str "again"
  else if (!risingV (cutV xs (some (-1)) none ++ ys) || (decide (hd ys = .non) && !decide (lst ys = .non))) = true then .str "again"
  else if isNumV m = false then .str "more"
  else if hd ys = .non then (if m = .int 0 then .non else .str "more")
  else if intOf (lst ys) ≤ intOf (hd ys) + intOf m then .non else .str "more"
def wrongB (xs : List V) (m : V) : Option (List V) → V
  | none => .str "again"
  | some ys => wrongA xs ys m
def wrongW (o1 o2 : Option (List V)) (m : V) : V := match o1 with
  | none => .str "first"
  | some xs => if (xs.all isThingV && risingV xs) = true then wrongB xs m o2 else .str "first"
def spWrong (K : PySem.W.Frag) : Sp := spV fun vs H v => ∃ x y m o1 o2 sq, vs = [x, y, m] ∧ Arg K H x o1 ∧ Arg K H y o2 ∧ HasT K H m sq ∧ v = wrongW o1 o2 m
theorem Arg.ex {K : PySem.W.Frag} {H H' : Hp} {x : V} {o : Option (List V)} (e : Same H H') (h : Arg K H x o) : Arg K H' x o := by
  cases o with
  | none => exact HasT.ex e h
  | some xs =>
    obtain ⟨a, r, hq, hl, hy⟩ := h
    exact ⟨a, r, hq.ex e, hl, fun y m => ⟨_, (hy y m).choose_spec.ex e⟩⟩
theorem risingV_at {xs : List V} (h : risingV xs = true) {i : Nat} (hi : i + 1 < xs.length) : belowV (xs.getD (i + 1) .non) (xs.getD i .non) = false := by
  unfold risingV at h
  rw [Bool.not_eq_true', List.any_eq_false] at h
  have q := h (belowV (xs.getD (i + 1) .non) (xs.getD i .non)) (List.mem_map.mpr ⟨i, List.mem_range.mpr (by omega), rfl⟩)
  simpa using q
theorem risingV_of {xs : List V} (h : ∀ i, i + 1 < xs.length → belowV (xs.getD (i + 1) .non) (xs.getD i .non) = false) : risingV xs = true := by
  unfold risingV
  rw [Bool.not_eq_true', List.any_eq_false]
  intro b hb
  obtain ⟨i, hi, rfl⟩ := List.mem_map.mp hb
  rw [List.mem_range] at hi
  simpa using h i (by omega)
theorem rising_ints {xs : List V} (ht : xs.all isThingV = true) (h : risingV xs = true) (h0 : isIntV (xs.getD 0 .non) = true) : ∀ i, i < xs.length → isIntV (xs.getD i .non) = true
  | 0, _ => h0
  | i + 1, hi => by
    have ih := rising_ints ht h h0 i (by omega)
    have q := risingV_at h hi
    have t := all_getD ht hi
    revert q t ih
    cases xs.getD (i + 1) V.non <;> cases xs.getD i V.non <;> intro ih q t <;> first | rfl | (cases ih; done) | (cases t; done) | (cases q; done)
theorem rising_drop {xs ys : List V} (h : risingV (xs ++ ys) = true) : risingV ys = true := by
  refine risingV_of fun i hi => ?_
  have q := risingV_at (xs := xs ++ ys) h (i := xs.length + i) (by rw [List.length_append]; omega)
  simp only [List.getD_eq_getElem?_getD] at q ⊢
  rw [List.getElem?_append_right (by omega), List.getElem?_append_right (by omega)] at q
  rw [show xs.length + i + 1 - xs.length = i + 1 by omega, show xs.length + i - xs.length = i by omega] at q
  exact q
section
variable {P : Program} {w : World} {K : PySem.W.Frag} {mg : Str → Option Value} {base : Heap} {f : Addr} {fd : FuncData}
/-- all([is_thing(x) for x in xs]) -/
theorem all_things {σ : L2.St} {H : Hp} {Q : VK} {tl : TE} {a : Addr} {j : Nat} {xs : List V} (hj : j < σ.length) (hv : ∀ R : VK, R (.ref a) H → tl σ H R) (hq : Sq K H a xs) (hl : xs.length ≤ 20000) (hy : ∀ y ∈ xs, ∃ sq, HasT K H y sq)
    (k : ∀ H', Same H H' → Q (.bl (xs.all isThingV)) H') : tCB (rAll K) (tCons (tLc (iSeq K tl) (gName j) tYes (tCall (spThing K) [] E0 (tCons (tVar j) tNil)) [j]) tNil) σ H Q := by
  show tLc (iSeq K tl) (gName j) tYes (tCall (spThing K) [] E0 (tCons (tVar j) tNil)) [j] σ H (fun x H1 => rAll K [x] H1 Q)
  refine lc_sq (K := K) (fun x => .bl (isThingV x)) hv hq (by omega) (fun x hx H1 s1 R r => ?_) fun D H' s1 _ hD => ?_
  · obtain ⟨sq, ht⟩ := hy x hx
    refine ⟨x, ?_, _, ⟨x, sq, rfl, ht.ex s1, rfl⟩, r⟩
    rw [List.getElem?_set_self]
    rw [wipe_length]
    exact hj
  · refine ⟨D, xs.map isThingV, rfl, .inl (.inl ?_), ?_⟩
    · rw [hD, List.map_map]
      rfl
    · have e : (xs.map isThingV).all id = xs.all isThingV := by rw [List.all_map]; rfl
      rw [e]
      exact k H' s1
set_option maxHeartbeats 8000000 in
end
end WW

set_option Elab.async false
set_option linter.all false
set_option maxRecDepth 100000
set_option maxHeartbeats 4000000
namespace WW
open PySem PySem.Spec PyProof.Rows L2
def wide (ag : List Int) (m : Int) (t : Nat) : List Int := ag ++ (ag.take t).map (· + m)
def isTurn (ag : List Int) (m : Int) (t : Nat) : Bool :=
  if (ag.length : Int) % (t : Int) ≠ 0 ∨ m * (t : Int) % (ag.length : Int) ≠ 0 then false
  else (List.range ag.length).all fun i => decide ((wide ag m t).getD (i + t) 0 - (wide ag m t).getD i 0 = m * (t : Int) / (ag.length : Int))
theorem cut_to {xs : List V} {t : Nat} : cutV xs none (some (t : Int)) = xs.take t := by
  unfold cutV
  rw [HT.sIx_none, HT.sIx_nat, List.drop_zero, Nat.sub_zero]
  by_cases h : t ≤ xs.length
  · rw [Nat.min_eq_left h]
  · rw [Nat.min_eq_right (by omega), List.take_length, List.take_of_length_le (by omega)]
theorem ints_at {ns : List Int} {i : Nat} (h : i < ns.length) : atI (ns.map V.int) (i : Int) = some (.int (ns.getD i 0)) := by
  refine atI_nat ?_
  rw [List.getElem?_map, List.getD_eq_getElem?_getD, List.getElem?_eq_getElem h]
  rfl
theorem dec_int {a b : Int} : decide (V.int a = V.int b) = decide (a = b) := by
  by_cases h : a = b
  · rw [decide_eq_true h, decide_eq_true (by rw [h])]
  · rw [decide_eq_false h, decide_eq_false (fun z => h (V.int.inj z))]
theorem wide_len {ag : List Int} {m : Int} {t : Nat} (h : t ≤ ag.length) : (wide ag m t).length = ag.length + t := by
  unfold wide
  rw [List.length_append, List.length_map, List.length_take, Nat.min_eq_left h]
section
variable {P : Program} {w : World} {K : PySem.W.Frag} {mg : Str → Option Value} {base : Heap} {f : Addr} {fd : FuncData}
def spTurn (K : PySem.W.Frag) : Sp := spV fun vs H v => ∃ (a : Addr) (ag : List Int) (m : Int) (t : Nat), vs = [.ref a, .int m, .int (t : Int)] ∧ Sq K H a (ag.map V.int) ∧ 0 < t ∧ t ≤ ag.length ∧ ag.length ≤ 20000 ∧ v = .bl (isTurn ag m t)
end
end WW

set_option Elab.async false
set_option linter.all false
set_option maxRecDepth 100000
set_option maxHeartbeats 4000000
namespace WW
open PySem PySem.Spec PyProof.Rows L2
def turns (ag : List Int) (m : Int) : List Nat := (List.range ag.length).filter fun i => isTurn ag m (i + 1)
def turnOf (ag : List Int) (m : Int) : Nat := (turns ag m).headD 0 + 1
def lastI (ag : List Int) : Int := ag.getD (ag.length - 1) 0
def shrinkR (m : Int) : List V → List Int → List V × List Int
  | .int x :: r, ag => if x + m = lastI ag then shrinkR m r (x :: ag.dropLast) else (.int x :: r, ag)
  | r, ag => (r, ag)
def leastF (fs : List V) (ag : List Int) (m : Int) : List V × List Int × Int :=
  ((shrinkR (m * (turnOf ag m : Int) / (ag.length : Int)) fs.reverse (ag.take (turnOf ag m))).1.reverse, (shrinkR (m * (turnOf ag m : Int) / (ag.length : Int)) fs.reverse (ag.take (turnOf ag m))).2, m * (turnOf ag m : Int) / (ag.length : Int))
def leastV (fs ys : List V) (m : Int) : List V × List V × Int :=
  if hd ys = .non then ([], [.non], 0) else ((leastF fs (ys.map intOf) m).1, (leastF fs (ys.map intOf) m).2.1.map V.int, (leastF fs (ys.map intOf) m).2.2)
theorem isTurn_len {ag : List Int} {m : Int} (h : 0 < ag.length) : isTurn ag m ag.length = true := by
  unfold isTurn
  rw [if_neg (by simp)]
  rw [List.all_eq_true]
  intro i hi
  rw [List.mem_range] at hi
  refine decide_eq_true ?_
  have e : m * (ag.length : Int) / (ag.length : Int) = m := Int.mul_ediv_cancel _ (by omega)
  rw [e]
  unfold wide
  rw [List.take_length]
  simp only [List.getD_eq_getElem?_getD]
  rw [List.getElem?_append_right (by omega), List.getElem?_append_left hi, List.getElem?_map, show i + ag.length - ag.length = i by omega, List.getElem?_eq_getElem hi]
  simp only [Option.map_some, Option.getD_some]
  omega
theorem turns_ne {ag : List Int} {m : Int} (h : 0 < ag.length) : turns ag m ≠ [] := by
  have q : ag.length - 1 ∈ turns ag m := by
    unfold turns
    rw [List.mem_filter, List.mem_range]
    refine ⟨by omega, ?_⟩
    rw [show ag.length - 1 + 1 = ag.length by omega]
    exact isTurn_len h
  exact List.ne_nil_of_mem q
theorem turnOf_mem {ag : List Int} {m : Int} (h : 0 < ag.length) : turnOf ag m - 1 ∈ turns ag m := by
  unfold turnOf
  rw [Nat.add_sub_cancel]
  cases e : turns ag m with
  | nil => exact absurd e (turns_ne h)
  | cons x r => exact List.mem_cons_self
theorem turnOf_pos (ag : List Int) (m : Int) : 0 < turnOf ag m := Nat.succ_pos _
theorem turnOf_le {ag : List Int} {m : Int} (h : 0 < ag.length) : turnOf ag m ≤ ag.length := by
  have q := turnOf_mem (m := m) h
  unfold turns at q
  rw [List.mem_filter, List.mem_range] at q
  have := turnOf_pos ag m
  omega
theorem turnOf_is {ag : List Int} {m : Int} (h : 0 < ag.length) : isTurn ag m (turnOf ag m) = true := by
  have q := turnOf_mem (m := m) h
  unfold turns at q
  rw [List.mem_filter] at q
  rw [show turnOf ag m - 1 + 1 = turnOf ag m from Nat.succ_pred_eq_of_pos (turnOf_pos ag m)] at q
  exact q.2
theorem at_last {xs : List V} {v : V} : atI (xs ++ [v]) (-1) = some v := L2.atI_last xs v
theorem ints_last {ag : List Int} (h : 0 < ag.length) : atI (ag.map V.int) (-1) = some (.int (lastI ag)) := by
  have hn : ag ≠ [] := List.ne_nil_of_length_pos h
  have e : ag = ag.dropLast ++ [ag.getLast hn] := (List.dropLast_concat_getLast hn).symm
  have z : lastI ag = ag.getLast hn := by
    unfold lastI
    rw [List.getD_eq_getElem?_getD, List.getElem?_eq_getElem (by omega), List.getLast_eq_getElem]
    rfl
  rw [z]
  conv => lhs; rw [e, List.map_append]
  exact at_last
theorem cut_but {xs : List V} (h : 0 < xs.length) : cutV xs none (some (-1)) = xs.dropLast := by
  unfold cutV
  rw [HT.sIx_none]
  have e : HT.sIx xs.length xs.length (some (-1)) = xs.length - 1 := by
    show (if (-1 : Int) < 0 then ((-1 : Int) + (xs.length : Int)).toNat else min (-1 : Int).toNat xs.length) = xs.length - 1
    rw [if_pos (by decide)]
    omega
  rw [e, List.drop_zero, Nat.sub_zero, List.dropLast_eq_take]
section
variable {P : Program} {w : World} {K : PySem.W.Frag} {mg : Str → Option Value} {base : Heap} {f : Addr} {fd : FuncData}
def spLeast (K : PySem.W.Frag) : Sp := fun vs H Q _ => ∃ (a b : Addr) (fs ys : List V) (m : Int), vs = [.ref a, .ref b, .int m] ∧ Sq K H a fs ∧ Sq K H b ys ∧ fs.length ≤ 20000 ∧ ys.length ≤ 20000 ∧ 0 < ys.length ∧ fs.all isThingV = true ∧ (hd ys = .non ∨ ∃ ag : List Int, ys = ag.map V.int) ∧
  ∀ p p1 p2 H', Same H H' → H' p = some (.tup [.ref p1, .ref p2, .int (leastV fs ys m).2.2]) → H' p1 = some (.tup (leastV fs ys m).1) → H' p2 = some (.tup (leastV fs ys m).2.1) → H p1 = none → H p2 = none → Q (.ref p) H'
/-- (tuple(a), tuple(b), m), of two lists -/
theorem ret3 {σ : L2.St} {H : Hp} {Q : VK} {f1 a1 : Addr} {xs ys : List V} {m : V} {r : L2.St} (e : σ = some (.ref f1) :: some (.ref a1) :: some m :: r) (h1 : H f1 = some (.lst xs)) (h2 : H a1 = some (.lst ys))
    (k : ∀ p p1 p2 H', Same H H' → H' p = some (.tup [.ref p1, .ref p2, m]) → H' p1 = some (.tup xs) → H' p2 = some (.tup ys) → H p1 = none → H p2 = none → Q (.ref p) H') :
    tTup (tCons (tCB (rTupQ K) (tCons (tVar 0) tNil)) (tCons (tCB (rTupQ K) (tCons (tVar 1) tNil)) (tCons (tVar 2) tNil))) σ H Q := by
  subst e
  refine ⟨_, rfl, ⟨f1, xs, rfl, .inl ⟨.inl (.inl h1), fun p1 n1 => ⟨_, rfl, ⟨a1, ys, rfl, .inl ⟨.inl (.inl (same_new n1 _ _ h2)), fun p2 n2 => ⟨_, rfl, by show 3 ≤ sizeLine; decide, fun p n3 => ?_⟩⟩⟩⟩⟩⟩⟩
  have n12 : p1 ≠ p2 := ne_of_none upd_same n2
  have h1' : (upd (upd (upd H p1 (.tup xs)) p2 (.tup ys)) p (.tup [.ref p1, .ref p2, m])) p1 = some (.tup xs) := same_new n3 _ _ ((upd_ne n12).trans upd_same)
  exact k p p1 p2 _ (((same_new n1).trans (same_new n2)).trans (same_new n3)) upd_same h1' (same_new n3 _ _ upd_same) n1 ((same_new n1).free n2)
theorem shrink_nil {m : Int} {bg : List Int} : shrinkR m [] bg = ([], bg) := rfl
theorem shrink_go {m x : Int} {r : List V} {bg : List Int} (h : x + m = lastI bg) : shrinkR m (.int x :: r) bg = shrinkR m r (x :: bg.dropLast) := by
  show (if x + m = lastI bg then shrinkR m r (x :: bg.dropLast) else (.int x :: r, bg)) = _
  rw [if_pos h]
theorem shrink_no {m x : Int} {r : List V} {bg : List Int} (h : ¬ x + m = lastI bg) : shrinkR m (.int x :: r) bg = (.int x :: r, bg) := by
  show (if x + m = lastI bg then shrinkR m r (x :: bg.dropLast) else (.int x :: r, bg)) = _
  rw [if_neg h]
end
end WW

set_option Elab.async false
set_option linter.all false
set_option maxRecDepth 100000
set_option maxHeartbeats 4000000
namespace WW
open PySem PySem.Spec PyProof.Rows L2
def SameBut (x : Addr) (H H' : Hp) : Prop := ∀ a o, a ≠ x → H a = some o → H' a = some o
/-- a row stands at x -/
def RowAt (C : Addr) (H : Hp) (x : Addr) (fs ys : List V) (m : Int) : Prop := ∃ dx p1 p2, H x = some (.ins C dx [("first", .ref p1), ("again", .ref p2), ("more", .int m)]) ∧ H p1 = some (.tup fs) ∧ H p2 = some (.tup ys)
theorem RowAt.ex {C : Addr} {H H' : Hp} {x : Addr} {fs ys : List V} {m : Int} (e : Same H H') (h : RowAt C H x fs ys m) : RowAt C H' x fs ys m := by
  obtain ⟨dx, p1, p2, h1, h2, h3⟩ := h
  exact ⟨dx, p1, p2, e _ _ h1, e _ _ h2, e _ _ h3⟩
/-- the class of rows -/
structure RowC (K : PySem.W.Frag) (C : Addr) : Prop where
  cls : Cls K C
  nF : NoAttr K C "first"
  nA : NoAttr K C "again"
  nM : NoAttr K C "more"
theorem map_intOf {ys : List V} (h : ∀ i, i < ys.length → isIntV (ys.getD i .non) = true) : ys = (ys.map intOf).map V.int := by
  refine List.ext_getElem (by rw [List.length_map, List.length_map]) fun i h1 h2 => ?_
  have q := h i h1
  rw [List.getD_eq_getElem?_getD, List.getElem?_eq_getElem h1, Option.getD_some] at q
  rw [List.getElem_map, List.getElem_map]
  revert q
  cases ys[i] <;> intro q <;> first | rfl | (cases q; done)
theorem wrong_ok {fs ys : List V} {m : V} (h : wrongW (some fs) (some ys) m = .non) : fs.all isThingV = true ∧ risingV fs = true ∧ 0 < ys.length ∧ ys.all isThingV = true ∧ risingV (cutV fs (some (-1)) none ++ ys) = true ∧ isNumV m = true ∧ (hd ys = .non ∨ ∃ ag : List Int, ys = ag.map V.int) := by
  unfold wrongW at h
  dsimp only at h
  by_cases c1 : (fs.all isThingV && risingV fs) = true
  · rw [if_pos c1] at h
    have h : wrongA fs ys m = .non := h
    unfold wrongA at h
    by_cases c2 : (ys.isEmpty || !ys.all isThingV) = true
    · rw [if_pos c2] at h
      cases h
    · rw [if_neg c2] at h
      by_cases c3 : (!risingV (cutV fs (some (-1)) none ++ ys) || (decide (hd ys = .non) && !decide (lst ys = .non))) = true
      · rw [if_pos c3] at h
        cases h
      · rw [if_neg c3] at h
        by_cases c4 : isNumV m = false
        · rw [if_pos c4] at h
          cases h
        · have k1 := Bool.and_eq_true_iff.mp c1
          have k2 : ys.isEmpty = false ∧ ys.all isThingV = true := by
            revert c2
            cases ys.isEmpty <;> cases ys.all isThingV <;> simp
          have k3 : risingV (cutV fs (some (-1)) none ++ ys) = true := by
            revert c3
            cases risingV (cutV fs (some (-1)) none ++ ys) <;> simp
          have k4 : isNumV m = true := by
            revert c4
            cases isNumV m <;> simp
          have k5 : 0 < ys.length := by
            cases ys with
            | nil => cases k2.1
            | cons _ _ => exact Nat.succ_pos _
          refine ⟨k1.1, k1.2, k5, k2.2, k3, k4, ?_⟩
          by_cases c5 : hd ys = .non
          · exact .inl c5
          · refine .inr ⟨ys.map intOf, map_intOf (rising_ints k2.2 (rising_drop k3) ?_)⟩
            have t := all_getD k2.2 k5
            revert t c5
            unfold hd
            cases ys.getD 0 V.non <;> intro c5 t <;> first | rfl | exact absurd rfl c5 | (cases t; done)
  · rw [if_neg c1] at h
    cases h
section
variable {P : Program} {w : World} {K : PySem.W.Frag} {mg : Str → Option Value} {base : Heap} {f : Addr} {fd : FuncData}
def spInit (K : PySem.W.Frag) (C : Addr) : Sp := fun vs H Q _ => ∃ (x dx : Addr) (v1 v2 : V) (fs ys : List V) (m : Int), vs = [.ref x, v1, v2, .int m] ∧ H x = some (.ins C dx []) ∧ Arg K H v1 (some fs) ∧ Arg K H v2 (some ys) ∧ wrongW (some fs) (some ys) (.int m) = .non ∧
  ∀ H', SameBut x H H' → RowAt C H' x (leastV fs ys m).1 (leastV fs ys m).2.1 (leastV fs ys m).2.2 → Q .non H'
/-- tuple(x) of a sequence -/
theorem tupq {H : Hp} {a : Addr} {xs : List V} {Q : VK} (h : Sq K H a xs) (k : ∀ p H', Same H H' → Sq K H' p xs → Q (.ref p) H') : rTupQ K [.ref a] H Q := by
  rcases h with h | h
  · exact ⟨⟨a, xs, rfl, .inl ⟨h, fun l hl => k l _ (same_new hl) (.t upd_same)⟩⟩⟩
  · exact ⟨⟨a, xs, rfl, .inr ⟨h, k a H (Same.refl H) (.inr h)⟩⟩⟩
end
end WW

set_option Elab.async false
set_option linter.all false
set_option maxRecDepth 100000
set_option maxHeartbeats 4000000
namespace WW
open PySem PySem.Spec PyProof.Rows L2
theorem SameBut.refl (x : Addr) (H : Hp) : SameBut x H H := fun _ _ _ h => h
theorem SameBut.trans {x : Addr} {H H1 H2 : Hp} (a : SameBut x H H1) (b : SameBut x H1 H2) : SameBut x H H2 := fun c o n h => b c o n (a c o n h)
theorem SameBut.of {x : Addr} {H H' : Hp} (e : Same H H') : SameBut x H H' := fun a o _ h => e a o h
theorem SameBut.upd (x : Addr) (H : Hp) (o : HO) : SameBut x H (upd H x o) := fun _ _ n h => (upd_ne n).trans h
theorem SameBut.sq {x a : Addr} {K : PySem.W.Frag} {H H' : Hp} {xs : List V} (e : SameBut x H H') (n : a ≠ x) (h : Sq K H a xs) : Sq K H' a xs := by
  rcases h with ((h | ⟨u, h⟩) | h) | ((h | ⟨u, h⟩) | h)
  · exact .inl (.inl (.inl (e _ _ n h)))
  · exact .inl (.inl (.inr ⟨u, e _ _ n h⟩))
  · exact .inl (.inr h)
  · exact .inr (.inl (.inl (e _ _ n h)))
  · exact .inr (.inl (.inr ⟨u, e _ _ n h⟩))
  · exact .inr (.inr h)
/-- none of what was free is the box -/
theorem Box.ne {H : Hp} {b a : Addr} (h : Box H b) (n : H a = none) : a ≠ b := fun z => by
  obtain ⟨x, y, w, e⟩ := h
  rw [z, e] at n
  cases n
theorem Box.ex {H H' : Hp} {b : Addr} (e : Same H H') (h : Box H b) : Box H' b := by
  obtain ⟨x, y, z, h⟩ := h
  exact ⟨x, y, z, e _ _ h⟩
section
variable {P : Program} {w : World} {K : PySem.W.Frag} {mg : Str → Option Value} {base : Heap} {f : Addr} {fd : FuncData}
def spBox (K : PySem.W.Frag) : Sp := fun vs H Q _ => ∃ (a : Addr) (ns : List Int) (k : Int), vs = [.ref a, .int k] ∧ SqL K H a (ns.map V.int) ∧ 0 ≤ k ∧ ns.length ≤ 1000 ∧
  ∀ p H', Same H H' → H p = none → Box H' p → Q (.ref p) H'

abbrev N_l_box : List Str := ["_law_script", "_law_k", "_law_cell", "_law_seed"]
theorem sc_l_box : FnScope N_l_box ["_law_script", "_law_k"] (defScope s_l_box) := ⟨rfl, rfl, rfl, by decide +kernel, rfl, by decide +kernel, by decide +kernel⟩

theorem ok_box (F : FnP K "_law_box" s_l_box f fd) (m_int : mg "int" = none) (m_len : mg "len" = none) (m_abs : mg "abs" = none) : FnOk P w K mg base CX0 1 f fd ["_law_script", "_law_k"] (spBox K) := by
  refine F.ok sc_l_box (fun vs H Q E h => ?_) (fun cdv A outer s H vs Q E hr h => ?_)
  · obtain ⟨a, ns, k, rfl, _⟩ := h
    rfl
  · obtain ⟨a, ns, k, rfl, hq, k0, hl, q⟩ := h
    refine ⟨_, PSs.nox (pss_cons (ps_set (i := 2) sc_l_box.nd rfl (.inl rfl) (pe_op op_add (pe_op op_mul (pe_int) (pv 1)) (pe_int)))
 (pss_cons (ps_if (pt_cmpR op_lt (pv 1) (pe_callB (call_lenK K) rfl m_len (by decide +kernel) (pa_cons (pv 0) (pa_nil))) (nomark _)) (pss_one (ps_set (i := 2) sc_l_box.nd rfl (.inl rfl) (pe_callB call_abs rfl m_abs (by decide +kernel) (pa_cons (pe_ix (ix_sqK K) (pv 0) (pv 1) (fun _ _ => rfl)) (pa_nil))))) (pss_one (ps_if (pt_cmpR op_gt (pe_callB (call_lenK K) rfl m_len (by decide +kernel) (pa_cons (pv 0) (pa_nil))) (pe_int) (nomark _)) (pss_one (ps_set (i := 2) sc_l_box.nd rfl (.inl rfl) (pe_op op_add (pv 2) (pe_op op_mul (pe_op op_mod (pe_callTy call_int1 rfl m_int (by decide +kernel) (pa_cons (pe_callB call_abs rfl m_abs (by decide +kernel) (pa_cons (pe_callTy call_int1 rfl m_int (by decide +kernel) (pa_cons (pe_ix (ix_sqK K) (pv 0) (pe_op op_mod (pe_callTy call_int1 rfl m_int (by decide +kernel) (pa_cons (pv 1) (pa_nil))) (pe_callB (call_lenK K) rfl m_len (by decide +kernel) (pa_cons (pv 0) (pa_nil)))) (fun _ _ => rfl)) (pa_nil))) (pa_nil))) (pa_nil))) (pe_int)) (pe_int))))) (pss_nil))))
 (pss_cons (ps_set (i := 3) sc_l_box.nd rfl (.inl rfl) (pe_op op_add (pe_op op_mod (pe_callTy call_int1 rfl m_int (by decide +kernel) (pa_cons (pe_op op_add (pe_op op_mul (pe_op op_mod (pe_callTy call_int1 rfl m_int (by decide +kernel) (pa_cons (pv 2) (pa_nil))) (pe_int)) (pe_int)) (pe_op op_mul (pe_int) (pv 1))) (pa_nil))) (pe_int)) (pe_int)))
 (pss_one (ps_ret (pe_lst (pa_cons (pe_ix (ix_sqK K) (pe_lst (pa_cons (pe_int) (pa_cons (pv 2) (pa_nil)))) (pe_callTy call_int1 rfl m_int (by decide +kernel) (pa_cons (pe_cmpR op_ge (pv 2) (pe_op op_pow (pe_int) (pe_int)) (nomark _)) (pa_nil))) (fun _ _ => rfl)) (pa_cons (pv 3) (pa_cons (pe_int) (pa_nil)))))))))), ?_⟩
    have hsq : Sq K H a (ns.map V.int) := .inl hq
    have hlen : ((ns.map V.int).length : Int) = (ns.length : Int) := by rw [List.length_map]
    -- what stands behind the cell
    refine ⟨_, rfl, _, _, rfl, rfl, .inl ⟨by decide, by decide⟩, _, _, rfl, rfl, ?_⟩
    refine ⟨_, rfl, _, rfl, a, _, rfl, hsq, _, _, rfl, rfl, _, rfl, ?_⟩
    have fin : ∀ c : Int, (tSeq
      (tAsg (tOp (rI0 fun i j => V.int (i + j)) (tOp (rI (fun _ j => 0 < j) fun i j => V.int (i % j)) (tCB (fun xs H Q => (∃ i, xs = [V.int i] ∧ Q (V.int i) H) ∨ ∃ k, xs = [V.bl k] ∧ Q (V.int (if k = true then 1 else 0)) H)
        (tCons (tOp (rI0 fun i j => V.int (i + j)) (tOp (rI CMul fun i j => V.int (i * j)) (tOp (rI (fun _ j => 0 < j) fun i j => V.int (i % j)) (tCB (fun xs H Q => (∃ i, xs = [V.int i] ∧ Q (V.int i) H) ∨ ∃ k, xs = [V.bl k] ∧ Q (V.int (if k = true then 1 else 0)) H) (tCons (tVar 2) tNil)) (tC (.int 2147483629))) (tC (.int 48271))) (tOp (rI CMul fun i j => V.int (i * j)) (tC (.int 42043)) (tVar 1))) tNil)) (tC (.int 2147483629))) (tC (.int 1))) (gName 3))
      (tRet (tLst (tCons (tOp (rIxQ K) (tLst (tCons (tC (.int 0)) (tCons (tVar 2) tNil))) (tCB (fun xs H Q => (∃ i, xs = [V.int i] ∧ Q (V.int i) H) ∨ ∃ k, xs = [V.bl k] ∧ Q (V.int (if k = true then 1 else 0)) H) (tCons (tOp (rI0 fun i j => V.bl (decide (j ≤ i))) (tVar 2) (tOp (rI CPow fun i j => V.int (i ^ j.toNat)) (tC (.int 10)) (tC (.int 18)))) tNil))) (tCons (tVar 3) (tCons (tC (.int 0)) tNil))))))
      { nx := fun _ H' => Q .non H', rt := Q } [some (.ref a), some (.int k), some (.int c), none] H := by
      intro c
      refine ⟨_, rfl, .inl ⟨_, rfl, _, _, rfl, rfl, (by show (0 : Int) < _; decide), _, _, rfl, rfl, .inr ⟨by decide, by decide⟩, _, rfl, _, _, rfl, rfl, .inl ⟨by decide, by decide⟩, _, _, rfl, rfl, .inl ⟨_, rfl, _, _, rfl, rfl, (by show (0 : Int) < _; decide), _, _, rfl, rfl, ?_⟩⟩⟩
      refine ⟨_, rfl, by show 2 ≤ sizeLine; decide, fun p np => ?_⟩
      refine ⟨_, rfl, _, _, rfl, rfl, ⟨by decide, by decide, by decide⟩, _, _, rfl, rfl, .inr ⟨_, rfl, ?_⟩⟩
      have s1 : Same H (upd H p (.lst [.int 0, .int c])) := same_new np
      by_cases hc : (10 : Int) ^ (18 : Int).toNat ≤ c
      · rw [decide_eq_true hc]
        refine ⟨p, _, 1, _, rfl, rfl, .l upd_same, rfl, _, rfl, by show 3 ≤ sizeLine; decide, fun p2 n2 => ?_⟩
        exact q p2 _ (s1.trans (same_new n2)) (s1.free n2) ⟨_, _, _, upd_same⟩
      · rw [decide_eq_false hc]
        refine ⟨p, _, 0, _, rfl, rfl, .l upd_same, rfl, _, rfl, by show 3 ≤ sizeLine; decide, fun p2 n2 => ?_⟩
        exact q p2 _ (s1.trans (same_new n2)) (s1.free n2) ⟨_, _, _, upd_same⟩
    refine ite2 (fun c => ?_) (fun c => ?_)
    · have c := of_decide_eq_true c
      rw [hlen] at c
      have hk : k.toNat < (ns.map V.int).length := by rw [List.length_map]; omega
      have e : (ns.map V.int)[k.toNat] = .int (ns[k.toNat]'(by omega)) := by rw [List.getElem_map]
      have ea := at_toNat (xs := ns.map V.int) k0 hk
      rw [e] at ea
      exact ⟨_, rfl, _, rfl, a, _, _, _, rfl, rfl, hsq, ea, _, rfl, fin _⟩
    · refine ⟨_, rfl, a, _, rfl, hsq, _, _, rfl, rfl, _, rfl, ite2 (fun c2 => ?_) (fun c2 => fin _)⟩
      have c2 := of_decide_eq_true c2
      rw [hlen] at c2
      have hp : (0 : Int) < ((ns.map V.int).length : Int) := by rw [hlen]; exact c2
      have h1 := Int.emod_nonneg k (b := ((ns.map V.int).length : Int)) (by omega)
      have h2 := Int.emod_lt_of_pos k hp
      have hk : (k % ((ns.map V.int).length : Int)).toNat < (ns.map V.int).length := by omega
      have hk2 : (k % ((ns.map V.int).length : Int)).toNat < ns.length := by rw [List.length_map] at hk; rw [List.length_map]; exact hk
      have e : (ns.map V.int)[(k % ((ns.map V.int).length : Int)).toNat] = .int (ns[(k % ((ns.map V.int).length : Int)).toNat]'hk2) := by rw [List.getElem_map]
      have ea := at_toNat (xs := ns.map V.int) h1 hk
      rw [e] at ea
      exact ⟨_, rfl, _, rfl, _, rfl, .inl ⟨_, rfl, _, rfl, a, _, rfl, hsq, _, _, rfl, rfl, hp, a, _, _, _, rfl, rfl, hsq, ea, .inl ⟨_, rfl, _, rfl, .inl ⟨_, rfl, _, _, rfl, rfl, (by show (0 : Int) < _; decide), _, _, rfl, rfl, .inr ⟨by decide, by decide⟩, _, _, rfl, rfl, fin _⟩⟩⟩⟩
end
end WW

set_option Elab.async false
set_option linter.all false
set_option maxRecDepth 100000
set_option maxHeartbeats 4000000
namespace WW
open PySem PySem.Spec PyProof.Rows L2
def kindL (i : Nat) : List Bool := (List.range 16).map fun j => decide (i = j)
section
variable {K : PySem.W.Frag} {B : Addr → Prop} {ρ : List Slot} {te : TE} {x : XV} {i : Nat}
theorem d_isK (KK : KX K) (hi : i < 17) (hx : x.C = gC K i) (h : DE K B te ρ x) {j : Nat} (hj : j < 16) : DE K B (tCB (rIsE K) (tCons te (tCons (tC (.ref (gC K j))) tNil))) ρ (decide (i = j)) := d_isE h (by rw [hx]; exact KK.exc i hi) (.own _) (by rw [hx]; exact KK.kit i j hi hj)
end
section
variable {P : Program} {w : World} {K : PySem.W.Frag} {mg : Str → Option Value} {base : Heap} {f : Addr} {fd : FuncData}
def dpKinds (K : PySem.W.Frag) : List Slot → (Slot → Prop) → Prop := fun ss R => ∃ (x : XV) (i : Nat), ss = [.val x] ∧ i < 17 ∧ x.C = gC K i ∧ R (.val (α := L Bool) (kindL i))

abbrev N_l_kinds : List Str := ["_law_made", "_law_found"]
theorem sc_l_kinds : FnScope N_l_kinds ["_law_made"] (defScope s_l_kinds) := ⟨rfl, rfl, rfl, by decide +kernel, rfl, by decide +kernel, by decide +kernel⟩

theorem ok_kinds (F : FnP K "_law_kinds" s_l_kinds f fd) (KK : KX K) (m_isinstance : mg "isinstance" = none) (m_InvalidRow : mg "InvalidRow" = some (.ref (He.ga K "InvalidRow"))) (m_InvalidModule : mg "InvalidModule" = some (.ref (He.ga K "InvalidModule"))) (m_InvalidTally : mg "InvalidTally" = some (.ref (He.ga K "InvalidTally"))) (m_InvalidHouse : mg "InvalidHouse" = some (.ref (He.ga K "InvalidHouse"))) (m_InvalidText : mg "InvalidText" = some (.ref (He.ga K "InvalidText"))) (m_InvalidArrivals : mg "InvalidArrivals" = some (.ref (He.ga K "InvalidArrivals"))) (m_InvalidWishes : mg "InvalidWishes" = some (.ref (He.ga K "InvalidWishes"))) (m_InvalidLog : mg "InvalidLog" = some (.ref (He.ga K "InvalidLog"))) (m_InvalidMenu : mg "InvalidMenu" = some (.ref (He.ga K "InvalidMenu"))) (m_InvalidGoals : mg "InvalidGoals" = some (.ref (He.ga K "InvalidGoals"))) (m_Refused : mg "Refused" = some (.ref (He.ga K "Refused"))) (m_NeverGoes : mg "NeverGoes" = some (.ref (He.ga K "NeverGoes"))) (m_InvalidContract : mg "InvalidContract" = some (.ref (He.ga K "InvalidContract"))) (m_InvalidChoice : mg "InvalidChoice" = some (.ref (He.ga K "InvalidChoice"))) (m_InvalidCommand : mg "InvalidCommand" = some (.ref (He.ga K "InvalidCommand"))) (m_NoPlace : mg "NoPlace" = some (.ref (He.ga K "NoPlace"))) : FnOk P w K mg base CX0 1 f fd ["_law_made"] (spT K (dpKinds K)) := by
  refine okT F sc_l_kinds (fun ss R h => ?_) (fun cdv A outer s H E hr => ⟨_, (pss_cons (ps_set (i := 1) sc_l_kinds.nd rfl (.inl rfl) (pe_lst (pa_cons (pe_callB (call_isE K) rfl m_isinstance (by decide +kernel) (pa_cons (pv 0) (pa_cons (pe_glob (v := .ref (He.ga K "InvalidRow")) rfl m_InvalidRow rfl) (pa_nil)))) (pa_cons (pe_callB (call_isE K) rfl m_isinstance (by decide +kernel) (pa_cons (pv 0) (pa_cons (pe_glob (v := .ref (He.ga K "InvalidModule")) rfl m_InvalidModule rfl) (pa_nil)))) (pa_cons (pe_callB (call_isE K) rfl m_isinstance (by decide +kernel) (pa_cons (pv 0) (pa_cons (pe_glob (v := .ref (He.ga K "InvalidTally")) rfl m_InvalidTally rfl) (pa_nil)))) (pa_nil))))))
 (pss_cons (ps_set (i := 1) sc_l_kinds.nd rfl (.inl rfl) (pe_op op_cat (pv 1) (pe_lst (pa_cons (pe_callB (call_isE K) rfl m_isinstance (by decide +kernel) (pa_cons (pv 0) (pa_cons (pe_glob (v := .ref (He.ga K "InvalidHouse")) rfl m_InvalidHouse rfl) (pa_nil)))) (pa_cons (pe_callB (call_isE K) rfl m_isinstance (by decide +kernel) (pa_cons (pv 0) (pa_cons (pe_glob (v := .ref (He.ga K "InvalidText")) rfl m_InvalidText rfl) (pa_nil)))) (pa_cons (pe_callB (call_isE K) rfl m_isinstance (by decide +kernel) (pa_cons (pv 0) (pa_cons (pe_glob (v := .ref (He.ga K "InvalidArrivals")) rfl m_InvalidArrivals rfl) (pa_nil)))) (pa_nil)))))))
 (pss_cons (ps_set (i := 1) sc_l_kinds.nd rfl (.inl rfl) (pe_op op_cat (pv 1) (pe_lst (pa_cons (pe_callB (call_isE K) rfl m_isinstance (by decide +kernel) (pa_cons (pv 0) (pa_cons (pe_glob (v := .ref (He.ga K "InvalidWishes")) rfl m_InvalidWishes rfl) (pa_nil)))) (pa_cons (pe_callB (call_isE K) rfl m_isinstance (by decide +kernel) (pa_cons (pv 0) (pa_cons (pe_glob (v := .ref (He.ga K "InvalidLog")) rfl m_InvalidLog rfl) (pa_nil)))) (pa_cons (pe_callB (call_isE K) rfl m_isinstance (by decide +kernel) (pa_cons (pv 0) (pa_cons (pe_glob (v := .ref (He.ga K "InvalidMenu")) rfl m_InvalidMenu rfl) (pa_nil)))) (pa_nil)))))))
 (pss_cons (ps_set (i := 1) sc_l_kinds.nd rfl (.inl rfl) (pe_op op_cat (pv 1) (pe_lst (pa_cons (pe_callB (call_isE K) rfl m_isinstance (by decide +kernel) (pa_cons (pv 0) (pa_cons (pe_glob (v := .ref (He.ga K "InvalidGoals")) rfl m_InvalidGoals rfl) (pa_nil)))) (pa_cons (pe_callB (call_isE K) rfl m_isinstance (by decide +kernel) (pa_cons (pv 0) (pa_cons (pe_glob (v := .ref (He.ga K "Refused")) rfl m_Refused rfl) (pa_nil)))) (pa_cons (pe_callB (call_isE K) rfl m_isinstance (by decide +kernel) (pa_cons (pv 0) (pa_cons (pe_glob (v := .ref (He.ga K "NeverGoes")) rfl m_NeverGoes rfl) (pa_nil)))) (pa_nil)))))))
 (pss_cons (ps_set (i := 1) sc_l_kinds.nd rfl (.inl rfl) (pe_op op_cat (pv 1) (pe_lst (pa_cons (pe_callB (call_isE K) rfl m_isinstance (by decide +kernel) (pa_cons (pv 0) (pa_cons (pe_glob (v := .ref (He.ga K "InvalidContract")) rfl m_InvalidContract rfl) (pa_nil)))) (pa_cons (pe_callB (call_isE K) rfl m_isinstance (by decide +kernel) (pa_cons (pv 0) (pa_cons (pe_glob (v := .ref (He.ga K "InvalidChoice")) rfl m_InvalidChoice rfl) (pa_nil)))) (pa_nil))))))
 (pss_one (ps_ret (pe_op op_cat (pv 1) (pe_lst (pa_cons (pe_callB (call_isE K) rfl m_isinstance (by decide +kernel) (pa_cons (pv 0) (pa_cons (pe_glob (v := .ref (He.ga K "InvalidCommand")) rfl m_InvalidCommand rfl) (pa_nil)))) (pa_cons (pe_callB (call_isE K) rfl m_isinstance (by decide +kernel) (pa_cons (pv 0) (pa_cons (pe_glob (v := .ref (He.ga K "NoPlace")) rfl m_NoPlace rfl) (pa_nil)))) (pa_nil)))))))))))), fun B ss R h => ?_⟩)
  · obtain ⟨x, i, rfl, _⟩ := h
    rfl
  · obtain ⟨x, i, rfl, hi, hx, q⟩ := h
    have V : ∀ {ρ : List Slot} {j : Nat}, ρ[0]? = some (.val x) → j < 16 → DE K B (tCB (rIsE K) (tCons (tVar 0) (tCons (tC (.ref (gC K j))) tNil))) ρ (decide (i = j)) := fun h hj => d_isK KK hi hx (d_var h) hj
    have cat : ∀ n m : Nat, n + m ≤ 100 → n + m ≤ BIG := fun n m h => Nat.le_trans h (by decide)
    show DS K B _ [.val x, .no] _
    refine dq_asgI (δ := L Bool) (show L Bool from [decide (i = 0), decide (i = 1), decide (i = 2)]) (DO.l (do_lst (dl_cons (V (j := 0) rfl (by decide)) (dl_cons (V (j := 1) rfl (by decide)) (dl_cons (V (j := 2) rfl (by decide)) dl_nil))) (by show 3 ≤ BIG; decide))) ?_
    show DS K B _ [.val x, .val (show L Bool from [decide (i = 0), decide (i = 1), decide (i = 2)])] _
    refine dq_asgI (δ := L Bool) (show L Bool from [decide (i = 0), decide (i = 1), decide (i = 2)] ++ [decide (i = 3), decide (i = 4), decide (i = 5)]) (DO.l (do_cat (d_var (n := 1) (a := (show L Bool from _)) rfl) (DO.l (do_lst (dl_cons (V (j := 3) rfl (by decide)) (dl_cons (V (j := 4) rfl (by decide)) (dl_cons (V (j := 5) rfl (by decide)) dl_nil))) (by show 3 ≤ BIG; decide))) (by show 3 + 3 ≤ BIG; decide))) ?_
    show DS K B _ [.val x, .val (show L Bool from [decide (i = 0), decide (i = 1), decide (i = 2)] ++ [decide (i = 3), decide (i = 4), decide (i = 5)])] _
    refine dq_asgI (δ := L Bool) (show L Bool from ([decide (i = 0), decide (i = 1), decide (i = 2)] ++ [decide (i = 3), decide (i = 4), decide (i = 5)]) ++ [decide (i = 6), decide (i = 7), decide (i = 8)]) (DO.l (do_cat (d_var (n := 1) (a := (show L Bool from _)) rfl) (DO.l (do_lst (dl_cons (V (j := 6) rfl (by decide)) (dl_cons (V (j := 7) rfl (by decide)) (dl_cons (V (j := 8) rfl (by decide)) dl_nil))) (by show 3 ≤ BIG; decide))) (by show 6 + 3 ≤ BIG; decide))) ?_
    show DS K B _ [.val x, .val (show L Bool from ([decide (i = 0), decide (i = 1), decide (i = 2)] ++ [decide (i = 3), decide (i = 4), decide (i = 5)]) ++ [decide (i = 6), decide (i = 7), decide (i = 8)])] _
    refine dq_asgI (δ := L Bool) (show L Bool from (([decide (i = 0), decide (i = 1), decide (i = 2)] ++ [decide (i = 3), decide (i = 4), decide (i = 5)]) ++ [decide (i = 6), decide (i = 7), decide (i = 8)]) ++ [decide (i = 9), decide (i = 10), decide (i = 11)]) (DO.l (do_cat (d_var (n := 1) (a := (show L Bool from _)) rfl) (DO.l (do_lst (dl_cons (V (j := 9) rfl (by decide)) (dl_cons (V (j := 10) rfl (by decide)) (dl_cons (V (j := 11) rfl (by decide)) dl_nil))) (by show 3 ≤ BIG; decide))) (by show 9 + 3 ≤ BIG; decide))) ?_
    show DS K B _ [.val x, .val (show L Bool from (([decide (i = 0), decide (i = 1), decide (i = 2)] ++ [decide (i = 3), decide (i = 4), decide (i = 5)]) ++ [decide (i = 6), decide (i = 7), decide (i = 8)]) ++ [decide (i = 9), decide (i = 10), decide (i = 11)])] _
    refine dq_asgI (δ := L Bool) (show L Bool from ((([decide (i = 0), decide (i = 1), decide (i = 2)] ++ [decide (i = 3), decide (i = 4), decide (i = 5)]) ++ [decide (i = 6), decide (i = 7), decide (i = 8)]) ++ [decide (i = 9), decide (i = 10), decide (i = 11)]) ++ [decide (i = 12), decide (i = 13)]) (DO.l (do_cat (d_var (n := 1) (a := (show L Bool from _)) rfl) (DO.l (do_lst (dl_cons (V (j := 12) rfl (by decide)) (dl_cons (V (j := 13) rfl (by decide)) dl_nil)) (by show 2 ≤ BIG; decide))) (by show 12 + 2 ≤ BIG; decide))) ?_
    show DS K B _ [.val x, .val (show L Bool from ((([decide (i = 0), decide (i = 1), decide (i = 2)] ++ [decide (i = 3), decide (i = 4), decide (i = 5)]) ++ [decide (i = 6), decide (i = 7), decide (i = 8)]) ++ [decide (i = 9), decide (i = 10), decide (i = 11)]) ++ [decide (i = 12), decide (i = 13)])] _
    exact ds_ret (α := L Bool) (a := (show L Bool from (((([decide (i = 0), decide (i = 1), decide (i = 2)] ++ [decide (i = 3), decide (i = 4), decide (i = 5)]) ++ [decide (i = 6), decide (i = 7), decide (i = 8)]) ++ [decide (i = 9), decide (i = 10), decide (i = 11)]) ++ [decide (i = 12), decide (i = 13)]) ++ [decide (i = 14), decide (i = 15)])) (DO.l (do_cat (d_var (n := 1) (a := (show L Bool from _)) rfl) (DO.l (do_lst (dl_cons (V (j := 14) rfl (by decide)) (dl_cons (V (j := 15) rfl (by decide)) dl_nil)) (by show 2 ≤ BIG; decide))) (by show 14 + 2 ≤ BIG; decide))) q
def dpIsOwn (K : PySem.W.Frag) : List Slot → (Slot → Prop) → Prop := fun ss R => ∃ (x : XV) (i : Nat), ss = [.val x, .val ((i : Nat) : Int)] ∧ i < 16 ∧ x.C = gC K i ∧ R (.val true)
theorem dec_yes {p : Prop} {i : Decidable p} (h : p) : decide p = true := decide_eq_true h
theorem kind_eq : ∀ i, i < 16 → kindL i = (rg 0 16).map fun n : Int => decide (n = (i : Int)) := by
  intro i hi
  have : ∀ i ∈ List.range 16, kindL i = (rg 0 16).map fun n : Int => decide (n = (i : Int)) := by decide +kernel
  exact this i (List.mem_range.mpr hi)

abbrev N_l_is_own : List Str := ["_law_made", "_law_spot", "_law_n"]
theorem sc_l_is_own : FnScope N_l_is_own ["_law_made", "_law_spot"] (defScope s_l_is_own) := ⟨rfl, rfl, rfl, by decide +kernel, rfl, by decide +kernel, by decide +kernel⟩

theorem ok_is_own (F : FnP K "_law_is_own" s_l_is_own f fd) (KK : KX K) (m_isinstance : mg "isinstance" = none) (m_range : mg "range" = none) (m_WaitError : mg "WaitError" = some (.ref (He.ga K "WaitError"))) (m_ValueError : mg "ValueError" = none) (m_KeyError : mg "KeyError" = none) (g_l_kinds : FnAt P w K mg base CX0 1 "_law_kinds" ["_law_made"] (spT K (dpKinds K))) : FnOk P w K mg base CX0 2 f fd ["_law_made", "_law_spot"] (spT K (dpIsOwn K)) := by
  refine okT F sc_l_is_own (fun ss R h => ?_) (fun cdv A outer s H E hr => ⟨_, (pss_cons (ps_if (PW.pt (pw_or (pt_cmpR op_ne (pe_callB (call_isE K) rfl m_isinstance (by decide +kernel) (pa_cons (pv 0) (pa_cons (pe_glob (v := .ref (He.ga K "WaitError")) rfl m_WaitError rfl) (pa_nil)))) (pe_cmpR op_lt (pv 1) (pe_int) (nomark _)) (nomark _)) (pw_or1 (pt_cmpR op_ne (pe_callB (call_isE K) rfl m_isinstance (by decide +kernel) (pa_cons (pv 0) (pa_cons (pe_bltn (v := .ty "ValueError") (u := .type "ValueError") rfl m_ValueError (by decide +kernel) rfl) (pa_nil)))) (pe_cmpR op_lt (pv 1) (pe_int) (nomark _)) (nomark _))))) (pss_one (ps_ret (pe_bl))) (pss_nil))
 (pss_one (ps_ret (pe_and (pe_cmpR op_eq (pe_callB (call_isE K) rfl m_isinstance (by decide +kernel) (pa_cons (pv 0) (pa_cons (pe_bltn (v := .ty "KeyError") (u := .type "KeyError") rfl m_KeyError (by decide +kernel) rfl) (pa_nil)))) (pe_cmpR op_eq (pv 1) (pe_int) (nomark _)) (nomark _)) (pe_one (pe_cmpR (op_eqDK K hr) (pe_fn g_l_kinds hr rfl (pa_cons (pv 0) (pa_nil))) (pe_lc (own := [("_law_n", 2)]) rfl sc_l_is_own.nd (pi_range1 rfl m_range (pa_cons (pe_int) (pa_nil))) (blkOk_by (N := N_l_is_own) (sc := defScope s_l_is_own) (by decide +kernel)) (fun _ _ _ _ _ => pg_name (i := 2) sc_l_is_own.nd rfl (.inl rfl)) (fun _ _ _ _ _ => pts_nil) (fun _ _ _ _ _ => pe_cmpR op_eq (pv 2) (pv 1) (nomark _))) (nomark _))))))), fun B ss R h => ?_⟩)
  · obtain ⟨x, i, rfl, _⟩ := h
    rfl
  · obtain ⟨x, i, rfl, hi, hx, q⟩ := h
    have hi7 : i < 17 := by omega
    have X : ∀ {ρ : List Slot}, ρ[0]? = some (.val x) → DE K B (tVar 0) ρ x := fun h => d_var h
    show DS K B _ [.val x, .val ((i : Nat) : Int), .no] _
    have e1 : (!decide (decide (i ≠ 15) = decide ((i : Int) < 15))) = false := by
      have : ∀ i ∈ List.range 16, (!decide (decide (i ≠ 15) = decide ((i : Int) < 15))) = false := by decide +kernel
      exact this i (List.mem_range.mpr hi)
    refine dq_when (c := false) (DT.is (dt_or (dt_test (d_ne (d_isE (c := .ref (gC K 16)) (X rfl) (by rw [hx]; exact KK.exc i hi7) (.own _) (by rw [hx]; exact KK.wait i hi7)) (d_lt (d_var (n := 1) (a := ((i : Nat) : Int)) rfl) d_int) inferInstance inferInstance)) fun _ => dt_test (d_ne (d_isE (c := .ty "ValueError") (X rfl) (by rw [hx]; exact KK.exc i hi7) (.ty _) (by rw [hx]; exact KK.ve i hi7)) (d_lt (d_var (n := 1) (a := ((i : Nat) : Int)) rfl) d_int) inferInstance inferInstance)) (by rw [e1]; rfl)) (fun h => nomatch h) fun _ => ?_
    refine ds_retE q (d_andV (d_eq (d_isE (c := .ty "KeyError") (X rfl) (by rw [hx]; exact KK.exc i hi7) (.ty _) (by rw [hx]; exact KK.ke i hi7)) (d_eq (d_var (n := 1) (a := ((i : Nat) : Int)) rfl) d_int inferInstance inferInstance) inferInstance inferInstance) fun _ => d_eqD (α := L Bool) (a := kindL i) (b := (rg 0 16).map fun n : Int => decide (n = (i : Int))) (d_call (da_cons (X rfl) da_nil) ⟨x, i, rfl, hi7, hx, rfl⟩) (DO.l (do_map (fun n : Int => decide (n = (i : Int))) (di_rng1 d_int (by decide) (by decide)) (by show 16 ≤ BIG; decide) fun n hn => ⟨_, _, dg_name, by simp, d_eq (d_var (n := 2) (a := n) rfl) (d_var (n := 1) (a := ((i : Nat) : Int)) rfl) inferInstance inferInstance⟩)) (show DecidableEq (L Bool) from (inferInstance : DecidableEq (List Bool))) inferInstance (by decide)) ?_
    have : ∀ i ∈ List.range 16, decide (decide (i = 15) = decide ((i : Int) = 15)) = true := by decide +kernel
    exact Bool.and_eq_true_iff.mpr ⟨this i (List.mem_range.mpr hi), dec_yes (kind_eq i hi)⟩
end
end WW

set_option Elab.async false
set_option linter.all false
set_option maxRecDepth 100000
set_option maxHeartbeats 4000000
namespace WW
open PySem PySem.Spec PyProof.Rows L2
section
variable {K : PySem.W.Frag} {B : Addr → Prop} {ρ : List Slot} {ta tb te : TE} {tr : TA} {ts : TS} {Φ : Post} {α β : Type} {e_α : Enc α} {e_β : Enc β}
/-- parts of a display, one of some -/
def DNLs {α : Type} [Enc α] (K : PySem.W.Frag) (B : Addr → Prop) (tr : TA) (ρ : List Slot) (P : List α → Prop) : Prop := ∀ S0 H0 S H σ, En K B S0 H0 S H σ ρ → ∀ Q : List V → Hp → Prop, (∀ vs xs S' H', P xs → Ext B S H S' H' → Paired (Enc.rep K S') vs xs → Q vs H') → tr σ H Q
theorem dns_nil : DNLs K B tNil ρ (fun xs : List α => xs = []) := fun S0 H0 S H σ E Q q => q [] [] S H rfl (Ext.refl E.i) .nil
theorem dns_cons {P : α → Prop} {P' : List α → Prop} (h : DN K B te ρ P) (h' : DNLs K B tr ρ P') : DNLs K B (tCons te tr) ρ (fun xs : List α => ∃ x r, P x ∧ P' r ∧ xs = x :: r) := fun S0 H0 S H σ E Q q =>
  h S0 H0 S H σ E _ fun v x S1 H1 px e1 r1 => h' S0 H0 S1 H1 σ (E.go e1) _ fun vs xs S2 H2 pxs e2 r2 => q (v :: vs) (x :: xs) S2 H2 ⟨x, xs, px, pxs, rfl⟩ (e1.trans e2) (.cons (Enc.mono e2.s r1) r2)
theorem don_lst {P : List α → Prop} (h : DNLs K B tr ρ P) (hl : ∀ xs, P xs → xs.length ≤ BIG) : DON K B (tLst tr) ρ P := fun S0 H0 S H σ E Q q =>
  h S0 H0 S H σ E _ fun vs xs S1 H1 px e1 r1 => ⟨by rw [r1.length]; exact Nat.le_trans (hl xs px) big_line, fun p hp => q p vs xs S1 _ px (e1.trans (Ext.priv e1.i hp)) (e1.free E.i hp) (e1.i.free hp) upd_same r1 (hl xs px)⟩
theorem ds_parDD {n m : Nat} {P : List α → Prop} {P' : List β → Prop} (h1 : DON K B ta ρ P) (h2 : DON K B tb ρ P') (hm : n ≠ m) (k : ∀ xs ys, P xs → P' ys → Φ.nx ((ρ.set n (.own xs)).set m (.own ys))) : DS K B (tPar n m (tCons ta (tCons tb tNil))) ρ Φ := fun S0 H0 S H σ D E px nx r b c => by
  refine h1 S0 H0 S H σ E _ fun p vs xs S1 H1 pxs e1 hp hs hh rr hl => h2 S0 H0 S1 H1 σ (E.go e1) _ fun p2 vs2 ys S2 H2 pys e2 hp2 hs2 hh2 rr2 hl2 => ⟨_, _, rfl, ?_⟩
  have E1 := E.setO (i := n) e1 hp hs hh rr hl
  have E2 := E1.setO (i := m) e2 hp2 hs2 hh2 rr2 hl2
  exact nx _ _ S2 H2 (k xs ys pxs pys) (e1.s.trans e2.s) E2
theorem d_boxD {x : Scr} {k : Int} (h1 : DE K B ta ρ x) (h2 : DE K B tb ρ k) (k0 : 0 ≤ k) (hl : x.ns.length ≤ 1000) : DBox K B (tCall (spBox K) [] E0 (tCons ta (tCons tb tNil))) ρ := fun S0 H0 S H σ E Q q =>
  h1 S0 H0 S H σ E _ fun v S1 H1 e1 r1 => h2 S0 H0 S1 H1 σ (E.go e1) _ fun w S2 H2 e2 r2 => by
    cases r2
    obtain ⟨a, rfl, sq⟩ := Enc.mono e2.s r1
    exact ⟨a, x.ns, k, rfl, Evl.ex_l e2.i sq, k0, hl, fun p H' sm np bx' => q p S2 H2 H' (e1.trans e2) sm np bx'⟩
theorem do_repL {xs : List α} (h : DE K B ta ρ (α := L α) xs) (hi : DE K B tb ρ (2 : Int)) (hl : xs.length + xs.length ≤ BIG) : DO K B (tOp rRep ta tb) ρ (xs ++ xs) := fun S0 H0 S H σ E Q q =>
  h S0 H0 S H σ E _ fun v S1 H1 e1 r1 => hi S0 H0 S1 H1 σ (E.go e1) _ fun w S2 H2 e2 r2 => by
    obtain ⟨hl1, p, vs, z, hh, r⟩ := Enc.mono e2.s r1
    subst z
    cases r2
    have lv := r.length
    refine ⟨p, 2, vs, rfl, rfl, e2.i _ _ hh, by decide, by decide, ?_, fun w hw => ?_⟩
    · show vs.length * 2 ≤ sizeLine
      have := big_line
      omega
    · have ef : (List.replicate (2 : Int).toNat vs).flatten = vs ++ vs := by show vs ++ (vs ++ []) = _; rw [List.append_nil]
      rw [ef]
      exact q w _ S2 _ ((e1.trans e2).trans (Ext.priv e2.i hw)) ((e1.trans e2).free E.i hw) (e2.i.free hw) upd_same (Paired.app r r) (by rw [List.length_append]; exact hl)
theorem d_lAV {xs : List AV} (h : DE K B te ρ (α := L AV) xs) : DE K B te ρ (AV.lst xs) := (d_av (α := L AV) h).is (by show AV.lst (xs.map IsAV.av) = _; rw [AV.map_id])
end
/-! ### plain: what is shown -/
def V7 : List AV := [.non, .bl true, .int 0, .str "a", .tup [], .lst [.int 1], .tup [.int 2, .lst [.int 3]]]
structure ShO (x : AV) : Prop where
  h : x.ish = true
  g : x.Gd 9
  w : x.dat.weight ≤ 200
theorem sho_t {v : AV} {k : Int} (hv : v ∈ V7) (hk : 0 ≤ k ∧ k < 3) : ShO (.lst [v, .int k]) := by
  have key : ∀ v ∈ V7, ∀ k ∈ rg 0 3, (AV.lst [v, .int k]).ish = true ∧ (AV.lst [v, .int k]).dat.canLay0 = true ∧ (AV.lst [v, .int k]).dat.depth ≤ 9 ∧ (AV.lst [v, .int k]).dat.weight ≤ 200 := by decide +kernel
  obtain ⟨a, b, c, d⟩ := key v hv k (rg_mem.mpr hk)
  exact ⟨a, ⟨b, c⟩, d⟩
theorem sho_o {c : Int} (hc : 0 ≤ c ∧ c < 9) : ShO (.lst [.str "x", .int c, .str "y"]) := by
  have key : ∀ c ∈ rg 0 9, (AV.lst [.str "x", .int c, .str "y"]).ish = true ∧ (AV.lst [.str "x", .int c, .str "y"]).dat.canLay0 = true ∧ (AV.lst [.str "x", .int c, .str "y"]).dat.depth ≤ 9 ∧ (AV.lst [.str "x", .int c, .str "y"]).dat.weight ≤ 200 := by decide +kernel
  obtain ⟨a, b, c, d⟩ := key c (rg_mem.mpr hc)
  exact ⟨a, ⟨b, c⟩, d⟩
theorem sho_l {xs : List AV} (h : ∀ x ∈ xs, ShO x) (l : xs.length ≤ 100) : (AV.lst xs).ish = true ∧ (AV.lst xs).Gd 10 ∧ (AV.lst xs).dat.weight ≤ 2 ^ 20 := by
  refine ⟨?_, gd_lst.mpr fun x hx => (h x hx).g, Nat.le_trans (wt_lst (c := 200) fun x hx => (h x hx).w) ?_⟩
  · rw [AV.ish, ishs_iff]
    exact fun x hx => (h x hx).h
  · exact Nat.le_trans (Nat.mul_le_mul_right 201 l) (by decide)
def spLaw (K : PySem.W.Frag) : Sp := fun vs H Q _ => ∃ (a : Addr) (ns : List Int), vs = [.ref a] ∧ SqL K H a (ns.map V.int) ∧ ns.length ≤ 63 ∧ ∀ H', Q (.bl true) H'
theorem imp_law {K : PySem.W.Frag} (vs : List V) (H : Hp) (Q : VK) (E : XK) (h : spLaw K vs H Q E) : spT K (dp1 (fun x : Scr => x.ns.length ≤ 63) fun _ => true) vs H Q E := by
  obtain ⟨a, ns, rfl, hs, hl, q⟩ := h
  refine ⟨fun _ => False, H, [.val (Scr.mk ns)], fun s => s = .val true, Same.refl H, fun p hp => hp.elim, .cons ⟨a, rfl, hs⟩ rfl .nil, ⟨⟨ns⟩, rfl, hl, rfl⟩, fun s v S' H' hs e ok => ?_⟩
  cases hs
  cases (show v = .bl true from ok)
  exact q H'
theorem dec_noB {p : Prop} {i : Decidable p} (h : p) : (!decide p) = false := by rw [decide_eq_true h]; rfl
theorem kind16 : kindL 16 = List.replicate (16 : Int).toNat false := by decide +kernel
def xE (K : PySem.W.Frag) (i : Nat) (f : Str) (y : V) : XV := XV.mk (gC K i) (some (f, y))
def xE0 (K : PySem.W.Frag) (i : Nat) : XV := XV.mk (gC K i) none
def fldV (x : XV) : PV := PV.mk ((x.f.getD ("", .non)).2)
section
variable {P : Program} {w : World} {K : PySem.W.Frag} {mg : Str → Option Value} {base : Heap} {f : Addr} {fd : FuncData}

abbrev N_law : List Str := ["_law_script", "_law_k", "_law_box_here", "_law_thing", "_law_other", "_law_words", "_law_spots", "_law_named", "_law_rings", "_law_lost", "_law_n", "_law_one"]
theorem sc_law : FnScope N_law ["_law_script"] (defScope s_law) := ⟨rfl, rfl, rfl, by decide +kernel, rfl, by decide +kernel, by decide +kernel⟩

theorem ok_law01 (F : FnP K "law" s_law f fd) (KK : KX K) (m_range : mg "range" = none) (m_max : mg "max" = none) (m_min : mg "min" = none) (m_len : mg "len" = none) (m_repr : mg "repr" = none) (m_enumerate : mg "enumerate" = none) (m_isinstance : mg "isinstance" = none) (m_ValueError : mg "ValueError" = none)
    (S_InvalidRow : SupAt2 P K mg "InvalidRow" "word")    (S_InvalidModule : SupAt2 P K mg "InvalidModule" "word")    (S_InvalidTally : SupAt2 P K mg "InvalidTally" "word")    (S_InvalidHouse : SupAt2 P K mg "InvalidHouse" "at")    (S_InvalidText : SupAt2 P K mg "InvalidText" "at")    (S_InvalidArrivals : SupAt2 P K mg "InvalidArrivals" "at")    (S_InvalidWishes : SupAt2 P K mg "InvalidWishes" "at")    (S_InvalidLog : SupAt2 P K mg "InvalidLog" "at")    (S_InvalidMenu : SupAt2 P K mg "InvalidMenu" "at")    (S_InvalidGoals : SupAt2 P K mg "InvalidGoals" "at")    (S_Refused : SupAt2 P K mg "Refused" "at")    (S_NeverGoes : SupAt2 P K mg "NeverGoes" "ring")    (S_InvalidContract : SupAt0 P K mg "InvalidContract")    (S_InvalidChoice : SupAt0 P K mg "InvalidChoice")    (S_InvalidCommand : SupAt0 P K mg "InvalidCommand")    (S_NoPlace : SupAtK2 P K mg "NoPlace" "name")
    (q_WaitError : PySem.W.excIn K (He.ga K "WaitError") [.type "ValueError", .type "Exception", .type "BaseException", .type "object"] "ValueError.__new__" = true) (m_WaitError : mg "WaitError" = some (.ref (He.ga K "WaitError"))) (k_WaitError : PySem.W.keepIn K (.ref (He.ga K "WaitError")) = true)
    (g_l_box : FnAt P w K mg base CX0 1 "_law_box" ["_law_script", "_law_k"] (spBox K)) (g_l_take : FnAt P w K mg base CX0 1 "_law_take" ["_law_box_here", "_law_many"] (spT K dpTake)) (g_l_pick : FnAt P w K mg base CX0 2 "_law_pick" ["_law_box_here", "_law_some"] (spT K (dpPick AV)))
    (g_l_kinds : FnAt P w K mg base CX0 1 "_law_kinds" ["_law_made"] (spT K (dpKinds K))) (g_l_is_own : FnAt P w K mg base CX0 2 "_law_is_own" ["_law_made", "_law_spot"] (spT K (dpIsOwn K))) : FnOkG P w K mg base CX0 3 f fd ["_law_script"] (spT K (dp1 (fun x : Scr => x.ns.length ≤ 63) fun _ => true)) := by
  refine okTG F sc_law (fun ss R h => ?_) (fun cdv A outer s H E gu hr => ⟨_, (pss_cons (ps_for PassesOwn.never rfl (pi_range1 rfl m_range (pa_cons (pe_callB (call_max2 rfl) rfl m_max (by decide +kernel) (pa_cons (pe_int) (pa_cons (pe_callB (call_min2 rfl) rfl m_min (by decide +kernel) (pa_cons (pe_int) (pa_cons (pe_callB (call_lenK K) rfl m_len (by decide +kernel) (pa_cons (pv 0) (pa_nil))) (pa_nil)))) (pa_nil)))) (pa_nil))) (pg_name (i := 1) sc_law.nd rfl (.inl rfl)) (pss_cons (ps_set (i := 2) sc_law.nd rfl (.inl rfl) (pe_fn g_l_box hr rfl (pa_cons (pv 0) (pa_cons (pv 1) (pa_nil)))))
 (pss_cons (ps_par (i := 3) (j := 4) rfl sc_law.nd rfl rfl (by decide) rfl rfl (pa_cons (pe_lst (pa_cons (pe_fn g_l_pick hr rfl (pa_cons (pv 2) (pa_cons (pe_lst (pa_cons (pe_non) (pa_cons (pe_bl) (pa_cons (pe_int) (pa_cons (pe_str) (pa_cons (pe_tup (pa_nil)) (pa_cons (pe_lst (pa_cons (pe_int) (pa_nil))) (pa_cons (pe_tup (pa_cons (pe_int) (pa_cons (pe_lst (pa_cons (pe_int) (pa_nil))) (pa_nil)))) (pa_nil))))))))) (pa_nil)))) (pa_nil))) (pa_cons (pe_lst (pa_cons (pe_str) (pa_cons (pe_fn g_l_take hr rfl (pa_cons (pv 2) (pa_cons (pe_int) (pa_nil)))) (pa_nil)))) (pa_nil))) rfl)
 (pss_cons (ps_set (i := 5) sc_law.nd rfl (.inl rfl) (pe_lst (pa_cons (pe_sup S_InvalidRow.at hr rfl (pv 3)) (pa_cons (pe_sup S_InvalidModule.at hr rfl (pv 3)) (pa_cons (pe_sup S_InvalidTally.at hr rfl (pv 3)) (pa_nil))))))
 (pss_cons (ps_set (i := 5) sc_law.nd rfl (.inl rfl) (pe_op op_cat (pv 5) (pe_lst (pa_cons (pe_supW S_InvalidRow hr rfl (pk_cons (pv 4) pk_nil)) (pa_cons (pe_supW S_InvalidModule hr rfl (pk_cons (pv 4) pk_nil)) (pa_cons (pe_supW S_InvalidTally hr rfl (pk_cons (pv 4) pk_nil)) (pa_nil)))))))
 (pss_cons (ps_set (i := 6) sc_law.nd rfl (.inl rfl) (pe_lst (pa_cons (pe_sup S_InvalidHouse.at hr rfl (pv 3)) (pa_cons (pe_sup S_InvalidText.at hr rfl (pv 3)) (pa_cons (pe_sup S_InvalidArrivals.at hr rfl (pv 3)) (pa_cons (pe_sup S_InvalidWishes.at hr rfl (pv 3)) (pa_nil)))))))
 (pss_cons (ps_set (i := 6) sc_law.nd rfl (.inl rfl) (pe_op op_cat (pv 6) (pe_lst (pa_cons (pe_sup S_InvalidLog.at hr rfl (pv 3)) (pa_cons (pe_sup S_InvalidMenu.at hr rfl (pv 3)) (pa_cons (pe_sup S_InvalidGoals.at hr rfl (pv 3)) (pa_cons (pe_sup S_Refused.at hr rfl (pv 3)) (pa_nil))))))))
 (pss_cons (ps_set (i := 7) sc_law.nd rfl (.inl rfl) (pe_lst (pa_cons (pe_supW S_InvalidHouse hr rfl (pk_cons (pv 4) pk_nil)) (pa_cons (pe_supW S_InvalidText hr rfl (pk_cons (pv 4) pk_nil)) (pa_cons (pe_supW S_InvalidArrivals hr rfl (pk_cons (pv 4) pk_nil)) (pa_cons (pe_supW S_InvalidWishes hr rfl (pk_cons (pv 4) pk_nil)) (pa_nil)))))))
 (pss_cons (ps_set (i := 7) sc_law.nd rfl (.inl rfl) (pe_op op_cat (pv 7) (pe_lst (pa_cons (pe_supW S_InvalidLog hr rfl (pk_cons (pv 4) pk_nil)) (pa_cons (pe_supW S_InvalidMenu hr rfl (pk_cons (pv 4) pk_nil)) (pa_cons (pe_supW S_InvalidGoals hr rfl (pk_cons (pv 4) pk_nil)) (pa_cons (pe_supW S_Refused hr rfl (pk_cons (pv 4) pk_nil)) (pa_nil))))))))
 (pss_cons (ps_par (i := 8) (j := 9) rfl sc_law.nd rfl rfl (by decide) rfl rfl (pa_cons (pe_lst (pa_cons (pe_sup S_NeverGoes.at hr rfl (pv 3)) (pa_cons (pe_supW S_NeverGoes hr rfl (pk_cons (pv 4) pk_nil)) (pa_nil)))) (pa_cons (pe_lst (pa_cons (pe_supK S_NoPlace.at hr rfl (pv 3)) (pa_cons (pe_supKW S_NoPlace hr rfl (pk_cons (pv 4) pk_nil)) (pa_nil)))) (pa_nil))) rfl)
 (pss_cons (ps_expr (pe_bmK K PySem.F.plainAttrs_list PySem.F.slot_list_append PySem.F.type_list_append mt_append (pv 3) (pa_cons (pv 1) (pa_nil))))
 (pss_cons (ps_expr (pe_bmK K PySem.F.plainAttrs_list PySem.F.slot_list_append PySem.F.type_list_append mt_append (pv 4) (pa_cons (pe_str) (pa_nil))))
 (pss_cons (ps_if (pt_cmpR op_ne (pe_callB (call_reprD K gu hr) rfl m_repr (by decide +kernel) (pa_cons (pe_lc (own := [("_law_one", 11)]) rfl sc_law.nd (pi_seqK K (pv 5)) (blkOk_by (N := N_law) (sc := defScope s_law) (by decide +kernel)) (fun _ _ _ _ _ => pg_name (i := 11) sc_law.nd rfl (.inl rfl)) (fun _ _ _ _ _ => pts_nil) (fun _ _ _ _ _ => pe_xg K (pv 11))) (pa_nil))) (pe_callB (call_reprD K gu hr) rfl m_repr (by decide +kernel) (pa_cons (pe_op op_cat (pe_op op_rep (pe_lst (pa_cons (pv 3) (pa_nil))) (pe_int)) (pe_op op_rep (pe_lst (pa_cons (pv 4) (pa_nil))) (pe_int))) (pa_nil))) (nomark _)) (pss_one (ps_ret (pe_bl))) (pss_nil))
 (pss_cons (ps_if (pt_cmpR op_ne (pe_callB (call_reprD K gu hr) rfl m_repr (by decide +kernel) (pa_cons (pe_lc (own := [("_law_one", 11)]) rfl sc_law.nd (pi_seqK K (pe_op op_cat (pv 6) (pv 7))) (blkOk_by (N := N_law) (sc := defScope s_law) (by decide +kernel)) (fun _ _ _ _ _ => pg_name (i := 11) sc_law.nd rfl (.inl rfl)) (fun _ _ _ _ _ => pts_nil) (fun _ _ _ _ _ => pe_xg K (pv 11))) (pa_nil))) (pe_callB (call_reprD K gu hr) rfl m_repr (by decide +kernel) (pa_cons (pe_op op_cat (pe_op op_rep (pe_lst (pa_cons (pv 3) (pa_nil))) (pe_int)) (pe_op op_rep (pe_lst (pa_cons (pv 4) (pa_nil))) (pe_int))) (pa_nil))) (nomark _)) (pss_one (ps_ret (pe_bl))) (pss_nil))
 (pss_cons (ps_if (pt_cmpR op_ne (pe_callB (call_reprD K gu hr) rfl m_repr (by decide +kernel) (pa_cons (pe_op op_cat (pe_lc (own := [("_law_one", 11)]) rfl sc_law.nd (pi_seqK K (pv 8)) (blkOk_by (N := N_law) (sc := defScope s_law) (by decide +kernel)) (fun _ _ _ _ _ => pg_name (i := 11) sc_law.nd rfl (.inl rfl)) (fun _ _ _ _ _ => pts_nil) (fun _ _ _ _ _ => pe_xg K (pv 11))) (pe_lc (own := [("_law_one", 11)]) rfl sc_law.nd (pi_seqK K (pv 9)) (blkOk_by (N := N_law) (sc := defScope s_law) (by decide +kernel)) (fun _ _ _ _ _ => pg_name (i := 11) sc_law.nd rfl (.inl rfl)) (fun _ _ _ _ _ => pts_nil) (fun _ _ _ _ _ => pe_xg K (pv 11)))) (pa_nil))) (pe_callB (call_reprD K gu hr) rfl m_repr (by decide +kernel) (pa_cons (pe_op op_rep (pe_lst (pa_cons (pv 3) (pa_cons (pv 4) (pa_nil)))) (pe_int)) (pa_nil))) (nomark _)) (pss_one (ps_ret (pe_bl))) (pss_nil))
 (pss_cons (ps_for PassesOwn.never rfl (pi_enum rfl m_enumerate (pa_cons (pe_op op_cat (pe_op op_cat (pe_op op_cat (pe_slice (sl_sqK K) (pv 5) (po_none) (po_some (pe_int))) (pv 6)) (pe_slice (sl_sqK K) (pv 8) (po_none) (po_some (pe_int)))) (pe_lst (pa_cons (pe_sup0 S_InvalidContract hr rfl) (pa_cons (pe_sup0 S_InvalidChoice hr rfl) (pa_cons (pe_sup0 S_InvalidCommand hr rfl) (pa_nil)))))) (pa_nil))) (pg_tupK (n := 2) K rfl (pgs_cons (pg_name (i := 10) sc_law.nd rfl (.inl rfl)) (pgs_cons (pg_name (i := 11) sc_law.nd rfl (.inl rfl)) (pgs_nil)))) (pss_one (ps_if (pt_not (pt_val (pe_fn g_l_is_own hr rfl (pa_cons (pv 11) (pa_cons (pv 10) (pa_nil)))))) (pss_one (ps_ret (pe_bl))) (pss_nil))))
 (pss_cons (ps_if (PW.pt (pw_or (pt_not (pt_val (pe_fn g_l_is_own hr rfl (pa_cons (pe_ix (ix_sqK K) (pv 9) (pe_int) (fun _ _ => rfl)) (pa_cons (pe_int) (pa_nil)))))) (pw_or (pt_not (pt_val (pe_fn g_l_is_own hr rfl (pa_cons (pe_ix (ix_sqK K) (pv 7) (pe_int) (fun _ _ => rfl)) (pa_cons (pe_int) (pa_nil)))))) (pw_or1 (pt_not (pt_val (pe_fn g_l_is_own hr rfl (pa_cons (pe_ix (ix_sqK K) (pv 5) (pe_int) (fun _ _ => rfl)) (pa_cons (pe_int) (pa_nil)))))))))) (pss_one (ps_ret (pe_bl))) (pss_nil))
 (pss_one (ps_if (PW.pt (pw_or (pt_cmpR (op_neDK K hr) (pe_fn g_l_kinds hr rfl (pa_cons (pe_exc0 PySem.F.excBase_ValueError q_WaitError m_WaitError k_WaitError rfl) (pa_nil))) (pe_op op_rep (pe_lst (pa_cons (pe_bl) (pa_nil))) (pe_int)) (nomark _)) (pw_or1 (pt_not (pt_val (pe_callB (call_isE K) rfl m_isinstance (by decide +kernel) (pa_cons (pe_exc0 PySem.F.excBase_ValueError q_WaitError m_WaitError k_WaitError rfl) (pa_cons (pe_bltn (v := .ty "ValueError") (u := .type "ValueError") rfl m_ValueError (by decide +kernel) rfl) (pa_nil))))))))) (pss_one (ps_ret (pe_bl))) (pss_nil))))))))))))))))))))
 (pss_one (ps_ret (pe_bl)))), fun B ss R h => ?_⟩)
  · obtain ⟨x, rfl, _⟩ := h
    rfl
  · obtain ⟨scr, rfl, hl, q0⟩ := h
    have sb : scr.ns.length ≤ BIG := Nat.le_trans hl (by decide)
    have no : ∀ {i : Nat} {n : Str}, i < 17 → XfC K (gC K i) := fun h => KK.xf _ h
    show DS K B _ [.val scr, .no, .no, .no, .no, .no, .no, .no, .no, .no, .no, .no] _
    refine dq_forW [.val scr, .no, .no, .no, .no, .no, .no, .no, .no, .no, .no, .no] (di_rng1 (d_max2 d_int (d_min2 d_int (d_len (d_scr (d_var rfl) sb)))) (by omega) (by omega)) (Wk.refl _) (fun k hk => ⟨_, _, dg_name, ?_⟩) ?_
    · have hk := rg_mem.mp hk
      have hk3 : 0 ≤ k ∧ k < 3 := by omega
      refine dq_boxG (d_boxD (x := scr) (k := k) (d_var rfl) (d_var rfl) hk.1 (by omega)) (by simp [Slot.isOwn]) rfl fun pb => ?_
      generalize (fun q => q = pb ∨ B q) = B'
      show DS K B' _ [.val scr, .val k, .box, .no, .no, .no, .no, .no, .no, .no, .no, .no] _
      refine ds_seq (ds_parDD (P := fun xs : List AV => ∃ v, v ∈ V7 ∧ xs = [v]) (P' := fun xs : List AV => ∃ c : Int, (0 ≤ c ∧ c < 9) ∧ xs = [.str "x", .int c]) ((don_lst (dns_cons (dn_callb1 (x := (show L AV from V7)) rfl (DO.l (do_lst (xs := V7) (dl_cons d_avN (dl_cons (d_avB d_bl) (dl_cons (d_avI d_int) (dl_cons (d_avS d_str) (dl_cons (d_tupA dl_nil (Nat.zero_le _)) (dl_cons (d_lAV (DO.l (do_lst (dl_cons (d_avI d_int) dl_nil) (by show 1 ≤ BIG; decide)))) (dl_cons (d_tupA (dl_cons (d_avI d_int) (dl_cons (d_lAV (DO.l (do_lst (dl_cons (d_avI d_int) dl_nil) (by show 1 ≤ BIG; decide)))) dl_nil)) (by show 2 ≤ BIG; decide)) dl_nil))))))) (by show 7 ≤ BIG; decide))) ⟨by decide, by decide⟩) dns_nil) fun xs ⟨a, r, _, hr, e⟩ => by subst hr; subst e; show 1 ≤ BIG; decide).imp fun xs ⟨a, r, ha, hr, e⟩ => ⟨a, ha, by rw [e, hr]⟩) ((don_lst (dns_cons (DE.n (d_avS (z := "x") d_str)) (dns_cons ((dn_av (α := Int) (dn_callb1 rfl d_int ⟨by decide, by decide⟩))) dns_nil)) fun xs ⟨a, r, _, ⟨b, r', _, hr, e'⟩, e⟩ => by subst hr; subst e'; subst e; show 2 ≤ BIG; decide).imp fun xs ⟨a, r, ha, ⟨b, r', ⟨c, hc, hb⟩, hr, e'⟩, e⟩ => ⟨c, hc, by rw [e, e', hr, ha, hb]; rfl⟩) (by decide) fun xs ys hxs hys => ?_)
      obtain ⟨v, hv, rfl⟩ := hxs
      obtain ⟨c, hc, rfl⟩ := hys
      show DS K B' _ [.val scr, .val k, .box, .own [v], .own [AV.str "x", AV.int c], .no, .no, .no, .no, .no, .no, .no] _
      refine ds_pinO (i := 3) (xs := [v]) rfl fun p => ?_
      refine ds_pinO (i := 4) (xs := [AV.str "x", AV.int c]) rfl fun q => ?_
      show DS K B' _ [.val scr, .val k, .box, .obj (ownLA p [v]), .obj (ownLA q [AV.str "x", AV.int c]), .no, .no, .no, .no, .no, .no, .no] _
      refine dq_asgI (δ := L XV) (show L XV from [xE K 0 "word" (.ref p), xE K 1 "word" (.ref p), xE K 2 "word" (.ref p)]) (DO.l (do_lst (xs := [xE K 0 "word" (.ref p), xE K 1 "word" (.ref p), xE K 2 "word" (.ref p)]) (dl_cons (dn_newX (C := gC K 0) (fld := "word") (y := .ref p) (d_pv (i := 3) rfl)) (dl_cons (dn_newX (C := gC K 1) (fld := "word") (y := .ref p) (d_pv (i := 3) rfl)) (dl_cons (dn_newX (C := gC K 2) (fld := "word") (y := .ref p) (d_pv (i := 3) rfl)) (dl_nil)))) (by show 3 ≤ BIG; decide))) ?_
      show DS K B' _ [.val scr, .val k, .box, .obj (ownLA p [v]), .obj (ownLA q [AV.str "x", AV.int c]), .val (show L XV from [xE K 0 "word" (.ref p), xE K 1 "word" (.ref p), xE K 2 "word" (.ref p)]), .no, .no, .no, .no, .no, .no] _
      refine dq_asgI (δ := L XV) (show L XV from [xE K 0 "word" (.ref p), xE K 1 "word" (.ref p), xE K 2 "word" (.ref p)] ++ [xE K 0 "word" (.ref q), xE K 1 "word" (.ref q), xE K 2 "word" (.ref q)]) (DO.l (do_cat (d_var (n := 5) (a := (show L XV from [xE K 0 "word" (.ref p), xE K 1 "word" (.ref p), xE K 2 "word" (.ref p)])) rfl) (DO.l (do_lst (xs := [xE K 0 "word" (.ref q), xE K 1 "word" (.ref q), xE K 2 "word" (.ref q)]) (dl_cons (dn_newXW (C := gC K 0) (fld := "word") (y := .ref q) (da_cons (d_pv (i := 4) rfl) da_nil)) (dl_cons (dn_newXW (C := gC K 1) (fld := "word") (y := .ref q) (da_cons (d_pv (i := 4) rfl) da_nil)) (dl_cons (dn_newXW (C := gC K 2) (fld := "word") (y := .ref q) (da_cons (d_pv (i := 4) rfl) da_nil)) (dl_nil)))) (by show 3 ≤ BIG; decide))) (by show 3 + 3 ≤ BIG; decide))) ?_
      show DS K B' _ [.val scr, .val k, .box, .obj (ownLA p [v]), .obj (ownLA q [AV.str "x", AV.int c]), .val (show L XV from [xE K 0 "word" (.ref p), xE K 1 "word" (.ref p), xE K 2 "word" (.ref p)] ++ [xE K 0 "word" (.ref q), xE K 1 "word" (.ref q), xE K 2 "word" (.ref q)]), .no, .no, .no, .no, .no, .no] _
      refine dq_asgI (δ := L XV) (show L XV from [xE K 3 "at" (.ref p), xE K 4 "at" (.ref p), xE K 5 "at" (.ref p), xE K 6 "at" (.ref p)]) (DO.l (do_lst (xs := [xE K 3 "at" (.ref p), xE K 4 "at" (.ref p), xE K 5 "at" (.ref p), xE K 6 "at" (.ref p)]) (dl_cons (dn_newX (C := gC K 3) (fld := "at") (y := .ref p) (d_pv (i := 3) rfl)) (dl_cons (dn_newX (C := gC K 4) (fld := "at") (y := .ref p) (d_pv (i := 3) rfl)) (dl_cons (dn_newX (C := gC K 5) (fld := "at") (y := .ref p) (d_pv (i := 3) rfl)) (dl_cons (dn_newX (C := gC K 6) (fld := "at") (y := .ref p) (d_pv (i := 3) rfl)) (dl_nil))))) (by show 4 ≤ BIG; decide))) ?_
      show DS K B' _ [.val scr, .val k, .box, .obj (ownLA p [v]), .obj (ownLA q [AV.str "x", AV.int c]), .val (show L XV from [xE K 0 "word" (.ref p), xE K 1 "word" (.ref p), xE K 2 "word" (.ref p)] ++ [xE K 0 "word" (.ref q), xE K 1 "word" (.ref q), xE K 2 "word" (.ref q)]), .val (show L XV from [xE K 3 "at" (.ref p), xE K 4 "at" (.ref p), xE K 5 "at" (.ref p), xE K 6 "at" (.ref p)]), .no, .no, .no, .no, .no] _
      refine dq_asgI (δ := L XV) (show L XV from [xE K 3 "at" (.ref p), xE K 4 "at" (.ref p), xE K 5 "at" (.ref p), xE K 6 "at" (.ref p)] ++ [xE K 7 "at" (.ref p), xE K 8 "at" (.ref p), xE K 9 "at" (.ref p), xE K 10 "at" (.ref p)]) (DO.l (do_cat (d_var (n := 6) (a := (show L XV from [xE K 3 "at" (.ref p), xE K 4 "at" (.ref p), xE K 5 "at" (.ref p), xE K 6 "at" (.ref p)])) rfl) (DO.l (do_lst (xs := [xE K 7 "at" (.ref p), xE K 8 "at" (.ref p), xE K 9 "at" (.ref p), xE K 10 "at" (.ref p)]) (dl_cons (dn_newX (C := gC K 7) (fld := "at") (y := .ref p) (d_pv (i := 3) rfl)) (dl_cons (dn_newX (C := gC K 8) (fld := "at") (y := .ref p) (d_pv (i := 3) rfl)) (dl_cons (dn_newX (C := gC K 9) (fld := "at") (y := .ref p) (d_pv (i := 3) rfl)) (dl_cons (dn_newX (C := gC K 10) (fld := "at") (y := .ref p) (d_pv (i := 3) rfl)) (dl_nil))))) (by show 4 ≤ BIG; decide))) (by show 4 + 4 ≤ BIG; decide))) ?_
      show DS K B' _ [.val scr, .val k, .box, .obj (ownLA p [v]), .obj (ownLA q [AV.str "x", AV.int c]), .val (show L XV from [xE K 0 "word" (.ref p), xE K 1 "word" (.ref p), xE K 2 "word" (.ref p)] ++ [xE K 0 "word" (.ref q), xE K 1 "word" (.ref q), xE K 2 "word" (.ref q)]), .val (show L XV from [xE K 3 "at" (.ref p), xE K 4 "at" (.ref p), xE K 5 "at" (.ref p), xE K 6 "at" (.ref p)] ++ [xE K 7 "at" (.ref p), xE K 8 "at" (.ref p), xE K 9 "at" (.ref p), xE K 10 "at" (.ref p)]), .no, .no, .no, .no, .no] _
      refine dq_asgI (δ := L XV) (show L XV from [xE K 3 "at" (.ref q), xE K 4 "at" (.ref q), xE K 5 "at" (.ref q), xE K 6 "at" (.ref q)]) (DO.l (do_lst (xs := [xE K 3 "at" (.ref q), xE K 4 "at" (.ref q), xE K 5 "at" (.ref q), xE K 6 "at" (.ref q)]) (dl_cons (dn_newXW (C := gC K 3) (fld := "at") (y := .ref q) (da_cons (d_pv (i := 4) rfl) da_nil)) (dl_cons (dn_newXW (C := gC K 4) (fld := "at") (y := .ref q) (da_cons (d_pv (i := 4) rfl) da_nil)) (dl_cons (dn_newXW (C := gC K 5) (fld := "at") (y := .ref q) (da_cons (d_pv (i := 4) rfl) da_nil)) (dl_cons (dn_newXW (C := gC K 6) (fld := "at") (y := .ref q) (da_cons (d_pv (i := 4) rfl) da_nil)) (dl_nil))))) (by show 4 ≤ BIG; decide))) ?_
      show DS K B' _ [.val scr, .val k, .box, .obj (ownLA p [v]), .obj (ownLA q [AV.str "x", AV.int c]), .val (show L XV from [xE K 0 "word" (.ref p), xE K 1 "word" (.ref p), xE K 2 "word" (.ref p)] ++ [xE K 0 "word" (.ref q), xE K 1 "word" (.ref q), xE K 2 "word" (.ref q)]), .val (show L XV from [xE K 3 "at" (.ref p), xE K 4 "at" (.ref p), xE K 5 "at" (.ref p), xE K 6 "at" (.ref p)] ++ [xE K 7 "at" (.ref p), xE K 8 "at" (.ref p), xE K 9 "at" (.ref p), xE K 10 "at" (.ref p)]), .val (show L XV from [xE K 3 "at" (.ref q), xE K 4 "at" (.ref q), xE K 5 "at" (.ref q), xE K 6 "at" (.ref q)]), .no, .no, .no, .no] _
      refine dq_asgI (δ := L XV) (show L XV from [xE K 3 "at" (.ref q), xE K 4 "at" (.ref q), xE K 5 "at" (.ref q), xE K 6 "at" (.ref q)] ++ [xE K 7 "at" (.ref q), xE K 8 "at" (.ref q), xE K 9 "at" (.ref q), xE K 10 "at" (.ref q)]) (DO.l (do_cat (d_var (n := 7) (a := (show L XV from [xE K 3 "at" (.ref q), xE K 4 "at" (.ref q), xE K 5 "at" (.ref q), xE K 6 "at" (.ref q)])) rfl) (DO.l (do_lst (xs := [xE K 7 "at" (.ref q), xE K 8 "at" (.ref q), xE K 9 "at" (.ref q), xE K 10 "at" (.ref q)]) (dl_cons (dn_newXW (C := gC K 7) (fld := "at") (y := .ref q) (da_cons (d_pv (i := 4) rfl) da_nil)) (dl_cons (dn_newXW (C := gC K 8) (fld := "at") (y := .ref q) (da_cons (d_pv (i := 4) rfl) da_nil)) (dl_cons (dn_newXW (C := gC K 9) (fld := "at") (y := .ref q) (da_cons (d_pv (i := 4) rfl) da_nil)) (dl_cons (dn_newXW (C := gC K 10) (fld := "at") (y := .ref q) (da_cons (d_pv (i := 4) rfl) da_nil)) (dl_nil))))) (by show 4 ≤ BIG; decide))) (by show 4 + 4 ≤ BIG; decide))) ?_
      show DS K B' _ [.val scr, .val k, .box, .obj (ownLA p [v]), .obj (ownLA q [AV.str "x", AV.int c]), .val (show L XV from [xE K 0 "word" (.ref p), xE K 1 "word" (.ref p), xE K 2 "word" (.ref p)] ++ [xE K 0 "word" (.ref q), xE K 1 "word" (.ref q), xE K 2 "word" (.ref q)]), .val (show L XV from [xE K 3 "at" (.ref p), xE K 4 "at" (.ref p), xE K 5 "at" (.ref p), xE K 6 "at" (.ref p)] ++ [xE K 7 "at" (.ref p), xE K 8 "at" (.ref p), xE K 9 "at" (.ref p), xE K 10 "at" (.ref p)]), .val (show L XV from [xE K 3 "at" (.ref q), xE K 4 "at" (.ref q), xE K 5 "at" (.ref q), xE K 6 "at" (.ref q)] ++ [xE K 7 "at" (.ref q), xE K 8 "at" (.ref q), xE K 9 "at" (.ref q), xE K 10 "at" (.ref q)]), .no, .no, .no, .no] _
      refine dq_par (α := L XV) (β := L XV) (a := (show L XV from [xE K 11 "ring" (.ref p), xE K 11 "ring" (.ref q)])) (b := (show L XV from [xE K 15 "name" (.ref p), xE K 15 "name" (.ref q)])) (DO.l (do_lst (xs := [xE K 11 "ring" (.ref p), xE K 11 "ring" (.ref q)]) (dl_cons (dn_newX (C := gC K 11) (fld := "ring") (y := .ref p) (d_pv (i := 3) rfl)) (dl_cons (dn_newXW (C := gC K 11) (fld := "ring") (y := .ref q) (da_cons (d_pv (i := 4) rfl) da_nil)) (dl_nil))) (by show 2 ≤ BIG; decide))) (DO.l (do_lst (xs := [xE K 15 "name" (.ref p), xE K 15 "name" (.ref q)]) (dl_cons (dn_newX (C := gC K 15) (fld := "name") (y := .ref p) (d_pv (i := 3) rfl)) (dl_cons (dn_newXW (C := gC K 15) (fld := "name") (y := .ref q) (da_cons (d_pv (i := 4) rfl) da_nil)) (dl_nil))) (by show 2 ≤ BIG; decide))) ?_
      show DS K B' _ [.val scr, .val k, .box, .obj (ownLA p [v]), .obj (ownLA q [AV.str "x", AV.int c]), .val (show L XV from [xE K 0 "word" (.ref p), xE K 1 "word" (.ref p), xE K 2 "word" (.ref p)] ++ [xE K 0 "word" (.ref q), xE K 1 "word" (.ref q), xE K 2 "word" (.ref q)]), .val (show L XV from [xE K 3 "at" (.ref p), xE K 4 "at" (.ref p), xE K 5 "at" (.ref p), xE K 6 "at" (.ref p)] ++ [xE K 7 "at" (.ref p), xE K 8 "at" (.ref p), xE K 9 "at" (.ref p), xE K 10 "at" (.ref p)]), .val (show L XV from [xE K 3 "at" (.ref q), xE K 4 "at" (.ref q), xE K 5 "at" (.ref q), xE K 6 "at" (.ref q)] ++ [xE K 7 "at" (.ref q), xE K 8 "at" (.ref q), xE K 9 "at" (.ref q), xE K 10 "at" (.ref q)]), .val (show L XV from [xE K 11 "ring" (.ref p), xE K 11 "ring" (.ref q)]), .val (show L XV from [xE K 15 "name" (.ref p), xE K 15 "name" (.ref q)]), .no, .no] _
      refine ds_seq (ds_appLA (i := 3) (p := p) (xs := [v]) (a := AV.int k) rfl (d_avI (d_var (n := 1) (a := k) rfl)) (by show 1 < BIG; decide) ?_)
      show DS K B' _ [.val scr, .val k, .box, .obj (ownLA p ([v] ++ [.int k])), .obj (ownLA q [AV.str "x", AV.int c]), .val (show L XV from [xE K 0 "word" (.ref p), xE K 1 "word" (.ref p), xE K 2 "word" (.ref p)] ++ [xE K 0 "word" (.ref q), xE K 1 "word" (.ref q), xE K 2 "word" (.ref q)]), .val (show L XV from [xE K 3 "at" (.ref p), xE K 4 "at" (.ref p), xE K 5 "at" (.ref p), xE K 6 "at" (.ref p)] ++ [xE K 7 "at" (.ref p), xE K 8 "at" (.ref p), xE K 9 "at" (.ref p), xE K 10 "at" (.ref p)]), .val (show L XV from [xE K 3 "at" (.ref q), xE K 4 "at" (.ref q), xE K 5 "at" (.ref q), xE K 6 "at" (.ref q)] ++ [xE K 7 "at" (.ref q), xE K 8 "at" (.ref q), xE K 9 "at" (.ref q), xE K 10 "at" (.ref q)]), .val (show L XV from [xE K 11 "ring" (.ref p), xE K 11 "ring" (.ref q)]), .val (show L XV from [xE K 15 "name" (.ref p), xE K 15 "name" (.ref q)]), .no, .no] _
      refine ds_seq (ds_appLA (i := 4) (p := q) (xs := [AV.str "x", AV.int c]) (a := AV.str "y") rfl (d_avS d_str) (by show 2 < BIG; decide) ?_)
      show DS K B' _ [.val scr, .val k, .box, .obj (ownLA p ([v] ++ [.int k])), .obj (ownLA q ([AV.str "x", AV.int c] ++ [AV.str "y"])), .val (show L XV from [xE K 0 "word" (.ref p), xE K 1 "word" (.ref p), xE K 2 "word" (.ref p)] ++ [xE K 0 "word" (.ref q), xE K 1 "word" (.ref q), xE K 2 "word" (.ref q)]), .val (show L XV from [xE K 3 "at" (.ref p), xE K 4 "at" (.ref p), xE K 5 "at" (.ref p), xE K 6 "at" (.ref p)] ++ [xE K 7 "at" (.ref p), xE K 8 "at" (.ref p), xE K 9 "at" (.ref p), xE K 10 "at" (.ref p)]), .val (show L XV from [xE K 3 "at" (.ref q), xE K 4 "at" (.ref q), xE K 5 "at" (.ref q), xE K 6 "at" (.ref q)] ++ [xE K 7 "at" (.ref q), xE K 8 "at" (.ref q), xE K 9 "at" (.ref q), xE K 10 "at" (.ref q)]), .val (show L XV from [xE K 11 "ring" (.ref p), xE K 11 "ring" (.ref q)]), .val (show L XV from [xE K 15 "name" (.ref p), xE K 15 "name" (.ref q)]), .no, .no] _
      refine ds_frzLA (i := 3) (p := p) (xs := [v, .int k]) rfl ?_
      refine ds_frzLA (i := 4) (p := q) (xs := [AV.str "x", AV.int c, .str "y"]) rfl ?_
      show DS K B' _ [.val scr, .val k, .box, .val (PinL.mk p [v, AV.int k]), .val (PinL.mk q [AV.str "x", AV.int c, AV.str "y"]), .val (show L XV from [xE K 0 "word" (.ref p), xE K 1 "word" (.ref p), xE K 2 "word" (.ref p)] ++ [xE K 0 "word" (.ref q), xE K 1 "word" (.ref q), xE K 2 "word" (.ref q)]), .val (show L XV from [xE K 3 "at" (.ref p), xE K 4 "at" (.ref p), xE K 5 "at" (.ref p), xE K 6 "at" (.ref p)] ++ [xE K 7 "at" (.ref p), xE K 8 "at" (.ref p), xE K 9 "at" (.ref p), xE K 10 "at" (.ref p)]), .val (show L XV from [xE K 3 "at" (.ref q), xE K 4 "at" (.ref q), xE K 5 "at" (.ref q), xE K 6 "at" (.ref q)] ++ [xE K 7 "at" (.ref q), xE K 8 "at" (.ref q), xE K 9 "at" (.ref q), xE K 10 "at" (.ref q)]), .val (show L XV from [xE K 11 "ring" (.ref p), xE K 11 "ring" (.ref q)]), .val (show L XV from [xE K 15 "name" (.ref p), xE K 15 "name" (.ref q)]), .no, .no] _
      have ht := sho_t hv hk3
      have ho := sho_o hc
      have T3 : ∀ {ρ : List Slot}, ρ[3]? = some (.val (PinL.mk p [v, AV.int k])) → DE K B' (tVar 3) ρ (AV.lst [v, .int k]) := fun h => d_lAV (d_pinL (x := PinL.mk p [v, AV.int k]) (d_var h))
      have O4 : ∀ {ρ : List Slot}, ρ[4]? = some (.val (PinL.mk q [AV.str "x", AV.int c, AV.str "y"])) → DE K B' (tVar 4) ρ (AV.lst [.str "x", .int c, .str "y"]) := fun h => d_lAV (d_pinL (x := PinL.mk q [AV.str "x", AV.int c, AV.str "y"]) (d_var h))
      have nf0 := S_InvalidRow.no
      have nf1 := S_InvalidModule.no
      have nf2 := S_InvalidTally.no
      have fw : ∀ x ∈ (show List XV from [xE K 0 "word" (.ref p), xE K 1 "word" (.ref p), xE K 2 "word" (.ref p)] ++ [xE K 0 "word" (.ref q), xE K 1 "word" (.ref q), xE K 2 "word" (.ref q)]), (∃ y : V, x.f = some (("word" : Str), y)) ∧ XfC K x.C ∧ PySem.W.findIn K (.ref x.C) "word" = some none := by
        intro x hx
        simp only [List.mem_append, List.mem_cons, List.not_mem_nil, or_false] at hx
        rcases hx with (rfl | rfl | rfl) | rfl | rfl | rfl
        · exact ⟨⟨_, rfl⟩, KK.xf 0 (by decide), S_InvalidRow.no⟩
        · exact ⟨⟨_, rfl⟩, KK.xf 1 (by decide), S_InvalidModule.no⟩
        · exact ⟨⟨_, rfl⟩, KK.xf 2 (by decide), S_InvalidTally.no⟩
        · exact ⟨⟨_, rfl⟩, KK.xf 0 (by decide), S_InvalidRow.no⟩
        · exact ⟨⟨_, rfl⟩, KK.xf 1 (by decide), S_InvalidModule.no⟩
        · exact ⟨⟨_, rfl⟩, KK.xf 2 (by decide), S_InvalidTally.no⟩
      have fs : ∀ x ∈ (show List XV from ([xE K 3 "at" (.ref p), xE K 4 "at" (.ref p), xE K 5 "at" (.ref p), xE K 6 "at" (.ref p)] ++ [xE K 7 "at" (.ref p), xE K 8 "at" (.ref p), xE K 9 "at" (.ref p), xE K 10 "at" (.ref p)]) ++ ([xE K 3 "at" (.ref q), xE K 4 "at" (.ref q), xE K 5 "at" (.ref q), xE K 6 "at" (.ref q)] ++ [xE K 7 "at" (.ref q), xE K 8 "at" (.ref q), xE K 9 "at" (.ref q), xE K 10 "at" (.ref q)])), (∃ y : V, x.f = some (("at" : Str), y)) ∧ XfC K x.C ∧ PySem.W.findIn K (.ref x.C) "at" = some none := by
        intro x hx
        simp only [List.mem_append, List.mem_cons, List.not_mem_nil, or_false] at hx
        rcases hx with ((rfl | rfl | rfl | rfl) | rfl | rfl | rfl | rfl) | (rfl | rfl | rfl | rfl) | rfl | rfl | rfl | rfl
        · exact ⟨⟨_, rfl⟩, KK.xf 3 (by decide), S_InvalidHouse.no⟩
        · exact ⟨⟨_, rfl⟩, KK.xf 4 (by decide), S_InvalidText.no⟩
        · exact ⟨⟨_, rfl⟩, KK.xf 5 (by decide), S_InvalidArrivals.no⟩
        · exact ⟨⟨_, rfl⟩, KK.xf 6 (by decide), S_InvalidWishes.no⟩
        · exact ⟨⟨_, rfl⟩, KK.xf 7 (by decide), S_InvalidLog.no⟩
        · exact ⟨⟨_, rfl⟩, KK.xf 8 (by decide), S_InvalidMenu.no⟩
        · exact ⟨⟨_, rfl⟩, KK.xf 9 (by decide), S_InvalidGoals.no⟩
        · exact ⟨⟨_, rfl⟩, KK.xf 10 (by decide), S_Refused.no⟩
        · exact ⟨⟨_, rfl⟩, KK.xf 3 (by decide), S_InvalidHouse.no⟩
        · exact ⟨⟨_, rfl⟩, KK.xf 4 (by decide), S_InvalidText.no⟩
        · exact ⟨⟨_, rfl⟩, KK.xf 5 (by decide), S_InvalidArrivals.no⟩
        · exact ⟨⟨_, rfl⟩, KK.xf 6 (by decide), S_InvalidWishes.no⟩
        · exact ⟨⟨_, rfl⟩, KK.xf 7 (by decide), S_InvalidLog.no⟩
        · exact ⟨⟨_, rfl⟩, KK.xf 8 (by decide), S_InvalidMenu.no⟩
        · exact ⟨⟨_, rfl⟩, KK.xf 9 (by decide), S_InvalidGoals.no⟩
        · exact ⟨⟨_, rfl⟩, KK.xf 10 (by decide), S_Refused.no⟩
      have fr : ∀ x ∈ (show List XV from [xE K 11 "ring" (.ref p), xE K 11 "ring" (.ref q)]), (∃ y : V, x.f = some (("ring" : Str), y)) ∧ XfC K x.C ∧ PySem.W.findIn K (.ref x.C) "ring" = some none := by
        intro x hx
        simp only [List.mem_append, List.mem_cons, List.not_mem_nil, or_false] at hx
        rcases hx with rfl | rfl
        · exact ⟨⟨_, rfl⟩, KK.xf 11 (by decide), S_NeverGoes.no⟩
        · exact ⟨⟨_, rfl⟩, KK.xf 11 (by decide), S_NeverGoes.no⟩
      have fl : ∀ x ∈ (show List XV from [xE K 15 "name" (.ref p), xE K 15 "name" (.ref q)]), (∃ y : V, x.f = some (("name" : Str), y)) ∧ XfC K x.C ∧ PySem.W.findIn K (.ref x.C) "name" = some none := by
        intro x hx
        simp only [List.mem_append, List.mem_cons, List.not_mem_nil, or_false] at hx
        rcases hx with rfl | rfl
        · exact ⟨⟨_, rfl⟩, KK.xf 15 (by decide), S_NoPlace.no⟩
        · exact ⟨⟨_, rfl⟩, KK.xf 15 (by decide), S_NoPlace.no⟩
      have s1 := sho_l (xs := [AV.lst [v, AV.int k], AV.lst [v, AV.int k], AV.lst [v, AV.int k], AV.lst [AV.str "x", AV.int c, AV.str "y"], AV.lst [AV.str "x", AV.int c, AV.str "y"], AV.lst [AV.str "x", AV.int c, AV.str "y"]]) (fun x hx => by
          simp only [List.mem_cons, List.not_mem_nil, or_false] at hx
          rcases hx with rfl | rfl | rfl | rfl | rfl | rfl
          · exact ht
          · exact ht
          · exact ht
          · exact ho
          · exact ho
          · exact ho) (by show 6 ≤ 100; decide)
      have s2 := sho_l (xs := [AV.lst [v, AV.int k], AV.lst [v, AV.int k], AV.lst [v, AV.int k], AV.lst [v, AV.int k], AV.lst [v, AV.int k], AV.lst [v, AV.int k], AV.lst [v, AV.int k], AV.lst [v, AV.int k], AV.lst [AV.str "x", AV.int c, AV.str "y"], AV.lst [AV.str "x", AV.int c, AV.str "y"], AV.lst [AV.str "x", AV.int c, AV.str "y"], AV.lst [AV.str "x", AV.int c, AV.str "y"], AV.lst [AV.str "x", AV.int c, AV.str "y"], AV.lst [AV.str "x", AV.int c, AV.str "y"], AV.lst [AV.str "x", AV.int c, AV.str "y"], AV.lst [AV.str "x", AV.int c, AV.str "y"]]) (fun x hx => by
          simp only [List.mem_cons, List.not_mem_nil, or_false] at hx
          rcases hx with rfl | rfl | rfl | rfl | rfl | rfl | rfl | rfl | rfl | rfl | rfl | rfl | rfl | rfl | rfl | rfl
          · exact ht
          · exact ht
          · exact ht
          · exact ht
          · exact ht
          · exact ht
          · exact ht
          · exact ht
          · exact ho
          · exact ho
          · exact ho
          · exact ho
          · exact ho
          · exact ho
          · exact ho
          · exact ho) (by show 16 ≤ 100; decide)
      have s3 := sho_l (xs := [AV.lst [v, AV.int k], AV.lst [AV.str "x", AV.int c, AV.str "y"], AV.lst [v, AV.int k], AV.lst [AV.str "x", AV.int c, AV.str "y"]]) (fun x hx => by
          simp only [List.mem_cons, List.not_mem_nil, or_false] at hx
          rcases hx with rfl | rfl | rfl | rfl
          · exact ht
          · exact ho
          · exact ht
          · exact ho) (by show 4 ≤ 100; decide)
      refine dq_when (c := false) (dt_test (DE.is (d_ne (d_reprA (d_lAV (d_pins (zs := [AV.lst [v, AV.int k], AV.lst [v, AV.int k], AV.lst [v, AV.int k], AV.lst [AV.str "x", AV.int c, AV.str "y"], AV.lst [AV.str "x", AV.int c, AV.str "y"], AV.lst [AV.str "x", AV.int c, AV.str "y"]]) (DO.l (do_map (α := XV) (β := PV) fldV (di_seq (d_Lq (d_var (n := 5) (a := (show L XV from [xE K 0 "word" (.ref p), xE K 1 "word" (.ref p), xE K 2 "word" (.ref p)] ++ [xE K 0 "word" (.ref q), xE K 1 "word" (.ref q), xE K 2 "word" (.ref q)])) rfl))) (by show 6 ≤ BIG; decide) fun x hx => ⟨_, _, dg_name, by simp, by
          obtain ⟨⟨y, ey⟩, t1, t2⟩ := fw x hx
          refine DE.is (d_xg (x := x) (y := y) (d_var (n := 11) (a := x) rfl) ey t1 t2) ?_
          unfold fldV
          rw [ey]
          rfl⟩)) (.cons ⟨3, PinL.mk p [v, AV.int k], rfl, rfl, rfl⟩ (.cons ⟨3, PinL.mk p [v, AV.int k], rfl, rfl, rfl⟩ (.cons ⟨3, PinL.mk p [v, AV.int k], rfl, rfl, rfl⟩ (.cons ⟨4, PinL.mk q [AV.str "x", AV.int c, AV.str "y"], rfl, rfl, rfl⟩ (.cons ⟨4, PinL.mk q [AV.str "x", AV.int c, AV.str "y"], rfl, rfl, rfl⟩ (.cons ⟨4, PinL.mk q [AV.str "x", AV.int c, AV.str "y"], rfl, rfl, rfl⟩ (.nil))))))))) s1.1 s1.2.1 (by decide) s1.2.2) (d_reprA (x := AV.lst ([AV.lst [v, AV.int k], AV.lst [v, AV.int k], AV.lst [v, AV.int k], AV.lst [AV.str "x", AV.int c, AV.str "y"], AV.lst [AV.str "x", AV.int c, AV.str "y"], AV.lst [AV.str "x", AV.int c, AV.str "y"]])) (d_lAV (DO.l (do_cat (DO.l (do_rep (a := AV.lst [v, .int k]) (DO.l (do_lst (dl_cons (T3 rfl) dl_nil) (by show 1 ≤ BIG; decide))) d_int (by decide) (by decide))) (DO.l (do_rep (a := AV.lst [.str "x", .int c, .str "y"]) (DO.l (do_lst (dl_cons (O4 rfl) dl_nil) (by show 1 ≤ BIG; decide))) d_int (by decide) (by decide))) (by show 3 + 3 ≤ BIG; decide)))) s1.1 s1.2.1 (by decide) s1.2.2) inferInstance inferInstance) (by rw [decide_eq_true rfl]; rfl))) (fun h => nomatch h) fun _ => ?_
      refine dq_when (c := false) (dt_test (DE.is (d_ne (d_reprA (d_lAV (d_pins (zs := [AV.lst [v, AV.int k], AV.lst [v, AV.int k], AV.lst [v, AV.int k], AV.lst [v, AV.int k], AV.lst [v, AV.int k], AV.lst [v, AV.int k], AV.lst [v, AV.int k], AV.lst [v, AV.int k], AV.lst [AV.str "x", AV.int c, AV.str "y"], AV.lst [AV.str "x", AV.int c, AV.str "y"], AV.lst [AV.str "x", AV.int c, AV.str "y"], AV.lst [AV.str "x", AV.int c, AV.str "y"], AV.lst [AV.str "x", AV.int c, AV.str "y"], AV.lst [AV.str "x", AV.int c, AV.str "y"], AV.lst [AV.str "x", AV.int c, AV.str "y"], AV.lst [AV.str "x", AV.int c, AV.str "y"]]) (DO.l (do_map (α := XV) (β := PV) fldV (di_seq (d_Lq (DO.l (do_cat (d_var (n := 6) (a := (show L XV from [xE K 3 "at" (.ref p), xE K 4 "at" (.ref p), xE K 5 "at" (.ref p), xE K 6 "at" (.ref p)] ++ [xE K 7 "at" (.ref p), xE K 8 "at" (.ref p), xE K 9 "at" (.ref p), xE K 10 "at" (.ref p)])) rfl) (d_var (n := 7) (a := (show L XV from [xE K 3 "at" (.ref q), xE K 4 "at" (.ref q), xE K 5 "at" (.ref q), xE K 6 "at" (.ref q)] ++ [xE K 7 "at" (.ref q), xE K 8 "at" (.ref q), xE K 9 "at" (.ref q), xE K 10 "at" (.ref q)])) rfl) (by show 8 + 8 ≤ BIG; decide))))) (by show 16 ≤ BIG; decide) fun x hx => ⟨_, _, dg_name, by simp, by
          obtain ⟨⟨y, ey⟩, t1, t2⟩ := fs x hx
          refine DE.is (d_xg (x := x) (y := y) (d_var (n := 11) (a := x) rfl) ey t1 t2) ?_
          unfold fldV
          rw [ey]
          rfl⟩)) (.cons ⟨3, PinL.mk p [v, AV.int k], rfl, rfl, rfl⟩ (.cons ⟨3, PinL.mk p [v, AV.int k], rfl, rfl, rfl⟩ (.cons ⟨3, PinL.mk p [v, AV.int k], rfl, rfl, rfl⟩ (.cons ⟨3, PinL.mk p [v, AV.int k], rfl, rfl, rfl⟩ (.cons ⟨3, PinL.mk p [v, AV.int k], rfl, rfl, rfl⟩ (.cons ⟨3, PinL.mk p [v, AV.int k], rfl, rfl, rfl⟩ (.cons ⟨3, PinL.mk p [v, AV.int k], rfl, rfl, rfl⟩ (.cons ⟨3, PinL.mk p [v, AV.int k], rfl, rfl, rfl⟩ (.cons ⟨4, PinL.mk q [AV.str "x", AV.int c, AV.str "y"], rfl, rfl, rfl⟩ (.cons ⟨4, PinL.mk q [AV.str "x", AV.int c, AV.str "y"], rfl, rfl, rfl⟩ (.cons ⟨4, PinL.mk q [AV.str "x", AV.int c, AV.str "y"], rfl, rfl, rfl⟩ (.cons ⟨4, PinL.mk q [AV.str "x", AV.int c, AV.str "y"], rfl, rfl, rfl⟩ (.cons ⟨4, PinL.mk q [AV.str "x", AV.int c, AV.str "y"], rfl, rfl, rfl⟩ (.cons ⟨4, PinL.mk q [AV.str "x", AV.int c, AV.str "y"], rfl, rfl, rfl⟩ (.cons ⟨4, PinL.mk q [AV.str "x", AV.int c, AV.str "y"], rfl, rfl, rfl⟩ (.cons ⟨4, PinL.mk q [AV.str "x", AV.int c, AV.str "y"], rfl, rfl, rfl⟩ (.nil))))))))))))))))))) s2.1 s2.2.1 (by decide) s2.2.2) (d_reprA (x := AV.lst ([AV.lst [v, AV.int k], AV.lst [v, AV.int k], AV.lst [v, AV.int k], AV.lst [v, AV.int k], AV.lst [v, AV.int k], AV.lst [v, AV.int k], AV.lst [v, AV.int k], AV.lst [v, AV.int k], AV.lst [AV.str "x", AV.int c, AV.str "y"], AV.lst [AV.str "x", AV.int c, AV.str "y"], AV.lst [AV.str "x", AV.int c, AV.str "y"], AV.lst [AV.str "x", AV.int c, AV.str "y"], AV.lst [AV.str "x", AV.int c, AV.str "y"], AV.lst [AV.str "x", AV.int c, AV.str "y"], AV.lst [AV.str "x", AV.int c, AV.str "y"], AV.lst [AV.str "x", AV.int c, AV.str "y"]])) (d_lAV (DO.l (do_cat (DO.l (do_rep (a := AV.lst [v, .int k]) (DO.l (do_lst (dl_cons (T3 rfl) dl_nil) (by show 1 ≤ BIG; decide))) d_int (by decide) (by decide))) (DO.l (do_rep (a := AV.lst [.str "x", .int c, .str "y"]) (DO.l (do_lst (dl_cons (O4 rfl) dl_nil) (by show 1 ≤ BIG; decide))) d_int (by decide) (by decide))) (by show 8 + 8 ≤ BIG; decide)))) s2.1 s2.2.1 (by decide) s2.2.2) inferInstance inferInstance) (by rw [decide_eq_true rfl]; rfl))) (fun h => nomatch h) fun _ => ?_
      refine dq_when (c := false) (dt_test (DE.is (d_ne (d_reprA (d_lAV (d_pins (zs := [AV.lst [v, AV.int k], AV.lst [AV.str "x", AV.int c, AV.str "y"], AV.lst [v, AV.int k], AV.lst [AV.str "x", AV.int c, AV.str "y"]]) (DO.l (do_cat (DO.l (do_map (α := XV) (β := PV) fldV (di_seq (d_Lq (d_var (n := 8) (a := (show L XV from [xE K 11 "ring" (.ref p), xE K 11 "ring" (.ref q)])) rfl))) (by show 2 ≤ BIG; decide) fun x hx => ⟨_, _, dg_name, by simp, by
          obtain ⟨⟨y, ey⟩, t1, t2⟩ := fr x hx
          refine DE.is (d_xg (x := x) (y := y) (d_var (n := 11) (a := x) rfl) ey t1 t2) ?_
          unfold fldV
          rw [ey]
          rfl⟩)) (DO.l (do_map (α := XV) (β := PV) fldV (di_seq (d_Lq (d_var (n := 9) (a := (show L XV from [xE K 15 "name" (.ref p), xE K 15 "name" (.ref q)])) rfl))) (by show 2 ≤ BIG; decide) fun x hx => ⟨_, _, dg_name, by simp, by
          obtain ⟨⟨y, ey⟩, t1, t2⟩ := fl x hx
          refine DE.is (d_xg (x := x) (y := y) (d_var (n := 11) (a := x) rfl) ey t1 t2) ?_
          unfold fldV
          rw [ey]
          rfl⟩)) (by show 2 + 2 ≤ BIG; decide))) (.cons ⟨3, PinL.mk p [v, AV.int k], rfl, rfl, rfl⟩ (.cons ⟨4, PinL.mk q [AV.str "x", AV.int c, AV.str "y"], rfl, rfl, rfl⟩ (.cons ⟨3, PinL.mk p [v, AV.int k], rfl, rfl, rfl⟩ (.cons ⟨4, PinL.mk q [AV.str "x", AV.int c, AV.str "y"], rfl, rfl, rfl⟩ (.nil))))))) s3.1 s3.2.1 (by decide) s3.2.2) (d_reprA (x := AV.lst ([AV.lst [v, AV.int k], AV.lst [AV.str "x", AV.int c, AV.str "y"], AV.lst [v, AV.int k], AV.lst [AV.str "x", AV.int c, AV.str "y"]])) (d_lAV (DO.l (do_repL (xs := [AV.lst [v, AV.int k], AV.lst [AV.str "x", AV.int c, AV.str "y"]]) (DO.l (do_lst (dl_cons (T3 rfl) (dl_cons (O4 rfl) dl_nil)) (by show 2 ≤ BIG; decide))) d_int (by show 2 + 2 ≤ BIG; decide)))) s3.1 s3.2.1 (by decide) s3.2.2) inferInstance inferInstance) (by rw [decide_eq_true rfl]; rfl))) (fun h => nomatch h) fun _ => ?_
      have own : ∀ (n : Nat) (x : XV), ((show List XV from (([xE K 0 "word" (.ref p), xE K 1 "word" (.ref p), xE K 2 "word" (.ref p)] ++ ([xE K 3 "at" (.ref p), xE K 4 "at" (.ref p), xE K 5 "at" (.ref p), xE K 6 "at" (.ref p)] ++ [xE K 7 "at" (.ref p), xE K 8 "at" (.ref p), xE K 9 "at" (.ref p), xE K 10 "at" (.ref p)])) ++ [xE K 11 "ring" (.ref p)]) ++ [xE0 K 12, xE0 K 13, xE0 K 14])[n]? = some x) → n < 15 ∧ x.C = gC K n := by
        intro n x h
        have hn : n < 15 := (List.getElem?_eq_some_iff.mp h).1
        refine ⟨hn, ?_⟩
        match n, hn with
        | 0, _ => cases h; rfl
        | 1, _ => cases h; rfl
        | 2, _ => cases h; rfl
        | 3, _ => cases h; rfl
        | 4, _ => cases h; rfl
        | 5, _ => cases h; rfl
        | 6, _ => cases h; rfl
        | 7, _ => cases h; rfl
        | 8, _ => cases h; rfl
        | 9, _ => cases h; rfl
        | 10, _ => cases h; rfl
        | 11, _ => cases h; rfl
        | 12, _ => cases h; rfl
        | 13, _ => cases h; rfl
        | 14, _ => cases h; rfl
      refine dq_forW (xs := enumL (show List XV from (([xE K 0 "word" (.ref p), xE K 1 "word" (.ref p), xE K 2 "word" (.ref p)] ++ ([xE K 3 "at" (.ref p), xE K 4 "at" (.ref p), xE K 5 "at" (.ref p), xE K 6 "at" (.ref p)] ++ [xE K 7 "at" (.ref p), xE K 8 "at" (.ref p), xE K 9 "at" (.ref p), xE K 10 "at" (.ref p)])) ++ [xE K 11 "ring" (.ref p)]) ++ [xE0 K 12, xE0 K 13, xE0 K 14])) ([.val scr, .val k, .box, .val (PinL.mk p [v, AV.int k]), .val (PinL.mk q [AV.str "x", AV.int c, AV.str "y"]), .val (show L XV from [xE K 0 "word" (.ref p), xE K 1 "word" (.ref p), xE K 2 "word" (.ref p)] ++ [xE K 0 "word" (.ref q), xE K 1 "word" (.ref q), xE K 2 "word" (.ref q)]), .val (show L XV from [xE K 3 "at" (.ref p), xE K 4 "at" (.ref p), xE K 5 "at" (.ref p), xE K 6 "at" (.ref p)] ++ [xE K 7 "at" (.ref p), xE K 8 "at" (.ref p), xE K 9 "at" (.ref p), xE K 10 "at" (.ref p)]), .val (show L XV from [xE K 3 "at" (.ref q), xE K 4 "at" (.ref q), xE K 5 "at" (.ref q), xE K 6 "at" (.ref q)] ++ [xE K 7 "at" (.ref q), xE K 8 "at" (.ref q), xE K 9 "at" (.ref q), xE K 10 "at" (.ref q)]), .val (show L XV from [xE K 11 "ring" (.ref p), xE K 11 "ring" (.ref q)]), .val (show L XV from [xE K 15 "name" (.ref p), xE K 15 "name" (.ref q)]), .no, .no]) (di_enum (DO.l (do_cat (DO.l (do_cat (DO.l (do_cat (xs := [xE K 0 "word" (.ref p), xE K 1 "word" (.ref p), xE K 2 "word" (.ref p)]) (DE.is (DO.l (do_slice (xs := [xE K 0 "word" (.ref p), xE K 1 "word" (.ref p), xE K 2 "word" (.ref p)] ++ [xE K 0 "word" (.ref q), xE K 1 "word" (.ref q), xE K 2 "word" (.ref q)]) (lo := none) (hi := some 3) (d_var (n := 5) (a := (show L XV from [xE K 0 "word" (.ref p), xE K 1 "word" (.ref p), xE K 2 "word" (.ref p)] ++ [xE K 0 "word" (.ref q), xE K 1 "word" (.ref q), xE K 2 "word" (.ref q)])) rfl) dp_none (dp_some d_int))) (by rfl)) (d_var (n := 6) (a := (show L XV from [xE K 3 "at" (.ref p), xE K 4 "at" (.ref p), xE K 5 "at" (.ref p), xE K 6 "at" (.ref p)] ++ [xE K 7 "at" (.ref p), xE K 8 "at" (.ref p), xE K 9 "at" (.ref p), xE K 10 "at" (.ref p)])) rfl) (by show 3 + 8 ≤ BIG; decide))) (DE.is (a' := (show L XV from [xE K 11 "ring" (.ref p)])) (DO.l (do_slice (xs := [xE K 11 "ring" (.ref p), xE K 11 "ring" (.ref q)]) (lo := none) (hi := some 1) (d_var (n := 8) (a := (show L XV from [xE K 11 "ring" (.ref p), xE K 11 "ring" (.ref q)])) rfl) dp_none (dp_some d_int))) (by rfl)) (by show 11 + 1 ≤ BIG; decide))) (DO.l (do_lst (xs := [xE0 K 12, xE0 K 13, xE0 K 14]) (dl_cons (dn_new0 (C := gC K 12)) (dl_cons (dn_new0 (C := gC K 13)) (dl_cons (dn_new0 (C := gC K 14)) dl_nil))) (by show 3 ≤ BIG; decide))) (by show 12 + 3 ≤ BIG; decide)))) (Wk.refl _) (fun z hz => ⟨_, _, DG.pair dg_name dg_name, ?_⟩) ?_
      · obtain ⟨n, hn⟩ := List.getElem?_of_mem hz
        obtain ⟨x, hx, rfl⟩ := enumL_at.mp hn
        obtain ⟨h15, hC⟩ := own n x hx
        show DS K B' _ [.val scr, .val k, .box, .val (PinL.mk p [v, AV.int k]), .val (PinL.mk q [AV.str "x", AV.int c, AV.str "y"]), .val (show L XV from [xE K 0 "word" (.ref p), xE K 1 "word" (.ref p), xE K 2 "word" (.ref p)] ++ [xE K 0 "word" (.ref q), xE K 1 "word" (.ref q), xE K 2 "word" (.ref q)]), .val (show L XV from [xE K 3 "at" (.ref p), xE K 4 "at" (.ref p), xE K 5 "at" (.ref p), xE K 6 "at" (.ref p)] ++ [xE K 7 "at" (.ref p), xE K 8 "at" (.ref p), xE K 9 "at" (.ref p), xE K 10 "at" (.ref p)]), .val (show L XV from [xE K 3 "at" (.ref q), xE K 4 "at" (.ref q), xE K 5 "at" (.ref q), xE K 6 "at" (.ref q)] ++ [xE K 7 "at" (.ref q), xE K 8 "at" (.ref q), xE K 9 "at" (.ref q), xE K 10 "at" (.ref q)]), .val (show L XV from [xE K 11 "ring" (.ref p), xE K 11 "ring" (.ref q)]), .val (show L XV from [xE K 15 "name" (.ref p), xE K 15 "name" (.ref q)]), .val ((n : Nat) : Int), .val x] _
        exact ds_if (c := false) (dt_not (dt_B (d_call (a := true) (da_cons (d_var (n := 11) (a := x) rfl) (da_cons (d_var (n := 10) (a := ((n : Nat) : Int)) rfl) da_nil)) ⟨x, n, rfl, by omega, hC, rfl⟩))) (fun h => nomatch h) fun _ => ds_next (by (repeat' first | exact Wk.nil | exact Wk.refl _ | apply Wk.keep | apply Wk.drop))
      show DS K B' _ [.val scr, .val k, .box, .val (PinL.mk p [v, AV.int k]), .val (PinL.mk q [AV.str "x", AV.int c, AV.str "y"]), .val (show L XV from [xE K 0 "word" (.ref p), xE K 1 "word" (.ref p), xE K 2 "word" (.ref p)] ++ [xE K 0 "word" (.ref q), xE K 1 "word" (.ref q), xE K 2 "word" (.ref q)]), .val (show L XV from [xE K 3 "at" (.ref p), xE K 4 "at" (.ref p), xE K 5 "at" (.ref p), xE K 6 "at" (.ref p)] ++ [xE K 7 "at" (.ref p), xE K 8 "at" (.ref p), xE K 9 "at" (.ref p), xE K 10 "at" (.ref p)]), .val (show L XV from [xE K 3 "at" (.ref q), xE K 4 "at" (.ref q), xE K 5 "at" (.ref q), xE K 6 "at" (.ref q)] ++ [xE K 7 "at" (.ref q), xE K 8 "at" (.ref q), xE K 9 "at" (.ref q), xE K 10 "at" (.ref q)]), .val (show L XV from [xE K 11 "ring" (.ref p), xE K 11 "ring" (.ref q)]), .val (show L XV from [xE K 15 "name" (.ref p), xE K 15 "name" (.ref q)]), .no, .no] _
      refine dq_when (c := false) (DT.is (dt_or (dt_not (dt_B (d_call (a := true) (da_cons (d_ix (x := xE K 15 "name" (.ref p)) (d_Lq (d_var (n := 9) (a := (show L XV from [xE K 15 "name" (.ref p), xE K 15 "name" (.ref q)])) rfl)) d_int (by rfl)) (da_cons d_int da_nil)) ⟨xE K 15 "name" (.ref p), 15, rfl, by decide, rfl, rfl⟩))) fun _ => dt_or (dt_not (dt_B (d_call (a := true) (da_cons (d_ix (x := xE K 10 "at" (.ref q)) (d_Lq (d_var (n := 7) (a := (show L XV from [xE K 3 "at" (.ref q), xE K 4 "at" (.ref q), xE K 5 "at" (.ref q), xE K 6 "at" (.ref q)] ++ [xE K 7 "at" (.ref q), xE K 8 "at" (.ref q), xE K 9 "at" (.ref q), xE K 10 "at" (.ref q)])) rfl)) d_int (by rfl)) (da_cons d_int da_nil)) ⟨xE K 10 "at" (.ref q), 10, rfl, by decide, rfl, rfl⟩))) fun _ => (dt_not (dt_B (d_call (a := true) (da_cons (d_ix (x := xE K 2 "word" (.ref q)) (d_Lq (d_var (n := 5) (a := (show L XV from [xE K 0 "word" (.ref p), xE K 1 "word" (.ref p), xE K 2 "word" (.ref p)] ++ [xE K 0 "word" (.ref q), xE K 1 "word" (.ref q), xE K 2 "word" (.ref q)])) rfl)) d_int (by rfl)) (da_cons d_int da_nil)) ⟨xE K 2 "word" (.ref q), 2, rfl, by decide, rfl, rfl⟩)))) (by rfl)) (fun h => nomatch h) fun _ => ?_
      exact ds_if (c := false) (DT.is (dt_or (dt_test (DE.is (d_neD (α := L Bool) (a := kindL 16) (b := List.replicate (16 : Int).toNat false) (d_call (da_cons (dn_new0 (C := gC K 16)) da_nil) ⟨xE0 K 16, 16, rfl, by decide, rfl, rfl⟩) (DO.l (do_rep (a := false) (DO.l (do_lst (dl_cons d_bl dl_nil) (by show 1 ≤ BIG; decide))) d_int (by decide) (by decide))) (show DecidableEq (L Bool) from (inferInstance : DecidableEq (List Bool))) inferInstance (by decide)) (dec_noB kind16))) fun _ => dt_not (dt_B (d_isE (x := xE0 K 16) (c := .ty "ValueError") (dn_new0 (C := gC K 16)) (KK.exc 16 (by decide)) (.ty _) (KK.ve 16 (by decide))))) (by rfl)) (fun h => nomatch h) fun _ => ds_next (by (repeat' first | exact Wk.nil | exact Wk.refl _ | apply Wk.keep | apply Wk.drop))
    · exact ds_ret (a := true) d_bl q0
end
end WW

set_option Elab.async false
set_option linter.all false
set_option maxRecDepth 100000
set_option maxHeartbeats 4000000
namespace WW
open PySem PySem.Spec PyProof.Rows L2
/-! ### the draws of k01 (as D1's, on T0) -/
section
variable {P : Program} {w : World} {K : PySem.W.Frag} {mg : Str → Option Value} {base : Heap} {f : Addr} {fd : FuncData}

abbrev N_l_take : List Str := ["_law_box_here", "_law_many", "_law_one", "_law_digit"]
theorem sc_l_take : FnScope N_l_take ["_law_box_here", "_law_many"] (defScope s_l_take) := ⟨rfl, rfl, rfl, by decide +kernel, rfl, by decide +kernel, by decide +kernel⟩

theorem ok_take (F : FnP K "_law_take" s_l_take f fd) (m_int : mg "int" = none) : FnOk P w K mg base CX0 1 f fd ["_law_box_here", "_law_many"] spTake := by
  refine F.ok sc_l_take (fun vs H Q E h => ?_) (fun cdv A outer s H vs Q E hr h => ?_)
  · obtain ⟨b, m, rfl, _⟩ := h
    rfl
  · obtain ⟨b, m, rfl, ⟨x, y, z, hb⟩, h0, h1, q⟩ := h
    refine ⟨_, PSs.nox (pss_cons (ps_if (pt_cmpR op_gt (pe_ix (ix_sqK K) (pv 0) (pe_int) (fun _ _ => rfl)) (pe_int) (nomark _)) (pss_cons (ps_set (i := 3) sc_l_take.nd rfl (.inl rfl) (pe_op op_mod (pe_callTy call_int1 rfl m_int (by decide +kernel) (pa_cons (pe_ix (ix_sqK K) (pv 0) (pe_int) (fun _ _ => rfl)) (pa_nil))) (pv 1)))
 (pss_cons (ps_asg (pe_op op_fdiv (pe_ix (ix_sqK K) (pv 0) (pe_int) (fun _ _ => rfl)) (pv 1)) (pg_sub (pv 0) (pe_int) set_list))
 (pss_one (ps_ret (pv 3))))) (pss_nil))
 (pss_cons (ps_asg (pe_op op_add (pe_ix (ix_sqK K) (pv 0) (pe_int) (fun _ _ => rfl)) (pe_int)) (pg_sub (pv 0) (pe_int) set_list))
 (pss_cons (ps_set (i := 2) sc_l_take.nd rfl (.inl rfl) (pe_op op_mod (pe_callTy call_int1 rfl m_int (by decide +kernel) (pa_cons (pe_op op_mul (pe_op op_add (pe_ix (ix_sqK K) (pv 0) (pe_int) (fun _ _ => rfl)) (pe_op op_mul (pe_int) (pe_ix (ix_sqK K) (pv 0) (pe_int) (fun _ _ => rfl)))) (pe_int)) (pa_nil))) (pe_int)))
 (pss_cons (ps_asg (pe_op op_add (pe_op op_mod (pe_callTy call_int1 rfl m_int (by decide +kernel) (pa_cons (pe_op op_add (pe_op op_mul (pv 2) (pe_int)) (pe_int)) (pa_nil))) (pe_int)) (pe_int)) (pg_sub (pv 0) (pe_int) set_list))
 (pss_one (ps_ret (pe_op op_mod (pe_callTy call_int1 rfl m_int (by decide +kernel) (pa_cons (pe_op op_fdiv (pe_op op_add (pe_op op_mul (pv 2) (pe_int)) (pe_ix (ix_sqK K) (pv 0) (pe_int) (fun _ _ => rfl))) (pe_int)) (pa_nil))) (pv 1)))))))), ?_⟩
    have a0 : ∀ {x y z : Int}, atI [V.int x, V.int y, V.int z] 0 = some (.int x) := rfl
    refine ⟨_, rfl, _, _, _, _, rfl, rfl, .l hb, a0, _, _, rfl, rfl, _, rfl, ite2 (fun c => ?_) (fun c => ?_)⟩
    · refine ⟨_, rfl, _, _, _, _, rfl, rfl, .l hb, a0, .inl ⟨_, rfl, _, rfl, _, _, rfl, rfl, h0, ?_⟩⟩
      refine ⟨_, rfl, _, _, _, _, rfl, rfl, .l hb, a0, _, rfl, _, _, rfl, rfl, ⟨h0, h1⟩, _, rfl, _, _, _, _, rfl, rfl, hb, rfl, ?_⟩
      exact ⟨_, rfl, q _ _ _ _ (Int.emod_nonneg _ (by omega)) (Int.emod_lt_of_pos _ h0)⟩
    · have hb2 : ∀ o, (upd H b o) b = some o := fun o => upd_same
      have a1 : ∀ {x y z : Int}, atI [V.int x, V.int y, V.int z] 1 = some (.int y) := rfl
      have a2 : ∀ {x y z : Int}, atI [V.int x, V.int y, V.int z] 2 = some (.int z) := rfl
      refine ⟨_, rfl, _, _, _, _, rfl, rfl, .l hb, a2, _, _, rfl, rfl, _, rfl, _, _, _, _, rfl, rfl, hb, rfl, ?_⟩
      refine ⟨_, rfl, _, _, _, _, rfl, rfl, .l upd_same, a1, _, rfl, _, _, _, _, rfl, rfl, .l upd_same, a2, _, _, rfl, rfl, .inl ⟨by decide, by decide⟩, _, _, rfl, rfl, _, _, rfl, rfl, .inr ⟨by decide, by decide⟩,
        .inl ⟨_, rfl, _, _, rfl, rfl, (by show (0 : Int) < _; decide), ?_⟩⟩
      refine ⟨_, rfl, _, _, rfl, rfl, .inr ⟨by decide, by decide⟩, _, _, rfl, rfl, .inl ⟨_, rfl, _, _, rfl, rfl, (by show (0 : Int) < _; decide), _, _, rfl, rfl, _, rfl, _, _, _, _, rfl, rfl, upd_same, rfl, ?_⟩⟩
      refine ⟨_, rfl, _, _, rfl, rfl, .inr ⟨by decide, by decide⟩, _, rfl, _, _, _, _, rfl, rfl, .l upd_same, a1, _, _, rfl, rfl, _, _, rfl, rfl, ⟨by decide, by decide⟩, .inl ⟨_, rfl, _, rfl, _, _, rfl, rfl, h0, ?_⟩⟩
      rw [upd_upd]
      exact q _ _ _ _ (Int.emod_nonneg _ (by omega)) (Int.emod_lt_of_pos _ h0)

abbrev N_l_pick : List Str := ["_law_box_here", "_law_some"]
theorem sc_l_pick : FnScope N_l_pick ["_law_box_here", "_law_some"] (defScope s_l_pick) := ⟨rfl, rfl, rfl, by decide +kernel, rfl, by decide +kernel, by decide +kernel⟩

theorem ok_pick (F : FnP K "_law_pick" s_l_pick f fd) (m_len : mg "len" = none) (g_l_take : FnAt P w K mg base CX0 1 "_law_take" ["_law_box_here", "_law_many"] spTake) : FnOk P w K mg base CX0 2 f fd ["_law_box_here", "_law_some"] (spPick K) := by
  refine F.ok sc_l_pick (fun vs H Q E h => ?_) (fun cdv A outer s H vs Q E hr h => ?_)
  · obtain ⟨b, l, xs, rfl, _⟩ := h
    rfl
  · obtain ⟨b, l, xs, rfl, hb, hl, hn, h0, h1, q⟩ := h
    refine ⟨_, PSs.nox (pss_one (ps_ret (pe_ix (ix_sqK K) (pv 1) (pe_fn g_l_take hr rfl (pa_cons (pv 0) (pa_cons (pe_callB (call_lenK K) rfl m_len (by decide +kernel) (pa_cons (pv 1) (pa_nil))) (pa_nil)))) (fun _ _ => rfl)))), ?_⟩
    refine ⟨_, rfl, _, rfl, _, rfl, _, _, rfl, hl, b, _, rfl, hb, by omega, by omega, fun x y z d d0 d1 => ?_⟩
    have hd : d.toNat < xs.length := by omega
    exact ⟨l, xs, _, xs[d.toNat], rfl, rfl, hl.upd hn, at_toNat d0 hd, q x y z _ (List.getElem_mem hd)⟩
end
end WW

set_option Elab.async false
set_option linter.all false
set_option maxRecDepth 100000
set_option maxHeartbeats 4000000
namespace WW
open PySem PySem.Spec PyProof.Rows L2
/-! ### the head's facts of own classes above KeyError -/
theorem oexBk_ok {K : PySem.W.Frag} {C : Addr} (h : oexBk K C = true) : OexK K C := by
  obtain ⟨h0, h⟩ := He.ba h
  obtain ⟨h1, h⟩ := He.ba h
  obtain ⟨h2, h⟩ := He.ba h
  obtain ⟨h3, h4⟩ := He.ba h
  refine ⟨?_, He.eqO_ok h1, of_decide_eq_true h2, of_decide_eq_true h3, h4⟩
  split at h0
  · rename_i dd cd sl ho
    split at h0
    · rename_i C' bm k0 k1 k2 k3 n k5 hm hs
      simp only [Bool.and_eq_true, beq_iff_eq, Bool.not_eq_true'] at h0
      obtain ⟨⟨⟨⟨rfl, rfl⟩, hdel⟩, hdct⟩, ht⟩ := h0
      subst ht
      obtain ⟨nm, bs, mro, ns, qn, hd, sn, sub, ab, col, del⟩ := cd
      dsimp only at hm hdel hdct
      subst hm hdel hdct
      have hsl : sl = #[k0, k1, k2, k3, some (.builtin "LookupError.__new__"), k5] := by
        obtain ⟨l⟩ := sl
        simp only at hs
        rw [hs]
      subst hsl
      exact ⟨nm, qn, ns, bs, sn, sub, ab, col, dd, k0, k1, k2, k3, k5, ho⟩
    · cases h0
  · cases h0
theorem supBk_ok {P : Program} {K : PySem.W.Frag} {C : Addr} {qual : Str} {params : Arguments} {body : List Stmt} {scope : Scope} (h : supBk K P.main.file C = true) (e : supO K C = some (qual, params, .stmts body, scope, mainGlobals, builtinsNs)) (top : (P.main.scope.names.lookup ("super" : Str)).isSome = false) : SupCk P K C (He.ma K C "__init__") qual params body scope := by
  obtain ⟨h0, h⟩ := He.ba h
  obtain ⟨h1, h⟩ := He.ba h
  obtain ⟨h2, h⟩ := He.ba h
  obtain ⟨h3, h⟩ := He.ba h
  obtain ⟨h4, h⟩ := He.ba h
  obtain ⟨h5, h⟩ := He.ba h
  obtain ⟨h6, h7⟩ := He.ba h
  refine ⟨oexBk_ok h1, He.eqO_ok h2, of_decide_eq_true h3, ?_, He.eqO_ok h4, of_decide_eq_true h5, of_decide_eq_true h6, He.eqO_ok h7, top⟩
  unfold supO at e
  split at h0
  · rename_i oc od fd osl ho
    rw [ho] at e
    obtain ⟨n1, n2, n3, n4, n5, n6, n7, n8, n9, n10, n11, n12, n13, n14, n15⟩ := fd
    have e2 : (some (n2, n3, n4, n5, n6, n15) : SupV) = some (qual, params, .stmts body, scope, mainGlobals, builtinsNs) := e
    simp only [Option.some.injEq, Prod.mk.injEq] at e2
    obtain ⟨q1, q2, q3, q4, q5, q6⟩ := e2
    subst q1 q2 q3 q4 q5 q6
    split at h0
    · rename_i n cc cda hcl hcd
      dsimp only at hcl hcd
      subst hcl hcd
      obtain ⟨g1, h0⟩ := He.ba h0
      obtain ⟨g2, h0⟩ := He.ba h0
      obtain ⟨g3, g4⟩ := He.ba h0
      obtain ⟨g1, g0⟩ := He.ba g1
      rw [beq_iff_eq] at g1 g0
      subst g1 g0
      split at g3
      · rename_i cl cld D csl hcc
        rw [beq_iff_eq] at g3
        subst g3
        split at g4
        · rename_i ccl cdd vs ccs hcode
          split at g4
          · rename_i fl tf hvs
            exact ⟨n1, oc, od, n9, n10, n11, n12, cda, cc, n14, osl, ccl, cdd, vs, ccs, fl, tf, cl, cld, csl, ho, g2, hcode, hvs, g4, hcc⟩
          · cases g4
        · cases g4
      · cases g3
    · cases h0
  · cases h0
end WW

set_option Elab.async false
set_option linter.all false
set_option maxRecDepth 100000
set_option maxHeartbeats 0
namespace WW
open PySem PySem.Spec PyProof.Rows L2
theorem facts {P : Program} {w : World} {K : PySem.W.Frag} {h : Heap} {mg : Str → Option Value} {f : Addr} (X : K.In h) (G : h.Ns mainGlobals mg) (hfa : mg ("law" : Str) = some (.ref f)) (c : SaysS fa fn exK cs vsS K) (hP1 : (P.main.file : Str) = fileS) (hP2 : (P.main.scope.names.lookup ("super" : Str)).isSome = false) :
    ∃ fd : FuncData, (∀ (s : Shared) (v : Value), BindsTo s fd ⟨[v], []⟩ [("_law_script", v)]) ∧ ∀ base : Heap, K.In base → base.Ns mainGlobals mg → FnOkG P w K mg base CX0 3 f fd ["_law_script"] (spLaw K) := by
  obtain ⟨⟨c, cx⟩, cv⟩ := c
  obtain ⟨x_sup_InvalidRow, cx⟩ := He.ba cx
  obtain ⟨x_nf_InvalidRow_word, cx⟩ := He.ba cx
  obtain ⟨x_sup_InvalidModule, cx⟩ := He.ba cx
  obtain ⟨x_nf_InvalidModule_word, cx⟩ := He.ba cx
  obtain ⟨x_sup_InvalidTally, cx⟩ := He.ba cx
  obtain ⟨x_nf_InvalidTally_word, cx⟩ := He.ba cx
  obtain ⟨x_sup_InvalidHouse, cx⟩ := He.ba cx
  obtain ⟨x_nf_InvalidHouse_at, cx⟩ := He.ba cx
  obtain ⟨x_sup_InvalidText, cx⟩ := He.ba cx
  obtain ⟨x_nf_InvalidText_at, cx⟩ := He.ba cx
  obtain ⟨x_sup_InvalidArrivals, cx⟩ := He.ba cx
  obtain ⟨x_nf_InvalidArrivals_at, cx⟩ := He.ba cx
  obtain ⟨x_sup_InvalidWishes, cx⟩ := He.ba cx
  obtain ⟨x_nf_InvalidWishes_at, cx⟩ := He.ba cx
  obtain ⟨x_sup_InvalidLog, cx⟩ := He.ba cx
  obtain ⟨x_nf_InvalidLog_at, cx⟩ := He.ba cx
  obtain ⟨x_sup_InvalidMenu, cx⟩ := He.ba cx
  obtain ⟨x_nf_InvalidMenu_at, cx⟩ := He.ba cx
  obtain ⟨x_sup_InvalidGoals, cx⟩ := He.ba cx
  obtain ⟨x_nf_InvalidGoals_at, cx⟩ := He.ba cx
  obtain ⟨x_sup_Refused, cx⟩ := He.ba cx
  obtain ⟨x_nf_Refused_at, cx⟩ := He.ba cx
  obtain ⟨x_sup_NeverGoes, cx⟩ := He.ba cx
  obtain ⟨x_nf_NeverGoes_ring, cx⟩ := He.ba cx
  obtain ⟨x_sup_InvalidContract, cx⟩ := He.ba cx
  obtain ⟨x_sup_InvalidChoice, cx⟩ := He.ba cx
  obtain ⟨x_sup_InvalidCommand, cx⟩ := He.ba cx
  obtain ⟨x_sup_NoPlace, cx⟩ := He.ba cx
  obtain ⟨x_nf_NoPlace_name, cx⟩ := He.ba cx
  obtain ⟨x_kx, cx⟩ := He.ba cx
  obtain ⟨x_q_WE, cx⟩ := He.ba cx
  have x_k_WE := cx
  have m_range := He.free_ok X G (c.fact 6 (f := .free "range") rfl)
  have m_max := He.free_ok X G (c.fact 7 (f := .free "max") rfl)
  have m_min := He.free_ok X G (c.fact 8 (f := .free "min") rfl)
  have m_len := He.free_ok X G (c.fact 9 (f := .free "len") rfl)
  have m_int := He.free_ok X G (c.fact 10 (f := .free "int") rfl)
  have m_abs := He.free_ok X G (c.fact 11 (f := .free "abs") rfl)
  have m_repr := He.free_ok X G (c.fact 12 (f := .free "repr") rfl)
  have m_enumerate := He.free_ok X G (c.fact 13 (f := .free "enumerate") rfl)
  have m_isinstance := He.free_ok X G (c.fact 14 (f := .free "isinstance") rfl)
  have m_ValueError := He.free_ok X G (c.fact 15 (f := .free "ValueError") rfl)
  have m_KeyError := He.free_ok X G (c.fact 16 (f := .free "KeyError") rfl)
  have m_super := He.free_ok X G (c.fact 17 (f := .free "super") rfl)
  have m_InvalidRow := He.glo_ok X G (c.fact 18 (f := .glo "InvalidRow") rfl)
  have m_InvalidModule := He.glo_ok X G (c.fact 19 (f := .glo "InvalidModule") rfl)
  have m_InvalidTally := He.glo_ok X G (c.fact 20 (f := .glo "InvalidTally") rfl)
  have m_InvalidHouse := He.glo_ok X G (c.fact 21 (f := .glo "InvalidHouse") rfl)
  have m_InvalidText := He.glo_ok X G (c.fact 22 (f := .glo "InvalidText") rfl)
  have m_InvalidArrivals := He.glo_ok X G (c.fact 23 (f := .glo "InvalidArrivals") rfl)
  have m_InvalidWishes := He.glo_ok X G (c.fact 24 (f := .glo "InvalidWishes") rfl)
  have m_InvalidLog := He.glo_ok X G (c.fact 25 (f := .glo "InvalidLog") rfl)
  have m_InvalidMenu := He.glo_ok X G (c.fact 26 (f := .glo "InvalidMenu") rfl)
  have m_InvalidGoals := He.glo_ok X G (c.fact 27 (f := .glo "InvalidGoals") rfl)
  have m_Refused := He.glo_ok X G (c.fact 28 (f := .glo "Refused") rfl)
  have m_NeverGoes := He.glo_ok X G (c.fact 29 (f := .glo "NeverGoes") rfl)
  have m_InvalidContract := He.glo_ok X G (c.fact 30 (f := .glo "InvalidContract") rfl)
  have m_InvalidChoice := He.glo_ok X G (c.fact 31 (f := .glo "InvalidChoice") rfl)
  have m_InvalidCommand := He.glo_ok X G (c.fact 32 (f := .glo "InvalidCommand") rfl)
  have m_NoPlace := He.glo_ok X G (c.fact 33 (f := .glo "NoPlace") rfl)
  have m_WaitError := He.glo_ok X G (c.fact 34 (f := .glo "WaitError") rfl)
  have cv_InvalidRow : supO K (He.ga K "InvalidRow") = some (("InvalidRow.__init__" : Str), defArgs st_InvalidRow, .stmts (defBody st_InvalidRow), defScope st_InvalidRow, mainGlobals, builtinsNs) := (List.cons.inj cv).1
  have sc_InvalidRow := supB_ok (P := P) (by rw [hP1]; exact x_sup_InvalidRow) cv_InvalidRow hP2
  have nf_InvalidRow_word := He.eqO_ok x_nf_InvalidRow_word
  have S_InvalidRow : SupAt2 P K mg "InvalidRow" "word" := ⟨⟨_, _, _, _, _, _, _, _, _, _, _, _, _, _, _, _, _, sc_InvalidRow, ⟨rfl, rfl, rfl, rfl, rfl, rfl, rfl, by decide +kernel, ⟨_, rfl, rfl⟩, by decide, by decide⟩, fun _ => rfl, fun _ _ _ _ _ _ _ _ us hl => match us, hl with | [_, _], _ => rfl, fun _ _ _ _ _ _ _ _ _ _ => rfl⟩, nf_InvalidRow_word, m_InvalidRow, m_super⟩
  have cv_InvalidModule : supO K (He.ga K "InvalidModule") = some (("InvalidModule.__init__" : Str), defArgs st_InvalidModule, .stmts (defBody st_InvalidModule), defScope st_InvalidModule, mainGlobals, builtinsNs) := (List.cons.inj (List.cons.inj cv).2).1
  have sc_InvalidModule := supB_ok (P := P) (by rw [hP1]; exact x_sup_InvalidModule) cv_InvalidModule hP2
  have nf_InvalidModule_word := He.eqO_ok x_nf_InvalidModule_word
  have S_InvalidModule : SupAt2 P K mg "InvalidModule" "word" := ⟨⟨_, _, _, _, _, _, _, _, _, _, _, _, _, _, _, _, _, sc_InvalidModule, ⟨rfl, rfl, rfl, rfl, rfl, rfl, rfl, by decide +kernel, ⟨_, rfl, rfl⟩, by decide, by decide⟩, fun _ => rfl, fun _ _ _ _ _ _ _ _ us hl => match us, hl with | [_, _], _ => rfl, fun _ _ _ _ _ _ _ _ _ _ => rfl⟩, nf_InvalidModule_word, m_InvalidModule, m_super⟩
  have cv_InvalidTally : supO K (He.ga K "InvalidTally") = some (("InvalidTally.__init__" : Str), defArgs st_InvalidTally, .stmts (defBody st_InvalidTally), defScope st_InvalidTally, mainGlobals, builtinsNs) := (List.cons.inj (List.cons.inj (List.cons.inj cv).2).2).1
  have sc_InvalidTally := supB_ok (P := P) (by rw [hP1]; exact x_sup_InvalidTally) cv_InvalidTally hP2
  have nf_InvalidTally_word := He.eqO_ok x_nf_InvalidTally_word
  have S_InvalidTally : SupAt2 P K mg "InvalidTally" "word" := ⟨⟨_, _, _, _, _, _, _, _, _, _, _, _, _, _, _, _, _, sc_InvalidTally, ⟨rfl, rfl, rfl, rfl, rfl, rfl, rfl, by decide +kernel, ⟨_, rfl, rfl⟩, by decide, by decide⟩, fun _ => rfl, fun _ _ _ _ _ _ _ _ us hl => match us, hl with | [_, _], _ => rfl, fun _ _ _ _ _ _ _ _ _ _ => rfl⟩, nf_InvalidTally_word, m_InvalidTally, m_super⟩
  have cv_InvalidHouse : supO K (He.ga K "InvalidHouse") = some (("InvalidHouse.__init__" : Str), defArgs st_InvalidHouse, .stmts (defBody st_InvalidHouse), defScope st_InvalidHouse, mainGlobals, builtinsNs) := (List.cons.inj (List.cons.inj (List.cons.inj (List.cons.inj cv).2).2).2).1
  have sc_InvalidHouse := supB_ok (P := P) (by rw [hP1]; exact x_sup_InvalidHouse) cv_InvalidHouse hP2
  have nf_InvalidHouse_at := He.eqO_ok x_nf_InvalidHouse_at
  have S_InvalidHouse : SupAt2 P K mg "InvalidHouse" "at" := ⟨⟨_, _, _, _, _, _, _, _, _, _, _, _, _, _, _, _, _, sc_InvalidHouse, ⟨rfl, rfl, rfl, rfl, rfl, rfl, rfl, by decide +kernel, ⟨_, rfl, rfl⟩, by decide, by decide⟩, fun _ => rfl, fun _ _ _ _ _ _ _ _ us hl => match us, hl with | [_, _], _ => rfl, fun _ _ _ _ _ _ _ _ _ _ => rfl⟩, nf_InvalidHouse_at, m_InvalidHouse, m_super⟩
  have cv_InvalidText : supO K (He.ga K "InvalidText") = some (("InvalidText.__init__" : Str), defArgs st_InvalidText, .stmts (defBody st_InvalidText), defScope st_InvalidText, mainGlobals, builtinsNs) := (List.cons.inj (List.cons.inj (List.cons.inj (List.cons.inj (List.cons.inj cv).2).2).2).2).1
  have sc_InvalidText := supB_ok (P := P) (by rw [hP1]; exact x_sup_InvalidText) cv_InvalidText hP2
  have nf_InvalidText_at := He.eqO_ok x_nf_InvalidText_at
  have S_InvalidText : SupAt2 P K mg "InvalidText" "at" := ⟨⟨_, _, _, _, _, _, _, _, _, _, _, _, _, _, _, _, _, sc_InvalidText, ⟨rfl, rfl, rfl, rfl, rfl, rfl, rfl, by decide +kernel, ⟨_, rfl, rfl⟩, by decide, by decide⟩, fun _ => rfl, fun _ _ _ _ _ _ _ _ us hl => match us, hl with | [_, _], _ => rfl, fun _ _ _ _ _ _ _ _ _ _ => rfl⟩, nf_InvalidText_at, m_InvalidText, m_super⟩
  have cv_InvalidArrivals : supO K (He.ga K "InvalidArrivals") = some (("InvalidArrivals.__init__" : Str), defArgs st_InvalidArrivals, .stmts (defBody st_InvalidArrivals), defScope st_InvalidArrivals, mainGlobals, builtinsNs) := (List.cons.inj (List.cons.inj (List.cons.inj (List.cons.inj (List.cons.inj (List.cons.inj cv).2).2).2).2).2).1
  have sc_InvalidArrivals := supB_ok (P := P) (by rw [hP1]; exact x_sup_InvalidArrivals) cv_InvalidArrivals hP2
  have nf_InvalidArrivals_at := He.eqO_ok x_nf_InvalidArrivals_at
  have S_InvalidArrivals : SupAt2 P K mg "InvalidArrivals" "at" := ⟨⟨_, _, _, _, _, _, _, _, _, _, _, _, _, _, _, _, _, sc_InvalidArrivals, ⟨rfl, rfl, rfl, rfl, rfl, rfl, rfl, by decide +kernel, ⟨_, rfl, rfl⟩, by decide, by decide⟩, fun _ => rfl, fun _ _ _ _ _ _ _ _ us hl => match us, hl with | [_, _], _ => rfl, fun _ _ _ _ _ _ _ _ _ _ => rfl⟩, nf_InvalidArrivals_at, m_InvalidArrivals, m_super⟩
  have cv_InvalidWishes : supO K (He.ga K "InvalidWishes") = some (("InvalidWishes.__init__" : Str), defArgs st_InvalidWishes, .stmts (defBody st_InvalidWishes), defScope st_InvalidWishes, mainGlobals, builtinsNs) := (List.cons.inj (List.cons.inj (List.cons.inj (List.cons.inj (List.cons.inj (List.cons.inj (List.cons.inj cv).2).2).2).2).2).2).1
  have sc_InvalidWishes := supB_ok (P := P) (by rw [hP1]; exact x_sup_InvalidWishes) cv_InvalidWishes hP2
  have nf_InvalidWishes_at := He.eqO_ok x_nf_InvalidWishes_at
  have S_InvalidWishes : SupAt2 P K mg "InvalidWishes" "at" := ⟨⟨_, _, _, _, _, _, _, _, _, _, _, _, _, _, _, _, _, sc_InvalidWishes, ⟨rfl, rfl, rfl, rfl, rfl, rfl, rfl, by decide +kernel, ⟨_, rfl, rfl⟩, by decide, by decide⟩, fun _ => rfl, fun _ _ _ _ _ _ _ _ us hl => match us, hl with | [_, _], _ => rfl, fun _ _ _ _ _ _ _ _ _ _ => rfl⟩, nf_InvalidWishes_at, m_InvalidWishes, m_super⟩
  have cv_InvalidLog : supO K (He.ga K "InvalidLog") = some (("InvalidLog.__init__" : Str), defArgs st_InvalidLog, .stmts (defBody st_InvalidLog), defScope st_InvalidLog, mainGlobals, builtinsNs) := (List.cons.inj (List.cons.inj (List.cons.inj (List.cons.inj (List.cons.inj (List.cons.inj (List.cons.inj (List.cons.inj cv).2).2).2).2).2).2).2).1
  have sc_InvalidLog := supB_ok (P := P) (by rw [hP1]; exact x_sup_InvalidLog) cv_InvalidLog hP2
  have nf_InvalidLog_at := He.eqO_ok x_nf_InvalidLog_at
  have S_InvalidLog : SupAt2 P K mg "InvalidLog" "at" := ⟨⟨_, _, _, _, _, _, _, _, _, _, _, _, _, _, _, _, _, sc_InvalidLog, ⟨rfl, rfl, rfl, rfl, rfl, rfl, rfl, by decide +kernel, ⟨_, rfl, rfl⟩, by decide, by decide⟩, fun _ => rfl, fun _ _ _ _ _ _ _ _ us hl => match us, hl with | [_, _], _ => rfl, fun _ _ _ _ _ _ _ _ _ _ => rfl⟩, nf_InvalidLog_at, m_InvalidLog, m_super⟩
  have cv_InvalidMenu : supO K (He.ga K "InvalidMenu") = some (("InvalidMenu.__init__" : Str), defArgs st_InvalidMenu, .stmts (defBody st_InvalidMenu), defScope st_InvalidMenu, mainGlobals, builtinsNs) := (List.cons.inj (List.cons.inj (List.cons.inj (List.cons.inj (List.cons.inj (List.cons.inj (List.cons.inj (List.cons.inj (List.cons.inj cv).2).2).2).2).2).2).2).2).1
  have sc_InvalidMenu := supB_ok (P := P) (by rw [hP1]; exact x_sup_InvalidMenu) cv_InvalidMenu hP2
  have nf_InvalidMenu_at := He.eqO_ok x_nf_InvalidMenu_at
  have S_InvalidMenu : SupAt2 P K mg "InvalidMenu" "at" := ⟨⟨_, _, _, _, _, _, _, _, _, _, _, _, _, _, _, _, _, sc_InvalidMenu, ⟨rfl, rfl, rfl, rfl, rfl, rfl, rfl, by decide +kernel, ⟨_, rfl, rfl⟩, by decide, by decide⟩, fun _ => rfl, fun _ _ _ _ _ _ _ _ us hl => match us, hl with | [_, _], _ => rfl, fun _ _ _ _ _ _ _ _ _ _ => rfl⟩, nf_InvalidMenu_at, m_InvalidMenu, m_super⟩
  have cv_InvalidGoals : supO K (He.ga K "InvalidGoals") = some (("InvalidGoals.__init__" : Str), defArgs st_InvalidGoals, .stmts (defBody st_InvalidGoals), defScope st_InvalidGoals, mainGlobals, builtinsNs) := (List.cons.inj (List.cons.inj (List.cons.inj (List.cons.inj (List.cons.inj (List.cons.inj (List.cons.inj (List.cons.inj (List.cons.inj (List.cons.inj cv).2).2).2).2).2).2).2).2).2).1
  have sc_InvalidGoals := supB_ok (P := P) (by rw [hP1]; exact x_sup_InvalidGoals) cv_InvalidGoals hP2
  have nf_InvalidGoals_at := He.eqO_ok x_nf_InvalidGoals_at
  have S_InvalidGoals : SupAt2 P K mg "InvalidGoals" "at" := ⟨⟨_, _, _, _, _, _, _, _, _, _, _, _, _, _, _, _, _, sc_InvalidGoals, ⟨rfl, rfl, rfl, rfl, rfl, rfl, rfl, by decide +kernel, ⟨_, rfl, rfl⟩, by decide, by decide⟩, fun _ => rfl, fun _ _ _ _ _ _ _ _ us hl => match us, hl with | [_, _], _ => rfl, fun _ _ _ _ _ _ _ _ _ _ => rfl⟩, nf_InvalidGoals_at, m_InvalidGoals, m_super⟩
  have cv_Refused : supO K (He.ga K "Refused") = some (("Refused.__init__" : Str), defArgs st_Refused, .stmts (defBody st_Refused), defScope st_Refused, mainGlobals, builtinsNs) := (List.cons.inj (List.cons.inj (List.cons.inj (List.cons.inj (List.cons.inj (List.cons.inj (List.cons.inj (List.cons.inj (List.cons.inj (List.cons.inj (List.cons.inj cv).2).2).2).2).2).2).2).2).2).2).1
  have sc_Refused := supB_ok (P := P) (by rw [hP1]; exact x_sup_Refused) cv_Refused hP2
  have nf_Refused_at := He.eqO_ok x_nf_Refused_at
  have S_Refused : SupAt2 P K mg "Refused" "at" := ⟨⟨_, _, _, _, _, _, _, _, _, _, _, _, _, _, _, _, _, sc_Refused, ⟨rfl, rfl, rfl, rfl, rfl, rfl, rfl, by decide +kernel, ⟨_, rfl, rfl⟩, by decide, by decide⟩, fun _ => rfl, fun _ _ _ _ _ _ _ _ us hl => match us, hl with | [_, _], _ => rfl, fun _ _ _ _ _ _ _ _ _ _ => rfl⟩, nf_Refused_at, m_Refused, m_super⟩
  have cv_NeverGoes : supO K (He.ga K "NeverGoes") = some (("NeverGoes.__init__" : Str), defArgs st_NeverGoes, .stmts (defBody st_NeverGoes), defScope st_NeverGoes, mainGlobals, builtinsNs) := (List.cons.inj (List.cons.inj (List.cons.inj (List.cons.inj (List.cons.inj (List.cons.inj (List.cons.inj (List.cons.inj (List.cons.inj (List.cons.inj (List.cons.inj (List.cons.inj cv).2).2).2).2).2).2).2).2).2).2).2).1
  have sc_NeverGoes := supB_ok (P := P) (by rw [hP1]; exact x_sup_NeverGoes) cv_NeverGoes hP2
  have nf_NeverGoes_ring := He.eqO_ok x_nf_NeverGoes_ring
  have S_NeverGoes : SupAt2 P K mg "NeverGoes" "ring" := ⟨⟨_, _, _, _, _, _, _, _, _, _, _, _, _, _, _, _, _, sc_NeverGoes, ⟨rfl, rfl, rfl, rfl, rfl, rfl, rfl, by decide +kernel, ⟨_, rfl, rfl⟩, by decide, by decide⟩, fun _ => rfl, fun _ _ _ _ _ _ _ _ us hl => match us, hl with | [_, _], _ => rfl, fun _ _ _ _ _ _ _ _ _ _ => rfl⟩, nf_NeverGoes_ring, m_NeverGoes, m_super⟩
  have cv_InvalidContract : supO K (He.ga K "InvalidContract") = some (("InvalidContract.__init__" : Str), defArgs st_InvalidContract, .stmts (defBody st_InvalidContract), defScope st_InvalidContract, mainGlobals, builtinsNs) := (List.cons.inj (List.cons.inj (List.cons.inj (List.cons.inj (List.cons.inj (List.cons.inj (List.cons.inj (List.cons.inj (List.cons.inj (List.cons.inj (List.cons.inj (List.cons.inj (List.cons.inj cv).2).2).2).2).2).2).2).2).2).2).2).2).1
  have sc_InvalidContract := supB_ok (P := P) (by rw [hP1]; exact x_sup_InvalidContract) cv_InvalidContract hP2
  have S_InvalidContract : SupAt0 P K mg "InvalidContract" := ⟨⟨_, _, _, _, _, _, _, _, _, _, _, _, _, sc_InvalidContract, ⟨rfl, rfl, rfl, rfl, rfl, rfl, by decide +kernel, ⟨_, rfl, rfl⟩⟩, fun _ => rfl, fun _ _ _ _ _ _ _ _ us hl => match us, hl with | [_], _ => rfl⟩, m_InvalidContract, m_super⟩
  have cv_InvalidChoice : supO K (He.ga K "InvalidChoice") = some (("InvalidChoice.__init__" : Str), defArgs st_InvalidChoice, .stmts (defBody st_InvalidChoice), defScope st_InvalidChoice, mainGlobals, builtinsNs) := (List.cons.inj (List.cons.inj (List.cons.inj (List.cons.inj (List.cons.inj (List.cons.inj (List.cons.inj (List.cons.inj (List.cons.inj (List.cons.inj (List.cons.inj (List.cons.inj (List.cons.inj (List.cons.inj cv).2).2).2).2).2).2).2).2).2).2).2).2).2).1
  have sc_InvalidChoice := supB_ok (P := P) (by rw [hP1]; exact x_sup_InvalidChoice) cv_InvalidChoice hP2
  have S_InvalidChoice : SupAt0 P K mg "InvalidChoice" := ⟨⟨_, _, _, _, _, _, _, _, _, _, _, _, _, sc_InvalidChoice, ⟨rfl, rfl, rfl, rfl, rfl, rfl, by decide +kernel, ⟨_, rfl, rfl⟩⟩, fun _ => rfl, fun _ _ _ _ _ _ _ _ us hl => match us, hl with | [_], _ => rfl⟩, m_InvalidChoice, m_super⟩
  have cv_InvalidCommand : supO K (He.ga K "InvalidCommand") = some (("InvalidCommand.__init__" : Str), defArgs st_InvalidCommand, .stmts (defBody st_InvalidCommand), defScope st_InvalidCommand, mainGlobals, builtinsNs) := (List.cons.inj (List.cons.inj (List.cons.inj (List.cons.inj (List.cons.inj (List.cons.inj (List.cons.inj (List.cons.inj (List.cons.inj (List.cons.inj (List.cons.inj (List.cons.inj (List.cons.inj (List.cons.inj (List.cons.inj cv).2).2).2).2).2).2).2).2).2).2).2).2).2).2).1
  have sc_InvalidCommand := supB_ok (P := P) (by rw [hP1]; exact x_sup_InvalidCommand) cv_InvalidCommand hP2
  have S_InvalidCommand : SupAt0 P K mg "InvalidCommand" := ⟨⟨_, _, _, _, _, _, _, _, _, _, _, _, _, sc_InvalidCommand, ⟨rfl, rfl, rfl, rfl, rfl, rfl, by decide +kernel, ⟨_, rfl, rfl⟩⟩, fun _ => rfl, fun _ _ _ _ _ _ _ _ us hl => match us, hl with | [_], _ => rfl⟩, m_InvalidCommand, m_super⟩
  have cv_NoPlace : supO K (He.ga K "NoPlace") = some (("NoPlace.__init__" : Str), defArgs st_NoPlace, .stmts (defBody st_NoPlace), defScope st_NoPlace, mainGlobals, builtinsNs) := (List.cons.inj (List.cons.inj (List.cons.inj (List.cons.inj (List.cons.inj (List.cons.inj (List.cons.inj (List.cons.inj (List.cons.inj (List.cons.inj (List.cons.inj (List.cons.inj (List.cons.inj (List.cons.inj (List.cons.inj (List.cons.inj cv).2).2).2).2).2).2).2).2).2).2).2).2).2).2).2).1
  have sc_NoPlace := supBk_ok (P := P) (by rw [hP1]; exact x_sup_NoPlace) cv_NoPlace hP2
  have nf_NoPlace_name := He.eqO_ok x_nf_NoPlace_name
  have S_NoPlace : SupAtK2 P K mg "NoPlace" "name" := ⟨⟨_, _, _, _, _, _, _, _, _, _, _, _, _, _, _, _, _, sc_NoPlace, ⟨rfl, rfl, rfl, rfl, rfl, rfl, rfl, by decide +kernel, ⟨_, rfl, rfl⟩, by decide, by decide⟩, fun _ => rfl, fun _ _ _ _ _ _ _ _ us hl => match us, hl with | [_, _], _ => rfl, fun _ _ _ _ _ _ _ _ _ _ => rfl⟩, nf_NoPlace_name, m_NoPlace, m_super⟩
  obtain ⟨fd_l_take, F_l_take⟩ := c.def_ 0 (d := d_l_take) rfl
  obtain ⟨fd_l_pick, F_l_pick⟩ := c.def_ 1 (d := d_l_pick) rfl
  obtain ⟨fd_l_box, F_l_box⟩ := c.def_ 2 (d := d_l_box) rfl
  obtain ⟨fd_l_kinds, F_l_kinds⟩ := c.def_ 3 (d := d_l_kinds) rfl
  obtain ⟨fd_l_is_own, F_l_is_own⟩ := c.def_ 4 (d := d_l_is_own) rfl
  obtain ⟨fd_law, F_law⟩ := c.def_ 5 (d := d_law) rfl
  have e := hfa.symm.trans (He.glo_ok X G (c.fact 5 (f := .glo "law") rfl))
  cases e
  have bL := FunD.bindsA (ps := ["_law_script"]) F_law fun _ _ _ _ _ _ us hl => match us, hl with | [_], _ => rfl
  refine ⟨fd_law, fun s v => bL s [v] rfl, fun base _ _ => ?_⟩
  have KK := kxB_ok x_kx
  have g_l_take : FnAt P w K mg base CX0 1 "_law_take" ["_law_box_here", "_law_many"] (spTake) := ⟨⟨_, ok_take F_l_take m_int, F_l_take.bindsN fun _ _ _ _ _ _ us hl => match us, hl with | [_, _], _ => rfl⟩, F_l_take.kp, He.glo_ok X G (c.fact 0 (f := .glo "_law_take") rfl)⟩
  have g_l_pick : FnAt P w K mg base CX0 2 "_law_pick" ["_law_box_here", "_law_some"] (spPick K) := ⟨⟨_, ok_pick F_l_pick m_len g_l_take, F_l_pick.bindsN fun _ _ _ _ _ _ us hl => match us, hl with | [_, _], _ => rfl⟩, F_l_pick.kp, He.glo_ok X G (c.fact 1 (f := .glo "_law_pick") rfl)⟩
  have g_l_box : FnAt P w K mg base CX0 1 "_law_box" ["_law_script", "_law_k"] (spBox K) := ⟨⟨_, ok_box F_l_box m_int m_len m_abs, F_l_box.bindsN fun _ _ _ _ _ _ us hl => match us, hl with | [_, _], _ => rfl⟩, F_l_box.kp, He.glo_ok X G (c.fact 2 (f := .glo "_law_box") rfl)⟩
  have g_l_kinds : FnAt P w K mg base CX0 1 "_law_kinds" ["_law_made"] (spT K (dpKinds K)) := ⟨⟨_, ok_kinds F_l_kinds KK m_isinstance m_InvalidRow m_InvalidModule m_InvalidTally m_InvalidHouse m_InvalidText m_InvalidArrivals m_InvalidWishes m_InvalidLog m_InvalidMenu m_InvalidGoals m_Refused m_NeverGoes m_InvalidContract m_InvalidChoice m_InvalidCommand m_NoPlace, F_l_kinds.bindsN fun _ _ _ _ _ _ us hl => match us, hl with | [_], _ => rfl⟩, F_l_kinds.kp, He.glo_ok X G (c.fact 3 (f := .glo "_law_kinds") rfl)⟩
  have g_l_is_own : FnAt P w K mg base CX0 2 "_law_is_own" ["_law_made", "_law_spot"] (spT K (dpIsOwn K)) := ⟨⟨_, ok_is_own F_l_is_own KK m_isinstance m_range m_WaitError m_ValueError m_KeyError g_l_kinds, F_l_is_own.bindsN fun _ _ _ _ _ _ us hl => match us, hl with | [_, _], _ => rfl⟩, F_l_is_own.kp, He.glo_ok X G (c.fact 4 (f := .glo "_law_is_own") rfl)⟩
  refine FnOkG.imp (ok_law01 F_law KK m_range m_max m_min m_len m_repr m_enumerate m_isinstance m_ValueError S_InvalidRow S_InvalidModule S_InvalidTally S_InvalidHouse S_InvalidText S_InvalidArrivals S_InvalidWishes S_InvalidLog S_InvalidMenu S_InvalidGoals S_Refused S_NeverGoes S_InvalidContract S_InvalidChoice S_InvalidCommand S_NoPlace x_q_WE m_WaitError x_k_WE g_l_box (g_l_take.imp imp_take) (g_l_pick.imp imp_pick) g_l_kinds g_l_is_own) imp_law
end WW

open PySem PySem.W PySem.Calls PyProof.Rows
set_option maxRecDepth 100000 in
set_option maxHeartbeats 0 in
theorem PySem.Challenge.cw_waitworks_k01_errors_and_what_they_keep_holds : PySem.Challenge.rw_waitworks_k01_errors_and_what_they_keep.Holds := by
  w_on; o_law
  refine HandSHeadRun.head_any (r := OpenLaw.row PySem.Challenge.rw_waitworks_k01_errors_and_what_they_keep) (q := view (OpenLaw.row PySem.Challenge.rw_waitworks_k01_errors_and_what_they_keep).prog [25]) (H := WW.hk) (ob := WW.ob) (M := WW.steps) (loose := WW.loose) (d := HandSHeadRun.topDef (OpenLaw.row PySem.Challenge.rw_waitworks_k01_errors_and_what_they_keep).prog 25) (kwd := []) WW.ob_eq
    (by kernel_rfl) (fun s => by kernel_rfl) WW.run (by kernel_rfl) (by kernel_rfl) (by kernel_rfl) (by rfl) (by first | assumption | decide +kernel) (by decide +kernel) ⟨rfl, rfl, rfl, rfl, rfl, by decide +kernel⟩ ?hw ?hc
  case hw => w_witness2
  case hc =>
    refine WW.walk_G (l := PySem.Challenge.rw_waitworks_k01_errors_and_what_they_keep) (n := 63) (k := 3) (x := "_law_script") rfl (by decide) (by kernel_rfl) ⟨rfl, by decide, by decide⟩ ?F
    intro w mg fa h Y G hmg0
    obtain ⟨K, KX, c⟩ := Y
    have hmg : mg ("law" : PySem.Str) = some (.ref fa) := by
      have e : (HandSHeadRun.topDef (OpenLaw.row PySem.Challenge.rw_waitworks_k01_errors_and_what_they_keep).prog 25).name = ("law" : PySem.Str) := by kernel_rfl
      rw [← e]
      exact hmg0
    obtain ⟨fd, hb, hF⟩ := WW.facts (P := (PySem.Challenge.rw_waitworks_k01_errors_and_what_they_keep).prog) (w := w) KX G hmg c rfl (by kernel_rfl)
    exact ⟨K, fd, WW.spLaw K, KX, hb, fun H a ns hl _ hS => ⟨a, ns, rfl, hS, hl, fun _ => rfl⟩, hF⟩

