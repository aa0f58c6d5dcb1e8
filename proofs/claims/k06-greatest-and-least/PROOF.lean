import PyProof.Rows.All
import Wide.All
import OpenK.AllK
import Wide.FinOn
import KE.KStateDown
import HandS.ForMost
import HandS.Defaults
import HandS.Property
import HandS.IsInst
import HandS.Star
import HandS.Evl
import HandS.Steps
import HandS.More
import HandS.Head0
import HandS.Head1
import HandS.Head2
import HandS.HeadEnd
import HandS.HeadHook1
import HandS.HeadHook2
import HandS.HeadHook3
import HandS.HeadHook4
import HandS.HeadNt
import KE.KCallOwn
import HandS.Text
import HandS.Style
import HandS.Iter
import HandS.Conv
import PySem.Challenge.RW_waitworks_k06_greatest_and_least_rows
set_option Elab.async false
set_option linter.all false
set_option maxRecDepth 100000
set_option maxHeartbeats 4000000
namespace WW
open PySem PySem.Spec PyProof.Rows L2

/-! ### defs of the module by name -/
structure FnAt (P : Program) (w : World) (K : PySem.W.Frag) (mg : Str → Option Value) (base : Heap) (CX : CXT) (k : Nat) (x : Str) (ps : List Str) (sp : Sp) : Prop where
  ex : ∃ fd, FnOk P w K mg base CX k (He.ga K x) fd ps sp ∧ Binds K fd ps []
  kp : PySem.W.keepIn K (.ref (He.ga K x)) = true
  g : mg x = some (.ref (He.ga K x))
section
variable {X : Cx} {CX : CXT} {k j : Nat} {x : Str} {ps : List Str} {sp : Sp} {e : Expr} {es : List Expr} {t : TA} {p pos : Pos}
theorem pe_fn (F : FnAt X.prog X.w X.K X.mg X.base CX0 k x ps sp) (hr : Room j X.A) (hg : Gl X x) (ha : PA X (e :: es) t) (hk : k ≤ j := by decide)
    (hdb : (x == ("__debug__" : Str)) = false := by decide) (he : starEach (e :: es) X.env = (false, eval e X.env) :: starEach es X.env := by rfl) (hpl : (backTo pos (starEach es X.env)).any (·.1) = false := by rfl) :
    PE X (.Call (.Name x p) (e :: es) [] pos) (tCall sp [] E0 t) := by
  obtain ⟨fd, F1, b⟩ := F.ex
  exact pe_call F1 (hr.mono hk) hg F.g F.kp b .nil pass0 ha hdb he hpl
theorem pe_fn0 (F : FnAt X.prog X.w X.K X.mg X.base CX0 k x ps sp) (hr : Room j X.A) (hg : Gl X x) (hk : k ≤ j := by decide)
    (hdb : (x == ("__debug__" : Str)) = false := by decide) :
    PE X (.Call (.Name x p) [] [] pos) (tCall sp [] E0 tNil) := by
  obtain ⟨fd, F1, b⟩ := F.ex
  exact pe_call0 F1 (hr.mono hk) hg F.g F.kp b .nil pass0 hdb
end
/-! ### lists or tuples -/
def Sq (K : PySem.W.Frag) (H : Hp) (a : Addr) (xs : List V) : Prop := SqL K H a xs ∨ SqT K H a xs
theorem Sq.ex {K : PySem.W.Frag} {H H' : Hp} {a : Addr} {xs : List V} (e : Same H H') (h : Sq K H a xs) : Sq K H' a xs := by
  rcases h with h | h
  · exact .inl (Evl.ex_l e h)
  · exact .inr (Evl.ex_t e h)
theorem Sq.l {K : PySem.W.Frag} {H : Hp} {a : Addr} {xs : List V} (h : H a = some (.lst xs)) : Sq K H a xs := .inl (Evl.sq_of h)
theorem Sq.t {K : PySem.W.Frag} {H : Hp} {a : Addr} {xs : List V} (h : H a = some (.tup xs)) : Sq K H a xs := .inr (Evl.st_of h)
def rIxQ (K : PySem.W.Frag) : R2 := fun x y H Q => ∃ p xs i v, x = .ref p ∧ y = .int i ∧ Sq K H p xs ∧ atI xs i = some v ∧ Q v H
section
variable {X : Cx}
theorem ix_sq : IxR X (rIxQ X.K) := by
  intro value slice pins s σ H x y v u Q I rx ry h hs
  obtain ⟨p, xs, i, z, ex, ey, hq | hq, he, q⟩ := h
  · exact ix_list value slice pins s σ H x y v u Q I rx ry ⟨p, xs, i, z, ex, ey, hq, he, q⟩ hs
  · exact ix_tup value slice pins s σ H x y v u Q I rx ry ⟨p, xs, i, z, ex, ey, hq, he, q⟩ hs
/-- for .. in a list or a tuple -/
def iSeq (K : PySem.W.Frag) (tl : TE) : TI := fun σ H R => tl σ H fun x H1 => ∃ a, x = .ref a ∧ (((∃ xs, SqL K H1 a xs) ∧ R (Itl K a) H1) ∨ ((∃ xs, SqT K H1 a xs) ∧ R (Itt K a) H1))
theorem pi_seq {tg l : Expr} {tl : TE} (hl : PE X l tl) : PI X tg l (iSeq X.K tl) := by
  refine ⟨fun pins s0 σ H R I0 h0 => thn (hl.run pins s0 σ H _ I0 h0) fun v s ⟨x, Hx, I, rx, a, ex, qa⟩ => ?_⟩
  subst ex
  cases rx
  have sz : ∀ b ∈ [s.heap.objs.size], FpOk X pins Hx b := fun b hb => by
    rw [List.mem_singleton.mp hb]
    exact I.fpOk (Nat.le_refl _) (I.hok.fresh (Nat.le_refl _))
  rcases qa with ⟨⟨xs, hq⟩, qa⟩ | ⟨⟨xs, hq⟩, qa⟩
  · obtain ⟨its, _, pl, _⟩ := I.list hq
    exact wpAny_pyIter_list pl.isList ⟨_, [s.heap.objs.size], _, _, Hx, rfl, I.kept (t' := s.toks) fun b o eo => Heap.get?_push_of_some _ eo, turn_list a _, ⟨_, Heap.get?_push_size _ rfl, rfl, rfl⟩, sz, qa⟩
  · obtain ⟨its, _, pl, _⟩ := I.tuple hq
    exact wpAny_pyIter_tuple (show s.heap.IsTuple a its.toArray from pl) ⟨_, [s.heap.objs.size], _, _, Hx, rfl, I.kept (t' := s.toks) fun b o eo => Heap.get?_push_of_some _ eo, turn_tuple a _, ⟨_, Heap.get?_push_size _ rfl, rfl, rfl⟩, sz, qa⟩
end
theorem at_toNat {α : Type} {xs : List α} {d : Int} (h0 : 0 ≤ d) (h : d.toNat < xs.length) : atI xs d = some xs[d.toNat] := by
  have e : d = (d.toNat : Int) := by omega
  have q : atI xs (d.toNat : Int) = some xs[d.toNat] := atI_nat (List.getElem?_eq_getElem h)
  rw [← e] at q
  exact q
/-! ### a tuple's whole slice is the tuple -/
section
variable {prog : Program} {w : World} {A : Around} {E : Value → Shared → Prop} {s : Shared}
theorem tup_all {a c : Addr} {its : Array Value} {u1 u2 : Value} {lo hi : Option Int} {R : Value → Shared → Prop} (hT : IsTup s.heap a its) (hc : s.heap.IsSliceOf c u1 u2 .none) (p1 : IsPart u1 lo) (p2 : IsPart u2 hi)
    (hall : HT.sIx its.size 0 lo = 0 ∧ HT.sIx its.size its.size hi = its.size) (q : R (.ref a) s) : wpAny (model prog w) A (getItem (.ref a) (.ref c)) R E s := by
  obtain ⟨oc, e1, e2, e3⟩ := id hc
  have tc : s.TypeIs (.ref c) "slice" := ⟨oc, e1, e2⟩
  unfold getItem
  try with_reducible refine wpAny_holding ?_
  first | (refine wpAny_bind (wpAny_pure ?_)) | skip
  refine wpAny_bind (wpAny_sequenceKey hT.typeIs (by decide) ?_)
  refine wpAny_bind (wpAny_callSpecial?_slot (name := Str.ofString "__getitem__") hT.typeIs slot_tuple_getitem
    (wpAny_call_entry slot_tuple_getitem hT.typeIs PyProof.Rows.entry_tuple_getitem ?_ (PyProof.Rows.args_tuple_getitem _ _)))
  show wpAny _ _ (Builtin.Tuple.tupleItemsOf (.ref a) >>= _) _ _ s
  refine wpAny_bind (tupleItemsOf_ hT (wpAny_bind (wpAny_typeOf tc ?_)))
  rw [if_pos (by decide)]
  refine wpAny_bind (HT.sliceApplied_gen hc p1 p2 ?_)
  have hy : (((HT.sIx its.size 0 lo : Nat) : Int) == 0 && (1 : Int) == 1 && (HT.sIx its.size its.size hi - HT.sIx its.size 0 lo) == its.size) = true := by
    rw [hall.1, hall.2]
    simp
  show wpAny _ _ (if (((HT.sIx its.size 0 lo : Nat) : Int) == 0 && (1 : Int) == 1 && (HT.sIx its.size its.size hi - HT.sIx its.size 0 lo) == its.size) = true then _ else _) _ _ s
  rw [if_pos hy]
  unfold Builtin.Tuple.tupleIsExact
  refine wpAny_bind (wpAny_bind (wpAny_typeOf hT.typeIs (wpAny_pure ?_)))
  rw [if_pos (by decide)]
  refine wpAny_bind (wpAny_rule ?_)
  exact wpAny_pure ⟨_, rfl, wpAny_pure q⟩
end
/-! ### rules with the written part named -/
def rSlW (K : PySem.W.Frag) : V → Option Int → Option Int → Hp → VK → Prop := fun x lo hi H Q => ∃ a xs, x = .ref a ∧ SqT K H a xs ∧
  (HT.sIx xs.length 0 lo = 0 ∧ HT.sIx xs.length xs.length hi = xs.length) ∧ Q (.ref a) H
def rSlQ (K : PySem.W.Frag) : V → Option Int → Option Int → Hp → VK → Prop := fun x lo hi H Q => rSlL K x lo hi H Q ∨ rSlT K x lo hi H Q ∨ rSlW K x lo hi H Q
def rLenQ (K : PySem.W.Frag) : List V → Hp → VK → Prop := fun xs H Q => ∃ p ys, xs = [.ref p] ∧ Sq K H p ys ∧ Q (.int ys.length) H
def rListQ (K : PySem.W.Frag) : List V → Hp → VK → Prop := fun xs H Q => ∃ p ys, xs = [.ref p] ∧ Sq K H p ys ∧ ∀ l, H l = none → Q (.ref l) (upd H l (.lst ys))
inductive rTupQ (K : PySem.W.Frag) (xs : List V) (H : Hp) (Q : VK) : Prop
  | mk (h : ∃ p ys, xs = [.ref p] ∧ ((SqL K H p ys ∧ ∀ l, H l = none → Q (.ref l) (upd H l (.tup ys))) ∨ (SqT K H p ys ∧ Q (.ref p) H))) : rTupQ K xs H Q
section
variable {X : Cx}
theorem sl_whole : SlR X (rSlW X.K) := by
  intro pins s σ H x v vl vu lo hi sl Q I rx hs pl pu h
  obtain ⟨a, xs, rfl, hx, hw, q⟩ := h
  cases rx
  obtain ⟨its, r, hT, hz⟩ := I.tuple hx
  have hn : its.toArray.size = xs.length := by rw [List.size_toArray]; exact r.length.symm
  refine ⟨"tuple", _, slot_tuple_getitem.lookup, hT.typeIs, ?_⟩
  exact tup_all hT hs pl pu (by rw [hn]; exact hw) ⟨.ref a, H, I, rfl, q⟩
variable (K : PySem.W.Frag)
theorem ix_sqK (h : X.K = K := by rfl) : IxR X (rIxQ K) := by
  subst h
  exact ix_sq
theorem sl_sqK (h : X.K = K := by rfl) : SlR X (rSlQ K) := by
  subst h
  exact sl_list.or (sl_tup.or sl_whole)
theorem pi_seqK {tg l : Expr} {tl : TE} (hl : PE X l tl) (h : X.K = K := by rfl) : PI X tg l (iSeq K tl) := by
  subst h
  exact pi_seq hl
theorem call_lenK (h : X.K = K := by rfl) : CallR X (.builtin "len") (rLenQ K) := by
  subst h
  exact call_len_seq
theorem call_listK (h : X.K = K := by rfl) : CallR X (.type "list") (rListQ K) := by
  subst h
  exact call_list_of
theorem call_tupleK (h : X.K = K := by rfl) : CallR X (.type "tuple") (rTupQ K) := by
  subst h
  intro pins s σ H xs us Q I r ⟨q⟩
  exact call_tuple_of pins s σ H xs us Q I r q
theorem call_isiK1 (h : X.K = K := by rfl) : CallR X (.builtin "isinstance") (rIsi K) := by
  subst h
  exact call_isi
theorem call_isiTK (h : X.K = K := by rfl) : CallR X (.builtin "isinstance") (rIsiT K) := by
  subst h
  exact call_isiT
theorem cr_anyK (hc : X.calm = true := by rfl) (h : X.K = K := by rfl) : CallR X (.builtin "any") (rAny K) := by
  subst h
  exact cr_any hc
theorem cr_allK (hc : X.calm = true := by rfl) (h : X.K = K := by rfl) : CallR X (.builtin "all") (rAll K) := by
  subst h
  exact cr_all hc
theorem cr_maxK (hc : X.calm = true := by rfl) (h : X.K = K := by rfl) : CallR X (.builtin "max") (rMax K) := by
  subst h
  exact cr_max hc
theorem pa_starK {e : Expr} {es : List Expr} {p : Pos} {te : TE} {t : TA} (he : PE X e te) (hr : PA X es t) (h : X.K = K := by rfl) (hs : starEach (.Starred e p :: es) X.env = (true, eval e X.env) :: starEach es X.env := by rfl) : PA X (.Starred e p :: es) (StX.tStar K te t) := by
  subst h
  exact StX.pa_star he hr hs
theorem pe_fldK {e : Expr} {f : Str} {pos : Pos} {ta : TE} (he : PE X e ta) (hb : attributeBase e f X.env (eval e X.env) = eval e X.env) (h : X.K = K := by rfl) : PE X (.Attribute e f pos) (tFld K ta f) := by
  subst h
  exact pe_fld he hb
end
/-- o.f = .., as a target -/
def gFld (K : PySem.W.Frag) (ta : TE) (f : Str) : TG := fun v σ H Q => ta σ H fun x H1 => ∃ a C dx fs, x = .ref a ∧ H1 a = some (.ins C dx fs) ∧ Cls K C ∧ NoAttr K C f ∧ fs.length < 1000 ∧ Q σ (upd H1 a (.ins C dx (putF f v fs)))
theorem pg_fld {X : Cx} (K : PySem.W.Frag) {o : Expr} {f : Str} {pos : Pos} {ta : TE} (ho : PE X o ta) (hK : X.K = K := by rfl) : PG X (.Attribute o f pos) (gFld K ta f) := by
  subst hK
  refine ⟨fun pins s σ H v u Q I r h => ?_⟩
  rw [assign_Attribute]
  refine wpAny_bind (wpAny_holding (thn (ho.run pins s σ H _ I h) fun ov s1 ⟨x, H1, I1, r1, a, C, dx, fs, ex, ea, c, n, l, q⟩ => ?_))
  subst ex
  cases r1
  refine wpAny_bind (wpAny_standAt (wpAny_bind (wpAny_holding (setattr_ok I1 ea c n l r fun s2 I2 => ?_))))
  exact wpAny_release ⟨σ, _, I2, q⟩
theorem pg_tupK {X : Cx} (K : PySem.W.Frag) {es : List Expr} {k : Nat} {t : TGs} {n : Nat} {pos : Pos} (hc : X.calm = true) (h : PGs X es t)
    (hn : (assignEach es X.env).length = n := by rfl) (hst : (assignEach es X.env).findIdx? (·.1) = none := by rfl) (hK : X.K = K := by rfl) : PG X (.Tuple es k pos) (gTup K n t) := by
  subst hK
  exact pg_tup hc h hn hst
/-! ### making an object -/
structure MkAt (P : Program) (w : World) (K : PySem.W.Frag) (mg : Str → Option Value) (base : Heap) (CX : CXT) (k : Nat) (x : Str) (ps : List Str) (sp : Sp) (dvs : List V) : Prop where
  ex : ∃ f fd ds, Mk K (He.ga K x) f ∧ FnOk P w K mg base CX k f fd ps sp ∧ Vals dvs ds ∧ Binds K fd ps ds
  g : mg x = some (.ref (He.ga K x))
section
variable {X : Cx} {CX : CXT} {k j : Nat} {x : Str} {ps : List Str} {sp : Sp} {e : Expr} {es : List Expr} {t : TA} {p pos : Pos} {dvs : List V}
theorem pe_mkr (F : MkAt X.prog X.w X.K X.mg X.base CX0 k x ps sp dvs) (hr : Room j X.A) (hg : Gl X x) (ha : PA X (e :: es) t) (hk : k + 1 ≤ j := by decide)
    (hdb : (x == ("__debug__" : Str)) = false := by decide) (he : starEach (e :: es) X.env = (false, eval e X.env) :: starEach es X.env := by rfl) (hpl : (backTo pos (starEach es X.env)).any (·.1) = false := by rfl) :
    PE X (.Call (.Name x p) (e :: es) [] pos) (tMake (He.ga X.K x) sp dvs E0 t) := by
  obtain ⟨f, fd, ds, M, F1, v, b⟩ := F.ex
  exact pe_make M F1 (hr.mono hk) hg F.g b v pass0 ha hdb he hpl
end
/-! ### methods, properties -/
structure MthAt (P : Program) (w : World) (K : PySem.W.Frag) (mg : Str → Option Value) (base : Heap) (CX : CXT) (k : Nat) (C : Addr) (m : Str) (ps : List Str) (sp : Sp) : Prop where
  ex : ∃ f fd, Meth K C m f ∧ FnOk P w K mg base CX k f fd ps sp ∧ Binds K fd ps []
structure PrpAt (P : Program) (w : World) (K : PySem.W.Frag) (mg : Str → Option Value) (base : Heap) (CX : CXT) (k : Nat) (C : Addr) (m : Str) (ps : List Str) (sp : Sp) : Prop where
  ex : ∃ pr f fd, PropOf K C m pr f ∧ FnOk P w K mg base CX k f fd ps sp ∧ Binds K fd ps []
section
variable {X : Cx} {CX : CXT} {k j : Nat} {C : Addr} {m : Str} {ps : List Str} {sp : Sp} {o e : Expr} {es : List Expr} {ta : TE} {t : TA} {apos pos : Pos}
theorem pe_mth {pl : Sem Bool} (c : Cls X.K C) (F : MthAt X.prog X.w X.K X.mg X.base CX0 k C m ps sp) (hr : Room j X.A) (ho : PE X o ta) (ha : PA X (e :: es) t) (hk : k ≤ j := by decide)
    (hst : starEach (e :: es) X.env = (false, eval e X.env) :: starEach es X.env := by rfl) (hpl : (backTo pos (starEach es X.env)).any (·.1) = false := by rfl)
    (ht : eval (.Call (.Attribute o m apos) (e :: es) [] pos) X.env = (do let ov ← eval o X.env; standAt apos.atName; let (f, first) ← holding [ov] (getMethod ov m pl); callWith pos f first (backTo pos (starEach (e :: es) X.env)) (backToKw pos (keywordEach [] X.env))) := by rfl) : PE X (.Call (.Attribute o m apos) (e :: es) [] pos) (tMeth C m sp [] E0 ta t) := by
  obtain ⟨f, fd, M, F1, b⟩ := F.ex
  exact pe_meth ho c M F1 (hr.mono hk) b .nil pass0 ha hst hpl ht
theorem pe_mth0 {pl : Sem Bool} (c : Cls X.K C) (F : MthAt X.prog X.w X.K X.mg X.base CX0 k C m ps sp) (hr : Room j X.A) (ho : PE X o ta) (hk : k ≤ j := by decide)
    (ht : eval (.Call (.Attribute o m apos) [] [] pos) X.env = (do let ov ← eval o X.env; standAt apos.atName; let (f, first) ← holding [ov] (getMethod ov m pl); callWith pos f first (backTo pos (starEach [] X.env)) (backToKw pos (keywordEach [] X.env))) := by rfl) : PE X (.Call (.Attribute o m apos) [] [] pos) (tMeth C m sp [] E0 ta tNil) := by
  obtain ⟨f, fd, M, F1, b⟩ := F.ex
  exact pe_meth0 ho c M F1 (hr.mono hk) b .nil pass0 ht
theorem pe_prp (c : Cls X.K C) (F : PrpAt X.prog X.w X.K X.mg X.base CX0 k C m ps sp) (hr : Room j X.A) (ho : PE X o ta) (hk : k + 1 ≤ j := by decide)
    (hab : attributeBase o m X.env (eval o X.env) = eval o X.env := by rfl) : PE X (.Attribute o m pos) (tProp C sp [] E0 ta) := by
  obtain ⟨pr, f, fd, M, F1, b⟩ := F.ex
  exact pe_prop ho c M F1 (hr.mono hk) b .nil pass0 hab
theorem op_neDK (K : PySem.W.Frag) (hr : Room j X.A) (h : X.K = K := by rfl) : OpR X (compareOp .NotEq) (rNeD K) := by
  subst h
  exact op_neD (by have := hr.un; omega)
theorem op_eqDK (K : PySem.W.Frag) (hr : Room j X.A) (h : X.K = K := by rfl) : OpR X (compareOp .Eq) (rEqD K) := by
  subst h
  exact op_eqD (by have := hr.un; omega)
/-- repr of an integer, of nothing -/
inductive rRepr (xs : List V) (H : Hp) (Q : VK) : Prop
  | int (i : Int) (h : xs = [.int i]) (hz : i.natAbs.log2 < 1920) (q : Q (.str (toString i)) H) : rRepr xs H Q
  | non (h : xs = [.non]) (q : Q (.str "None") H) : rRepr xs H Q
theorem call_repr : CallR X (.builtin "repr") rRepr := by
  intro pins s σ H xs us Q I r h
  cases h with
  | int i h hz q =>
    subst h
    obtain ⟨u, rfl, t, rfl⟩ := vals1 r
    exact PySem.P.repr_of_int hz ⟨.str _, H, I.tok _, ⟨_, rfl⟩, q⟩
  | non h q =>
    subst h
    obtain ⟨u, rfl, rfl⟩ := vals1 r
    exact PySem.P.repr_of_none ⟨.str _, H, I.tok _, ⟨_, rfl⟩, q⟩
end
/-- a slice of a list or a tuple: some sequence of these items -/
theorem slq {K : PySem.W.Frag} {H : Hp} {a : Addr} {xs : List V} {lo hi : Option Int} {Q : VK} (h : Sq K H a xs) (k : ∀ p H', Same H H' → Sq K H' p (cutV xs lo hi) → Q (.ref p) H') : rSlQ K (.ref a) lo hi H Q := by
  have new : ∀ {o : HO} {p : Addr}, H p = none → Same H (upd H p o) := fun hp b u hb => (upd_ne (ne_of_none hb hp)).trans hb
  rcases h with h | h
  · exact .inl ⟨a, xs, rfl, h, fun p hp => k p _ (new hp) (.l upd_same)⟩
  · by_cases hw : HT.sIx xs.length 0 lo = 0 ∧ HT.sIx xs.length xs.length hi = xs.length
    · refine .inr (.inr ⟨a, xs, rfl, h, hw, k a H (Same.refl H) ?_⟩)
      have e : cutV xs lo hi = xs := by
        unfold cutV
        rw [hw.1, hw.2]
        simp
      rw [e]
      exact .inr h
    · exact .inr (.inl ⟨a, xs, rfl, h, hw, fun p hp => k p _ (new hp) (.t upd_same)⟩)
/-! ### the box of draws -/
def bx (x y z : Int) : HO := .lst [.int x, .int y, .int z]
def Box (H : Hp) (b : Addr) : Prop := ∃ x y z : Int, H b = some (bx x y z)
/-- take(box, many): a number below many; the box is another one -/
def spTake : Sp := fun vs H Q _ => ∃ (b : Addr) (m : Int), vs = [.ref b, .int m] ∧ Box H b ∧ 0 < m ∧ m < 1073741824 ∧
  ∀ x y z d : Int, 0 ≤ d → d < m → Q (.int d) (upd H b (bx x y z))
/-- pick(box, some) -/
def spPick (K : PySem.W.Frag) : Sp := fun vs H Q _ => ∃ (b l : Addr) (xs : List V), vs = [.ref b, .ref l] ∧ Box H b ∧ Sq K H l xs ∧ l ≠ b ∧ 0 < xs.length ∧ xs.length < 1000 ∧
  ∀ (x y z : Int) (v : V), v ∈ xs → Q v (upd H b (bx x y z))
theorem Sq.upd {K : PySem.W.Frag} {H : Hp} {a b : Addr} {o : HO} {xs : List V} (hn : a ≠ b) (h : Sq K H a xs) : Sq K (upd H b o) a xs := by
  rcases h with h | h
  · rcases h with h | h
    · refine .inl (.inl ?_)
      rcases h with h | ⟨u, h⟩
      · exact .inl ((upd_ne hn).trans h)
      · exact .inr ⟨u, (upd_ne hn).trans h⟩
    · exact .inl (.inr h)
  · rcases h with h | h
    · refine .inr (.inl ?_)
      rcases h with h | ⟨u, h⟩
      · exact .inl ((upd_ne hn).trans h)
      · exact .inr ⟨u, (upd_ne hn).trans h⟩
    · exact .inr (.inr h)

/-! ### values -/
def isIntV : V → Bool
  | .int _ => true
  | _ => false
/-- what isinstance tells of a value: whether it is an integer, whether it is a list or a tuple -/
def HasT (K : PySem.W.Frag) (H : Hp) (x : V) (sq : Bool) : Prop := ∃ (t : Value) (b1 b2 : Bool), TyX K H x t ∧ PySem.W.kitOne K t (.type "int") = some b1 ∧ PySem.W.kitOne K t (.type "bool") = some b2 ∧ (b1 && !b2) = isIntV x ∧
  PySem.W.kitAny K t [.type "list", .type "tuple"] = some sq
section
variable {K : PySem.W.Frag} {H : Hp}
theorem hasT_non : HasT K H .non false := ⟨_, false, false, .base .non, kit_ty (by decide +kernel), kit_ty (by decide +kernel), rfl, by rw [kitAny_cons (kit_ty (b := "list") (r := false) (by decide +kernel)) (fun _ => kitAny_cons (kit_ty (b := "tuple") (r := false) (by decide +kernel)) (fun _ => rfl) (fun z => nomatch z)) (fun z => nomatch z)]⟩
theorem hasT_bl (b : Bool) : HasT K H (.bl b) false := ⟨_, true, true, .base (.bl b), kit_ty (by decide +kernel), kit_ty (by decide +kernel), rfl, by rw [kitAny_cons (kit_ty (b := "list") (r := false) (by decide +kernel)) (fun _ => kitAny_cons (kit_ty (b := "tuple") (r := false) (by decide +kernel)) (fun _ => rfl) (fun z => nomatch z)) (fun z => nomatch z)]⟩
theorem hasT_int (i : Int) : HasT K H (.int i) false := ⟨_, true, false, .base (.int i), kit_ty (by decide +kernel), kit_ty (by decide +kernel), rfl, by rw [kitAny_cons (kit_ty (b := "list") (r := false) (by decide +kernel)) (fun _ => kitAny_cons (kit_ty (b := "tuple") (r := false) (by decide +kernel)) (fun _ => rfl) (fun z => nomatch z)) (fun z => nomatch z)]⟩
theorem hasT_str (z : Str) : HasT K H (.str z) false := ⟨_, false, false, .base (.str z), kit_ty (by decide +kernel), kit_ty (by decide +kernel), rfl, by rw [kitAny_cons (kit_ty (b := "list") (r := false) (by decide +kernel)) (fun _ => kitAny_cons (kit_ty (b := "tuple") (r := false) (by decide +kernel)) (fun _ => rfl) (fun z => nomatch z)) (fun z => nomatch z)]⟩
theorem hasT_l {x : V} (h : TyX K H x (.type "list")) (hx : isIntV x = false) : HasT K H x true := ⟨_, false, false, h, kit_ty (by decide +kernel), kit_ty (by decide +kernel), hx.symm, by rw [kitAny_cons (kit_ty (b := "list") (r := true) (by decide +kernel)) (fun z => nomatch z) (fun z => rfl)]⟩
theorem hasT_t {x : V} (h : TyX K H x (.type "tuple")) (hx : isIntV x = false) : HasT K H x true := ⟨_, false, false, h, kit_ty (by decide +kernel), kit_ty (by decide +kernel), hx.symm, by rw [kitAny_cons (kit_ty (b := "list") (r := false) (by decide +kernel)) (fun _ => kitAny_cons (kit_ty (b := "tuple") (r := true) (by decide +kernel)) (fun z => nomatch z) (fun z => rfl)) (fun z => nomatch z)]⟩
theorem Sq.hasT {a : Addr} {xs : List V} (h : Sq K H a xs) : HasT K H (.ref a) true := by
  rcases h with h | h
  · refine hasT_l ?_ rfl
    rcases h with (h | ⟨o, h⟩) | ⟨o, its, n, h1, h2, _⟩
    · exact .base (.lst h)
    · exact .base (.frz h)
    · exact .kList h1 h2
  · refine hasT_t ?_ rfl
    rcases h with (h | ⟨o, h⟩) | ⟨o, its, n, h1, h2, _⟩
    · exact .base (.tup h)
    · exact .fTuple h
    · exact .kTuple h1 h2
end
theorem tyx_same {K : PySem.W.Frag} {H H' : Hp} {x : V} {t : Value} (e : Same H H') (h : TyX K H x t) : TyX K H' x t := by
  cases h with
  | base b =>
    cases b with
    | non => exact .base .non
    | bl y => exact .base (.bl y)
    | int i => exact .base (.int i)
    | str y => exact .base (.str y)
    | flt y => exact .base (.flt y)
    | lst ea => exact .base (.lst (e _ _ ea))
    | frz ea => exact .base (.frz (e _ _ ea))
    | tup ea => exact .base (.tup (e _ _ ea))
    | dK ea => exact .base (.dK (e _ _ ea))
    | dT ea => exact .base (.dT (e _ _ ea))
    | ins ea cl ha hn htk hm => exact .base (.ins (e _ _ ea) cl ha hn htk hm)
  | byt y => exact .byt y
  | set ea => exact .set (e _ _ ea)
  | kList a c => exact .kList a c
  | kTuple a c => exact .kTuple a c
  | kDict a c => exact .kDict a c
  | fTuple ea => exact .fTuple (e _ _ ea)
  | fDict ea => exact .fDict (e _ _ ea)
theorem HasT.ex {K : PySem.W.Frag} {H H' : Hp} {x : V} {sq : Bool} (e : Same H H') (h : HasT K H x sq) : HasT K H' x sq := by
  obtain ⟨t, b1, b2, ty, r⟩ := h
  exact ⟨t, b1, b2, tyx_same e ty, r⟩
/-! ### readings opened one step -/
section
variable {σ : L2.St} {H : Hp} {Q : VK} {D : Ends} {te : TE} {t : TA} {tu tz : TS} {g : TG} {r : List V → Hp → VK → Prop}
theorem q_seq (h : tu { D with nx := tz D } σ H) : tSeq tu tz D σ H := h
theorem q_asg (h : te σ H (fun x H1 => g x σ H1 D.nx)) : tAsg te g D σ H := h
theorem q_if {tc : TT} (h : tc σ H (fun c H1 => if c = true then tu D σ H1 else tz D σ H1)) : tIfS tc tu tz D σ H := h
theorem q_name {i : Nat} {v : V} {R : L2.St → Hp → Prop} (h : R (σ.set i (some v)) H) : gName i v σ H R := h
theorem q_ret (h : te σ H D.rt) : tRet te D σ H := h
theorem q_cb (h : t σ H (fun vs H1 => r vs H1 Q)) : tCB r t σ H Q := h
theorem q_one {R : List V → Hp → Prop} (h : te σ H (fun x H1 => R [x] H1)) : tCons te tNil σ H R := h
theorem q_cons {R : List V → Hp → Prop} (h : te σ H (fun x H1 => t σ H1 fun xs H2 => R (x :: xs) H2)) : tCons te t σ H R := h
theorem q_call {sp : Sp} {dvs : List V} {E : XK} (h : t σ H (fun vs H1 => sp (vs ++ dvs) H1 Q E)) : tCall sp dvs E t σ H Q := h
end
/-! ### comprehensions -/
theorem wipe1 {σ : L2.St} {j : Nat} {x : Option V} : wipe ((wipe σ [j]).set j x) [j] = wipe σ [j] := by
  show ((σ.set j none).set j x).set j none = σ.set j none
  rw [List.set_set, List.set_set]
theorem same_app {H H' : Hp} {D : Addr} {xs : List V} (e : Same H H') (h : H D = none) : Same H (upd H' D (.lst xs)) := fun a o ha => by
  rw [upd_ne (ne_of_none ha h)]
  exact e a o ha
/-- [e for x in xs], e a value of x; xs evaluated on the way -/
theorem lc_sqG {K : PySem.W.Frag} {σ : L2.St} {H : Hp} {Q : VK} {tl te : TE} {j : Nat} {xs : List V} (φ : V → V) (hv : ∀ R : VK, (∀ a H', Same H H' → Sq K H' a xs → R (.ref a) H') → tl σ H R) (hl : xs.length ≤ 100000)
    (he : ∀ x ∈ xs, ∀ H1, Same H H1 → ∀ R : VK, (∀ H2, Same H1 H2 → R (φ x) H2) → te ((wipe σ [j]).set j (some x)) H1 R)
    (k : ∀ D H', Same H H' → H D = none → H' D = some (.lst (xs.map φ)) → Q (.ref D) H') : tLc (iSeq K tl) (gName j) tYes te [j] σ H Q := by
  refine hv _ fun a H0 s0 hq => ⟨a, rfl, ?_⟩
  have turn : ∀ (D : Addr), H0 D = none → ∀ i x Hc, xs[i]? = some x → (Same H0 Hc ∧ Hc D = some (.lst ((xs.take i).map φ))) → gName j x (wipe σ [j]) Hc fun σ2 H2 => wipe σ2 [j] = wipe σ [j] ∧ tYes σ2 H2 fun b H3 =>
      if b = true then te σ2 H3 fun y H4 => ∃ acc, H4 D = some (.lst acc) ∧ acc.length < sizeLine ∧ (Same H0 (upd H4 D (.lst (acc ++ [y]))) ∧ (upd H4 D (.lst (acc ++ [y]))) D = some (.lst ((xs.take (i + 1)).map φ))) else (Same H0 H3 ∧ H3 D = some (.lst ((xs.take (i + 1)).map φ))) := by
    intro D hD i x Hc hx ⟨sm, hd⟩
    refine ⟨wipe1, ?_⟩
    refine he x (List.mem_of_getElem? hx) Hc (s0.trans sm) _ fun H2 s2 => ⟨_, s2 _ _ hd, ?_, same_app (sm.trans s2) hD, ?_⟩
    · rw [List.length_map, List.length_take]
      exact Nat.lt_of_le_of_lt (Nat.le_trans (Nat.min_le_right _ _) hl) (by decide)
    · rw [upd_same, List.take_add_one, hx, List.map_append]
      rfl
  rcases hq with hq | hq
  · refine .inl ⟨⟨xs, hq⟩, fun D hD => ?_⟩
    refine lc_list (K := K) (a := a) (xs := xs) (fun i Hc => Same H0 Hc ∧ Hc D = some (.lst ((xs.take i).map φ))) ⟨same_app (Same.refl H0) hD, upd_same⟩ (fun i Hc _ p => Evl.ex_l p.1 hq) (turn D hD) fun Hc p => ?_
    rw [List.take_length] at p
    exact k D Hc (s0.trans p.1) (s0.free hD) p.2
  · refine .inr ⟨⟨xs, hq⟩, fun D hD => ?_⟩
    refine lc_tup (K := K) (a := a) (xs := xs) (fun i Hc => Same H0 Hc ∧ Hc D = some (.lst ((xs.take i).map φ))) ⟨same_app (Same.refl H0) hD, upd_same⟩ (fun i Hc _ p => Evl.ex_t p.1 hq) (turn D hD) fun Hc p => ?_
    rw [List.take_length] at p
    exact k D Hc (s0.trans p.1) (s0.free hD) p.2
theorem lc_sq {K : PySem.W.Frag} {σ : L2.St} {H : Hp} {Q : VK} {tl te : TE} {a : Addr} {j : Nat} {xs : List V} (φ : V → V) (hv : ∀ R : VK, R (.ref a) H → tl σ H R) (hq : Sq K H a xs) (hl : xs.length ≤ 100000)
    (he : ∀ x ∈ xs, ∀ H1, Same H H1 → ∀ R : VK, (∀ H2, Same H1 H2 → R (φ x) H2) → te ((wipe σ [j]).set j (some x)) H1 R)
    (k : ∀ D H', Same H H' → H D = none → H' D = some (.lst (xs.map φ)) → Q (.ref D) H') : tLc (iSeq K tl) (gName j) tYes te [j] σ H Q :=
  lc_sqG φ (fun R r => hv R (r a H (Same.refl H) hq)) hl he k
/-- [e for x in range(..)] -/
theorem lc_rg {σ : L2.St} {H : Hp} {Qd : Hp → Prop} {te : TE} {j n : Nat} {lo : Int} {D : Addr} (φ : Nat → V) (hl : n ≤ 100000) (hD : H D = none)
    (he : ∀ i, i < n → ∀ H1, Same H H1 → ∀ R : VK, (∀ H2, Same H1 H2 → R (φ i) H2) → te ((wipe σ [j]).set j (some (.int (lo + i)))) H1 R)
    (k : ∀ H', Same H H' → H' D = some (.lst ((List.range n).map φ)) → Qd H') :
    ∃ W : Nat → Nat → Hp → Prop, (∃ m, W 0 m (upd H D (.lst []))) ∧ ∀ i m H, W i m H →
      ((Itr lo n).stop i H ∧ Qd H) ∨ ((Itr lo n).go i H ∧ ∃ Nx : Hp → Prop, (∀ H', Nx H' → ∃ m', m' < m ∧ W (i + 1) m' H') ∧ ∀ x H', (Itr lo n).yld i H x H' → gName j x (wipe σ [j]) H' fun σ2 H2 => wipe σ2 [j] = wipe σ [j] ∧ tYes σ2 H2 fun b H3 =>
        if b = true then te σ2 H3 fun y H4 => ∃ acc, H4 D = some (.lst acc) ∧ acc.length < sizeLine ∧ Nx (upd H4 D (.lst (acc ++ [y]))) else Nx H3) := by
  refine lc_range (fun i Hc => Same H Hc ∧ Hc D = some (.lst ((List.range i).map φ))) ⟨same_app (Same.refl H) hD, upd_same⟩ (fun i Hc hi ⟨sm, hd⟩ => ⟨wipe1, ?_⟩) fun Hc p => k Hc p.1 p.2
  refine he i hi Hc sm _ fun H2 s2 => ⟨_, s2 _ _ hd, ?_, same_app (sm.trans s2) hD, ?_⟩
  · rw [List.length_map, List.length_range]
    exact Nat.lt_of_lt_of_le (Nat.lt_of_lt_of_le hi hl) (by decide)
  · rw [upd_same, List.range_succ, List.map_append]
    rfl
/-- [e for x in range(..) if test] -/
theorem lc_rgF {σ : L2.St} {H : Hp} {Qd : Hp → Prop} {tt : TT} {te : TE} {j n : Nat} {lo : Int} {D : Addr} (p : Nat → Bool) (φ : Nat → V) (hl : n ≤ 100000) (hD : H D = none)
    (ht : ∀ i, i < n → ∀ H1, Same H H1 → ∀ R : Bool → Hp → Prop, (∀ H2, Same H1 H2 → R (p i) H2) → tt ((wipe σ [j]).set j (some (.int (lo + i)))) H1 R)
    (he : ∀ i, i < n → ∀ H1, Same H H1 → ∀ R : VK, (∀ H2, Same H1 H2 → R (φ i) H2) → te ((wipe σ [j]).set j (some (.int (lo + i)))) H1 R)
    (k : ∀ H', Same H H' → H' D = some (.lst (((List.range n).filter p).map φ)) → Qd H') :
    ∃ W : Nat → Nat → Hp → Prop, (∃ m, W 0 m (upd H D (.lst []))) ∧ ∀ i m H, W i m H →
      ((Itr lo n).stop i H ∧ Qd H) ∨ ((Itr lo n).go i H ∧ ∃ Nx : Hp → Prop, (∀ H', Nx H' → ∃ m', m' < m ∧ W (i + 1) m' H') ∧ ∀ x H', (Itr lo n).yld i H x H' → gName j x (wipe σ [j]) H' fun σ2 H2 => wipe σ2 [j] = wipe σ [j] ∧ tt σ2 H2 fun b H3 =>
        if b = true then te σ2 H3 fun y H4 => ∃ acc, H4 D = some (.lst acc) ∧ acc.length < sizeLine ∧ Nx (upd H4 D (.lst (acc ++ [y]))) else Nx H3) := by
  refine lc_range (fun i Hc => Same H Hc ∧ Hc D = some (.lst (((List.range i).filter p).map φ))) ⟨same_app (Same.refl H) hD, upd_same⟩ (fun i Hc hi ⟨sm, hd⟩ => ⟨wipe1, ?_⟩) fun Hc q => k Hc q.1 q.2
  refine ht i hi Hc sm _ fun H1 s1 => ?_
  cases hp : p i with
  | false =>
    refine ⟨sm.trans s1, ?_⟩
    rw [List.range_succ, List.filter_append, List.filter_cons, if_neg (by rw [hp]; decide), List.filter_nil, List.append_nil]
    exact s1 _ _ hd
  | true =>
    refine he i hi H1 (sm.trans s1) _ fun H2 s2 => ⟨_, s2 _ _ (s1 _ _ hd), ?_, same_app ((sm.trans s1).trans s2) hD, ?_⟩
    · rw [List.length_map]
      have e := List.length_filter_le p (List.range i)
      rw [List.length_range] at e
      exact Nat.lt_of_le_of_lt e (Nat.lt_of_lt_of_le (Nat.lt_of_lt_of_le hi hl) (by decide))
    · rw [upd_same, List.range_succ, List.filter_append, List.filter_cons, if_pos hp, List.filter_nil, List.map_append]
      rfl
/-- [x for x in xs if test] -/
theorem lc_sqF {K : PySem.W.Frag} {σ : L2.St} {H : Hp} {Q : VK} {tl te : TE} {tt : TT} {j : Nat} {xs : List V} (p : V → Bool) (hv : ∀ R : VK, (∀ a H', Same H H' → Sq K H' a xs → R (.ref a) H') → tl σ H R) (hl : xs.length ≤ 100000)
    (ht : ∀ x ∈ xs, ∀ H1, Same H H1 → ∀ R : Bool → Hp → Prop, (∀ H2, Same H1 H2 → R (p x) H2) → tt ((wipe σ [j]).set j (some x)) H1 R)
    (he : ∀ x ∈ xs, ∀ H1, Same H H1 → ∀ R : VK, (∀ H2, Same H1 H2 → R x H2) → te ((wipe σ [j]).set j (some x)) H1 R)
    (k : ∀ D H', Same H H' → H D = none → H' D = some (.lst (xs.filter p)) → Q (.ref D) H') : tLc (iSeq K tl) (gName j) tt te [j] σ H Q := by
  refine hv _ fun a H0 s0 hq => ⟨a, rfl, ?_⟩
  have turn : ∀ (D : Addr), H0 D = none → ∀ i x Hc, xs[i]? = some x → (Same H0 Hc ∧ Hc D = some (.lst ((xs.take i).filter p))) → gName j x (wipe σ [j]) Hc fun σ2 H2 => wipe σ2 [j] = wipe σ [j] ∧ tt σ2 H2 fun b H3 =>
      if b = true then te σ2 H3 fun y H4 => ∃ acc, H4 D = some (.lst acc) ∧ acc.length < sizeLine ∧ (Same H0 (upd H4 D (.lst (acc ++ [y]))) ∧ (upd H4 D (.lst (acc ++ [y]))) D = some (.lst ((xs.take (i + 1)).filter p))) else (Same H0 H3 ∧ H3 D = some (.lst ((xs.take (i + 1)).filter p))) := by
    intro D hD i x Hc hx ⟨sm, hd⟩
    refine ⟨wipe1, ?_⟩
    have mx := List.mem_of_getElem? hx
    refine ht x mx Hc (s0.trans sm) _ fun H1 s1 => ?_
    cases hp : p x with
    | false =>
      refine ⟨sm.trans s1, ?_⟩
      rw [List.take_add_one, hx, List.filter_append]
      show H1 D = some (.lst ((xs.take i).filter p ++ [x].filter p))
      rw [List.filter_cons, if_neg (by rw [hp]; decide), List.filter_nil, List.append_nil]
      exact s1 _ _ hd
    | true =>
      refine he x mx H1 (s0.trans (sm.trans s1)) _ fun H2 s2 => ⟨_, s2 _ _ (s1 _ _ hd), ?_, same_app ((sm.trans s1).trans s2) hD, ?_⟩
      · have e := List.length_filter_le p (xs.take i)
        rw [List.length_take] at e
        exact Nat.lt_of_le_of_lt (Nat.le_trans e (Nat.le_trans (Nat.min_le_right _ _) hl)) (by decide)
      · rw [upd_same, List.take_add_one, hx, List.filter_append]
        show some (HO.lst ((xs.take i).filter p ++ [x])) = some (.lst ((xs.take i).filter p ++ [x].filter p))
        rw [List.filter_cons, if_pos hp, List.filter_nil]
  rcases hq with hq | hq
  · refine .inl ⟨⟨xs, hq⟩, fun D hD => ?_⟩
    refine lc_list (K := K) (a := a) (xs := xs) (fun i Hc => Same H0 Hc ∧ Hc D = some (.lst ((xs.take i).filter p))) ⟨same_app (Same.refl H0) hD, upd_same⟩ (fun i Hc _ r => Evl.ex_l r.1 hq) (turn D hD) fun Hc r => ?_
    rw [List.take_length] at r
    exact k D Hc (s0.trans r.1) (s0.free hD) r.2
  · refine .inr ⟨⟨xs, hq⟩, fun D hD => ?_⟩
    refine lc_tup (K := K) (a := a) (xs := xs) (fun i Hc => Same H0 Hc ∧ Hc D = some (.lst ((xs.take i).filter p))) ⟨same_app (Same.refl H0) hD, upd_same⟩ (fun i Hc _ r => Evl.ex_t r.1 hq) (turn D hD) fun Hc r => ?_
    rw [List.take_length] at r
    exact k D Hc (s0.trans r.1) (s0.free hD) r.2
theorem same_new {H : Hp} {p : Addr} {o : HO} (h : H p = none) : Same H (upd H p o) := fun _ _ ha => (upd_ne (ne_of_none ha h)).trans ha
/-! ### the head's facts -/
section
def obsW (n : Nat) (fa : List He.Fa) (fn : List He5.DefA) (ex : PySem.W.Frag → Bool) (g : Addr → Option Obj) : He.AlD × Bool := (He5.obsA fa fn (He.frG g (He.asD g n)), ex (He.frG g (He.asD g n)))
def SaysW (fa : List He.Fa) (fn : List He5.DefA) (ex : PySem.W.Frag → Bool) (K : PySem.W.Frag) : Prop := He5.SaysA fa fn K ∧ ex K = true
def hookW (n : Nat) (fa : List He.Fa) (fn : List He5.DefA) (ex : PySem.W.Frag → Bool) : PySem.W.Hook where
  α := He.AlD × Bool
  obs := fun s => obsW n fa fn ex s.heap.get?
  val := fun _ => (He5.valA fn, true)
  says := fun _ h => ∃ K : PySem.W.Frag, K.In h ∧ SaysW fa fn ex K
  of := fun _ s e => ⟨He.frG s.heap.get? (He.asD s.heap.get? n), He.frG_in, congrArg Prod.fst e, congrArg Prod.snd e⟩
  keeps := fun _ _ _ ⟨K, hK, c⟩ k => ⟨K, PySem.W.Frag.In.keeps hK k, c⟩
theorem obsW_eq {n : Nat} {fa : List He.Fa} {fn : List He5.DefA} {ex : PySem.W.Frag → Bool} {g : Addr → Option Obj} {s : Shared} (h : ∀ a, g a = s.heap.get? a) : obsW n fa fn ex g = (hookW n fa fn ex).obs s := by
  rw [show g = s.heap.get? from funext h]
  rfl
/-- a property of a class, as the head tells it -/
def propB (K : PySem.W.Frag) (C : Addr) (f : Str) : Bool :=
  He.eqO (PySem.W.findIn K (.ref C) f) (some (some (.ref (He.ma K C f)))) && (He.eqO (PySem.W.specialIn K (.ref (He.ma K C f)) "__get__") (some (some (.builtin "property.__get__"))) && (decide (PySem.W.takesIn K (.ref (He.ma K C f)) = some true) &&
    (match PySem.W.recIn K (He.ma K C f) "property" with
      | some (.ref _ :: _) => true
      | _ => false)))
theorem propB_ok {K : PySem.W.Frag} {C : Addr} {f : Str} (h : propB K C f = true) : PropOf K C f (He.ma K C f) (He5.wf K C "property" f) := by
  obtain ⟨h1, h⟩ := He.ba h
  obtain ⟨h2, h⟩ := He.ba h
  obtain ⟨h3, h4⟩ := He.ba h
  refine ⟨He.eqO_ok h1, He.eqO_ok h2, of_decide_eq_true h3, ?_⟩
  unfold He5.wf
  revert h4
  cases e : PySem.W.recIn K (He.ma K C f) "property" with
  | none => exact fun z => nomatch z
  | some l =>
    cases l with
    | nil => exact fun z => nomatch z
    | cons v r =>
      cases v with
      | ref g => exact fun _ => ⟨r, rfl⟩
      | _ => exact fun z => nomatch z
end
end WW

set_option Elab.async false
set_option linter.all false
set_option maxRecDepth 100000
set_option maxHeartbeats 4000000
namespace WW
open PySem PySem.Spec PyProof.Rows L2
/-! ### == and != by an own __eq__ -/
section
variable {X : Cx} {CX : CXT} {k : Nat} {C f : Addr} {fd : FuncData} {ps : List Str} {sp : Sp}
/-- the def at f called with two values, somewhere below the body -/
theorem run2 {A : Around} {pins : List (Addr × Obj)} {σ : L2.St} {H : Hp} {s : Shared} {Q : VK} {x y : V} {u v : Value} (F : FnOk X.prog X.w X.K X.mg X.base CX0 k f fd ps sp) (hA : Room k A) (hf : A.frames = X.A.frames) (b : Binds X.K fd ps [])
    (I : Inv X pins σ H s) (rx : RelV x u) (ry : RelV y v) (h : sp [x, y] H Q E0) : wpAny (model X.prog X.w) A (call (.ref f) [u, v]) (EP X pins σ Q) X.xe s := by
  have i0 := I.env0
  have i1 : Env0 X.prog X.w X.K X.mg X.base A X.stack s H := ⟨hf.trans i0.frames, i0.mod, i0.bs, i0.bsz, i0.funs, i0.frf, i0.hok, i0.bare⟩
  have n2 : [u, v].length = ps.length := (show [u, v].length = [x, y].length from rfl).trans (F.len _ _ _ _ h)
  have bt : BindsTo s fd ⟨[u, v], []⟩ (ps.zip [u, v]) := by
    have z := b s [u, v] I.kIn (by rw [List.append_nil]; exact n2)
    rw [List.append_nil] at z
    exact z
  refine wpAny_call (codeAny_mono (F.run A X.stack s H ⟨[u, v], []⟩ [u, v] [x, y] Q E0 hA i1 bt (.cons rx (.cons ry .nil)) h) fun r s' hq => ?_)
  cases r with
  | error e => exact (pass0 (X := X) pins σ H s e s' I hq)
  | ok fl =>
    cases fl with
    | ret z => exact I.after hq
    | next => exact hq.elim
    | brk => exact hq.elim
    | cont => exact hq.elim
/-- the class at C has its own __eq__ (at f) and no __ne__ -/
structure EqC (K : PySem.W.Frag) (C f : Addr) : Prop where
  eq : PySem.W.findIn K (.ref C) "__eq__" = some (some (.ref f))
  fn : PySem.W.isFn K (.ref f) = true
  ne : PySem.W.findIn K (.ref C) "__ne__" = some (some (.builtin "object.__ne__"))
  ob : PySem.W.mroIn K C (.type "object") = some true
structure EqAtC (P : Program) (w : World) (K : PySem.W.Frag) (mg : Str → Option Value) (base : Heap) (CX : CXT) (k : Nat) (C : Addr) (ps : List Str) (sp : Sp) : Prop where
  ex : ∃ f fd, EqC K C f ∧ FnOk P w K mg base CX k f fd ps sp ∧ Binds K fd ps []
/-- x == y, x != y, x an instance of the class at C -/
inductive rOwn (K : PySem.W.Frag) (C : Addr) (sp : Sp) (neg : Bool) (x y : V) (H : Hp) (Q : VK) : Prop
  | mk (a dx : Addr) (fs : List (Str × V)) (t : Value) (e : x = .ref a) (ha : H a = some (.ins C dx fs)) (ht : TyX K H y t) (hn : PySem.W.notFirst K C t = true) (h : sp [x, y] H (fun v H' => ∃ b, v = .bl b ∧ Q (.bl (if neg then !b else b)) H') E0) : rOwn K C sp neg x y H Q
theorem op_eqO (K : PySem.W.Frag) {j : Nat} (F : EqAtC X.prog X.w X.K X.mg X.base CX0 k C ps sp) (hr : Room j X.A) (hk : k ≤ j := by decide) (hK : X.K = K := by rfl) : OpR X (compareOp .Eq) (rOwn K C sp false) := by
  subst hK
  obtain ⟨f, fd, ec, FN, b⟩ := F.ex
  intro pins s σ H x y u v Q I rx ry h
  cases h with
  | mk a dx fs t e ha ht hn h =>
    subst e
    cases rx
    obtain ⟨mA, O, _⟩ := ins_get I.hok ha
    obtain ⟨od, J, _⟩ := O.look
    obtain ⟨Pk, Z, pz, _⟩ := kit_of I ry ht
    obtain ⟨m, hF⟩ := I.fr
    unfold compareOp
    refine PySem.W.cmp_K (op := .Eq) (tb := t) (by have := hr.un; omega) hF I.ok.mod.kin J (Z.ty _ _ I.kIn pz) hn ec.eq ec.fn (wpAny_mono (run2 (x := .ref a) FN (hr.mono hk) rfl b I rfl ry h) (fun z s' hz => ?_) fun _ _ e => e)
    obtain ⟨w1, H1, I1, r1, b1, rfl, q1⟩ := hz
    cases r1
    exact ⟨.bl b1, H1, I1, rfl, q1⟩
theorem ne_bound {M : Model} {A : Around} {E : Value → Shared → Prop} {s : Shared} {K : PySem.W.Frag} {x : Addr} {ox : Obj} {od : Option Obj} {rest : List Value} {R : Option Value → Shared → Prop} (hK : K.In s.heap) (J : PySem.W.InstAt s.heap x ox C od) (hc : PySem.W.findIn K (.ref C) "__ne__" = some (some (.builtin "object.__ne__")))
    (q : wpAny M A (call (.builtin "object.__ne__") (.ref x :: rest)) (fun v => R (some v)) E s) : wpAny M A (callSpecialIfBound? (.ref x) "__ne__" rest) R E s := by
  simp only [callSpecialIfBound?, bindSpecialIfBound?]
  refine wpAny_holding (wpAny_bind (wpAny_bind (wpAny_bind (J.type.here ((PySem.W.looks_findIn hK hc).here (wpAny_bind (wpAny_askSetting (wpAny_ite ?_))))))))
  have last : wpAny M A (call (.builtin "object.__ne__") ([.ref x] ++ rest) >>= fun v => pure (some v)) R E s := wpAny_bind (wpAny_mono q (fun v s' hv => wpAny_pure hv) fun _ _ z => z)
  split
  · exact wpAny_bind (wpAny_of_eq (F.cmp_object.ne.bind _) (wpAny_pure (by exact last)))
  · exact wpAny_tryCatch (wpAny_bind (wpAny_of_eq (F.cmp_object.ne.bind _) (wpAny_pure (by exact last))))
theorem ne_entry {prog : Program} {w : World} {A : Around} {E : Value → Shared → Prop} {s : Shared} {K : PySem.W.Frag} {x : Addr} {v : Value} {ox : Obj} {od : Option Obj} {R : Fin → Shared → Prop} (hu : A.units < cLine) (hK : K.In s.heap) (J : PySem.W.InstAt s.heap x ox C od) (ec : EqC K C f)
    (q : wpAny (model prog w) A (call (.ref f) [.ref x, v]) (fun r s' => ∃ b, r = .bool b ∧ R (.done (.ret (.bool (!b)))) s') E s) : wpAny (model prog w) A (Builtin.«object.__ne__» ⟨[.ref x, v], []⟩) R E s := by
  unfold Builtin.«object.__ne__»
  repeat (first
    | with_reducible refine wpAny_cRoomFor hu ?_
    | (refine wpAny_bind (m := callSpecialIfBound? (.ref x) (Str.ofString "__eq__") [v]) (PySem.W.ifBound_K hK J ec.eq ec.fn (wpAny_mono q (fun r s' hr => by
          obtain ⟨b, rfl, hq⟩ := hr
          repeat (first | exact hq | exact wpAny_pure hq | exact wpAny_truthy_bool hq | (refine wpAny_bind (m := truthy (.bool _)) (wpAny_truthy_bool ?_)) | wp_step)) fun _ _ e => e)))
    | wp_step)
theorem op_neO (K : PySem.W.Frag) {j : Nat} (F : EqAtC X.prog X.w X.K X.mg X.base CX0 k C ps sp) (hr : Room j X.A) (hk : k + 1 ≤ j := by decide) (hK : X.K = K := by rfl) : OpR X (compareOp .NotEq) (rOwn K C sp true) := by
  subst hK
  obtain ⟨f, fd, ec, FN, b⟩ := F.ex
  intro pins s σ H x y u v Q I rx ry h
  cases h with
  | mk a dx fs t e ha ht hn h =>
    subst e
    cases rx
    obtain ⟨mA, O, _⟩ := ins_get I.hok ha
    obtain ⟨od, J, _⟩ := O.look
    obtain ⟨Pk, Z, pz, _⟩ := kit_of I ry ht
    have hu : X.A.units + 1 < cLine := by have := hr.un; omega
    have go : wpAny (model X.prog X.w) X.A (tryCompare (.ref a) "__ne__" v) (fun r s' => ∃ b1, r = some (.bool (!b1)) ∧ EP X pins σ Q (.bool (!b1)) s') X.xe s := by
      unfold tryCompare
      refine wpAny_bind (ne_bound I.kIn J ec.ne (wpAny_call (codeAny_call_builtin PySem.F.cmp_object.ne.plain PySem.F.cmpEntry_ne (PySem.W.check_slot PySem.F.cmpKind_ne PySem.F.cmpSplit_ne (J.type.andThen (PySem.W.looks_mroIn I.kIn ec.ob)) (PySem.F.cmpArgs_ne _ _)
        (ne_entry (A := X.A.in1) hu I.kIn J ec (wpAny_mono (run2 (x := .ref a) FN (hr.mono hk).in1 rfl b I rfl ry h) (fun z s' hz => ?_) fun _ _ e => e))))))
      obtain ⟨w1, H1, I1, r1, b1, rfl, q1⟩ := hz
      cases r1
      exact ⟨b1, rfl, wpAny_pure ⟨b1, rfl, .bl (!b1), H1, I1, rfl, q1⟩⟩
    unfold compareOp richCompare
    simp only [oneThing_ref]
    refine wpAny_holding (wpAny_bind (wpAny_cRoomFor (by omega) ?_))
    refine wpAny_bind (J.type.here (wpAny_bind ((Z.ty _ _ I.kIn pz).here ?_)))
    split
    · rename_i c0
      have sf : PySem.W.subIn X.K t (.ref C) = some false := by
        rcases Bool.or_eq_true_iff.mp hn with e | e
        · rw [beq_iff_eq.mp e] at c0
          simp at c0
        · exact beq_iff_eq.mp e
      refine wpAny_bind ((PySem.W.looks_subIn I.kIn sf).here ?_)
      simp only [Bool.false_eq_true, if_false]
      refine wpAny_bind (wpAny_mono go (fun r s1 z => ?_) fun _ _ e => e)
      obtain ⟨b1, rfl, h1⟩ := z
      exact wpAny_pure h1
    · refine wpAny_bind (wpAny_pure ?_)
      simp only [Bool.false_eq_true, if_false]
      refine wpAny_bind (wpAny_mono go (fun r s1 z => ?_) fun _ _ e => e)
      obtain ⟨b1, rfl, h1⟩ := z
      exact wpAny_pure h1
end
end WW

set_option Elab.async false
set_option linter.all false
set_option maxRecDepth 100000
set_option maxHeartbeats 4000000
namespace WW
open PySem PySem.Spec PyProof.Rows L2
/-! ### str(x) by an own __str__ -/
section
variable {X : Cx} {CX : CXT} {k : Nat} {C f : Addr} {fd : FuncData} {ps : List Str} {sp : Sp}
theorem run1 {A : Around} {pins : List (Addr × Obj)} {σ : L2.St} {H : Hp} {s : Shared} {Q : VK} {x : V} {u : Value} (F : FnOk X.prog X.w X.K X.mg X.base CX0 k f fd ps sp) (hA : Room k A) (hf : A.frames = X.A.frames) (b : Binds X.K fd ps [])
    (I : Inv X pins σ H s) (rx : RelV x u) (h : sp [x] H Q E0) : wpAny (model X.prog X.w) A (call (.ref f) [u]) (EP X pins σ Q) X.xe s := by
  have i0 := I.env0
  have i1 : Env0 X.prog X.w X.K X.mg X.base A X.stack s H := ⟨hf.trans i0.frames, i0.mod, i0.bs, i0.bsz, i0.funs, i0.frf, i0.hok, i0.bare⟩
  have n2 : [u].length = ps.length := (show [u].length = [x].length from rfl).trans (F.len _ _ _ _ h)
  have bt : BindsTo s fd ⟨[u], []⟩ (ps.zip [u]) := by
    have z := b s [u] I.kIn (by rw [List.append_nil]; exact n2)
    rw [List.append_nil] at z
    exact z
  refine wpAny_call (codeAny_mono (F.run A X.stack s H ⟨[u], []⟩ [u] [x] Q E0 hA i1 bt (.cons rx .nil) h) fun r s' hq => ?_)
  cases r with
  | error e => exact (pass0 (X := X) pins σ H s e s' I hq)
  | ok fl =>
    cases fl with
    | ret z => exact I.after hq
    | next => exact hq.elim
    | brk => exact hq.elim
    | cont => exact hq.elim
structure StrAtC (P : Program) (w : World) (K : PySem.W.Frag) (mg : Str → Option Value) (base : Heap) (CX : CXT) (k : Nat) (C : Addr) (ps : List Str) (sp : Sp) : Prop where
  ex : ∃ f fd, PySem.W.findIn K (.ref C) "__str__" = some (some (.ref f)) ∧ PySem.W.isFn K (.ref f) = true ∧ FnOk P w K mg base CX k f fd ps sp ∧ Binds K fd ps []
inductive rStrO (C : Addr) (sp : Sp) (xs : List V) (H : Hp) (Q : VK) : Prop
  | mk (a dx : Addr) (fs : List (Str × V)) (e : xs = [.ref a]) (ha : H a = some (.ins C dx fs)) (h : sp [.ref a] H (fun v H' => ∃ z, v = .str z ∧ Q (.str z) H') E0) : rStrO C sp xs H Q
theorem call_strO {j : Nat} (F : StrAtC X.prog X.w X.K X.mg X.base CX0 k C ps sp) (hr : Room j X.A) (hk : k + 2 ≤ j := by decide) : CallR X (.type "str") (rStrO C sp) := by
  obtain ⟨f, fd, e1, e2, FN, b⟩ := F.ex
  intro pins s σ H xs us Q I r h
  cases h with
  | mk a dx fs e ha h =>
    subst e
    obtain ⟨u, rfl, ru⟩ := vals1 r
    cases ru
    obtain ⟨mA, O, _⟩ := ins_get I.hok ha
    obtain ⟨od, J, _⟩ := O.look
    have r2 := (hr.mono hk).in1.in1
    refine PySem.W.kso_call (by have := r2.un; omega) I.kIn J e1 e2 (wpAny_mono (run1 (x := .ref a) FN r2 rfl b I rfl h) (fun z s' hz => ?_) fun _ _ e => e)
    obtain ⟨w1, H1, I1, r1, z1, rfl, q1⟩ := hz
    obtain ⟨t, rfl⟩ := r1
    exact ⟨.str z1, H1, I1, ⟨t, rfl⟩, q1⟩
end
/-! ### sep.join(..) with the written part named -/
inductive rJoin (K : PySem.W.Frag) (x : V) (xs : List V) (H : Hp) (Q : VK) : Prop
  | mk (a : Str) (p : Addr) (ys : List Str) (e : x = .str a) (e2 : xs = [.ref p]) (h : Sq K H p (ys.map V.str)) (hz : (ys.map (·.length)).sum + ys.length * a.length ≤ 16777216) (q : Q (.str (Txt.join a ys)) H) : rJoin K x xs H Q
theorem mt_joinK {X : Cx} (K : PySem.W.Frag) (h : X.K = K := by rfl) : MtR X "str.join" (rJoin K) := by
  subst h
  intro pins s σ H x xs v us Q I rx rs h
  cases h with
  | mk a p ys e e2 h hz q => exact mt_join pins s σ H x xs v us Q I rx rs ⟨a, p, ys, e, e2, h, hz, q⟩
theorem pe_joinK {X : Cx} (K : PySem.W.Frag) {o e : Expr} {to te : TE} {apos pos : Pos} (ho : PE X o to) (he : PE X e te) (hK : X.K = K := by rfl) (hs : starEach [e] X.env = [(false, eval e X.env)] := by rfl) (hbase : attributeBase o "join" X.env (eval o X.env) = eval o X.env := by rfl) (hline : (apos.endLine == pos.line) = true := by rfl) :
    PE X (.Call (.Attribute o "join" apos) [e] [] pos) (tM1 (rJoin K) to te) :=
  pe_m1 F.slot_str_join F.type_str_join (mt_joinK K hK) ho he hs hbase hline
theorem q_star {K : PySem.W.Frag} {σ : L2.St} {H : Hp} {te : TE} {t : TA} {R : List V → Hp → Prop} (h : te σ H fun x H1 => ∃ p xs, x = V.ref p ∧ (SqT K H1 p xs ∨ SqL K H1 p xs) ∧ t σ H1 fun ys H2 => R (xs ++ ys) H2) : StX.tStar K te t σ H R := h
theorem q_c {σ : L2.St} {H : Hp} {v : V} {R : VK} (h : R v H) : tC v σ H R := h
theorem q_ifE {σ : L2.St} {H : Hp} {R : VK} {tt : TT} {ta tb : TE} (h : tt σ H fun c H1 => if c = true then ta σ H1 R else tb σ H1 R) : tIf tt ta tb σ H R := h
theorem q_tst {σ : L2.St} {H : Hp} {te : TE} {R : Bool → Hp → Prop} (h : te σ H fun x H1 => ∃ b, x = .bl b ∧ R b H1) : tTest te σ H R := h
theorem q_op {σ : L2.St} {H : Hp} {ta tb : TE} {r : R2} {R : VK} (h : ta σ H fun x H1 => tb σ H1 fun y H2 => r x y H2 R) : tOp r ta tb σ H R := h
theorem q_next {D : Ends} {σ : L2.St} {H : Hp} (h : D.nx σ H) : tNext D σ H := h
/-- a test that fails -/
theorem q_no {D : Ends} {σ : L2.St} {H : Hp} {b : Bool} {u : Prop} (hb : b = false) (h : D.nx σ H) : if b = true then u else tNext D σ H := by
  subst hb
  exact h
/-! ### what the head tells of a class with its own __eq__ -/
structure TyC (K : PySem.W.Frag) (C : Addr) : Prop where
  cl : PySem.W.findIn K (.ref C) "__class__" = some (some (.builtin "object.__class__"))
  ge : PySem.W.specialIn K (.builtin "object.__class__") "__get__" = some (some (.builtin "getset_descriptor.__get__"))
  tk : PySem.W.takesIn K (.builtin "object.__class__") = some true
  ob : PySem.W.mroIn K C (.type "object") = some true
  own : PySem.W.kitOne K (.ref C) (.ref C) = some true
def tyB (K : PySem.W.Frag) (C : Addr) : Bool :=
  He.eqO (PySem.W.findIn K (.ref C) "__class__") (some (some (.builtin "object.__class__"))) && (He.eqO (PySem.W.specialIn K (.builtin "object.__class__") "__get__") (some (some (.builtin "getset_descriptor.__get__"))) && (decide (PySem.W.takesIn K (.builtin "object.__class__") = some true) &&
    (decide (PySem.W.mroIn K C (.type "object") = some true) && decide (PySem.W.kitOne K (.ref C) (.ref C) = some true))))
theorem tyB_ok {K : PySem.W.Frag} {C : Addr} (h : tyB K C = true) : TyC K C := by
  obtain ⟨h1, h⟩ := He.ba h
  obtain ⟨h2, h⟩ := He.ba h
  obtain ⟨h3, h⟩ := He.ba h
  obtain ⟨h4, h5⟩ := He.ba h
  exact ⟨He.eqO_ok h1, He.eqO_ok h2, of_decide_eq_true h3, of_decide_eq_true h4, of_decide_eq_true h5⟩
/-- a type that is not the class at C -/
structure Apart (K : PySem.W.Frag) (C : Addr) (t : String) : Prop where
  no : PySem.W.kitOne K (.type t) (.ref C) = some false
  nf : PySem.W.notFirst K C (.type t) = true
def apB (K : PySem.W.Frag) (C : Addr) (t : String) : Bool := decide (PySem.W.kitOne K (.type t) (.ref C) = some false) && PySem.W.notFirst K C (.type t)
theorem apB_ok {K : PySem.W.Frag} {C : Addr} {t : String} (h : apB K C t = true) : Apart K C t := by
  obtain ⟨h1, h2⟩ := He.ba h
  exact ⟨of_decide_eq_true h1, h2⟩
def eqB (K : PySem.W.Frag) (C : Addr) : Bool :=
  He.eqO (PySem.W.findIn K (.ref C) "__eq__") (some (some (.ref (He.ma K C "__eq__")))) && (PySem.W.isFn K (.ref (He.ma K C "__eq__")) && (He.eqO (PySem.W.findIn K (.ref C) "__ne__") (some (some (.builtin "object.__ne__"))) && decide (PySem.W.mroIn K C (.type "object") = some true)))
theorem eqB_ok {K : PySem.W.Frag} {C : Addr} (h : eqB K C = true) : EqC K C (He.ma K C "__eq__") := by
  obtain ⟨h1, h⟩ := He.ba h
  obtain ⟨h2, h⟩ := He.ba h
  obtain ⟨h3, h4⟩ := He.ba h
  exact ⟨He.eqO_ok h1, h2, He.eqO_ok h3, of_decide_eq_true h4⟩
def strB (K : PySem.W.Frag) (C : Addr) : Bool := He.eqO (PySem.W.findIn K (.ref C) "__str__") (some (some (.ref (He.ma K C "__str__")))) && PySem.W.isFn K (.ref (He.ma K C "__str__"))
theorem notFirst_self {K : PySem.W.Frag} {C : Addr} : PySem.W.notFirst K C (.ref C) = true := by
  unfold PySem.W.notFirst
  simp
/-! ### equal things -/
def dT : V → PyData
  | .int i => .int i
  | _ => .none
def isTh : V → Bool
  | .non => true
  | .int _ => true
  | _ => false
theorem dp_all {K : PySem.W.Frag} {H : Hp} : ∀ {xs : List V}, (∀ y ∈ xs, isTh y = true) → DpAll K H xs (xs.map dT)
  | [], _ => .nil
  | x :: r, h => by
    refine .cons ?_ (dp_all fun y hy => h y (List.mem_cons_of_mem _ hy))
    have := h x List.mem_cons_self
    revert this
    cases x with
    | non => exact fun _ => .non
    | int i => exact fun _ => .int i
    | _ => exact fun z => nomatch z
theorem eqv_th {x y : V} (hx : isTh x = true) (hy : isTh y = true) : PyData.eqv (dT x) (dT y) = decide (x = y) := by
  revert hx hy
  cases x with
  | non =>
    cases y with
    | non => exact fun _ _ => rfl
    | int j => exact fun _ _ => (decide_eq_false (p := V.non = V.int j) (fun z => by cases z)).symm
    | _ => exact fun _ z => nomatch z
  | int i =>
    cases y with
    | non => exact fun _ _ => (decide_eq_false (p := V.int i = V.non) (fun z => by cases z)).symm
    | int j =>
      intro _ _
      show (i == j) = decide (V.int i = V.int j)
      by_cases c : i = j
      · subst c
        simp
      · rw [decide_eq_false (fun z => c (by injection z)), beq_eq_false_iff_ne.mpr c]
    | _ => exact fun _ z => nomatch z
  | _ => exact fun z => nomatch z
theorem eqv_ths : ∀ {xs ys : List V}, (∀ y ∈ xs, isTh y = true) → (∀ y ∈ ys, isTh y = true) → PyData.eqvAll (xs.map dT) (ys.map dT) = decide (xs = ys)
  | [], [], _, _ => rfl
  | x :: r, y :: q, h, k => by
    show (PyData.eqv (dT x) (dT y) && PyData.eqvAll (r.map dT) (q.map dT)) = _
    rw [eqv_th (h x List.mem_cons_self) (k y List.mem_cons_self), eqv_ths (fun z hz => h z (List.mem_cons_of_mem _ hz)) fun z hz => k z (List.mem_cons_of_mem _ hz)]
    by_cases c1 : x = y
    · by_cases c2 : r = q
      · simp [c1, c2]
      · simp [c1, c2]
    · simp [c1]
  | [], y :: q, _, _ => by
    show false = _
    simp
  | x :: r, [], _, _ => by
    show false = _
    simp
theorem can_th (x : V) : PyData.canLay0 (dT x) = true := by
  cases x <;> simp [dT, PyData.canLay0]
theorem dep_th (x : V) : PyData.depth (dT x) = 0 := by
  cases x <;> simp [dT, PyData.depth]
theorem can_ths : ∀ xs : List V, PyData.canLayAll0 (xs.map dT) = true
  | [] => by simp [PyData.canLayAll0]
  | x :: r => by
    rw [List.map_cons, PyData.canLayAll0, can_th, can_ths r]
    rfl
theorem dep_ths : ∀ xs : List V, PyData.depthAll (xs.map dT) = 0
  | [] => by simp [PyData.depthAll]
  | x :: r => by
    rw [List.map_cons, PyData.depthAll, dep_th, dep_ths r]
    rfl
theorem shaped_list (xs : List V) : SeqAt.shaped (.list (xs.map dT)) = true := by
  unfold SeqAt.shaped
  rw [PyData.canLay0, PyData.depth, can_ths, dep_ths]
  rfl
theorem shaped_th (x : V) : SeqAt.shaped (dT x) = true := by
  unfold SeqAt.shaped
  rw [can_th, dep_th]
  rfl
/-- the parts of a row as data -/
def partsD (fs ys : List V) (m : Int) : PyData := .tuple [.tuple (fs.map dT), .tuple (ys.map dT), .int m]
theorem shaped_parts (fs ys : List V) (m : Int) : SeqAt.shaped (partsD fs ys m) = true := by
  unfold SeqAt.shaped partsD
  simp only [PyData.canLay0, PyData.canLayAll0, PyData.depth, PyData.depthAll, can_ths, dep_ths]
  rfl
theorem eqv_parts {fs ys gs zs : List V} {m k : Int} (h1 : ∀ y ∈ fs, isTh y = true) (h2 : ∀ y ∈ ys, isTh y = true) (h3 : ∀ y ∈ gs, isTh y = true) (h4 : ∀ y ∈ zs, isTh y = true) : PyData.eqv (partsD fs ys m) (partsD gs zs k) = decide (fs = gs ∧ ys = zs ∧ m = k) := by
  unfold partsD
  simp only [PyData.eqv, PyData.eqvAll]
  rw [eqv_ths h1 h3, eqv_ths h2 h4]
  by_cases c1 : fs = gs <;> by_cases c2 : ys = zs <;> by_cases c3 : m = k <;> simp [c1, c2, c3]
theorem dp_parts {K : PySem.W.Frag} {H : Hp} {p p1 p2 : Addr} {fs ys : List V} {m : Int} (h : H p = some (.tup [.ref p1, .ref p2, .int m])) (h1 : H p1 = some (.tup fs)) (h2 : H p2 = some (.tup ys)) (t1 : ∀ y ∈ fs, isTh y = true) (t2 : ∀ y ∈ ys, isTh y = true) : Dp K H (.ref p) (partsD fs ys m) :=
  .tup (.inl (.inl h)) (.cons (.tup (.inl (.inl h1)) (dp_all t1)) (.cons (.tup (.inl (.inl h2)) (dp_all t2)) (.cons (.int m) .nil)))
theorem dp_list {K : PySem.W.Frag} {H : Hp} {p : Addr} {xs : List V} (h : H p = some (.lst xs)) (t : ∀ y ∈ xs, isTh y = true) : Dp K H (.ref p) (.list (xs.map dT)) := .lst (.inl (.inl h)) (dp_all t)
theorem eqv_list {xs ys : List V} (h : ∀ y ∈ xs, isTh y = true) (k : ∀ y ∈ ys, isTh y = true) : PyData.eqv (.list (xs.map dT)) (.list (ys.map dT)) = decide (xs = ys) := by
  rw [PyData.eqv, eqv_ths h k]
theorem dp_th {K : PySem.W.Frag} {H : Hp} {x : V} (h : isTh x = true) : Dp K H x (dT x) := by
  revert h
  cases x with
  | non => exact fun _ => .non
  | int i => exact fun _ => .int i
  | _ => exact fun z => nomatch z
end WW

set_option Elab.async false
set_option linter.all false
set_option maxRecDepth 100000
set_option maxHeartbeats 4000000
namespace WW
open PySem PySem.Spec PyProof.Rows L2
def top (i : Nat) : Stmt := PySem.Challenge.pw_waitworks_k06_greatest_and_least_rows.main.body.getD i (.Pass ⟨0, 0, 0, 0⟩)
section
variable {P : Program} {w : World} {K : PySem.W.Frag} {mg : Str → Option Value} {base : Heap} {f : Addr} {fd : FuncData}
abbrev FnP (K : PySem.W.Frag) (x : Str) (st : Stmt) (f : Addr) (fd : FuncData) : Prop := FunD K x x (defArgs st) (defBody st) (defScope st) [] [] f fd
abbrev s_l_take : Stmt := top 44
abbrev N_l_take : List Str := ["_law_box_here", "_law_many", "_law_one", "_law_digit"]
theorem sc_l_take : FnScope N_l_take ["_law_box_here", "_law_many"] (defScope s_l_take) := ⟨rfl, rfl, rfl, by decide +kernel, rfl, by decide +kernel, by decide +kernel⟩

theorem ok_take (F : FnP K "_law_take" s_l_take f fd) (m_int : mg "int" = none) : FnOk P w K mg base CX0 1 f fd ["_law_box_here", "_law_many"] spTake := by
  refine F.ok sc_l_take (fun vs H Q E h => ?_) (fun cdv A outer s H vs Q E hr h => ?_)
  · obtain ⟨b, m, rfl, _⟩ := h
    rfl
  · obtain ⟨b, m, rfl, ⟨x, y, z, hb⟩, h0, h1, q⟩ := h
    refine ⟨_, PSs.nox (pss_cons (ps_if (pt_cmpR op_gt (pe_ix (ix_sqK K) (pv 0) (pe_int) (fun _ _ => rfl)) (pe_int) (nomark _)) (pss_cons (ps_set (i := 3) sc_l_take.nd rfl (.inl rfl) (pe_op op_mod (pe_callTy call_int1 rfl m_int (by decide +kernel) (pa_cons (pe_ix (ix_sqK K) (pv 0) (pe_int) (fun _ _ => rfl)) (pa_nil))) (pv 1)))
 (pss_cons (ps_asg (pe_op op_fdiv (pe_ix (ix_sqK K) (pv 0) (pe_int) (fun _ _ => rfl)) (pv 1)) (pg_sub (pv 0) (pe_int) set_list))
 (pss_one (ps_ret (pv 3))))) (pss_nil))
 (pss_cons (ps_asg (pe_op op_add (pe_ix (ix_sqK K) (pv 0) (pe_int) (fun _ _ => rfl)) (pe_int)) (pg_sub (pv 0) (pe_int) set_list))
 (pss_cons (ps_set (i := 2) sc_l_take.nd rfl (.inl rfl) (pe_op op_mod (pe_callTy call_int1 rfl m_int (by decide +kernel) (pa_cons (pe_op op_mul (pe_op op_add (pe_ix (ix_sqK K) (pv 0) (pe_int) (fun _ _ => rfl)) (pe_op op_mul (pe_int) (pe_ix (ix_sqK K) (pv 0) (pe_int) (fun _ _ => rfl)))) (pe_int)) (pa_nil))) (pe_int)))
 (pss_cons (ps_asg (pe_op op_add (pe_op op_mod (pe_callTy call_int1 rfl m_int (by decide +kernel) (pa_cons (pe_op op_add (pe_op op_mul (pv 2) (pe_int)) (pe_int)) (pa_nil))) (pe_int)) (pe_int)) (pg_sub (pv 0) (pe_int) set_list))
 (pss_one (ps_ret (pe_op op_mod (pe_callTy call_int1 rfl m_int (by decide +kernel) (pa_cons (pe_op op_fdiv (pe_op op_add (pe_op op_mul (pv 2) (pe_int)) (pe_ix (ix_sqK K) (pv 0) (pe_int) (fun _ _ => rfl))) (pe_int)) (pa_nil))) (pv 1)))))))), ?_⟩
    have a0 : ∀ {x y z : Int}, atI [V.int x, V.int y, V.int z] 0 = some (.int x) := rfl
    refine ⟨_, rfl, _, _, _, _, rfl, rfl, .l hb, a0, _, _, rfl, rfl, _, rfl, ite2 (fun c => ?_) (fun c => ?_)⟩
    · refine ⟨_, rfl, _, _, _, _, rfl, rfl, .l hb, a0, .inl ⟨_, rfl, _, rfl, _, _, rfl, rfl, h0, ?_⟩⟩
      refine ⟨_, rfl, _, _, _, _, rfl, rfl, .l hb, a0, _, rfl, _, _, rfl, rfl, ⟨h0, h1⟩, _, rfl, _, _, _, _, rfl, rfl, hb, rfl, ?_⟩
      exact ⟨_, rfl, q _ _ _ _ (Int.emod_nonneg _ (by omega)) (Int.emod_lt_of_pos _ h0)⟩
    · have hb2 : ∀ o, (upd H b o) b = some o := fun o => upd_same
      have a1 : ∀ {x y z : Int}, atI [V.int x, V.int y, V.int z] 1 = some (.int y) := rfl
      have a2 : ∀ {x y z : Int}, atI [V.int x, V.int y, V.int z] 2 = some (.int z) := rfl
      refine ⟨_, rfl, _, _, _, _, rfl, rfl, .l hb, a2, _, _, rfl, rfl, _, rfl, _, _, _, _, rfl, rfl, hb, rfl, ?_⟩
      refine ⟨_, rfl, _, _, _, _, rfl, rfl, .l upd_same, a1, _, rfl, _, _, _, _, rfl, rfl, .l upd_same, a2, _, _, rfl, rfl, .inl ⟨by decide, by decide⟩, _, _, rfl, rfl, _, _, rfl, rfl, .inr ⟨by decide, by decide⟩,
        .inl ⟨_, rfl, _, _, rfl, rfl, (by show (0 : Int) < _; decide), ?_⟩⟩
      refine ⟨_, rfl, _, _, rfl, rfl, .inr ⟨by decide, by decide⟩, _, _, rfl, rfl, .inl ⟨_, rfl, _, _, rfl, rfl, (by show (0 : Int) < _; decide), _, _, rfl, rfl, _, rfl, _, _, _, _, rfl, rfl, upd_same, rfl, ?_⟩⟩
      refine ⟨_, rfl, _, _, rfl, rfl, .inr ⟨by decide, by decide⟩, _, rfl, _, _, _, _, rfl, rfl, .l upd_same, a1, _, _, rfl, rfl, _, _, rfl, rfl, ⟨by decide, by decide⟩, .inl ⟨_, rfl, _, rfl, _, _, rfl, rfl, h0, ?_⟩⟩
      rw [upd_upd]
      exact q _ _ _ _ (Int.emod_nonneg _ (by omega)) (Int.emod_lt_of_pos _ h0)
abbrev s_l_pick : Stmt := top 45
abbrev N_l_pick : List Str := ["_law_box_here", "_law_some"]
theorem sc_l_pick : FnScope N_l_pick ["_law_box_here", "_law_some"] (defScope s_l_pick) := ⟨rfl, rfl, rfl, by decide +kernel, rfl, by decide +kernel, by decide +kernel⟩

theorem ok_pick (F : FnP K "_law_pick" s_l_pick f fd) (m_len : mg "len" = none) (g_l_take : FnAt P w K mg base CX0 1 "_law_take" ["_law_box_here", "_law_many"] spTake) : FnOk P w K mg base CX0 2 f fd ["_law_box_here", "_law_some"] (spPick K) := by
  refine F.ok sc_l_pick (fun vs H Q E h => ?_) (fun cdv A outer s H vs Q E hr h => ?_)
  · obtain ⟨b, l, xs, rfl, _⟩ := h
    rfl
  · obtain ⟨b, l, xs, rfl, hb, hl, hn, h0, h1, q⟩ := h
    refine ⟨_, PSs.nox (pss_one (ps_ret (pe_ix (ix_sqK K) (pv 1) (pe_fn g_l_take hr rfl (pa_cons (pv 0) (pa_cons (pe_callB (call_lenK K) rfl m_len (by decide +kernel) (pa_cons (pv 1) (pa_nil))) (pa_nil)))) (fun _ _ => rfl)))), ?_⟩
    refine ⟨_, rfl, _, rfl, _, rfl, _, _, rfl, hl, b, _, rfl, hb, by omega, by omega, fun x y z d d0 d1 => ?_⟩
    have hd : d.toNat < xs.length := by omega
    exact ⟨l, xs, _, xs[d.toNat], rfl, rfl, hl.upd hn, at_toNat d0 hd, q x y z _ (List.getElem_mem hd)⟩
end
end WW

set_option Elab.async false
set_option linter.all false
set_option maxRecDepth 100000
set_option maxHeartbeats 4000000
namespace WW
open PySem PySem.Spec PyProof.Rows L2
/-- what is told is a value; the heap grows -/
def spV (pre : List V → Hp → V → Prop) : Sp := fun vs H Q _ => ∃ v, pre vs H v ∧ ∀ H', Same H H' → Q v H'
def isThingV : V → Bool
  | .non => true
  | .int _ => true
  | _ => false
def belowV : V → V → Bool
  | .non, .int _ => true
  | .int i, .int j => decide (i < j)
  | _, _ => false
def risingV (xs : List V) : Bool := !((List.range (xs.length - 1)).map fun i => belowV (xs.getD (i + 1) .non) (xs.getD i .non)).any id
section
variable {P : Program} {w : World} {K : PySem.W.Frag} {mg : Str → Option Value} {base : Heap} {f : Addr} {fd : FuncData}
def spInteger (K : PySem.W.Frag) : Sp := spV fun vs H v => ∃ x sq, vs = [x] ∧ HasT K H x sq ∧ v = .bl (isIntV x)
abbrev s_is_integer : Stmt := top 7
abbrev N_is_integer : List Str := ["value"]
theorem sc_is_integer : FnScope N_is_integer ["value"] (defScope s_is_integer) := ⟨rfl, rfl, rfl, by decide +kernel, rfl, by decide +kernel, by decide +kernel⟩

theorem ok_is_integer (F : FnP K "is_integer" s_is_integer f fd) (m_isinstance : mg "isinstance" = none) (m_int : mg "int" = none) (m_bool : mg "bool" = none) : FnOk P w K mg base CX0 1 f fd ["value"] (spInteger K) := by
  refine F.ok sc_is_integer (fun vs H Q E h => ?_) (fun cdv A outer s H vs Q E hr h => ?_)
  · obtain ⟨v, ⟨x, sq, rfl, _⟩, _⟩ := h
    rfl
  · obtain ⟨v, ⟨x, sq, rfl, ⟨t, b1, b2, ty, k1, k2, e, k3⟩, rfl⟩, q⟩ := h
    refine ⟨_, PSs.nox (pss_one (ps_ret (pe_and (pe_callB (call_isiK1 K) rfl m_isinstance (by decide +kernel) (pa_cons (pv 0) (pa_cons (pe_bltn (v := .ty "int") (u := .type "int") rfl m_int (by decide +kernel) rfl) (pa_nil)))) (pe_one (pe_not (pe_callB (call_isiK1 K) rfl m_isinstance (by decide +kernel) (pa_cons (pv 0) (pa_cons (pe_bltn (v := .ty "bool") (u := .type "bool") rfl m_bool (by decide +kernel) rfl) (pa_nil))))))))), ?_⟩
    refine ⟨_, rfl, x, .ty "int", t, _, b1, rfl, .ty "int", ty, k1, b1, rfl, ?_⟩
    rw [← e] at q
    cases b1 with
    | false => exact q _ (Same.refl H)
    | true => exact ⟨_, rfl, x, .ty "bool", t, _, b2, rfl, .ty "bool", ty, k2, b2, rfl, q _ (Same.refl H)⟩
def isNumV : V → Bool
  | .int i => decide (0 ≤ i)
  | _ => false
def spNumber (K : PySem.W.Frag) : Sp := spV fun vs H v => ∃ x sq, vs = [x] ∧ HasT K H x sq ∧ v = .bl (isNumV x)
abbrev s_is_number : Stmt := top 8
abbrev N_is_number : List Str := ["value"]
theorem sc_is_number : FnScope N_is_number ["value"] (defScope s_is_number) := ⟨rfl, rfl, rfl, by decide +kernel, rfl, by decide +kernel, by decide +kernel⟩

theorem ok_is_number (F : FnP K "is_number" s_is_number f fd) (g_is_integer : FnAt P w K mg base CX0 1 "is_integer" ["value"] (spInteger K)) : FnOk P w K mg base CX0 2 f fd ["value"] (spNumber K) := by
  refine F.ok sc_is_number (fun vs H Q E h => ?_) (fun cdv A outer s H vs Q E hr h => ?_)
  · obtain ⟨v, ⟨x, sq, rfl, _⟩, _⟩ := h
    rfl
  · obtain ⟨v, ⟨x, sq, rfl, hx, rfl⟩, q⟩ := h
    refine ⟨_, PSs.nox (pss_one (ps_ret (pe_and (pe_fn g_is_integer hr rfl (pa_cons (pv 0) (pa_nil))) (pe_one (pe_cmpR op_ge (pv 0) (pe_int) (nomark _)))))), ?_⟩
    refine ⟨_, rfl, _, ⟨x, sq, rfl, hx, rfl⟩, fun H1 s1 => ⟨_, rfl, ?_⟩⟩
    cases x with
    | int i => exact ⟨_, rfl, _, _, rfl, rfl, q _ s1⟩
    | _ => exact q _ s1
def spSequence (K : PySem.W.Frag) : Sp := spV fun vs H v => ∃ x sq, vs = [x] ∧ HasT K H x sq ∧ v = .bl sq
abbrev s_is_sequence : Stmt := top 9
abbrev N_is_sequence : List Str := ["value"]
theorem sc_is_sequence : FnScope N_is_sequence ["value"] (defScope s_is_sequence) := ⟨rfl, rfl, rfl, by decide +kernel, rfl, by decide +kernel, by decide +kernel⟩

theorem ok_is_sequence (F : FnP K "is_sequence" s_is_sequence f fd) (m_isinstance : mg "isinstance" = none) (m_list : mg "list" = none) (m_tuple : mg "tuple" = none) : FnOk P w K mg base CX0 1 f fd ["value"] (spSequence K) := by
  refine F.ok sc_is_sequence (fun vs H Q E h => ?_) (fun cdv A outer s H vs Q E hr h => ?_)
  · obtain ⟨v, ⟨x, sq, rfl, _⟩, _⟩ := h
    rfl
  · obtain ⟨v, ⟨x, sq, rfl, ⟨t, b1, b2, ty, k1, k2, e, k3⟩, rfl⟩, q⟩ := h
    refine ⟨_, PSs.nox (pss_one (ps_ret (pe_callB (call_isiTK K) rfl m_isinstance (by decide +kernel) (pa_cons (pv 0) (pa_cons (pe_tup (pa_cons (pe_bltn (v := .ty "list") (u := .type "list") rfl m_list (by decide +kernel) rfl) (pa_cons (pe_bltn (v := .ty "tuple") (u := .type "tuple") rfl m_tuple (by decide +kernel) rfl) (pa_nil)))) (pa_nil)))))), ?_⟩
    refine ⟨_, rfl, by show 2 ≤ sizeLine; decide, fun p hp => ?_⟩
    have sm : Same H (upd H p (.tup [.ty "list", .ty "tuple"])) := fun a o ha => (upd_ne (ne_of_none ha hp)).trans ha
    exact ⟨x, p, _, t, _, sq, rfl, upd_same, .cons (.ty "list") (.cons (.ty "tuple") .nil), tyx_same sm ty, k3, q _ sm⟩
def spThing (K : PySem.W.Frag) : Sp := spV fun vs H v => ∃ x sq, vs = [x] ∧ HasT K H x sq ∧ v = .bl (isThingV x)
abbrev s_is_thing : Stmt := top 17
abbrev N_is_thing : List Str := ["value"]
theorem sc_is_thing : FnScope N_is_thing ["value"] (defScope s_is_thing) := ⟨rfl, rfl, rfl, by decide +kernel, rfl, by decide +kernel, by decide +kernel⟩

theorem ok_is_thing (F : FnP K "is_thing" s_is_thing f fd) (g_is_integer : FnAt P w K mg base CX0 1 "is_integer" ["value"] (spInteger K)) : FnOk P w K mg base CX0 2 f fd ["value"] (spThing K) := by
  refine F.ok sc_is_thing (fun vs H Q E h => ?_) (fun cdv A outer s H vs Q E hr h => ?_)
  · obtain ⟨v, ⟨x, sq, rfl, _⟩, _⟩ := h
    rfl
  · obtain ⟨v, ⟨x, sq, rfl, hx, rfl⟩, q⟩ := h
    refine ⟨_, PSs.nox (pss_one (ps_ret (pe_or (pe_cmpR op_isN (pv 0) (pe_non) (nomark _)) (pe_one (pe_fn g_is_integer hr rfl (pa_cons (pv 0) (pa_nil))))))), ?_⟩
    refine ⟨_, rfl, rfl, _, rfl, ?_⟩
    cases x with
    | non => exact q _ (Same.refl H)
    | _ => exact ⟨_, rfl, _, ⟨_, sq, rfl, hx, rfl⟩, fun H1 s1 => q _ s1⟩
def spBelow : Sp := spV fun vs H v => ∃ x y, vs = [x, y] ∧ isThingV x = true ∧ isThingV y = true ∧ v = .bl (belowV x y)
abbrev s_is_below : Stmt := top 18
abbrev N_is_below : List Str := ["one", "other"]
theorem sc_is_below : FnScope N_is_below ["one", "other"] (defScope s_is_below) := ⟨rfl, rfl, rfl, by decide +kernel, rfl, by decide +kernel, by decide +kernel⟩

theorem ok_is_below (F : FnP K "is_below" s_is_below f fd) : FnOk P w K mg base CX0 1 f fd ["one", "other"] spBelow := by
  refine F.ok sc_is_below (fun vs H Q E h => ?_) (fun cdv A outer s H vs Q E hr h => ?_)
  · obtain ⟨v, ⟨x, y, rfl, _⟩, _⟩ := h
    rfl
  · obtain ⟨v, ⟨x, y, rfl, hx, hy, rfl⟩, q⟩ := h
    have q := q _ (Same.refl H)
    refine ⟨_, PSs.nox (pss_cons (ps_if (pt_cmpR op_isN (pv 1) (pe_non) (nomark _)) (pss_one (ps_ret (pe_bl))) (pss_nil))
 (pss_one (ps_ret (pe_or (pe_cmpR op_isN (pv 0) (pe_non) (nomark _)) (pe_one (pe_cmpR op_lt (pv 0) (pv 1) (nomark _))))))), ?_⟩
    refine ⟨_, rfl, rfl, _, rfl, ?_⟩
    cases y with
    | non => cases x <;> exact q
    | int j =>
      refine ⟨_, rfl, rfl, _, rfl, ?_⟩
      cases x with
      | non => exact q
      | int i => exact ⟨_, rfl, _, rfl, _, _, rfl, rfl, q⟩
      | _ => cases hx
    | _ => cases hy
def spRising (K : PySem.W.Frag) : Sp := spV fun vs H v => ∃ a xs, vs = [.ref a] ∧ Sq K H a xs ∧ xs.length ≤ 50000 ∧ xs.all isThingV = true ∧ v = .bl (risingV xs)
theorem getD_at {xs : List V} {i : Nat} (h : i < xs.length) : atI xs (i : Int) = some (xs.getD i .non) := by
  rw [List.getD_eq_getElem?_getD, List.getElem?_eq_getElem h]
  exact atI_nat (List.getElem?_eq_getElem h)
theorem all_getD {xs : List V} {p : V → Bool} (h : xs.all p = true) {i : Nat} (hi : i < xs.length) : p (xs.getD i .non) = true := by
  rw [List.getD_eq_getElem?_getD, List.getElem?_eq_getElem hi]
  exact List.all_eq_true.mp h _ (List.getElem_mem hi)
abbrev s_are_rising : Stmt := top 19
abbrev N_are_rising : List Str := ["some", "at"]
theorem sc_are_rising : FnScope N_are_rising ["some"] (defScope s_are_rising) := ⟨rfl, rfl, rfl, by decide +kernel, rfl, by decide +kernel, by decide +kernel⟩

theorem ok_are_rising (F : FnP K "are_rising" s_are_rising f fd) (m_any : mg "any" = none) (m_len : mg "len" = none) (m_range : mg "range" = none) (g_is_below : FnAt P w K mg base CX0 1 "is_below" ["one", "other"] spBelow) : FnOk P w K mg base CX0 2 f fd ["some"] (spRising K) := by
  refine F.ok sc_are_rising (fun vs H Q E h => ?_) (fun cdv A outer s H vs Q E hr h => ?_)
  · obtain ⟨v, ⟨a, xs, rfl, _⟩, _⟩ := h
    rfl
  · obtain ⟨v, ⟨a, xs, rfl, hq, hl, hall, rfl⟩, q⟩ := h
    refine ⟨_, PSs.nox (pss_one (ps_ret (pe_not (pe_callB (cr_anyK K) rfl m_any (by decide +kernel) (pa_cons (pe_lc (own := [("at", 1)]) rfl sc_are_rising.nd (pi_range1 rfl m_range (pa_cons (pe_op op_sub (pe_callB (call_lenK K) rfl m_len (by decide +kernel) (pa_cons (pv 0) (pa_nil))) (pe_int)) (pa_nil))) (blkOk_by (N := N_are_rising) (sc := defScope s_are_rising) (by decide +kernel)) (fun _ _ _ _ _ => pg_name (i := 1) sc_are_rising.nd rfl (.inl rfl)) (fun _ _ _ _ _ => pts_nil) (fun _ _ _ _ _ => pe_fn g_is_below hr rfl (pa_cons (pe_ix (ix_sqK K) (pv 0) (pe_op op_add (pv 1) (pe_int)) (fun _ _ => rfl)) (pa_cons (pe_ix (ix_sqK K) (pv 0) (pv 1) (fun _ _ => rfl)) (pa_nil))))) (pa_nil)))))), ?_⟩
    refine ⟨_, rfl, a, xs, rfl, hq, _, _, rfl, rfl, _, rfl, by omega, by omega, fun D hD => ?_⟩
    have hn : ((xs.length : Int) - 1).toNat = xs.length - 1 := by omega
    rw [hn]
    refine lc_rg (fun i => .bl (belowV (xs.getD (i + 1) .non) (xs.getD i .non))) (by omega) hD (fun i hi H1 s1 R k => ?_) fun H' s1 hD' => ?_
    · have e0 : (0 : Int) + (i : Int) + 1 = ((i + 1 : Nat) : Int) := by omega
      have e1 : (0 : Int) + (i : Int) = ((i : Nat) : Int) := by omega
      refine ⟨_, rfl, _, rfl, _, _, rfl, rfl, a, xs, _, _, rfl, rfl, hq.ex s1, ?_, _, rfl, _, rfl, a, xs, _, _, rfl, rfl, hq.ex s1, ?_, _, ⟨_, _, rfl, ?_, ?_, rfl⟩, k⟩
      · rw [e0]
        exact getD_at (by omega)
      · rw [e1]
        exact getD_at (by omega)
      · exact all_getD hall (by omega)
      · exact all_getD hall (by omega)
    · refine ⟨D, (List.range (xs.length - 1)).map (fun i => belowV (xs.getD (i + 1) .non) (xs.getD i .non)), rfl, .inl (.inl ?_), _, rfl, q _ s1⟩
      rw [hD', List.map_map]
      rfl
end
end WW

set_option Elab.async false
set_option linter.all false
set_option maxRecDepth 100000
set_option maxHeartbeats 4000000
namespace WW
open PySem PySem.Spec PyProof.Rows L2
/-- an argument: no sequence, or a sequence of these -/
def Arg (K : PySem.W.Frag) (H : Hp) (x : V) : Option (List V) → Prop
  | none => HasT K H x false
  | some xs => ∃ a, x = .ref a ∧ Sq K H a xs ∧ xs.length ≤ 20000 ∧ ∀ y ∈ xs, ∃ sq, HasT K H y sq
def intOf : V → Int
  | .int i => i
  | _ => 0
def hd (xs : List V) : V := xs.getD 0 .non
def lst (xs : List V) : V := xs.getD (xs.length - 1) .non
def wrongA (xs ys : List V) (m : V) : V :=
  if (ys.isEmpty || !ys.all isThingV) = true then .str "again"
  else if (!risingV (cutV xs (some (-1)) none ++ ys) || (decide (hd ys = .non) && !decide (lst ys = .non))) = true then .str "again"
  else if isNumV m = false then .str "more"
  else if hd ys = .non then (if m = .int 0 then .non else .str "more")
  else if intOf (lst ys) ≤ intOf (hd ys) + intOf m then .non else .str "more"
def wrongB (xs : List V) (m : V) : Option (List V) → V
  | none => .str "again"
  | some ys => wrongA xs ys m
def wrongW (o1 o2 : Option (List V)) (m : V) : V := match o1 with
  | none => .str "first"
  | some xs => if (xs.all isThingV && risingV xs) = true then wrongB xs m o2 else .str "first"
def spWrong (K : PySem.W.Frag) : Sp := spV fun vs H v => ∃ x y m o1 o2 sq, vs = [x, y, m] ∧ Arg K H x o1 ∧ Arg K H y o2 ∧ HasT K H m sq ∧ v = wrongW o1 o2 m
theorem Arg.ex {K : PySem.W.Frag} {H H' : Hp} {x : V} {o : Option (List V)} (e : Same H H') (h : Arg K H x o) : Arg K H' x o := by
  cases o with
  | none => exact HasT.ex e h
  | some xs =>
    obtain ⟨a, r, hq, hl, hy⟩ := h
    exact ⟨a, r, hq.ex e, hl, fun y m => ⟨_, (hy y m).choose_spec.ex e⟩⟩
theorem risingV_at {xs : List V} (h : risingV xs = true) {i : Nat} (hi : i + 1 < xs.length) : belowV (xs.getD (i + 1) .non) (xs.getD i .non) = false := by
  unfold risingV at h
  rw [Bool.not_eq_true', List.any_eq_false] at h
  have q := h (belowV (xs.getD (i + 1) .non) (xs.getD i .non)) (List.mem_map.mpr ⟨i, List.mem_range.mpr (by omega), rfl⟩)
  simpa using q
theorem risingV_of {xs : List V} (h : ∀ i, i + 1 < xs.length → belowV (xs.getD (i + 1) .non) (xs.getD i .non) = false) : risingV xs = true := by
  unfold risingV
  rw [Bool.not_eq_true', List.any_eq_false]
  intro b hb
  obtain ⟨i, hi, rfl⟩ := List.mem_map.mp hb
  rw [List.mem_range] at hi
  simpa using h i (by omega)
theorem rising_ints {xs : List V} (ht : xs.all isThingV = true) (h : risingV xs = true) (h0 : isIntV (xs.getD 0 .non) = true) : ∀ i, i < xs.length → isIntV (xs.getD i .non) = true
  | 0, _ => h0
  | i + 1, hi => by
    have ih := rising_ints ht h h0 i (by omega)
    have q := risingV_at h hi
    have t := all_getD ht hi
    revert q t ih
    cases xs.getD (i + 1) V.non <;> cases xs.getD i V.non <;> intro ih q t <;> first | rfl | (cases ih; done) | (cases t; done) | (cases q; done)
theorem rising_drop {xs ys : List V} (h : risingV (xs ++ ys) = true) : risingV ys = true := by
  refine risingV_of fun i hi => ?_
  have q := risingV_at (xs := xs ++ ys) h (i := xs.length + i) (by rw [List.length_append]; omega)
  simp only [List.getD_eq_getElem?_getD] at q ⊢
  rw [List.getElem?_append_right (by omega), List.getElem?_append_right (by omega)] at q
  rw [show xs.length + i + 1 - xs.length = i + 1 by omega, show xs.length + i - xs.length = i by omega] at q
  exact q
section
variable {P : Program} {w : World} {K : PySem.W.Frag} {mg : Str → Option Value} {base : Heap} {f : Addr} {fd : FuncData}
/-- all([is_thing(x) for x in xs]) -/
theorem all_things {σ : L2.St} {H : Hp} {Q : VK} {tl : TE} {a : Addr} {j : Nat} {xs : List V} (hj : j < σ.length) (hv : ∀ R : VK, R (.ref a) H → tl σ H R) (hq : Sq K H a xs) (hl : xs.length ≤ 20000) (hy : ∀ y ∈ xs, ∃ sq, HasT K H y sq)
    (k : ∀ H', Same H H' → Q (.bl (xs.all isThingV)) H') : tCB (rAll K) (tCons (tLc (iSeq K tl) (gName j) tYes (tCall (spThing K) [] E0 (tCons (tVar j) tNil)) [j]) tNil) σ H Q := by
  show tLc (iSeq K tl) (gName j) tYes (tCall (spThing K) [] E0 (tCons (tVar j) tNil)) [j] σ H (fun x H1 => rAll K [x] H1 Q)
  refine lc_sq (K := K) (fun x => .bl (isThingV x)) hv hq (by omega) (fun x hx H1 s1 R r => ?_) fun D H' s1 _ hD => ?_
  · obtain ⟨sq, ht⟩ := hy x hx
    refine ⟨x, ?_, _, ⟨x, sq, rfl, ht.ex s1, rfl⟩, r⟩
    rw [List.getElem?_set_self]
    rw [wipe_length]
    exact hj
  · refine ⟨D, xs.map isThingV, rfl, .inl (.inl ?_), ?_⟩
    · rw [hD, List.map_map]
      rfl
    · have e : (xs.map isThingV).all id = xs.all isThingV := by rw [List.all_map]; rfl
      rw [e]
      exact k H' s1
abbrev s_wrong_word : Stmt := top 20
abbrev N_wrong_word : List Str := ["first", "again", "more", "thing"]
theorem sc_wrong_word : FnScope N_wrong_word ["first", "again", "more"] (defScope s_wrong_word) := ⟨rfl, rfl, rfl, by decide +kernel, rfl, by decide +kernel, by decide +kernel⟩

set_option maxHeartbeats 8000000 in
theorem ok_wrong_word (F : FnP K "wrong_word" s_wrong_word f fd) (m_all : mg "all" = none) (m_len : mg "len" = none) (g_is_sequence : FnAt P w K mg base CX0 1 "is_sequence" ["value"] (spSequence K)) (g_is_thing : FnAt P w K mg base CX0 2 "is_thing" ["value"] (spThing K))
    (g_is_number : FnAt P w K mg base CX0 2 "is_number" ["value"] (spNumber K)) (g_are_rising : FnAt P w K mg base CX0 2 "are_rising" ["some"] (spRising K)) : FnOk P w K mg base CX0 3 f fd ["first", "again", "more"] (spWrong K) := by
  refine F.ok sc_wrong_word (fun vs H Q E h => ?_) (fun cdv A outer s H vs Q E hr h => ?_)
  · obtain ⟨v, ⟨x, y, m, o1, o2, sq, rfl, _⟩, _⟩ := h
    rfl
  · obtain ⟨v, ⟨x, y, m, o1, o2, sq, rfl, h1, h2, h3, rfl⟩, q⟩ := h
    refine ⟨_, PSs.nox (pss_cons (ps_if (PW.pt (pw_or (pt_not (pt_val (pe_fn g_is_sequence hr rfl (pa_cons (pv 0) (pa_nil))))) (pw_or (pt_not (pt_val (pe_callB (cr_allK K) rfl m_all (by decide +kernel) (pa_cons (pe_lc (own := [("thing", 3)]) rfl sc_wrong_word.nd (pi_seqK K (pv 0)) (blkOk_by (N := N_wrong_word) (sc := defScope s_wrong_word) (by decide +kernel)) (fun _ _ _ _ _ => pg_name (i := 3) sc_wrong_word.nd rfl (.inl rfl)) (fun _ _ _ _ _ => pts_nil) (fun _ _ _ _ _ => pe_fn g_is_thing hr rfl (pa_cons (pv 3) (pa_nil)))) (pa_nil))))) (pw_or1 (pt_not (pt_val (pe_fn g_are_rising hr rfl (pa_cons (pv 0) (pa_nil))))))))) (pss_one (ps_ret (pe_str))) (pss_nil))
 (pss_cons (ps_if (PW.pt (pw_or (pt_not (pt_val (pe_fn g_is_sequence hr rfl (pa_cons (pv 1) (pa_nil))))) (pw_or (pt_cmpR op_eq (pe_callB (call_lenK K) rfl m_len (by decide +kernel) (pa_cons (pv 1) (pa_nil))) (pe_int) (nomark _)) (pw_or1 (pt_not (pt_val (pe_callB (cr_allK K) rfl m_all (by decide +kernel) (pa_cons (pe_lc (own := [("thing", 3)]) rfl sc_wrong_word.nd (pi_seqK K (pv 1)) (blkOk_by (N := N_wrong_word) (sc := defScope s_wrong_word) (by decide +kernel)) (fun _ _ _ _ _ => pg_name (i := 3) sc_wrong_word.nd rfl (.inl rfl)) (fun _ _ _ _ _ => pts_nil) (fun _ _ _ _ _ => pe_fn g_is_thing hr rfl (pa_cons (pv 3) (pa_nil)))) (pa_nil))))))))) (pss_one (ps_ret (pe_str))) (pss_nil))
 (pss_cons (ps_if (PW.pt (pw_or (pt_not (pt_val (pe_fn g_are_rising hr rfl (pa_cons (pe_lst (pa_starK K (pe_slice (sl_sqK K) (pv 0) (po_some (pe_un un_neg (pe_int))) (po_none)) (pa_starK K (pv 1) (pa_nil)))) (pa_nil))))) (pw_or1 (PW.pt (pw_and (pt_cmpR op_isN (pe_ix (ix_sqK K) (pv 1) (pe_int) (fun _ _ => rfl)) (pe_non) (nomark _)) (pw_and1 (pt_cmpR op_notN (pe_ix (ix_sqK K) (pv 1) (pe_un un_neg (pe_int)) (fun _ _ => rfl)) (pe_non) (nomark _)))))))) (pss_one (ps_ret (pe_str))) (pss_nil))
 (pss_cons (ps_if (pt_not (pt_val (pe_fn g_is_number hr rfl (pa_cons (pv 2) (pa_nil))))) (pss_one (ps_ret (pe_str))) (pss_nil))
 (pss_cons (ps_if (pt_cmpR op_isN (pe_ix (ix_sqK K) (pv 1) (pe_int) (fun _ _ => rfl)) (pe_non) (nomark _)) (pss_one (ps_ret (pe_ifExp (pt_cmpR op_eq (pv 2) (pe_int) (nomark _)) (pe_non) (pe_str)))) (pss_nil))
 (pss_one (ps_ret (pe_ifExp (pt_cmpR op_le (pe_ix (ix_sqK K) (pv 1) (pe_un un_neg (pe_int)) (fun _ _ => rfl)) (pe_op op_add (pe_ix (ix_sqK K) (pv 1) (pe_int) (fun _ _ => rfl)) (pv 2)) (nomark _)) (pe_non) (pe_str))))))))), ?_⟩
    cases o1 with
    | none => exact ⟨_, rfl, _, ⟨x, false, rfl, h1, rfl⟩, fun H1 s1 => ⟨_, rfl, q _ s1⟩⟩
    | some xs =>
      obtain ⟨a, rfl, hq, hl, hy⟩ := id h1
      refine ⟨_, rfl, _, ⟨_, true, rfl, hq.hasT, rfl⟩, fun H1 s1 => ⟨_, rfl, ?_⟩⟩
      refine all_things (show 3 < 4 by decide) (fun R r => ⟨_, rfl, r⟩) (hq.ex s1) hl (fun y my => ⟨_, (hy y my).choose_spec.ex s1⟩) fun H2 s2 => ⟨_, rfl, ?_⟩
      have s12 := s1.trans s2
      have q : ∀ H', Same H H' → Q (if (xs.all isThingV && risingV xs) = true then wrongB xs m o2 else V.str "first") H' := q
      cases ht : xs.all isThingV with
      | false =>
        rw [ht] at q
        exact q _ s12
      | true =>
        rw [ht, Bool.true_and] at q
        refine ⟨_, rfl, _, ⟨a, xs, rfl, hq.ex s12, by omega, ht, rfl⟩, fun H3 s3 => ⟨_, rfl, ?_⟩⟩
        have s13 := s12.trans s3
        cases hr1 : risingV xs with
        | false =>
          rw [hr1] at q
          exact q _ s13
        | true =>
          rw [hr1, if_pos rfl] at q
          cases o2 with
          | none => exact ⟨_, rfl, _, ⟨y, false, rfl, HasT.ex s13 h2, rfl⟩, fun H4 s4 => ⟨_, rfl, q _ (s13.trans s4)⟩⟩
          | some ys =>
            obtain ⟨b, rfl, kq, kl, ky⟩ := id h2
            refine ⟨_, rfl, _, ⟨_, true, rfl, (kq.ex s13).hasT, rfl⟩, fun H4 s4 => ⟨_, rfl, ?_⟩⟩
            have s14 := s13.trans s4
            refine ⟨_, rfl, b, ys, rfl, kq.ex s14, rfl, _, rfl, ?_⟩
            have q : ∀ H', Same H H' → Q (wrongA xs ys m) H' := q
            unfold wrongA at q
            cases hz : ys.isEmpty with
            | true =>
              have e0 : ys = [] := List.isEmpty_iff.mp hz
              subst e0
              exact q _ s14
            | false =>
              have e0 : ¬ V.int (ys.length : Int) = V.int 0 := fun z => by
                have z1 : (ys.length : Int) = 0 := V.int.inj z
                have z2 : ys = [] := List.eq_nil_of_length_eq_zero (by omega)
                rw [z2] at hz
                cases hz
              have hpos : 0 < ys.length := by
                cases ys with
                | nil => exact absurd rfl e0
                | cons _ _ => exact Nat.succ_pos _
              rw [decide_eq_false e0]
              refine all_things (show 3 < 4 by decide) (fun R r => ⟨_, rfl, r⟩) (kq.ex s14) kl (fun y my => ⟨_, (ky y my).choose_spec.ex s14⟩) fun H5 s5 => ⟨_, rfl, ?_⟩
              have s15 := s14.trans s5
              cases kt : ys.all isThingV with
              | false =>
                rw [hz, kt] at q
                exact q _ s15
              | true =>
                rw [hz, kt, if_neg (by decide)] at q
                refine ⟨_, rfl, 1, rfl, _, rfl, slq (hq.ex s15) fun c H6 s6 hc => ?_⟩
                have s16 := s15.trans s6
                refine ⟨c, _, rfl, hc.symm, _, rfl, b, ys, rfl, (kq.ex s16).symm, ?_⟩
                have hlen : (cutV xs (some (-1)) none ++ ys).length ≤ 50000 := by
                  rw [List.length_append]
                  have := cutV_length xs (some (-1)) none
                  omega
                have hall : (cutV xs (some (-1)) none ++ ys).all isThingV = true := by
                  rw [List.all_append, kt, Bool.and_true, List.all_eq_true]
                  intro z hz
                  unfold cutV at hz
                  exact List.all_eq_true.mp ht z (List.mem_of_mem_drop (List.mem_of_mem_take hz))
                simp only [tNil, List.append_nil]
                refine ⟨Nat.le_trans hlen (by decide), fun p hp => ?_⟩
                have s7 : Same H6 (upd H6 p (.lst (cutV xs (some (-1)) none ++ ys))) := fun a o ha => (upd_ne (ne_of_none ha hp)).trans ha
                refine ⟨_, ⟨p, _, rfl, .l upd_same, hlen, hall, rfl⟩, fun H8 s8 => ⟨_, rfl, ?_⟩⟩
                have s18 := (s16.trans s7).trans s8
                have at0 : atI ys 0 = some (hd ys) := getD_at (i := 0) hpos
                have atL : atI ys (-1) = some (lst ys) := by
                  have e : ys = ys.dropLast ++ [ys.getLast (List.ne_nil_of_length_pos hpos)] := (List.dropLast_concat_getLast _).symm
                  have z : lst ys = ys.getLast (List.ne_nil_of_length_pos hpos) := by
                    unfold lst
                    rw [List.getD_eq_getElem?_getD, List.getElem?_eq_getElem (by omega), List.getLast_eq_getElem]
                    rfl
                  rw [z]
                  conv => lhs; rw [e]
                  exact atI_last _ _
                cases kr : risingV (cutV xs (some (-1)) none ++ ys) with
                | false =>
                  rw [kr] at q
                  exact q _ s18
                | true =>
                  rw [kr] at q
                  refine ⟨_, rfl, b, ys, _, _, rfl, rfl, kq.ex s18, at0, rfl, _, rfl, ?_⟩
                  cases hd0 : decide (hd ys = .non) with
                  | true =>
                    refine ⟨_, rfl, 1, rfl, b, ys, _, _, rfl, rfl, kq.ex s18, atL, rfl, _, rfl, ?_⟩
                    rw [hd0] at q
                    cases l0 : decide (lst ys = .non) with
                    | false =>
                      rw [l0] at q
                      exact q _ s18
                    | true =>
                      rw [l0] at q
                      refine ⟨_, rfl, _, ⟨m, sq, rfl, h3.ex s18, rfl⟩, fun H9 s9 => ⟨_, rfl, ?_⟩⟩
                      have s19 := s18.trans s9
                      cases nm : isNumV m with
                      | false =>
                        rw [nm] at q
                        exact q _ s19
                      | true =>
                        rw [nm] at q
                        refine ⟨_, rfl, b, ys, _, _, rfl, rfl, kq.ex s19, at0, rfl, _, rfl, ?_⟩
                        rw [hd0]
                        rw [if_pos (of_decide_eq_true hd0)] at q
                        refine ⟨_, rfl, ?_⟩
                        cases m with
                        | int i =>
                          refine ⟨rfl, _, rfl, ?_⟩
                          by_cases hi : V.int i = V.int 0
                          · rw [decide_eq_true hi]
                            rw [if_pos hi] at q
                            exact q _ s19
                          · rw [decide_eq_false hi]
                            rw [if_neg hi] at q
                            exact q _ s19
                        | _ => cases nm
                  | false =>
                    rw [hd0] at q
                    refine ⟨_, rfl, _, ⟨m, sq, rfl, h3.ex s18, rfl⟩, fun H9 s9 => ⟨_, rfl, ?_⟩⟩
                    have s19 := s18.trans s9
                    cases nm : isNumV m with
                    | false =>
                      rw [nm] at q
                      exact q _ s19
                    | true =>
                      rw [nm] at q
                      refine ⟨_, rfl, b, ys, _, _, rfl, rfl, kq.ex s19, at0, rfl, _, rfl, ?_⟩
                      rw [hd0]
                      rw [if_neg (of_decide_eq_false hd0)] at q
                      have i0 : isIntV (hd ys) = true := by
                        have t := all_getD kt hpos
                        have n := of_decide_eq_false hd0
                        revert t n
                        unfold hd
                        cases ys.getD 0 V.non <;> intro t n <;> first | rfl | exact absurd rfl n | (cases t; done)
                      have iL : isIntV (lst ys) = true := rising_ints kt (rising_drop kr) i0 _ (by omega)
                      obtain ⟨u, eu⟩ : ∃ u, hd ys = .int u := by
                        revert i0
                        cases hd ys <;> intro i0 <;> first | exact ⟨_, rfl⟩ | cases i0
                      obtain ⟨t, et⟩ : ∃ t, lst ys = .int t := by
                        revert iL
                        cases lst ys <;> intro iL <;> first | exact ⟨_, rfl⟩ | cases iL
                      cases m with
                      | int i =>
                        refine ⟨_, rfl, 1, rfl, b, ys, _, _, rfl, rfl, kq.ex s19, atL, _, rfl, b, ys, _, _, rfl, rfl, kq.ex s19, at0, _, rfl, u, i, eu, rfl, t, _, et, rfl, _, rfl, ?_⟩
                        rw [eu, et] at q
                        have q : ∀ H', Same H H' → Q (if t ≤ u + i then .non else .str "more") H' := q
                        by_cases hi : t ≤ u + i
                        · rw [decide_eq_true hi]
                          rw [if_pos hi] at q
                          exact q _ s19
                        · rw [decide_eq_false hi]
                          rw [if_neg hi] at q
                          exact q _ s19
                      | _ => cases nm
end
end WW

set_option Elab.async false
set_option linter.all false
set_option maxRecDepth 100000
set_option maxHeartbeats 4000000
namespace WW
open PySem PySem.Spec PyProof.Rows L2
def wide (ag : List Int) (m : Int) (t : Nat) : List Int := ag ++ (ag.take t).map (· + m)
def isTurn (ag : List Int) (m : Int) (t : Nat) : Bool :=
  if (ag.length : Int) % (t : Int) ≠ 0 ∨ m * (t : Int) % (ag.length : Int) ≠ 0 then false
  else (List.range ag.length).all fun i => decide ((wide ag m t).getD (i + t) 0 - (wide ag m t).getD i 0 = m * (t : Int) / (ag.length : Int))
theorem cut_to {xs : List V} {t : Nat} : cutV xs none (some (t : Int)) = xs.take t := by
  unfold cutV
  rw [HT.sIx_none, HT.sIx_nat, List.drop_zero, Nat.sub_zero]
  by_cases h : t ≤ xs.length
  · rw [Nat.min_eq_left h]
  · rw [Nat.min_eq_right (by omega), List.take_length, List.take_of_length_le (by omega)]
theorem ints_at {ns : List Int} {i : Nat} (h : i < ns.length) : atI (ns.map V.int) (i : Int) = some (.int (ns.getD i 0)) := by
  refine atI_nat ?_
  rw [List.getElem?_map, List.getD_eq_getElem?_getD, List.getElem?_eq_getElem h]
  rfl
theorem dec_int {a b : Int} : decide (V.int a = V.int b) = decide (a = b) := by
  by_cases h : a = b
  · rw [decide_eq_true h, decide_eq_true (by rw [h])]
  · rw [decide_eq_false h, decide_eq_false (fun z => h (V.int.inj z))]
theorem wide_len {ag : List Int} {m : Int} {t : Nat} (h : t ≤ ag.length) : (wide ag m t).length = ag.length + t := by
  unfold wide
  rw [List.length_append, List.length_map, List.length_take, Nat.min_eq_left h]
section
variable {P : Program} {w : World} {K : PySem.W.Frag} {mg : Str → Option Value} {base : Heap} {f : Addr} {fd : FuncData}
def spTurn (K : PySem.W.Frag) : Sp := spV fun vs H v => ∃ (a : Addr) (ag : List Int) (m : Int) (t : Nat), vs = [.ref a, .int m, .int (t : Int)] ∧ Sq K H a (ag.map V.int) ∧ 0 < t ∧ t ≤ ag.length ∧ ag.length ≤ 20000 ∧ v = .bl (isTurn ag m t)
abbrev s_is_turn : Stmt := top 21
abbrev N_is_turn : List Str := ["again", "more", "turn", "growth", "wide", "at", "thing"]
theorem sc_is_turn : FnScope N_is_turn ["again", "more", "turn"] (defScope s_is_turn) := ⟨rfl, rfl, rfl, by decide +kernel, rfl, by decide +kernel, by decide +kernel⟩

theorem ok_is_turn (F : FnP K "is_turn" s_is_turn f fd) (m_all : mg "all" = none) (m_len : mg "len" = none) (m_range : mg "range" = none) : FnOk P w K mg base CX0 1 f fd ["again", "more", "turn"] (spTurn K) := by
  refine F.ok sc_is_turn (fun vs H Q E h => ?_) (fun cdv A outer s H vs Q E hr h => ?_)
  · obtain ⟨v, ⟨a, ag, m, t, rfl, _⟩, _⟩ := h
    rfl
  · obtain ⟨v, ⟨a, ag, m, t, rfl, hq, h0, ht, hl, rfl⟩, q⟩ := h
    refine ⟨_, PSs.nox (pss_cons (ps_if (PW.pt (pw_or (pt_cmpR op_ne (pe_op op_mod (pe_callB (call_lenK K) rfl m_len (by decide +kernel) (pa_cons (pv 0) (pa_nil))) (pv 2)) (pe_int) (nomark _)) (pw_or1 (pt_cmpR op_ne (pe_op op_mod (pe_op op_mul (pv 1) (pv 2)) (pe_callB (call_lenK K) rfl m_len (by decide +kernel) (pa_cons (pv 0) (pa_nil)))) (pe_int) (nomark _))))) (pss_one (ps_ret (pe_bl))) (pss_nil))
 (pss_cons (ps_set (i := 3) sc_is_turn.nd rfl (.inr rfl) (pe_op op_fdiv (pe_op op_mul (pv 1) (pv 2)) (pe_callB (call_lenK K) rfl m_len (by decide +kernel) (pa_cons (pv 0) (pa_nil)))))
 (pss_cons (ps_set (i := 4) sc_is_turn.nd rfl (.inr rfl) (pe_lst (pa_starK K (pv 0) (pa_starK K (pe_lc (own := [("thing", 6)]) rfl sc_is_turn.nd (pi_seqK K (pe_slice (sl_sqK K) (pv 0) (po_none) (po_some (pv 2)))) (blkOk_by (N := N_is_turn) (sc := defScope s_is_turn) (by decide +kernel)) (fun _ _ _ _ _ => pg_name (i := 6) sc_is_turn.nd rfl (.inl rfl)) (fun _ _ _ _ _ => pts_nil) (fun _ _ _ _ _ => pe_op op_add (pv 6) (pv 1))) (pa_nil)))))
 (pss_one (ps_ret (pe_callB (cr_allK K) rfl m_all (by decide +kernel) (pa_cons (pe_lc (own := [("at", 5)]) rfl sc_is_turn.nd (pi_range1 rfl m_range (pa_cons (pe_callB (call_lenK K) rfl m_len (by decide +kernel) (pa_cons (pv 0) (pa_nil))) (pa_nil))) (blkOk_by (N := N_is_turn) (sc := defScope s_is_turn) (by decide +kernel)) (fun _ _ _ _ _ => pg_name (i := 5) sc_is_turn.nd rfl (.inl rfl)) (fun _ _ _ _ _ => pts_nil) (fun _ _ _ _ _ => pe_cmpR op_eq (pe_op op_sub (pe_ix (ix_sqK K) (pv 4) (pe_op op_add (pv 5) (pv 2)) (fun _ _ => rfl)) (pe_ix (ix_sqK K) (pv 4) (pv 5) (fun _ _ => rfl))) (pv 3) (nomark _))) (pa_nil)))))))), ?_⟩
    have hlen : ((ag.map V.int).length : Int) = (ag.length : Int) := by rw [List.length_map]
    have hpos : (0 : Int) < ((ag.map V.int).length : Int) := by rw [hlen]; omega
    have t0 : (0 : Int) < (t : Int) := by omega
    refine ⟨_, rfl, a, _, rfl, hq, _, rfl, _, _, rfl, rfl, t0, rfl, _, rfl, ?_⟩
    unfold isTurn at q
    rw [hlen, dec_int]
    by_cases c1 : (ag.length : Int) % (t : Int) = 0
    · rw [decide_eq_true c1]
      refine ⟨_, rfl, _, rfl, _, _, rfl, rfl, .inr ⟨by omega, by omega⟩, _, rfl, a, _, rfl, hq, _, _, rfl, rfl, hpos, rfl, _, rfl, ?_⟩
      rw [hlen, dec_int]
      by_cases c2 : m * (t : Int) % (ag.length : Int) = 0
      · rw [decide_eq_true c2]
        rw [if_neg (by rw [c1, c2]; simp)] at q
        refine ⟨_, rfl, _, rfl, _, _, rfl, rfl, .inr ⟨by omega, by omega⟩, _, rfl, a, _, rfl, hq, _, _, rfl, rfl, ⟨hpos, by rw [hlen]; omega⟩, ?_⟩
        refine ⟨_, rfl, a, _, rfl, hq.symm, ?_⟩
        refine lc_sqG (K := K) (xs := (ag.take t).map V.int) (fun x => .int (intOf x + m)) (fun R r => ⟨_, rfl, _, rfl, _, rfl, slq hq fun p H1 s1 h1 => ?_⟩) (by rw [List.length_map, List.length_take]; omega) (fun x hx H1 s1 R r => ?_) fun D H1 s1 hD hD1 => ?_
        · rw [cut_to, ← List.map_take] at h1
          exact r p H1 s1 h1
        · obtain ⟨i, _, rfl⟩ := List.mem_map.mp hx
          exact ⟨_, rfl, _, rfl, _, _, rfl, rfl, r H1 (Same.refl H1)⟩
        · refine ⟨D, _, rfl, .inr (.inl (.inl hD1)), ?_⟩
          have ew : (ag.map V.int ++ (((ag.take t).map V.int).map (fun x => V.int (intOf x + m)) ++ [])) = (wide ag m t).map V.int := by
            unfold wide
            rw [List.append_nil, List.map_append, List.map_map, List.map_map]
            rfl
          refine ⟨?_, fun p hp => ?_⟩
          · rw [ew, List.length_map, wide_len ht]
            exact Nat.le_trans (show ag.length + t ≤ 50000 by omega) (by decide)
          · rw [ew]
            have s2 := s1.trans (same_new (o := .lst ((wide ag m t).map V.int)) hp)
            refine ⟨_, rfl, a, _, rfl, hq.ex s2, _, rfl, by omega, by omega, fun D2 hD2 => ?_⟩
            rw [hlen, Int.toNat_natCast]
            refine lc_rg (fun i => .bl (decide ((wide ag m t).getD (i + t) 0 - (wide ag m t).getD i 0 = m * (t : Int) / (ag.length : Int)))) (by omega) hD2 (fun i hi H3 s3 R r => ?_) fun H3 s3 hD3 => ?_
            · have hw : Sq K H3 p ((wide ag m t).map V.int) := .l (s3 _ _ upd_same)
              have e0 : (0 : Int) + (i : Int) + (t : Int) = ((i + t : Nat) : Int) := by omega
              have e1 : (0 : Int) + (i : Int) = (i : Int) := by omega
              refine ⟨_, rfl, _, rfl, _, rfl, _, _, rfl, rfl, p, _, _, .int ((wide ag m t).getD (i + t) 0), rfl, rfl, hw, ?_, _, rfl, _, rfl, p, _, _, .int ((wide ag m t).getD i 0), rfl, rfl, hw, ?_, _, _, rfl, rfl, _, rfl, rfl, ?_⟩
              · rw [e0]
                exact ints_at (by rw [wide_len ht]; omega)
              · rw [e1]
                exact ints_at (by rw [wide_len ht]; omega)
              · rw [dec_int]
                exact r H3 (Same.refl H3)
            · refine ⟨D2, (List.range ag.length).map fun i => decide ((wide ag m t).getD (i + t) 0 - (wide ag m t).getD i 0 = m * (t : Int) / (ag.length : Int)), rfl, .inl (.inl ?_), ?_⟩
              · rw [hD3, List.map_map]
                rfl
              · rw [List.all_map]
                exact q _ (s2.trans s3)
      · rw [decide_eq_false c2]
        rw [if_pos (.inr c2)] at q
        exact q _ (Same.refl H)
    · rw [decide_eq_false c1]
      rw [if_pos (.inl c1)] at q
      exact q _ (Same.refl H)
end
end WW

set_option Elab.async false
set_option linter.all false
set_option maxRecDepth 100000
set_option maxHeartbeats 4000000
namespace WW
open PySem PySem.Spec PyProof.Rows L2
def turns (ag : List Int) (m : Int) : List Nat := (List.range ag.length).filter fun i => isTurn ag m (i + 1)
def turnOf (ag : List Int) (m : Int) : Nat := (turns ag m).headD 0 + 1
def lastI (ag : List Int) : Int := ag.getD (ag.length - 1) 0
def shrinkR (m : Int) : List V → List Int → List V × List Int
  | .int x :: r, ag => if x + m = lastI ag then shrinkR m r (x :: ag.dropLast) else (.int x :: r, ag)
  | r, ag => (r, ag)
def leastF (fs : List V) (ag : List Int) (m : Int) : List V × List Int × Int :=
  ((shrinkR (m * (turnOf ag m : Int) / (ag.length : Int)) fs.reverse (ag.take (turnOf ag m))).1.reverse, (shrinkR (m * (turnOf ag m : Int) / (ag.length : Int)) fs.reverse (ag.take (turnOf ag m))).2, m * (turnOf ag m : Int) / (ag.length : Int))
def leastV (fs ys : List V) (m : Int) : List V × List V × Int :=
  if hd ys = .non then ([], [.non], 0) else ((leastF fs (ys.map intOf) m).1, (leastF fs (ys.map intOf) m).2.1.map V.int, (leastF fs (ys.map intOf) m).2.2)
theorem isTurn_len {ag : List Int} {m : Int} (h : 0 < ag.length) : isTurn ag m ag.length = true := by
  unfold isTurn
  rw [if_neg (by simp)]
  rw [List.all_eq_true]
  intro i hi
  rw [List.mem_range] at hi
  refine decide_eq_true ?_
  have e : m * (ag.length : Int) / (ag.length : Int) = m := Int.mul_ediv_cancel _ (by omega)
  rw [e]
  unfold wide
  rw [List.take_length]
  simp only [List.getD_eq_getElem?_getD]
  rw [List.getElem?_append_right (by omega), List.getElem?_append_left hi, List.getElem?_map, show i + ag.length - ag.length = i by omega, List.getElem?_eq_getElem hi]
  simp only [Option.map_some, Option.getD_some]
  omega
theorem turns_ne {ag : List Int} {m : Int} (h : 0 < ag.length) : turns ag m ≠ [] := by
  have q : ag.length - 1 ∈ turns ag m := by
    unfold turns
    rw [List.mem_filter, List.mem_range]
    refine ⟨by omega, ?_⟩
    rw [show ag.length - 1 + 1 = ag.length by omega]
    exact isTurn_len h
  exact List.ne_nil_of_mem q
theorem turnOf_mem {ag : List Int} {m : Int} (h : 0 < ag.length) : turnOf ag m - 1 ∈ turns ag m := by
  unfold turnOf
  rw [Nat.add_sub_cancel]
  cases e : turns ag m with
  | nil => exact absurd e (turns_ne h)
  | cons x r => exact List.mem_cons_self
theorem turnOf_pos (ag : List Int) (m : Int) : 0 < turnOf ag m := Nat.succ_pos _
theorem turnOf_le {ag : List Int} {m : Int} (h : 0 < ag.length) : turnOf ag m ≤ ag.length := by
  have q := turnOf_mem (m := m) h
  unfold turns at q
  rw [List.mem_filter, List.mem_range] at q
  have := turnOf_pos ag m
  omega
theorem turnOf_is {ag : List Int} {m : Int} (h : 0 < ag.length) : isTurn ag m (turnOf ag m) = true := by
  have q := turnOf_mem (m := m) h
  unfold turns at q
  rw [List.mem_filter] at q
  rw [show turnOf ag m - 1 + 1 = turnOf ag m from Nat.succ_pred_eq_of_pos (turnOf_pos ag m)] at q
  exact q.2
theorem at_last {xs : List V} {v : V} : atI (xs ++ [v]) (-1) = some v := atI_last xs v
theorem ints_last {ag : List Int} (h : 0 < ag.length) : atI (ag.map V.int) (-1) = some (.int (lastI ag)) := by
  have hn : ag ≠ [] := List.ne_nil_of_length_pos h
  have e : ag = ag.dropLast ++ [ag.getLast hn] := (List.dropLast_concat_getLast hn).symm
  have z : lastI ag = ag.getLast hn := by
    unfold lastI
    rw [List.getD_eq_getElem?_getD, List.getElem?_eq_getElem (by omega), List.getLast_eq_getElem]
    rfl
  rw [z]
  conv => lhs; rw [e, List.map_append]
  exact at_last
theorem cut_but {xs : List V} (h : 0 < xs.length) : cutV xs none (some (-1)) = xs.dropLast := by
  unfold cutV
  rw [HT.sIx_none]
  have e : HT.sIx xs.length xs.length (some (-1)) = xs.length - 1 := by
    show (if (-1 : Int) < 0 then ((-1 : Int) + (xs.length : Int)).toNat else min (-1 : Int).toNat xs.length) = xs.length - 1
    rw [if_pos (by decide)]
    omega
  rw [e, List.drop_zero, Nat.sub_zero, List.dropLast_eq_take]
section
variable {P : Program} {w : World} {K : PySem.W.Frag} {mg : Str → Option Value} {base : Heap} {f : Addr} {fd : FuncData}
def spLeast (K : PySem.W.Frag) : Sp := fun vs H Q _ => ∃ (a b : Addr) (fs ys : List V) (m : Int), vs = [.ref a, .ref b, .int m] ∧ Sq K H a fs ∧ Sq K H b ys ∧ fs.length ≤ 20000 ∧ ys.length ≤ 20000 ∧ 0 < ys.length ∧ fs.all isThingV = true ∧ (hd ys = .non ∨ ∃ ag : List Int, ys = ag.map V.int) ∧
  ∀ p p1 p2 H', Same H H' → H' p = some (.tup [.ref p1, .ref p2, .int (leastV fs ys m).2.2]) → H' p1 = some (.tup (leastV fs ys m).1) → H' p2 = some (.tup (leastV fs ys m).2.1) → Q (.ref p) H'
/-- (tuple(a), tuple(b), m), of two lists -/
theorem ret3 {σ : L2.St} {H : Hp} {Q : VK} {f1 a1 : Addr} {xs ys : List V} {m : V} {r : L2.St} (e : σ = some (.ref f1) :: some (.ref a1) :: some m :: r) (h1 : H f1 = some (.lst xs)) (h2 : H a1 = some (.lst ys))
    (k : ∀ p p1 p2 H', Same H H' → H' p = some (.tup [.ref p1, .ref p2, m]) → H' p1 = some (.tup xs) → H' p2 = some (.tup ys) → Q (.ref p) H') :
    tTup (tCons (tCB (rTupQ K) (tCons (tVar 0) tNil)) (tCons (tCB (rTupQ K) (tCons (tVar 1) tNil)) (tCons (tVar 2) tNil))) σ H Q := by
  subst e
  refine ⟨_, rfl, ⟨f1, xs, rfl, .inl ⟨.inl (.inl h1), fun p1 n1 => ⟨_, rfl, ⟨a1, ys, rfl, .inl ⟨.inl (.inl (same_new n1 _ _ h2)), fun p2 n2 => ⟨_, rfl, by show 3 ≤ sizeLine; decide, fun p n3 => ?_⟩⟩⟩⟩⟩⟩⟩
  have n12 : p1 ≠ p2 := ne_of_none upd_same n2
  have h1' : (upd (upd (upd H p1 (.tup xs)) p2 (.tup ys)) p (.tup [.ref p1, .ref p2, m])) p1 = some (.tup xs) := same_new n3 _ _ ((upd_ne n12).trans upd_same)
  exact k p p1 p2 _ (((same_new n1).trans (same_new n2)).trans (same_new n3)) upd_same h1' (same_new n3 _ _ upd_same)
theorem shrink_nil {m : Int} {bg : List Int} : shrinkR m [] bg = ([], bg) := rfl
theorem shrink_go {m x : Int} {r : List V} {bg : List Int} (h : x + m = lastI bg) : shrinkR m (.int x :: r) bg = shrinkR m r (x :: bg.dropLast) := by
  show (if x + m = lastI bg then shrinkR m r (x :: bg.dropLast) else (.int x :: r, bg)) = _
  rw [if_pos h]
theorem shrink_no {m x : Int} {r : List V} {bg : List Int} (h : ¬ x + m = lastI bg) : shrinkR m (.int x :: r) bg = (.int x :: r, bg) := by
  show (if x + m = lastI bg then shrinkR m r (x :: bg.dropLast) else (.int x :: r, bg)) = _
  rw [if_neg h]
abbrev s_least_form : Stmt := top 22
abbrev N_least_form : List Str := ["first", "again", "more", "turn"]
theorem sc_least_form : FnScope N_least_form ["first", "again", "more"] (defScope s_least_form) := ⟨rfl, rfl, rfl, by decide +kernel, rfl, by decide +kernel, by decide +kernel⟩

theorem ok_least_form (F : FnP K "least_form" s_least_form f fd) (m_list : mg "list" = none) (m_len : mg "len" = none) (m_range : mg "range" = none) (m_tuple : mg "tuple" = none) (g_is_turn : FnAt P w K mg base CX0 1 "is_turn" ["again", "more", "turn"] (spTurn K)) : FnOk P w K mg base CX0 2 f fd ["first", "again", "more"] (spLeast K) := by
  refine F.ok sc_least_form (fun vs H Q E h => ?_) (fun cdv A outer s H vs Q E hr h => ?_)
  · obtain ⟨a, b, fs, ys, m, rfl, _⟩ := h
    rfl
  · obtain ⟨a, b, fs, ys, m, rfl, hq, kq, hl, kl, k0, ht, kt, q⟩ := h
    refine ⟨_, PSs.nox (pss_cons (ps_if (pt_cmpR op_isN (pe_ix (ix_sqK K) (pv 1) (pe_int) (fun _ _ => rfl)) (pe_non) (nomark _)) (pss_one (ps_ret (pe_tup (pa_cons (pe_tup (pa_nil)) (pa_cons (pe_tup (pa_cons (pe_non) (pa_nil))) (pa_cons (pe_int) (pa_nil))))))) (pss_nil))
 (pss_cons (ps_set (i := 3) sc_least_form.nd rfl (.inl rfl) (pe_ix (ix_sqK K) (pe_lc (own := [("turn", 3)]) rfl sc_least_form.nd (pi_range2 rfl m_range (pa_cons (pe_int) (pa_cons (pe_op op_add (pe_callB (call_lenK K) rfl m_len (by decide +kernel) (pa_cons (pv 1) (pa_nil))) (pe_int)) (pa_nil)))) (blkOk_by (N := N_least_form) (sc := defScope s_least_form) (by decide +kernel)) (fun _ _ _ _ _ => pg_name (i := 3) sc_least_form.nd rfl (.inl rfl)) (fun _ _ _ _ _ => pts_one (pt_val (pe_fn g_is_turn hr rfl (pa_cons (pv 1) (pa_cons (pv 2) (pa_cons (pv 3) (pa_nil))))))) (fun _ _ _ _ _ => pv 3)) (pe_int) (fun _ _ => rfl)))
 (pss_cons (ps_set (i := 2) sc_least_form.nd rfl (.inr rfl) (pe_op op_fdiv (pe_op op_mul (pv 2) (pv 3)) (pe_callB (call_lenK K) rfl m_len (by decide +kernel) (pa_cons (pv 1) (pa_nil)))))
 (pss_cons (ps_asg (pe_tup (pa_cons (pe_callTy (call_listK K) rfl m_list (by decide +kernel) (pa_cons (pv 0) (pa_nil))) (pa_cons (pe_callTy (call_listK K) rfl m_list (by decide +kernel) (pa_cons (pe_slice (sl_sqK K) (pv 1) (po_none) (po_some (pv 3))) (pa_nil))) (pa_nil)))) (pg_tupK K rfl (pgs_cons (pg_name (i := 0) sc_least_form.nd rfl (.inl rfl)) (pgs_cons (pg_name (i := 1) sc_least_form.nd rfl (.inr rfl)) (pgs_nil)))))
 (pss_cons (ps_while PassesOwn.never (PW.pt (pw_and (pt_cmpR op_gt (pe_callB (call_lenK K) rfl m_len (by decide +kernel) (pa_cons (pv 0) (pa_nil))) (pe_int) (nomark _)) (pw_and (pt_cmpR op_notN (pe_ix (ix_sqK K) (pv 0) (pe_un un_neg (pe_int)) (fun _ _ => rfl)) (pe_non) (nomark _)) (pw_and1 (pt_cmpR op_eq (pe_op op_add (pe_ix (ix_sqK K) (pv 0) (pe_un un_neg (pe_int)) (fun _ _ => rfl)) (pv 2)) (pe_ix (ix_sqK K) (pv 1) (pe_un un_neg (pe_int)) (fun _ _ => rfl)) (nomark _)))))) (pss_one (ps_set (i := 1) sc_least_form.nd rfl (.inr rfl) (pe_lst (pa_cons (pe_bm0 PySem.F.plainAttrs_list PySem.F.slot_list_pop PySem.F.type_list_pop mt_pop (pv 0)) (pa_starK K (pe_slice (sl_sqK K) (pv 1) (po_none) (po_some (pe_un un_neg (pe_int)))) (pa_nil)))))))
 (pss_one (ps_ret (pe_tup (pa_cons (pe_callTy (call_tupleK K) rfl m_tuple (by decide +kernel) (pa_cons (pv 0) (pa_nil))) (pa_cons (pe_callTy (call_tupleK K) rfl m_tuple (by decide +kernel) (pa_cons (pv 1) (pa_nil))) (pa_cons (pv 2) (pa_nil)))))))))))), ?_⟩
    have at0 : atI ys 0 = some (hd ys) := getD_at (i := 0) k0
    refine ⟨_, rfl, b, ys, _, _, rfl, rfl, kq, at0, rfl, _, rfl, ?_⟩
    by_cases c0 : hd ys = .non
    · rw [decide_eq_true c0]
      unfold leastV at q
      rw [if_pos c0] at q
      refine ⟨by decide, fun p1 n1 => ⟨by decide, fun p2 n2 => ⟨by show 3 ≤ sizeLine; decide, fun p n3 => ?_⟩⟩⟩
      have n12 : p1 ≠ p2 := ne_of_none upd_same n2
      have n13 : p1 ≠ p := ne_of_none (H := upd (upd H p1 _) p2 _) (by rw [upd_ne n12]; exact upd_same) n3
      have n23 : p2 ≠ p := ne_of_none (H := upd (upd H p1 _) p2 _) upd_same n3
      exact q p p1 p2 _ (((same_new n1).trans (same_new n2)).trans (same_new n3)) upd_same (by rw [upd_ne n13, upd_ne n12, upd_same]) (by rw [upd_ne n23, upd_same])
    · rw [decide_eq_false c0]
      obtain ⟨ag, rfl⟩ : ∃ ag : List Int, ys = ag.map V.int := kt.resolve_left c0
      have eag : (ag.map V.int).map intOf = ag := by
        rw [List.map_map]
        exact List.map_id'' (fun _ => rfl) ag
      unfold leastV at q
      rw [if_neg c0, eag] at q
      have gl : ag.length ≤ 20000 := by rw [List.length_map] at kl; exact kl
      have g0 : 0 < ag.length := by rw [List.length_map] at k0; exact k0
      have hlen : ((ag.map V.int).length : Int) = (ag.length : Int) := by rw [List.length_map]
      refine ⟨_, rfl, b, _, rfl, kq, _, _, rfl, rfl, _, _, rfl, ⟨by omega, by omega, by omega, by omega⟩, fun D hD => ?_⟩
      have en : ((((ag.map V.int).length : Int) + 1) - 1).toNat = ag.length := by rw [hlen]; omega
      rw [en]
      refine lc_rgF (fun i => isTurn ag m (i + 1)) (fun i => .int ((i : Int) + 1)) (by omega) hD (fun i hi H1 s1 R r => ?_) (fun i hi H1 s1 R r => ?_) fun H1 s1 hD1 => ?_
      · refine ⟨_, rfl, _, rfl, _, rfl, _, ⟨b, ag, m, i + 1, ?_, kq.ex s1, by omega, by omega, gl, rfl⟩, fun H2 s2 => ⟨_, rfl, r H2 s2⟩⟩
        have e : (1 : Int) + (i : Int) = ((i + 1 : Nat) : Int) := by omega
        rw [e]
        rfl
      · have e : (1 : Int) + (i : Int) = (i : Int) + 1 := by omega
        refine ⟨_, rfl, ?_⟩
        rw [e]
        exact r H1 (Same.refl H1)
      · have hts : 0 < (turns ag m).length := List.length_pos_iff.mpr (turns_ne g0)
        have e0 : atI ((turns ag m).map fun i : Nat => V.int ((i : Int) + 1)) 0 = some (.int (turnOf ag m : Int)) := by
          unfold turnOf
          cases e : turns ag m with
          | nil => exact absurd e (turns_ne g0)
          | cons x r =>
            have e2 : V.int ((x : Int) + 1) = V.int (((x + 1 : Nat)) : Int) := by rw [Int.natCast_add]; rfl
            have e3 : atI ((x :: r).map fun i : Nat => V.int ((i : Int) + 1)) ((0 : Nat) : Int) = some (V.int ((x : Int) + 1)) := atI_nat (j := 0) rfl
            rw [e2] at e3
            exact e3
        refine ⟨D, _, _, _, rfl, rfl, .l hD1, e0, ?_⟩
        have t0 := turnOf_pos ag m
        have tl := turnOf_le (m := m) g0
        unfold leastF at q
        dsimp only at q
        generalize turnOf ag m = t at t0 tl q ⊢
        refine ⟨_, rfl, _, rfl, _, _, rfl, rfl, .inr ⟨by omega, by omega⟩, _, rfl, b, _, rfl, kq.ex s1, _, _, rfl, rfl, ⟨by rw [hlen]; omega, by rw [hlen]; omega⟩, ?_⟩
        rw [hlen]
        obtain ⟨m2, em⟩ : ∃ m2, m2 = m * (t : Int) / (ag.length : Int) := ⟨_, rfl⟩
        rw [← em] at q
        refine ⟨_, rfl, a, fs, rfl, hq.ex s1, fun f1 n1 => ⟨_, rfl, _, rfl, _, rfl, slq (kq.ex (s1.trans (same_new n1))) fun c H2 s2 h2 => ?_⟩⟩
        rw [cut_to, ← List.map_take] at h2
        have s12 : Same H H2 := (s1.trans (same_new n1)).trans s2
        have hf1 : H2 f1 = some (.lst fs) := s2 _ _ upd_same
        refine ⟨c, _, rfl, h2, fun a1 n2 => ⟨by show 2 ≤ sizeLine; decide, fun pz n3 => ?_⟩⟩
        have s14 : Same H (upd (upd H2 a1 (.lst ((ag.take t).map V.int))) pz (.tup [.ref f1, .ref a1])) := (s12.trans (same_new n2)).trans (same_new n3)
        refine ⟨pz, _, rfl, .inl (.inl upd_same), rfl, .ref f1, _, rfl, .ref a1, _, rfl, rfl, ?_⟩
        have nfa : f1 ≠ a1 := ne_of_none hf1 n2
        have nfz : f1 ≠ pz := ne_of_none (H := upd H2 a1 (.lst ((ag.take t).map V.int))) ((upd_ne nfa).trans hf1) n3
        have naz : a1 ≠ pz := ne_of_none (H := upd H2 a1 (.lst ((ag.take t).map V.int))) upd_same n3
        refine ⟨fun k σ Hc => ∃ (f1 a1 : Addr) (gs : List V) (bg : List Int), σ = [some (.ref f1), some (.ref a1), some (.int m2), some (.int (t : Int))] ∧ k = gs.length ∧ Same H Hc ∧ H f1 = none ∧ f1 ≠ a1 ∧ Hc f1 = some (.lst gs) ∧ Hc a1 = some (.lst (bg.map V.int)) ∧
          0 < bg.length ∧ bg.length ≤ 20000 ∧ gs.length ≤ 20000 ∧ gs.all isThingV = true ∧ shrinkR m2 gs.reverse bg = shrinkR m2 fs.reverse (ag.take t), ⟨fs.length, f1, a1, fs, ag.take t, by rw [em]; rfl, rfl, s14, s1.free n1, nfa, ?_, ?_, ?_, ?_, hl, ht, rfl⟩, ?_⟩
        · rw [upd_ne nfz, upd_ne nfa]
          exact hf1
        · rw [upd_ne naz]
          exact upd_same
        · rw [List.length_take]
          omega
        · rw [List.length_take]
          omega
        · rintro k σ Hc ⟨f1, a1, gs, bg, rfl, rfl, sc, nf, nfa, hf, ha, b0, bl, gl2, gt, eR⟩
          refine ⟨_, rfl, f1, gs, rfl, .l hf, _, _, rfl, rfl, _, rfl, ?_⟩
          rw [← eR] at q
          rcases List.eq_nil_or_concat gs with eg | ⟨gi, x, eg⟩
          · subst eg
            exact ret3 rfl hf ha fun p p1 p2 H' s' e1 e2 e3 => q p p1 p2 H' (sc.trans s') e1 e2 e3
          · rw [List.concat_eq_append] at eg
            subst eg
            have hp : decide ((0 : Int) < ((gi ++ [x]).length : Int)) = true := decide_eq_true (by rw [List.length_append]; simp)
            rw [hp]
            refine ⟨_, rfl, 1, rfl, f1, _, _, _, rfl, rfl, .l hf, at_last, rfl, _, rfl, ?_⟩
            have xt : isThingV x = true := List.all_eq_true.mp gt x (List.mem_append_right _ (List.mem_singleton.mpr rfl))
            rw [List.reverse_append, List.reverse_singleton, List.singleton_append] at q eR
            cases x with
            | non => exact ret3 rfl hf ha fun p p1 p2 H' s' e1 e2 e3 => q p p1 p2 H' (sc.trans s') e1 (by rw [e2]; exact congrArg (fun z => some (HO.tup z)) (by simp [shrinkR])) (by rw [e3]; rfl)
            | int i =>
              refine ⟨_, rfl, 1, rfl, f1, _, _, _, rfl, rfl, .l hf, at_last, _, rfl, _, _, rfl, rfl, _, rfl, 1, rfl, a1, _, _, _, rfl, rfl, .l ha, ints_last b0, rfl, _, rfl, ?_⟩
              rw [dec_int]
              by_cases ci : i + m2 = lastI bg
              · rw [decide_eq_true ci]
                rw [shrink_go ci] at eR
                refine ⟨fun σ' H' => ∃ a2, σ' = [some (.ref f1), some (.ref a2), some (.int m2), some (.int (t : Int))] ∧ Same H H' ∧ f1 ≠ a2 ∧ H' f1 = some (.lst gi) ∧ H' a2 = some (.lst ((i :: bg.dropLast).map V.int)), ?_, ?_⟩
                · rintro σ' H' ⟨a2, rfl, s2, n2, h2, h3⟩
                  refine ⟨gi.length, by rw [List.length_append]; simp, f1, a2, gi, i :: bg.dropLast, rfl, rfl, s2, nf, n2, h2, h3, by simp, ?_, ?_, ?_, eR⟩
                  · rw [List.length_cons, List.length_dropLast]
                    omega
                  · rw [List.length_append] at gl2
                    omega
                  · rw [List.all_append, Bool.and_eq_true] at gt
                    exact gt.1
                · refine ⟨_, rfl, .inl ⟨rfl, _, .inl (.inl hf)⟩, f1, _, .int i, rfl, rfl, hf, ?_, ?_⟩
                  · rw [List.length_append, List.length_singleton, Nat.add_sub_cancel, List.getElem?_append_right (Nat.le_refl _), Nat.sub_self]
                    rfl
                  · rw [List.dropLast_concat]
                    have ha' : (upd Hc f1 (.lst gi)) a1 = some (.lst (bg.map V.int)) := (upd_ne (Ne.symm nfa)).trans ha
                    refine ⟨_, rfl, 1, rfl, _, rfl, slq (K := K) (.l ha') fun c H2 s2 h2 => ⟨c, _, rfl, h2.symm, ?_⟩⟩
                    rw [cut_but (by rw [List.length_map]; exact b0), ← List.map_dropLast]
                    simp only [tNil, List.append_nil]
                    have el : (V.int i :: (bg.dropLast).map V.int) = (i :: bg.dropLast).map V.int := rfl
                    refine ⟨?_, fun p np => ⟨p, rfl, ?_, ?_, ?_, ?_⟩⟩
                    · show (V.int i :: (bg.dropLast).map V.int).length ≤ sizeLine
                      rw [el, List.length_map, List.length_cons, List.length_dropLast]
                      exact Nat.le_trans (show bg.length - 1 + 1 ≤ 50000 by omega) (by decide)
                    · exact ((same_app sc nf).trans s2).trans (same_new np)
                    · exact ne_of_none (s2 _ _ upd_same) np
                    · exact same_new np _ _ (s2 _ _ upd_same)
                    · exact upd_same
              · rw [decide_eq_false ci]
                rw [shrink_no ci] at q
                exact ret3 rfl hf ha fun p p1 p2 H' s' e1 e2 e3 => q p p1 p2 H' (sc.trans s') e1 (by rw [e2]; simp) (by rw [e3])
            | _ => cases xt
end
end WW

set_option Elab.async false
set_option linter.all false
set_option maxRecDepth 100000
set_option maxHeartbeats 4000000
namespace WW
open PySem PySem.Spec PyProof.Rows L2
def SameBut (x : Addr) (H H' : Hp) : Prop := ∀ a o, a ≠ x → H a = some o → H' a = some o
/-- a row stands at x -/
def RowAt (C : Addr) (H : Hp) (x : Addr) (fs ys : List V) (m : Int) : Prop := ∃ dx p1 p2, H x = some (.ins C dx [("first", .ref p1), ("again", .ref p2), ("more", .int m)]) ∧ H p1 = some (.tup fs) ∧ H p2 = some (.tup ys)
theorem RowAt.ex {C : Addr} {H H' : Hp} {x : Addr} {fs ys : List V} {m : Int} (e : Same H H') (h : RowAt C H x fs ys m) : RowAt C H' x fs ys m := by
  obtain ⟨dx, p1, p2, h1, h2, h3⟩ := h
  exact ⟨dx, p1, p2, e _ _ h1, e _ _ h2, e _ _ h3⟩
/-- the class of rows -/
structure RowC (K : PySem.W.Frag) (C : Addr) : Prop where
  cls : Cls K C
  nF : NoAttr K C "first"
  nA : NoAttr K C "again"
  nM : NoAttr K C "more"
theorem map_intOf {ys : List V} (h : ∀ i, i < ys.length → isIntV (ys.getD i .non) = true) : ys = (ys.map intOf).map V.int := by
  refine List.ext_getElem (by rw [List.length_map, List.length_map]) fun i h1 h2 => ?_
  have q := h i h1
  rw [List.getD_eq_getElem?_getD, List.getElem?_eq_getElem h1, Option.getD_some] at q
  rw [List.getElem_map, List.getElem_map]
  revert q
  cases ys[i] <;> intro q <;> first | rfl | (cases q; done)
theorem wrong_ok {fs ys : List V} {m : V} (h : wrongW (some fs) (some ys) m = .non) : fs.all isThingV = true ∧ risingV fs = true ∧ 0 < ys.length ∧ ys.all isThingV = true ∧ risingV (cutV fs (some (-1)) none ++ ys) = true ∧ isNumV m = true ∧ (hd ys = .non ∨ ∃ ag : List Int, ys = ag.map V.int) := by
  unfold wrongW at h
  dsimp only at h
  by_cases c1 : (fs.all isThingV && risingV fs) = true
  · rw [if_pos c1] at h
    have h : wrongA fs ys m = .non := h
    unfold wrongA at h
    by_cases c2 : (ys.isEmpty || !ys.all isThingV) = true
    · rw [if_pos c2] at h
      cases h
    · rw [if_neg c2] at h
      by_cases c3 : (!risingV (cutV fs (some (-1)) none ++ ys) || (decide (hd ys = .non) && !decide (lst ys = .non))) = true
      · rw [if_pos c3] at h
        cases h
      · rw [if_neg c3] at h
        by_cases c4 : isNumV m = false
        · rw [if_pos c4] at h
          cases h
        · have k1 := Bool.and_eq_true_iff.mp c1
          have k2 : ys.isEmpty = false ∧ ys.all isThingV = true := by
            revert c2
            cases ys.isEmpty <;> cases ys.all isThingV <;> simp
          have k3 : risingV (cutV fs (some (-1)) none ++ ys) = true := by
            revert c3
            cases risingV (cutV fs (some (-1)) none ++ ys) <;> simp
          have k4 : isNumV m = true := by
            revert c4
            cases isNumV m <;> simp
          have k5 : 0 < ys.length := by
            cases ys with
            | nil => cases k2.1
            | cons _ _ => exact Nat.succ_pos _
          refine ⟨k1.1, k1.2, k5, k2.2, k3, k4, ?_⟩
          by_cases c5 : hd ys = .non
          · exact .inl c5
          · refine .inr ⟨ys.map intOf, map_intOf (rising_ints k2.2 (rising_drop k3) ?_)⟩
            have t := all_getD k2.2 k5
            revert t c5
            unfold hd
            cases ys.getD 0 V.non <;> intro c5 t <;> first | rfl | exact absurd rfl c5 | (cases t; done)
  · rw [if_neg c1] at h
    cases h
section
variable {P : Program} {w : World} {K : PySem.W.Frag} {mg : Str → Option Value} {base : Heap} {f : Addr} {fd : FuncData}
def spInit (K : PySem.W.Frag) (C : Addr) : Sp := fun vs H Q _ => ∃ (x dx : Addr) (v1 v2 : V) (fs ys : List V) (m : Int), vs = [.ref x, v1, v2, .int m] ∧ H x = some (.ins C dx []) ∧ Arg K H v1 (some fs) ∧ Arg K H v2 (some ys) ∧ wrongW (some fs) (some ys) (.int m) = .non ∧
  ∀ H', SameBut x H H' → RowAt C H' x (leastV fs ys m).1 (leastV fs ys m).2.1 (leastV fs ys m).2.2 → Q .non H'
/-- tuple(x) of a sequence -/
theorem tupq {H : Hp} {a : Addr} {xs : List V} {Q : VK} (h : Sq K H a xs) (k : ∀ p H', Same H H' → Sq K H' p xs → Q (.ref p) H') : rTupQ K [.ref a] H Q := by
  rcases h with h | h
  · exact ⟨⟨a, xs, rfl, .inl ⟨h, fun l hl => k l _ (same_new hl) (.t upd_same)⟩⟩⟩
  · exact ⟨⟨a, xs, rfl, .inr ⟨h, k a H (Same.refl H) (.inr h)⟩⟩⟩
abbrev s_Row___init__ : Stmt := inClass (top 23) 0
abbrev N_Row___init__ : List Str := ["self", "first", "again", "more", "word"]
theorem sc_Row___init__ : FnScope N_Row___init__ ["self", "first", "again", "more"] (defScope s_Row___init__) := ⟨rfl, rfl, rfl, by decide +kernel, rfl, by decide +kernel, by decide +kernel⟩

theorem ok_Row_init {C : Addr} (F : FunD K "__init__" "Row.__init__" (defArgs s_Row___init__) (defBody s_Row___init__) (defScope s_Row___init__) [.int 0] [] f fd) (R : RowC K C) (m_tuple : mg "tuple" = none) (g_wrong_word : FnAt P w K mg base CX0 3 "wrong_word" ["first", "again", "more"] (spWrong K)) (g_least_form : FnAt P w K mg base CX0 2 "least_form" ["first", "again", "more"] (spLeast K)) :
    FnOk P w K mg base CX0 4 f fd ["self", "first", "again", "more"] (spInit K C) := by
  refine F.ok sc_Row___init__ (fun vs H Q E h => ?_) (fun cdv A outer s H vs Q E hr h => ?_)
  · obtain ⟨x, dx, v1, v2, fs, ys, m, rfl, _⟩ := h
    rfl
  · obtain ⟨x, dx, v1, v2, fs, ys, m, rfl, hx, h1, h2, hw, q⟩ := h
    obtain ⟨ht, hr1, k0, kt, kr, nm, kz⟩ := wrong_ok hw
    refine ⟨_, PSs.nox (pss_cons (ps_set (i := 4) sc_Row___init__.nd rfl (.inl rfl) (pe_fn g_wrong_word hr rfl (pa_cons (pv 1) (pa_cons (pv 2) (pa_cons (pv 3) (pa_nil))))))
 (pss_cons (ps_if (pt_cmpR op_notN (pv 4) (pe_non) (nomark _)) (pss_one (ps_never)) (pss_nil))
 (pss_one (ps_asg (pe_fn g_least_form hr rfl (pa_cons (pe_callTy (call_tupleK K) rfl m_tuple (by decide +kernel) (pa_cons (pv 1) (pa_nil))) (pa_cons (pe_callTy (call_tupleK K) rfl m_tuple (by decide +kernel) (pa_cons (pv 2) (pa_nil))) (pa_cons (pv 3) (pa_nil))))) (pg_tupK K rfl (pgs_cons (pg_fld K (pv 0)) (pgs_cons (pg_fld K (pv 0)) (pgs_cons (pg_fld K (pv 0)) (pgs_nil))))))))), ?_⟩
    refine ⟨_, rfl, _, rfl, _, rfl, _, ⟨v1, v2, .int m, some fs, some ys, false, rfl, h1, h2, hasT_int m, rfl⟩, fun H1 s1 => ?_⟩
    rw [hw]
    refine ⟨_, rfl, rfl, _, rfl, ?_⟩
    obtain ⟨a, rfl, hq, hl, _⟩ := h1
    obtain ⟨b, rfl, kq, kl, _⟩ := h2
    refine ⟨_, rfl, tupq (hq.ex s1) fun p1 H2 s2 h2 => ⟨_, rfl, tupq (kq.ex (s1.trans s2)) fun p2 H3 s3 h3 => ⟨_, rfl, p1, p2, fs, ys, m, rfl, h2.ex s3, h3, hl, kl, k0, ht, kz, fun p q1 q2 H4 s4 e1 e2 e3 => ?_⟩⟩⟩
    have s14 : Same H H4 := ((s1.trans s2).trans s3).trans s4
    have hx4 := s14 _ _ hx
    refine ⟨p, _, rfl, .inl (.inl e1), rfl, _, _, rfl, ⟨_, rfl, x, C, dx, _, rfl, hx4, R.cls, R.nF, by decide, _, _, rfl, ⟨_, rfl, x, C, dx, _, rfl, upd_same, R.cls, R.nA, (by show 1 < 1000; decide), _, _, rfl, ⟨_, rfl, x, C, dx, _, rfl, upd_same, R.cls, R.nM, (by show 2 < 1000; decide), rfl, ?_⟩⟩⟩⟩
    have n1 : q1 ≠ x := fun z => by
      rw [z, hx4] at e2
      cases e2
    have n2 : q2 ≠ x := fun z => by
      rw [z, hx4] at e3
      cases e3
    rw [upd_upd, upd_upd]
    refine q _ (fun a o n ha => (upd_ne n).trans (s14 a o ha)) ⟨dx, q1, q2, upd_same, (upd_ne n1).trans e2, (upd_ne n2).trans e3⟩
end
end WW

set_option Elab.async false
set_option linter.all false
set_option maxRecDepth 100000
set_option maxHeartbeats 4000000
namespace WW
open PySem PySem.Spec PyProof.Rows L2
theorem SameBut.refl (x : Addr) (H : Hp) : SameBut x H H := fun _ _ _ h => h
theorem SameBut.trans {x : Addr} {H H1 H2 : Hp} (a : SameBut x H H1) (b : SameBut x H1 H2) : SameBut x H H2 := fun c o n h => b c o n (a c o n h)
theorem SameBut.of {x : Addr} {H H' : Hp} (e : Same H H') : SameBut x H H' := fun a o _ h => e a o h
theorem SameBut.upd (x : Addr) (H : Hp) (o : HO) : SameBut x H (upd H x o) := fun _ _ n h => (upd_ne n).trans h
theorem SameBut.sq {x a : Addr} {K : PySem.W.Frag} {H H' : Hp} {xs : List V} (e : SameBut x H H') (n : a ≠ x) (h : Sq K H a xs) : Sq K H' a xs := by
  rcases h with ((h | ⟨u, h⟩) | h) | ((h | ⟨u, h⟩) | h)
  · exact .inl (.inl (.inl (e _ _ n h)))
  · exact .inl (.inl (.inr ⟨u, e _ _ n h⟩))
  · exact .inl (.inr h)
  · exact .inr (.inl (.inl (e _ _ n h)))
  · exact .inr (.inl (.inr ⟨u, e _ _ n h⟩))
  · exact .inr (.inr h)
/-- none of what was free is the box -/
theorem Box.ne {H : Hp} {b a : Addr} (h : Box H b) (n : H a = none) : a ≠ b := fun z => by
  obtain ⟨x, y, w, e⟩ := h
  rw [z, e] at n
  cases n
theorem Box.ex {H H' : Hp} {b : Addr} (e : Same H H') (h : Box H b) : Box H' b := by
  obtain ⟨x, y, z, h⟩ := h
  exact ⟨x, y, z, e _ _ h⟩
section
variable {P : Program} {w : World} {K : PySem.W.Frag} {mg : Str → Option Value} {base : Heap} {f : Addr} {fd : FuncData}
def spBox (K : PySem.W.Frag) : Sp := fun vs H Q _ => ∃ (a : Addr) (ns : List Int) (k : Int), vs = [.ref a, .int k] ∧ SqL K H a (ns.map V.int) ∧ 0 ≤ k ∧ ns.length ≤ 1000 ∧
  ∀ p H', Same H H' → H p = none → Box H' p → Q (.ref p) H'
abbrev s_l_box : Stmt := top 43
abbrev N_l_box : List Str := ["_law_script", "_law_k", "_law_cell", "_law_seed"]
theorem sc_l_box : FnScope N_l_box ["_law_script", "_law_k"] (defScope s_l_box) := ⟨rfl, rfl, rfl, by decide +kernel, rfl, by decide +kernel, by decide +kernel⟩

theorem ok_box (F : FnP K "_law_box" s_l_box f fd) (m_int : mg "int" = none) (m_len : mg "len" = none) (m_abs : mg "abs" = none) : FnOk P w K mg base CX0 1 f fd ["_law_script", "_law_k"] (spBox K) := by
  refine F.ok sc_l_box (fun vs H Q E h => ?_) (fun cdv A outer s H vs Q E hr h => ?_)
  · obtain ⟨a, ns, k, rfl, _⟩ := h
    rfl
  · obtain ⟨a, ns, k, rfl, hq, k0, hl, q⟩ := h
    refine ⟨_, PSs.nox (pss_cons (ps_set (i := 2) sc_l_box.nd rfl (.inl rfl) (pe_op op_add (pe_op op_mul (pe_int) (pv 1)) (pe_int)))
 (pss_cons (ps_if (pt_cmpR op_lt (pv 1) (pe_callB (call_lenK K) rfl m_len (by decide +kernel) (pa_cons (pv 0) (pa_nil))) (nomark _)) (pss_one (ps_set (i := 2) sc_l_box.nd rfl (.inl rfl) (pe_callB call_abs rfl m_abs (by decide +kernel) (pa_cons (pe_ix (ix_sqK K) (pv 0) (pv 1) (fun _ _ => rfl)) (pa_nil))))) (pss_one (ps_if (pt_cmpR op_gt (pe_callB (call_lenK K) rfl m_len (by decide +kernel) (pa_cons (pv 0) (pa_nil))) (pe_int) (nomark _)) (pss_one (ps_set (i := 2) sc_l_box.nd rfl (.inl rfl) (pe_op op_add (pv 2) (pe_op op_mul (pe_op op_mod (pe_callTy call_int1 rfl m_int (by decide +kernel) (pa_cons (pe_callB call_abs rfl m_abs (by decide +kernel) (pa_cons (pe_callTy call_int1 rfl m_int (by decide +kernel) (pa_cons (pe_ix (ix_sqK K) (pv 0) (pe_op op_mod (pe_callTy call_int1 rfl m_int (by decide +kernel) (pa_cons (pv 1) (pa_nil))) (pe_callB (call_lenK K) rfl m_len (by decide +kernel) (pa_cons (pv 0) (pa_nil)))) (fun _ _ => rfl)) (pa_nil))) (pa_nil))) (pa_nil))) (pe_int)) (pe_int))))) (pss_nil))))
 (pss_cons (ps_set (i := 3) sc_l_box.nd rfl (.inl rfl) (pe_op op_add (pe_op op_mod (pe_callTy call_int1 rfl m_int (by decide +kernel) (pa_cons (pe_op op_add (pe_op op_mul (pe_op op_mod (pe_callTy call_int1 rfl m_int (by decide +kernel) (pa_cons (pv 2) (pa_nil))) (pe_int)) (pe_int)) (pe_op op_mul (pe_int) (pv 1))) (pa_nil))) (pe_int)) (pe_int)))
 (pss_one (ps_ret (pe_lst (pa_cons (pe_ix (ix_sqK K) (pe_lst (pa_cons (pe_int) (pa_cons (pv 2) (pa_nil)))) (pe_callTy call_int1 rfl m_int (by decide +kernel) (pa_cons (pe_cmpR op_ge (pv 2) (pe_op op_pow (pe_int) (pe_int)) (nomark _)) (pa_nil))) (fun _ _ => rfl)) (pa_cons (pv 3) (pa_cons (pe_int) (pa_nil)))))))))), ?_⟩
    have hsq : Sq K H a (ns.map V.int) := .inl hq
    have hlen : ((ns.map V.int).length : Int) = (ns.length : Int) := by rw [List.length_map]
    -- what stands behind the cell
    refine ⟨_, rfl, _, _, rfl, rfl, .inl ⟨by decide, by decide⟩, _, _, rfl, rfl, ?_⟩
    refine ⟨_, rfl, _, rfl, a, _, rfl, hsq, _, _, rfl, rfl, _, rfl, ?_⟩
    have fin : ∀ c : Int, (tSeq
      (tAsg (tOp (rI0 fun i j => V.int (i + j)) (tOp (rI (fun _ j => 0 < j) fun i j => V.int (i % j)) (tCB (fun xs H Q => (∃ i, xs = [V.int i] ∧ Q (V.int i) H) ∨ ∃ k, xs = [V.bl k] ∧ Q (V.int (if k = true then 1 else 0)) H)
        (tCons (tOp (rI0 fun i j => V.int (i + j)) (tOp (rI CMul fun i j => V.int (i * j)) (tOp (rI (fun _ j => 0 < j) fun i j => V.int (i % j)) (tCB (fun xs H Q => (∃ i, xs = [V.int i] ∧ Q (V.int i) H) ∨ ∃ k, xs = [V.bl k] ∧ Q (V.int (if k = true then 1 else 0)) H) (tCons (tVar 2) tNil)) (tC (.int 2147483629))) (tC (.int 48271))) (tOp (rI CMul fun i j => V.int (i * j)) (tC (.int 42043)) (tVar 1))) tNil)) (tC (.int 2147483629))) (tC (.int 1))) (gName 3))
      (tRet (tLst (tCons (tOp (rIxQ K) (tLst (tCons (tC (.int 0)) (tCons (tVar 2) tNil))) (tCB (fun xs H Q => (∃ i, xs = [V.int i] ∧ Q (V.int i) H) ∨ ∃ k, xs = [V.bl k] ∧ Q (V.int (if k = true then 1 else 0)) H) (tCons (tOp (rI0 fun i j => V.bl (decide (j ≤ i))) (tVar 2) (tOp (rI CPow fun i j => V.int (i ^ j.toNat)) (tC (.int 10)) (tC (.int 18)))) tNil))) (tCons (tVar 3) (tCons (tC (.int 0)) tNil))))))
      { nx := fun _ H' => Q .non H', rt := Q } [some (.ref a), some (.int k), some (.int c), none] H := by
      intro c
      refine ⟨_, rfl, .inl ⟨_, rfl, _, _, rfl, rfl, (by show (0 : Int) < _; decide), _, _, rfl, rfl, .inr ⟨by decide, by decide⟩, _, rfl, _, _, rfl, rfl, .inl ⟨by decide, by decide⟩, _, _, rfl, rfl, .inl ⟨_, rfl, _, _, rfl, rfl, (by show (0 : Int) < _; decide), _, _, rfl, rfl, ?_⟩⟩⟩
      refine ⟨_, rfl, by show 2 ≤ sizeLine; decide, fun p np => ?_⟩
      refine ⟨_, rfl, _, _, rfl, rfl, ⟨by decide, by decide, by decide⟩, _, _, rfl, rfl, .inr ⟨_, rfl, ?_⟩⟩
      have s1 : Same H (upd H p (.lst [.int 0, .int c])) := same_new np
      by_cases hc : (10 : Int) ^ (18 : Int).toNat ≤ c
      · rw [decide_eq_true hc]
        refine ⟨p, _, 1, _, rfl, rfl, .l upd_same, rfl, _, rfl, by show 3 ≤ sizeLine; decide, fun p2 n2 => ?_⟩
        exact q p2 _ (s1.trans (same_new n2)) (s1.free n2) ⟨_, _, _, upd_same⟩
      · rw [decide_eq_false hc]
        refine ⟨p, _, 0, _, rfl, rfl, .l upd_same, rfl, _, rfl, by show 3 ≤ sizeLine; decide, fun p2 n2 => ?_⟩
        exact q p2 _ (s1.trans (same_new n2)) (s1.free n2) ⟨_, _, _, upd_same⟩
    refine ite2 (fun c => ?_) (fun c => ?_)
    · have c := of_decide_eq_true c
      rw [hlen] at c
      have hk : k.toNat < (ns.map V.int).length := by rw [List.length_map]; omega
      have e : (ns.map V.int)[k.toNat] = .int (ns[k.toNat]'(by omega)) := by rw [List.getElem_map]
      have ea := at_toNat (xs := ns.map V.int) k0 hk
      rw [e] at ea
      exact ⟨_, rfl, _, rfl, a, _, _, _, rfl, rfl, hsq, ea, _, rfl, fin _⟩
    · refine ⟨_, rfl, a, _, rfl, hsq, _, _, rfl, rfl, _, rfl, ite2 (fun c2 => ?_) (fun c2 => fin _)⟩
      have c2 := of_decide_eq_true c2
      rw [hlen] at c2
      have hp : (0 : Int) < ((ns.map V.int).length : Int) := by rw [hlen]; exact c2
      have h1 := Int.emod_nonneg k (b := ((ns.map V.int).length : Int)) (by omega)
      have h2 := Int.emod_lt_of_pos k hp
      have hk : (k % ((ns.map V.int).length : Int)).toNat < (ns.map V.int).length := by omega
      have hk2 : (k % ((ns.map V.int).length : Int)).toNat < ns.length := by rw [List.length_map] at hk; rw [List.length_map]; exact hk
      have e : (ns.map V.int)[(k % ((ns.map V.int).length : Int)).toNat] = .int (ns[(k % ((ns.map V.int).length : Int)).toNat]'hk2) := by rw [List.getElem_map]
      have ea := at_toNat (xs := ns.map V.int) h1 hk
      rw [e] at ea
      exact ⟨_, rfl, _, rfl, _, rfl, .inl ⟨_, rfl, _, rfl, a, _, rfl, hsq, _, _, rfl, rfl, hp, a, _, _, _, rfl, rfl, hsq, ea, .inl ⟨_, rfl, _, rfl, .inl ⟨_, rfl, _, _, rfl, rfl, (by show (0 : Int) < _; decide), _, _, rfl, rfl, .inr ⟨by decide, by decide⟩, _, _, rfl, rfl, fin _⟩⟩⟩⟩
end
end WW

set_option Elab.async false
set_option linter.all false
set_option maxRecDepth 100000
set_option maxHeartbeats 4000000
namespace WW
open PySem PySem.Spec PyProof.Rows L2
/-- a drawn row: nothing n times, times, times that come again, growth -/
structure Drawn (fs : List V) (ag : List Int) (m : Int) : Prop where
  ex : ∃ (n : Nat) (is : List Int), fs = List.replicate n V.non ++ is.map V.int ∧ n ≤ 2 ∧ is.length ≤ 3 ∧ (is ++ ag).Pairwise (· ≤ ·) ∧ ∀ v ∈ is ++ ag, -4 ≤ v ∧ v ≤ 40
  l1 : 1 ≤ ag.length
  l3 : ag.length ≤ 3
  m0 : lastI ag - ag.getD 0 0 ≤ m
  m1 : m ≤ 50
/-- what is drawn so far: times that rise up to here -/
def Up (is : List Int) (h c : Int) : Prop := (is ++ [h]).Pairwise (· ≤ ·) ∧ (∀ v ∈ is ++ [h], -4 ≤ v) ∧ h ≤ c
theorem Up.next {is : List Int} {h c d e : Int} (u : Up is h c) (h0 : 0 ≤ d) (h1 : d ≤ e) : Up (is ++ [h]) (h + d) (c + e) := by
  obtain ⟨p, b, l⟩ := u
  have bh := b h (List.mem_append_right _ (List.mem_singleton.mpr rfl))
  refine ⟨?_, fun v hv => ?_, by omega⟩
  · rw [List.pairwise_append]
    refine ⟨p, List.pairwise_singleton _ _, fun x hx y hy => ?_⟩
    rw [List.mem_singleton.mp hy]
    rw [List.pairwise_append] at p
    rcases List.mem_append.mp hx with hx | hx
    · have := p.2.2 x hx h (List.mem_singleton.mpr rfl)
      omega
    · rw [List.mem_singleton.mp hx]
      omega
  · rcases List.mem_append.mp hv with hv | hv
    · exact b v hv
    · rw [List.mem_singleton.mp hv]
      omega
theorem Up.le {is : List Int} {h c : Int} (u : Up is h c) : ∀ v ∈ is, v ≤ h := fun v hv => by
  have p := u.1
  rw [List.pairwise_append] at p
  exact p.2.2 v hv h (List.mem_singleton.mpr rfl)
section
variable {P : Program} {w : World} {K : PySem.W.Frag} {mg : Str → Option Value} {base : Heap} {f : Addr} {fd : FuncData}
/-- a told row at p: a tuple of two lists and a number -/
def Told (H : Hp) (p : Addr) (fs : List V) (ag : List Int) (m : Int) : Prop := ∃ p1 p2, H p = some (.tup [.ref p1, .ref p2, .int m]) ∧ H p1 = some (.lst fs) ∧ H p2 = some (.lst (ag.map V.int))
def spRow : Sp := fun vs H Q _ => ∃ (b : Addr) (lo : Bool), vs = [.ref b, .bl lo] ∧ Box H b ∧
  ∀ p H' fs ag m, Drawn fs ag m → SameBut b H H' → Box H' b → (∃ p1 p2, H' p = some (.tup [.ref p1, .ref p2, .int m]) ∧ H' p1 = some (.lst fs) ∧ H' p2 = some (.lst (ag.map V.int)) ∧ p ≠ b ∧ p1 ≠ b ∧ p2 ≠ b) → Q (.ref p) H'
/-- the same, all of it new -/
def spRowF : Sp := fun vs H Q _ => ∃ (b : Addr) (lo : Bool), vs = [.ref b, .bl lo] ∧ Box H b ∧
  ∀ p H' fs ag m, Drawn fs ag m → SameBut b H H' → Box H' b → (∃ p1 p2, H' p = some (.tup [.ref p1, .ref p2, .int m]) ∧ H' p1 = some (.lst fs) ∧ H' p2 = some (.lst (ag.map V.int)) ∧ p ≠ b ∧ p1 ≠ b ∧ p2 ≠ b ∧ H p = none ∧ H p1 = none ∧ H p2 = none) → Q (.ref p) H'
theorem SameBut.free {b a : Addr} {H H' : Hp} (h : SameBut b H H') (n : a ≠ b) (e : H' a = none) : H a = none := by
  cases c : H a with
  | none => rfl
  | some o =>
    rw [h a o n c] at e
    cases e
theorem SameBut.app {b p : Addr} {H Hc : Hp} {o : HO} (h : SameBut b H Hc) (n : H p = none) : SameBut b H (L2.upd Hc p o) := fun a u na ha => by
  rw [upd_ne (ne_of_none ha n)]
  exact h a u na ha
theorem pick4 {a b c d : Int} {v : V} (h : v ∈ [V.int a, V.int b, V.int c, V.int d]) (ha : 0 ≤ a ∧ a ≤ d) (hb : 0 ≤ b ∧ b ≤ d) (hc : 0 ≤ c ∧ c ≤ d) (hd : 0 ≤ d) : ∃ i, v = .int i ∧ 0 ≤ i ∧ i ≤ d := by
  simp only [List.mem_cons, List.not_mem_nil, or_false] at h
  rcases h with rfl | rfl | rfl | rfl
  · exact ⟨a, rfl, ha⟩
  · exact ⟨b, rfl, hb⟩
  · exact ⟨c, rfl, hc⟩
  · exact ⟨d, rfl, hd, Int.le_refl d⟩
abbrev s_l_row : Stmt := top 47
abbrev N_l_row : List Str := ["_law_box_here", "_law_is_low", "_law_here", "_law_first", "_law_turn", "_law_again"]
theorem sc_l_row : FnScope N_l_row ["_law_box_here", "_law_is_low"] (defScope s_l_row) := ⟨rfl, rfl, rfl, by decide +kernel, rfl, by decide +kernel, by decide +kernel⟩

theorem ok_rowF (F : FnP K "_law_row" s_l_row f fd) (m_int : mg "int" = none) (m_range : mg "range" = none) (g_l_take : FnAt P w K mg base CX0 1 "_law_take" ["_law_box_here", "_law_many"] spTake) (g_l_pick : FnAt P w K mg base CX0 2 "_law_pick" ["_law_box_here", "_law_some"] (spPick K)) :
    FnOk P w K mg base CX0 3 f fd ["_law_box_here", "_law_is_low"] spRowF := by
  refine F.ok sc_l_row (fun vs H Q E h => ?_) (fun cdv A outer s H vs Q E hr h => ?_)
  · obtain ⟨b, lo, rfl, _⟩ := h
    rfl
  · obtain ⟨b, lo, rfl, hb, q⟩ := h
    refine ⟨_, PSs.nox (pss_cons (ps_set (i := 2) sc_l_row.nd rfl (.inl rfl) (pe_op op_sub (pe_fn g_l_take hr rfl (pa_cons (pv 0) (pa_cons (pe_int) (pa_nil)))) (pe_op op_mul (pe_int) (pe_callTy call_int1 rfl m_int (by decide +kernel) (pa_cons (pv 1) (pa_nil))))))
 (pss_cons (ps_set (i := 3) sc_l_row.nd rfl (.inl rfl) (pe_lst (pa_nil)))
 (Evl.pss_cut (ps_for PassesOwn.never rfl (pi_range1 rfl m_range (pa_cons (pe_fn g_l_take hr rfl (pa_cons (pv 0) (pa_cons (pe_int) (pa_nil)))) (pa_nil))) (pg_name (i := 4) sc_l_row.nd rfl (.inl rfl)) (pss_cons (ps_expr (pe_bm PySem.F.plainAttrs_list PySem.F.slot_list_append PySem.F.type_list_append mt_append (pv 3) (pa_cons (pv 2) (pa_nil))))
 (pss_one (ps_set (i := 2) sc_l_row.nd rfl (.inl rfl) (pe_op op_add (pv 2) (pe_fn g_l_pick hr rfl (pa_cons (pv 0) (pa_cons (pe_lst (pa_cons (pe_int) (pa_cons (pe_int) (pa_cons (pe_int) (pa_cons (pe_int) (pa_nil)))))) (pa_nil)))))))))
 (Evl.pss_cut (ps_if (pt_cmpR op_eq (pe_fn g_l_take hr rfl (pa_cons (pv 0) (pa_cons (pe_int) (pa_nil)))) (pe_int) (nomark _)) (pss_one (ps_set (i := 3) sc_l_row.nd rfl (.inl rfl) (pe_op op_cat (pe_op op_rep (pe_lst (pa_cons (pe_non) (pa_nil))) (pe_op op_add (pe_int) (pe_fn g_l_take hr rfl (pa_cons (pv 0) (pa_cons (pe_int) (pa_nil)))))) (pv 3)))) (pss_nil))
 (pss_cons (ps_set (i := 5) sc_l_row.nd rfl (.inl rfl) (pe_lst (pa_nil)))
 (Evl.pss_cut (ps_for PassesOwn.never rfl (pi_range1 rfl m_range (pa_cons (pe_op op_add (pe_int) (pe_fn g_l_take hr rfl (pa_cons (pv 0) (pa_cons (pe_int) (pa_nil))))) (pa_nil))) (pg_name (i := 4) sc_l_row.nd rfl (.inl rfl)) (pss_cons (ps_expr (pe_bm PySem.F.plainAttrs_list PySem.F.slot_list_append PySem.F.type_list_append mt_append (pv 5) (pa_cons (pv 2) (pa_nil))))
 (pss_one (ps_set (i := 2) sc_l_row.nd rfl (.inl rfl) (pe_op op_add (pv 2) (pe_fn g_l_pick hr rfl (pa_cons (pv 0) (pa_cons (pe_lst (pa_cons (pe_int) (pa_cons (pe_int) (pa_cons (pe_int) (pa_cons (pe_int) (pa_nil)))))) (pa_nil)))))))))
 (pss_one (ps_ret (pe_tup (pa_cons (pv 3) (pa_cons (pv 5) (pa_cons (pe_op op_add (pe_op op_sub (pe_ix (ix_sqK K) (pv 5) (pe_un un_neg (pe_int)) (fun _ _ => rfl)) (pe_ix (ix_sqK K) (pv 5) (pe_int) (fun _ _ => rfl))) (pe_fn g_l_take hr rfl (pa_cons (pv 0) (pa_cons (pe_int) (pa_nil))))) (pa_nil))))))))))))), ?_⟩
    -- here
    refine ⟨_, rfl, b, 7, rfl, hb, by decide, by decide, fun x0 y0 z0 d0 l0 u0 => ?_⟩
    refine ⟨_, rfl, .inr ⟨_, rfl, _, _, rfl, rfl, .inl ⟨by decide, by decide⟩, _, _, rfl, rfl, ?_⟩⟩
    obtain ⟨h0, e0, l0', u0'⟩ : ∃ h0, h0 = d0 - 4 * (if lo = true then 1 else 0) ∧ -4 ≤ h0 ∧ h0 ≤ 6 := by
      cases lo
      · exact ⟨_, rfl, by simp; omega, by simp; omega⟩
      · exact ⟨_, rfl, by simp; omega, by simp; omega⟩
    -- first = []
    refine ⟨by decide, fun p1 n1 => ?_⟩
    have bx1 : Box (upd (upd H b (bx x0 y0 z0)) p1 (.lst [])) b := ⟨_, _, _, same_new n1 _ _ upd_same⟩
    have np1 : p1 ≠ b := Box.ne ⟨_, _, _, upd_same⟩ n1
    have sb1 : SameBut b H (upd (upd H b (bx x0 y0 z0)) p1 (.lst [])) := (SameBut.upd b H _).trans (.of (same_new n1))
    have hn1 : H p1 = none := by
      rw [upd_ne np1] at n1
      exact n1
    refine ⟨fun σ Hc => ∃ (h : Int) (is : List Int) (v4 : Option V), σ = [some (.ref b), some (.bl lo), some (.int h), some (.ref p1), v4, none] ∧ SameBut b H Hc ∧ Box Hc b ∧ Hc p1 = some (.lst (is.map V.int)) ∧ is.length ≤ 3 ∧ Up is h 21, ?_, ?_⟩
    · refine ⟨_, rfl, b, 4, rfl, bx1, by decide, by decide, fun x1 y1 z1 d1 l1 u1 => ⟨d1, rfl, by omega, by omega, ?_⟩⟩
      refine for_range (fun i σ Hc => ∃ (h : Int) (is : List Int) (v4 : Option V), σ = [some (.ref b), some (.bl lo), some (.int h), some (.ref p1), v4, none] ∧ SameBut b H Hc ∧ Box Hc b ∧ Hc p1 = some (.lst (is.map V.int)) ∧ is.length = i ∧ Up is h (6 + 5 * (i : Int))) ⟨h0, [], none, by rw [e0]; rfl, sb1.trans (SameBut.upd b _ _), ⟨_, _, _, upd_same⟩, (upd_ne np1).trans upd_same, rfl, ?_⟩ ?_ ?_
      · refine ⟨List.pairwise_singleton _ _, fun v hv => ?_, by omega⟩
        rw [List.mem_singleton.mp hv]
        omega
      · rintro i σ Hc hi ⟨h, is, v4, rfl, sb, bx2, hp1, hlen, up⟩
        refine ⟨_, rfl, .inl ⟨rfl, _, .inl (.inl hp1)⟩, _, rfl, p1, _, _, rfl, rfl, hp1, ?_, ?_⟩
        · rw [List.length_map]
          exact Nat.lt_of_lt_of_le (show is.length < 1000 by omega) (by decide)
        · have bx3 : Box (upd Hc p1 (.lst (is.map V.int ++ [.int h]))) b := by
            obtain ⟨x, y, z, e⟩ := bx2
            exact ⟨x, y, z, (upd_ne (Ne.symm np1)).trans e⟩
          refine ⟨_, rfl, _, rfl, by show 4 ≤ sizeLine; decide, fun l nl => ?_⟩
          refine ⟨b, l, [.int 0, .int 1, .int 2, .int 5], rfl, bx3.ex (same_new nl), .l upd_same, Box.ne bx3 nl, by show 0 < 4; decide, by show 4 < 1000; decide, fun x y z v hv => ?_⟩
          obtain ⟨d, rfl, hd0, hd1⟩ := pick4 hv (by decide) (by decide) (by decide) (by decide)
          have hl1 : p1 ≠ l := ne_of_none upd_same nl
          refine ⟨_, _, rfl, rfl, h + d, is ++ [h], some (.int (0 + (i : Int))), rfl, ?_, ⟨_, _, _, upd_same⟩, ?_, by rw [List.length_append, hlen]; rfl, ?_⟩
          · exact ((sb.app hn1).trans (.of (same_new nl))).trans (SameBut.upd b _ _)
          · rw [upd_ne np1, upd_ne hl1, upd_same, List.map_append]
            rfl
          · have := up.next hd0 hd1
            rw [show (6 : Int) + 5 * (i : Int) + 5 = 6 + 5 * ((i + 1 : Nat) : Int) by omega] at this
            exact this
      · rintro σ Hc ⟨h, is, v4, rfl, sb, bx2, hp1, hlen, a1, a2, a3⟩
        exact ⟨h, is, v4, rfl, sb, bx2, hp1, by omega, a1, a2, by omega⟩
    rintro σ Hc ⟨h, is, v4, rfl, sb, bx2, hp1, il, ub⟩
    -- nothing ahead
    refine ⟨fun σ H2 => ∃ (pf : Addr) (n : Nat), σ = [some (.ref b), some (.bl lo), some (.int h), some (.ref pf), v4, none] ∧ SameBut b H H2 ∧ Box H2 b ∧ H pf = none ∧ pf ≠ b ∧ n ≤ 2 ∧ H2 pf = some (.lst (List.replicate n V.non ++ is.map V.int)), ?_, ?_⟩
    · refine ⟨_, rfl, b, 4, rfl, bx2, by decide, by decide, fun x y z d dl du => ⟨rfl, _, rfl, ite2 (fun c => ?_) (fun c => ?_)⟩⟩
      · have sb2 : SameBut b H (upd Hc b (bx x y z)) := sb.trans (SameBut.upd b _ _)
        refine ⟨by decide, fun l nl => ?_⟩
        have hlb : l ≠ b := Box.ne ⟨_, _, _, upd_same⟩ nl
        refine ⟨_, rfl, b, 2, rfl, ⟨_, _, _, same_new nl _ _ upd_same⟩, by decide, by decide, fun x2 y2 z2 d2 dl2 du2 => ⟨_, _, rfl, rfl, l, _, [.non], rfl, rfl, (upd_ne hlb).trans upd_same, by omega, by omega, ?_, fun l2 nl2 => ?_⟩⟩
        · show 1 * (1 + d2).toNat ≤ sizeLine
          exact Nat.le_trans (show 1 * (1 + d2).toNat ≤ 3 by omega) (by decide)
        · have er : (List.replicate (1 + d2).toNat [V.non]).flatten = List.replicate (1 + d2).toNat V.non := by
            generalize (1 + d2).toNat = k
            induction k with
            | zero => rfl
            | succ k ih => rw [List.replicate_succ, List.flatten_cons, ih]; rfl
          have hl2b : l2 ≠ b := Box.ne ⟨_, _, _, upd_same⟩ nl2
          have hp1b : (upd (upd (upd Hc b (bx x y z)) l (.lst [.non])) b (bx x2 y2 z2)) p1 = some (.lst (is.map V.int)) := by
            rw [upd_ne np1]
            refine same_new nl _ _ ?_
            rw [upd_ne np1]
            exact hp1
          refine ⟨_, rfl, l2, p1, _, _, rfl, rfl, upd_same, same_new nl2 _ _ hp1b, ?_, fun l3 nl3 => ⟨l3, (1 + d2).toNat, rfl, ?_, ?_, ?_, ?_, by omega, ?_⟩⟩
          · rw [er, List.length_replicate, List.length_map]
            exact Nat.le_trans (show (1 + d2).toNat + is.length ≤ 10 by omega) (by decide)
          · exact (((sb2.trans (.of (same_new nl))).trans (SameBut.upd b _ _)).trans (.of (same_new nl2))).trans (.of (same_new nl3))
          · exact Box.ex (same_new nl3) (Box.ex (same_new nl2) ⟨_, _, _, upd_same⟩)
          · exact SameBut.free (((sb2.trans (.of (same_new nl))).trans (SameBut.upd b _ _)).trans (.of (same_new nl2))) (Box.ne (Box.ex (same_new nl2) ⟨_, _, _, upd_same⟩) nl3) nl3
          · exact Box.ne (Box.ex (same_new nl2) ⟨_, _, _, upd_same⟩) nl3
          · rw [upd_same, er]
      · exact ⟨p1, 0, rfl, sb.trans (SameBut.upd b _ _), ⟨_, _, _, upd_same⟩, hn1, np1, by omega, by rw [upd_ne np1, hp1]; rfl⟩
    rintro σ H2 ⟨pf, n, rfl, sb2, bx4, fpf, npf, hn2, hpf⟩
    -- again = []
    refine ⟨by decide, fun p2 n2 => ?_⟩
    have np2 : p2 ≠ b := Box.ne bx4 n2
    have sb3 : SameBut b H (upd H2 p2 (.lst [])) := sb2.trans (.of (same_new n2))
    have hpf3 : (upd H2 p2 (.lst [])) pf = some (.lst (List.replicate n V.non ++ is.map V.int)) := same_new n2 _ _ hpf
    have nf2 : pf ≠ p2 := ne_of_none hpf n2
    refine ⟨fun σ H3 => ∃ (h' : Int) (ag : List Int) (v4 : Option V), σ = [some (.ref b), some (.bl lo), some (.int h'), some (.ref pf), v4, some (.ref p2)] ∧ SameBut b H H3 ∧ Box H3 b ∧ H3 pf = some (.lst (List.replicate n V.non ++ is.map V.int)) ∧ H3 p2 = some (.lst (ag.map V.int)) ∧ 1 ≤ ag.length ∧ ag.length ≤ 3 ∧ Up (is ++ ag) h' 33, ?_, ?_⟩
    · refine ⟨_, rfl, b, 3, rfl, bx4.ex (same_new n2), by decide, by decide, fun x1 y1 z1 d1 l1 u1 => ⟨_, _, rfl, rfl, 1 + d1, rfl, by omega, by omega, ?_⟩⟩
      refine for_range (fun i σ Hc => ∃ (h' : Int) (ag : List Int) (v4 : Option V), σ = [some (.ref b), some (.bl lo), some (.int h'), some (.ref pf), v4, some (.ref p2)] ∧ SameBut b H Hc ∧ SameBut b H2 Hc ∧ Box Hc b ∧ Hc p2 = some (.lst (ag.map V.int)) ∧ ag.length = i ∧ Up (is ++ ag) h' (21 + 4 * (i : Int))) ⟨h, [], v4, rfl, sb3.trans (SameBut.upd b _ _), SameBut.trans (.of (same_new n2)) (SameBut.upd b _ _), ⟨_, _, _, upd_same⟩, (upd_ne np2).trans upd_same, rfl, by rw [List.append_nil]; exact ub⟩ ?_ ?_
      · rintro i σ Hc hi ⟨h', ag, v4, rfl, sb, sbb, bx5, hp2, hlen, up⟩
        refine ⟨_, rfl, .inl ⟨rfl, _, .inl (.inl hp2)⟩, _, rfl, p2, _, _, rfl, rfl, hp2, ?_, ?_⟩
        · rw [List.length_map]
          exact Nat.lt_of_lt_of_le (show ag.length < 1000 by omega) (by decide)
        · have bx3 : Box (upd Hc p2 (.lst (ag.map V.int ++ [.int h']))) b := by
            obtain ⟨x, y, z, e⟩ := bx5
            exact ⟨x, y, z, (upd_ne (Ne.symm np2)).trans e⟩
          refine ⟨_, rfl, _, rfl, by show 4 ≤ sizeLine; decide, fun l nl => ?_⟩
          refine ⟨b, l, [.int 0, .int 1, .int 2, .int 4], rfl, bx3.ex (same_new nl), .l upd_same, Box.ne bx3 nl, by show 0 < 4; decide, by show 4 < 1000; decide, fun x y z v hv => ?_⟩
          obtain ⟨d, rfl, hd0, hd1⟩ := pick4 hv (by decide) (by decide) (by decide) (by decide)
          have hl1 : p2 ≠ l := ne_of_none upd_same nl
          refine ⟨_, _, rfl, rfl, h' + d, ag ++ [h'], some (.int (0 + (i : Int))), rfl, ?_, ?_, ⟨_, _, _, upd_same⟩, ?_, by rw [List.length_append, hlen]; rfl, ?_⟩
          · refine (SameBut.trans ?_ (.of (same_new nl))).trans (SameBut.upd b _ _)
            refine fun a o na ha => ?_
            rw [upd_ne (ne_of_none (sb2 a o na ha) n2)]
            exact sb a o na ha
          · exact ((sbb.app n2).trans (.of (same_new nl))).trans (SameBut.upd b _ _)
          · rw [upd_ne np2, upd_ne hl1, upd_same, List.map_append]
            rfl
          · have := up.next hd0 hd1
            rw [show (21 : Int) + 4 * (i : Int) + 4 = 21 + 4 * ((i + 1 : Nat) : Int) by omega, List.append_assoc] at this
            exact this
      · rintro σ Hc ⟨h', ag, v4, rfl, sb, sbb, bx5, hp2, hlen, up⟩
        obtain ⟨a1, a2, a3⟩ := up
        exact ⟨h', ag, v4, rfl, sb, bx5, sbb _ _ npf hpf, hp2, by omega, by omega, a1, a2, by omega⟩
    rintro σ H3 ⟨h', ag, v4, rfl, sb4, bx6, hpf4, hp24, al1, al3, up⟩
    -- the end
    have at0 : atI (ag.map V.int) 0 = some (.int (ag.getD 0 0)) := ints_at (i := 0) (by omega)
    have atL := ints_last (ag := ag) (by omega)
    refine ⟨_, rfl, _, rfl, _, rfl, 1, rfl, p2, _, _, _, rfl, rfl, .l hp24, atL, _, rfl, p2, _, _, _, rfl, rfl, .l hp24, at0, _, _, rfl, rfl, _, rfl, b, 5, rfl, bx6, by decide, by decide, fun x y z d dl du => ⟨_, _, rfl, rfl, by show 3 ≤ sizeLine; decide, fun p np => ?_⟩⟩
    have nb : p ≠ b := Box.ne ⟨_, _, _, upd_same⟩ np
    refine q p _ (List.replicate n V.non ++ is.map V.int) ag (lastI ag - ag.getD 0 0 + d) ?_ ((sb4.trans (SameBut.upd b _ _)).trans (.of (same_new np))) (Box.ex (same_new np) ⟨_, _, _, upd_same⟩) ⟨pf, p2, upd_same, same_new np _ _ ((upd_ne npf).trans hpf4), same_new np _ _ ((upd_ne np2).trans hp24), nb, npf, np2, SameBut.free (sb4.trans (SameBut.upd b _ _)) nb np, fpf, SameBut.free sb2 np2 n2⟩
    have hle := up.le
    obtain ⟨u1, u2, u3⟩ := up
    have bd : ∀ v ∈ is ++ ag, -4 ≤ v ∧ v ≤ 40 := fun v hv => ⟨u2 v (List.mem_append_left _ hv), by have := hle v hv; omega⟩
    have mem : ∀ i, i < ag.length → ag.getD i 0 ∈ is ++ ag := fun i hi => by
      rw [List.getD_eq_getElem?_getD, List.getElem?_eq_getElem hi]
      exact List.mem_append_right _ (List.getElem_mem hi)
    have b0 := bd _ (mem 0 (by omega))
    have bL := bd _ (mem (ag.length - 1) (by omega))
    refine ⟨⟨n, is, rfl, hn2, il, ?_, bd⟩, al1, al3, by omega, ?_⟩
    · rw [List.pairwise_append] at u1
      exact u1.1
    · have : lastI ag = ag.getD (ag.length - 1) 0 := rfl
      omega
theorem ok_row (F : FnP K "_law_row" s_l_row f fd) (m_int : mg "int" = none) (m_range : mg "range" = none) (g_l_take : FnAt P w K mg base CX0 1 "_law_take" ["_law_box_here", "_law_many"] spTake) (g_l_pick : FnAt P w K mg base CX0 2 "_law_pick" ["_law_box_here", "_law_some"] (spPick K)) :
    FnOk P w K mg base CX0 3 f fd ["_law_box_here", "_law_is_low"] spRow :=
  (ok_rowF F m_int m_range g_l_take g_l_pick).imp fun vs H Q E h => by
    obtain ⟨b, lo, e, hb, q⟩ := h
    refine ⟨b, lo, e, hb, fun p H' fs ag m d sb bx h => ?_⟩
    obtain ⟨p1, p2, h1, h2, h3, n1, n2, n3, _⟩ := h
    exact q p H' fs ag m d sb bx ⟨p1, p2, h1, h2, h3, n1, n2, n3⟩
end
end WW

set_option Elab.async false
set_option linter.all false
set_option maxRecDepth 100000
set_option maxHeartbeats 4000000
namespace WW
open PySem PySem.Spec PyProof.Rows L2
/-- the n-th time of a told row -/
def seqT (fs : List V) (ag : List Int) (m : Int) (n : Nat) : V :=
  if n < fs.length then fs.getD n .non else .int (ag.getD ((n - fs.length) % ag.length) 0 + ((n - fs.length) / ag.length : Nat) * m)
section
variable {P : Program} {w : World} {K : PySem.W.Frag} {mg : Str → Option Value} {base : Heap} {f : Addr} {fd : FuncData}
def spTime (K : PySem.W.Frag) : Sp := fun vs H Q _ => ∃ (p p1 p2 : Addr) (fs : List V) (ag : List Int) (m : Int) (n : Nat), vs = [.ref p, .int (n : Int)] ∧ H p = some (.tup [.ref p1, .ref p2, .int m]) ∧ H p1 = some (.lst fs) ∧ H p2 = some (.lst (ag.map V.int)) ∧ 0 < ag.length ∧ ag.length < 1000 ∧ -1000 < m ∧ m < 1000 ∧ Q (seqT fs ag m n) H
abbrev s_l_time : Stmt := top 48
abbrev N_l_time : List Str := ["_law_told", "_law_n", "_law_first", "_law_again", "_law_more", "_law_thing"]
theorem sc_l_time : FnScope N_l_time ["_law_told", "_law_n"] (defScope s_l_time) := ⟨rfl, rfl, rfl, by decide +kernel, rfl, by decide +kernel, by decide +kernel⟩

theorem ok_time (F : FnP K "_law_time" s_l_time f fd) (m_len : mg "len" = none) : FnOk P w K mg base CX0 1 f fd ["_law_told", "_law_n"] (spTime K) := by
  refine F.ok sc_l_time (fun vs H Q E h => ?_) (fun cdv A outer s H vs Q E hr h => ?_)
  · obtain ⟨p, p1, p2, fs, ag, m, n, rfl, _⟩ := h
    rfl
  · obtain ⟨p, p1, p2, fs, ag, m, n, rfl, hp, h1, h2, l0, l1, b0, b1, q⟩ := h
    refine ⟨_, PSs.nox (pss_cons (ps_asg (pv 0) (pg_tupK K rfl (pgs_cons (pg_name (i := 2) sc_l_time.nd rfl (.inl rfl)) (pgs_cons (pg_name (i := 3) sc_l_time.nd rfl (.inl rfl)) (pgs_cons (pg_name (i := 4) sc_l_time.nd rfl (.inl rfl)) (pgs_nil))))))
 (pss_cons (ps_if (pt_cmpR op_lt (pv 1) (pe_callB (call_lenK K) rfl m_len (by decide +kernel) (pa_cons (pv 2) (pa_nil))) (nomark _)) (pss_one (ps_ret (pe_ix (ix_sqK K) (pv 2) (pv 1) (fun _ _ => rfl)))) (pss_nil))
 (pss_cons (ps_set (i := 5) sc_l_time.nd rfl (.inl rfl) (pe_ix (ix_sqK K) (pv 3) (pe_op op_mod (pe_op op_sub (pv 1) (pe_callB (call_lenK K) rfl m_len (by decide +kernel) (pa_cons (pv 2) (pa_nil)))) (pe_callB (call_lenK K) rfl m_len (by decide +kernel) (pa_cons (pv 3) (pa_nil)))) (fun _ _ => rfl)))
 (pss_one (ps_ret (pe_ifExp (pt_cmpR op_isN (pv 5) (pe_non) (nomark _)) (pe_non) (pe_op op_add (pv 5) (pe_op op_mul (pe_op op_fdiv (pe_op op_sub (pv 1) (pe_callB (call_lenK K) rfl m_len (by decide +kernel) (pa_cons (pv 2) (pa_nil)))) (pe_callB (call_lenK K) rfl m_len (by decide +kernel) (pa_cons (pv 3) (pa_nil)))) (pv 4))))))))), ?_⟩
    refine ⟨_, rfl, p, _, rfl, .inl (.inl hp), rfl, _, _, rfl, _, _, rfl, _, _, rfl, rfl, ?_⟩
    refine ⟨_, rfl, _, rfl, p1, fs, rfl, .l h1, _, _, rfl, rfl, _, rfl, ?_⟩
    have hlen : ((ag.map V.int).length : Int) = (ag.length : Int) := by rw [List.length_map]
    unfold seqT at q
    by_cases hn : n < fs.length
    · rw [decide_eq_true (by omega)]
      rw [if_pos hn] at q
      exact ⟨_, rfl, _, rfl, p1, fs, _, _, rfl, rfl, .l h1, getD_at hn, q⟩
    · rw [decide_eq_false (by omega)]
      rw [if_neg hn] at q
      have e0 : ((n : Int) - (fs.length : Int)) % ((ag.map V.int).length : Int) = (((n - fs.length) % ag.length : Nat) : Int) := by
        rw [hlen, show (n : Int) - (fs.length : Int) = ((n - fs.length : Nat) : Int) by omega]
        rfl
      have e1 : ((n : Int) - (fs.length : Int)) / ((ag.map V.int).length : Int) = (((n - fs.length) / ag.length : Nat) : Int) := by
        rw [hlen, show (n : Int) - (fs.length : Int) = ((n - fs.length : Nat) : Int) by omega]
        rfl
      refine ⟨_, rfl, _, rfl, _, rfl, p1, fs, rfl, .l h1, _, _, rfl, rfl, _, rfl, p2, _, rfl, .l h2, _, _, rfl, rfl, by rw [hlen]; omega, p2, _, _, .int (ag.getD ((n - fs.length) % ag.length) 0), rfl, rfl, .l h2, ?_, ?_⟩
      · rw [e0]
        exact ints_at (Nat.mod_lt _ l0)
      · refine ⟨_, rfl, rfl, _, rfl, ?_⟩
        refine ⟨_, rfl, _, rfl, _, rfl, p1, fs, rfl, .l h1, _, _, rfl, rfl, _, rfl, p2, _, rfl, .l h2, _, _, rfl, rfl, ⟨by rw [hlen]; omega, by rw [hlen]; omega⟩, _, rfl, _, _, rfl, rfl, .inr ⟨by omega, by omega⟩, _, _, rfl, rfl, ?_⟩
        rw [e1]
        exact q
def spTimes (K : PySem.W.Frag) : Sp := fun vs H Q _ => ∃ (p p1 p2 : Addr) (fs : List V) (ag : List Int) (m : Int) (n : Nat), vs = [.ref p, .int (n : Int)] ∧ H p = some (.tup [.ref p1, .ref p2, .int m]) ∧ H p1 = some (.lst fs) ∧ H p2 = some (.lst (ag.map V.int)) ∧ 0 < ag.length ∧ ag.length < 1000 ∧ -1000 < m ∧ m < 1000 ∧ n ≤ 1000 ∧
  ∀ D H', Same H H' → H D = none → H' D = some (.lst ((List.range n).map (seqT fs ag m))) → Q (.ref D) H'
abbrev s_l_times : Stmt := top 49
abbrev N_l_times : List Str := ["_law_told", "_law_many", "_law_n"]
theorem sc_l_times : FnScope N_l_times ["_law_told", "_law_many"] (defScope s_l_times) := ⟨rfl, rfl, rfl, by decide +kernel, rfl, by decide +kernel, by decide +kernel⟩

theorem ok_times (F : FnP K "_law_times" s_l_times f fd) (m_range : mg "range" = none) (g_l_time : FnAt P w K mg base CX0 1 "_law_time" ["_law_told", "_law_n"] (spTime K)) : FnOk P w K mg base CX0 2 f fd ["_law_told", "_law_many"] (spTimes K) := by
  refine F.ok sc_l_times (fun vs H Q E h => ?_) (fun cdv A outer s H vs Q E hr h => ?_)
  · obtain ⟨p, p1, p2, fs, ag, m, n, rfl, _⟩ := h
    rfl
  · obtain ⟨p, p1, p2, fs, ag, m, n, rfl, hp, h1, h2, l0, l1, b0, b1, hn, q⟩ := h
    refine ⟨_, PSs.nox (pss_one (ps_ret (pe_lc (own := [("_law_n", 2)]) rfl sc_l_times.nd (pi_range1 rfl m_range (pa_cons (pv 1) (pa_nil))) (blkOk_by (N := N_l_times) (sc := defScope s_l_times) (by decide +kernel)) (fun _ _ _ _ _ => pg_name (i := 2) sc_l_times.nd rfl (.inl rfl)) (fun _ _ _ _ _ => pts_nil) (fun _ _ _ _ _ => pe_fn g_l_time hr rfl (pa_cons (pv 0) (pa_cons (pv 2) (pa_nil))))))), ?_⟩
    refine ⟨_, rfl, _, rfl, by omega, by omega, fun D hD => ?_⟩
    rw [Int.toNat_natCast]
    refine lc_rg (seqT fs ag m) (by omega) hD (fun i hi H1 s1 R r => ?_) fun H1 s1 hD1 => q D H1 s1 hD hD1
    refine ⟨_, rfl, _, rfl, p, p1, p2, fs, ag, m, i, ?_, s1 _ _ hp, s1 _ _ h1, s1 _ _ h2, l0, l1, b0, b1, r H1 (Same.refl H1)⟩
    rw [show (0 : Int) + (i : Int) = (i : Int) by omega]
    rfl
def spMade (K : PySem.W.Frag) (C : Addr) : Sp := fun vs H Q _ => ∃ (p p1 p2 : Addr) (fs : List V) (ag : List Int) (m : Int), vs = [.ref p] ∧ H p = some (.tup [.ref p1, .ref p2, .int m]) ∧ H p1 = some (.lst fs) ∧ H p2 = some (.lst (ag.map V.int)) ∧ fs.length ≤ 20000 ∧ ag.length ≤ 20000 ∧ (∀ y ∈ fs, isThingV y = true) ∧ wrongW (some fs) (some (ag.map V.int)) (.int m) = .non ∧
  ∀ x H', Same H H' → RowAt C H' x (leastV fs (ag.map V.int) m).1 (leastV fs (ag.map V.int) m).2.1 (leastV fs (ag.map V.int) m).2.2 → Q (.ref x) H'
theorem hasT_thing {H : Hp} {y : V} (h : isThingV y = true) : HasT K H y false := by
  cases y with
  | non => exact hasT_non
  | int i => exact hasT_int i
  | _ => cases h
/-- what stands behind a made row -/
theorem made_row {C x dx : Addr} {H H' : Hp} {fs ys : List V} {m : Int} (nx : H x = none) (ndx : H dx = none) (hn : dx ≠ x) (sb : SameBut x (upd (upd H dx (.own x)) x (.ins C dx [])) H') : Same H H' := fun a o ha => by
  have n1 : a ≠ x := ne_of_none ha nx
  have n2 : a ≠ dx := ne_of_none ha ndx
  refine sb a o n1 ?_
  rw [upd_ne n1, upd_ne n2]
  exact ha
abbrev s_l_made : Stmt := top 50
abbrev N_l_made : List Str := ["_law_told"]
theorem sc_l_made : FnScope N_l_made ["_law_told"] (defScope s_l_made) := ⟨rfl, rfl, rfl, by decide +kernel, rfl, by decide +kernel, by decide +kernel⟩

theorem ok_made (F : FnP K "_law_made" s_l_made f fd) (g_Row : MkAt P w K mg base CX0 4 "Row" ["self", "first", "again", "more"] (spInit K (He.ga K "Row")) []) : FnOk P w K mg base CX0 6 f fd ["_law_told"] (spMade K (He.ga K "Row")) := by
  refine F.ok sc_l_made (fun vs H Q E h => ?_) (fun cdv A outer s H vs Q E hr h => ?_)
  · obtain ⟨p, p1, p2, fs, ag, m, rfl, _⟩ := h
    rfl
  · obtain ⟨p, p1, p2, fs, ag, m, rfl, hp, h1, h2, l0, l1, ht, hw, q⟩ := h
    refine ⟨_, PSs.nox (pss_one (ps_ret (pe_mkr g_Row hr rfl (pa_cons (pe_ix (ix_sqK K) (pv 0) (pe_int) (fun _ _ => rfl)) (pa_cons (pe_ix (ix_sqK K) (pv 0) (pe_int) (fun _ _ => rfl)) (pa_cons (pe_ix (ix_sqK K) (pv 0) (pe_int) (fun _ _ => rfl)) (pa_nil))))))), ?_⟩
    refine ⟨_, rfl, p, _, _, _, rfl, rfl, .t hp, rfl, _, rfl, p, _, _, _, rfl, rfl, .t hp, rfl, _, rfl, p, _, _, _, rfl, rfl, .t hp, rfl, fun x dx nx ndx hn => ?_⟩
    have s1 : Same H (upd (upd H dx (.own x)) x (.ins (He.ga K "Row") dx [])) := (same_new ndx).trans (same_new ((upd_ne (Ne.symm hn)).trans nx))
    refine ⟨x, dx, .ref p1, .ref p2, fs, ag.map V.int, m, rfl, upd_same, ⟨p1, rfl, .l (s1 _ _ h1), l0, fun y hy => ⟨false, hasT_thing (ht y hy)⟩⟩, ⟨p2, rfl, .l (s1 _ _ h2), by rw [List.length_map]; exact l1, fun y hy => ?_⟩, hw, fun H' sb hr => ⟨rfl, q x H' (made_row (fs := []) (ys := []) (m := 0) nx ndx hn sb) hr⟩⟩
    obtain ⟨i, _, rfl⟩ := List.mem_map.mp hy
    exact ⟨false, hasT_int i⟩
end
end WW

set_option Elab.async false
set_option linter.all false
set_option maxRecDepth 100000
set_option maxHeartbeats 4000000
namespace WW
open PySem L2
/-! ### a row whose turn is shorter -/
/-- the times that come again, without end -/
def ext (ag : List Int) (m : Int) (k : Nat) : Int := ag.getD (k % ag.length) 0 + ((k / ag.length : Nat) : Int) * m
theorem seqT_ge {fs : List V} {ag : List Int} {m : Int} {n : Nat} (h : ¬ n < fs.length) : seqT fs ag m n = .int (ext ag m (n - fs.length)) := by
  unfold seqT
  rw [if_neg h]
  rfl
theorem ext_add {ag : List Int} {m : Int} (h : 0 < ag.length) (k q : Nat) : ext ag m (k + ag.length * q) = ext ag m k + (q : Int) * m := by
  unfold ext
  rw [Nat.add_mul_mod_self_left, Nat.add_mul_div_left _ _ h, Int.natCast_add, Int.add_mul, Int.add_assoc]
theorem ext_lt {ag : List Int} {m : Int} {k : Nat} (h : k < ag.length) : ext ag m k = ag.getD k 0 := by
  unfold ext
  rw [Nat.mod_eq_of_lt h, Nat.div_eq_of_lt h]
  simp
theorem wide_ext {ag : List Int} {m : Int} {t i : Nat} (ht : t ≤ ag.length) (h : i < ag.length + t) (h0 : 0 < ag.length) : (wide ag m t).getD i 0 = ext ag m i := by
  unfold wide
  rw [List.getD_eq_getElem?_getD]
  by_cases c : i < ag.length
  · rw [List.getElem?_append_left c, ext_lt c, List.getD_eq_getElem?_getD]
  · rw [List.getElem?_append_right (by omega), List.getElem?_map, List.getElem?_take, if_pos (by omega)]
    have e : i = (i - ag.length) + ag.length * 1 := by omega
    have e2 : ext ag m i = ag.getD (i - ag.length) 0 + m := by
      rw [e, ext_add h0, ext_lt (by omega)]
      simp
    rw [e2, List.getElem?_eq_getElem (by omega), List.getD_eq_getElem?_getD, List.getElem?_eq_getElem (by omega)]
    rfl
theorem isTurn_split {ag : List Int} {m : Int} {t : Nat} (h : isTurn ag m t = true) : (ag.length : Int) % (t : Int) = 0 ∧ m * (t : Int) % (ag.length : Int) = 0 ∧ ∀ i, i < ag.length → (wide ag m t).getD (i + t) 0 - (wide ag m t).getD i 0 = m * (t : Int) / (ag.length : Int) := by
  unfold isTurn at h
  by_cases c : (ag.length : Int) % (t : Int) ≠ 0 ∨ m * (t : Int) % (ag.length : Int) ≠ 0
  · rw [if_pos c] at h
    cases h
  · rw [if_neg c] at h
    rw [not_or] at c
    refine ⟨Decidable.not_not.mp c.1, Decidable.not_not.mp c.2, fun i hi => ?_⟩
    exact of_decide_eq_true (List.all_eq_true.mp h i (List.mem_range.mpr hi))
theorem ext_turn {ag : List Int} {m : Int} {t : Nat} (h0 : 0 < ag.length) (ht : t ≤ ag.length) (h : isTurn ag m t = true) (k : Nat) : ext ag m (k + t) = ext ag m k + m * (t : Int) / (ag.length : Int) := by
  obtain ⟨_, _, h3⟩ := isTurn_split h
  have e : k = k % ag.length + ag.length * (k / ag.length) := (Nat.mod_add_div k ag.length).symm
  have hlt := Nat.mod_lt k h0
  have q := h3 (k % ag.length) hlt
  rw [wide_ext ht (by omega) h0, wide_ext ht (by omega) h0] at q
  rw [e, show k % ag.length + ag.length * (k / ag.length) + t = k % ag.length + t + ag.length * (k / ag.length) by omega, ext_add h0, ext_add h0]
  omega
theorem ext_turns {ag : List Int} {m : Int} {t : Nat} (h0 : 0 < ag.length) (ht : t ≤ ag.length) (h : isTurn ag m t = true) (k q : Nat) : ext ag m (k + t * q) = ext ag m k + (q : Int) * (m * (t : Int) / (ag.length : Int)) := by
  induction q with
  | zero => simp
  | succ q ih =>
    rw [show k + t * (q + 1) = k + t * q + t by rw [Nat.mul_succ]; omega, ext_turn h0 ht h, ih, Int.natCast_add, Int.add_mul, Int.add_assoc]
    simp
theorem turn_keeps {fs : List V} {ag : List Int} {m : Int} {t : Nat} (h0 : 0 < ag.length) (t0 : 0 < t) (ht : t ≤ ag.length) (h : isTurn ag m t = true) (n : Nat) : seqT fs (ag.take t) (m * (t : Int) / (ag.length : Int)) n = seqT fs ag m n := by
  by_cases c : n < fs.length
  · unfold seqT
    rw [if_pos c, if_pos c]
  · rw [seqT_ge c, seqT_ge c]
    congr 1
    generalize n - fs.length = k
    have lt : (ag.take t).length = t := by rw [List.length_take]; omega
    have e : k = k % t + t * (k / t) := (Nat.mod_add_div k t).symm
    have hlt := Nat.mod_lt k t0
    have e2 : ext ag m k = ext ag m (k % t) + ((k / t : Nat) : Int) * (m * (t : Int) / (ag.length : Int)) := by
      rw [← ext_turns h0 ht h]
      rw [← e]
    rw [e2, ext_lt (ag := ag) (show k % t < ag.length by omega)]
    unfold ext
    rw [lt]
    congr 1
    rw [List.getD_eq_getElem?_getD, List.getD_eq_getElem?_getD, List.getElem?_take, if_pos hlt]
/-! ### a beginning that is shorter -/
theorem lastI_eq {ag : List Int} (h : ag ≠ []) : lastI ag = ag.getLast h := by
  unfold lastI
  have : 0 < ag.length := List.length_pos_iff.mpr h
  rw [List.getD_eq_getElem?_getD, List.getElem?_eq_getElem (by omega), List.getLast_eq_getElem]
  rfl
theorem pop_keeps {r : List V} {x m : Int} {ag : List Int} (h0 : 0 < ag.length) (hx : x + m = lastI ag) (n : Nat) : seqT r (x :: ag.dropLast) m n = seqT (r ++ [V.int x]) ag m n := by
  have hl : (x :: ag.dropLast).length = ag.length := by rw [List.length_cons, List.length_dropLast]; omega
  by_cases c : n < r.length
  · unfold seqT
    rw [if_pos c, if_pos (by rw [List.length_append]; simp; omega)]
    simp only [List.getD_eq_getElem?_getD]
    rw [List.getElem?_append_left c]
  · rw [seqT_ge c]
    by_cases c1 : n = r.length
    · subst c1
      unfold seqT
      rw [if_pos (by rw [List.length_append]; simp), Nat.sub_self, ext_lt (by rw [hl]; exact h0)]
      simp
    · have c2 : ¬ n < (r ++ [V.int x]).length := by rw [List.length_append]; simp; omega
      rw [seqT_ge c2]
      congr 1
      have e : n - r.length = (n - (r ++ [V.int x]).length) + 1 := by rw [List.length_append]; simp; omega
      rw [e]
      generalize n - (r ++ [V.int x]).length = k
      unfold ext
      rw [hl]
      have hlt := Nat.mod_lt k h0
      by_cases c3 : k % ag.length + 1 = ag.length
      · have e1 : (k + 1) % ag.length = 0 := by rw [← Nat.mod_add_mod, c3, Nat.mod_self]
        have e2 : (k + 1) / ag.length = k / ag.length + 1 := by
          have d := Nat.div_add_mod k ag.length
          have : k + 1 = ag.length * (k / ag.length + 1) := by rw [Nat.mul_add, Nat.mul_one]; omega
          rw [this, Nat.mul_div_cancel_left _ h0]
        rw [e1, e2, show k % ag.length = ag.length - 1 by omega]
        have : ag.getD (ag.length - 1) 0 = lastI ag := rfl
        rw [this, ← hx, Int.natCast_add, Int.add_mul]
        simp
        omega
      · have e1 : (k + 1) % ag.length = k % ag.length + 1 := by rw [← Nat.mod_add_mod, Nat.mod_eq_of_lt (by omega)]
        have e2 : (k + 1) / ag.length = k / ag.length := by
          have d := Nat.div_add_mod k ag.length
          have : k + 1 = (k % ag.length + 1) + ag.length * (k / ag.length) := by omega
          rw [this, Nat.add_mul_div_left _ _ h0, Nat.div_eq_of_lt (by omega), Nat.zero_add]
        rw [e1, e2]
        congr 1
        rw [List.getD_eq_getElem?_getD, List.getElem?_cons_succ, List.getElem?_dropLast, if_pos (by omega), List.getD_eq_getElem?_getD]
theorem shrink_keeps {m : Int} : ∀ (rf : List V) (ag : List Int), 0 < ag.length → (∀ n, seqT (shrinkR m rf ag).1.reverse (shrinkR m rf ag).2 m n = seqT rf.reverse ag m n) ∧ (shrinkR m rf ag).2.length = ag.length ∧ (∀ y ∈ (shrinkR m rf ag).1, y ∈ rf) ∧ (shrinkR m rf ag).1.length ≤ rf.length
  | [], ag, h => ⟨fun _ => rfl, rfl, fun _ h => h, Nat.le_refl _⟩
  | .int x :: r, ag, h => by
    by_cases c : x + m = lastI ag
    · rw [shrink_go c]
      have hl : (x :: ag.dropLast).length = ag.length := by rw [List.length_cons, List.length_dropLast]; omega
      obtain ⟨i1, i2, i3, i4⟩ := shrink_keeps r (x :: ag.dropLast) (by rw [hl]; exact h)
      refine ⟨fun n => ?_, i2.trans hl, fun y hy => List.mem_cons_of_mem _ (i3 y hy), Nat.le_succ_of_le i4⟩
      rw [i1, List.reverse_cons]
      exact pop_keeps h c n
    · rw [shrink_no c]
      exact ⟨fun _ => rfl, rfl, fun _ h => h, Nat.le_refl _⟩
  | .non :: r, ag, h => ⟨fun _ => rfl, rfl, fun _ h => h, Nat.le_refl _⟩
  | .bl _ :: r, ag, h => ⟨fun _ => rfl, rfl, fun _ h => h, Nat.le_refl _⟩
  | .str _ :: r, ag, h => ⟨fun _ => rfl, rfl, fun _ h => h, Nat.le_refl _⟩
  | .byt _ :: r, ag, h => ⟨fun _ => rfl, rfl, fun _ h => h, Nat.le_refl _⟩
  | .flt _ :: r, ag, h => ⟨fun _ => rfl, rfl, fun _ h => h, Nat.le_refl _⟩
  | .ref _ :: r, ag, h => ⟨fun _ => rfl, rfl, fun _ h => h, Nat.le_refl _⟩
  | .ty _ :: r, ag, h => ⟨fun _ => rfl, rfl, fun _ h => h, Nat.le_refl _⟩
/-- the least form: all times stay -/
theorem least_keeps {fs : List V} {ag : List Int} {m : Int} (h : 0 < ag.length) : (∀ n, seqT (leastF fs ag m).1 (leastF fs ag m).2.1 (leastF fs ag m).2.2 n = seqT fs ag m n) ∧ (leastF fs ag m).2.1.length = turnOf ag m ∧ (∀ y ∈ (leastF fs ag m).1, y ∈ fs) ∧ (leastF fs ag m).1.length ≤ fs.length := by
  have t0 := turnOf_pos ag m
  have tl := turnOf_le (m := m) h
  have ti := turnOf_is (m := m) h
  have lt : (ag.take (turnOf ag m)).length = turnOf ag m := by rw [List.length_take]; omega
  obtain ⟨i1, i2, i3, i4⟩ := shrink_keeps (m := m * (turnOf ag m : Int) / (ag.length : Int)) fs.reverse (ag.take (turnOf ag m)) (by rw [lt]; exact t0)
  refine ⟨fun n => ?_, ?_, fun y hy => ?_, ?_⟩
  · show seqT (shrinkR _ fs.reverse (ag.take (turnOf ag m))).1.reverse (shrinkR _ fs.reverse (ag.take (turnOf ag m))).2 (m * (turnOf ag m : Int) / (ag.length : Int)) n = _
    rw [i1, List.reverse_reverse]
    exact turn_keeps h t0 tl ti n
  · show (shrinkR _ fs.reverse (ag.take (turnOf ag m))).2.length = _
    rw [i2, lt]
  · have hy : y ∈ (shrinkR (m * (turnOf ag m : Int) / (ag.length : Int)) fs.reverse (ag.take (turnOf ag m))).1.reverse := hy
    rw [List.mem_reverse] at hy
    have := i3 y hy
    rw [List.mem_reverse] at this
    exact this
  · show (shrinkR (m * (turnOf ag m : Int) / (ag.length : Int)) fs.reverse (ag.take (turnOf ag m))).1.reverse.length ≤ _
    rw [List.length_reverse]
    rw [List.length_reverse] at i4
    exact i4
end WW

set_option Elab.async false
set_option linter.all false
set_option maxRecDepth 100000
set_option maxHeartbeats 4000000
namespace WW
open PySem L2
/-! ### the least form is told by the times alone -/
/-- from b on: t later is c more -/
def Lin (T : Nat → V) (b t : Nat) (c : Int) : Prop := ∀ n, b ≤ n → ∃ x, T n = .int x ∧ T (n + t) = .int (x + c)
structure Least (T : Nat → V) (b t : Nat) (c : Int) : Prop where
  t0 : 0 < t
  lin : Lin T b t c
  min : ∀ b' t' c', 0 < t' → Lin T b' t' c' → t ≤ t'
  stop : b = 0 ∨ T (b - 1) = .non ∨ ∃ x y, T (b - 1) = .int x ∧ T (b - 1 + t) = .int y ∧ y ≠ x + c
theorem V.int_inj {x y : Int} (h : V.int x = V.int y) : x = y := by
  injection h
theorem Lin.growth {T : Nat → V} {b b' t : Nat} {c c' : Int} (h : Lin T b t c) (h' : Lin T b' t c') : c = c' := by
  obtain ⟨x, e1, e2⟩ := h (max b b') (Nat.le_max_left _ _)
  obtain ⟨y, f1, f2⟩ := h' (max b b') (Nat.le_max_right _ _)
  have k1 := V.int_inj (e1.symm.trans f1)
  have k2 := V.int_inj (e2.symm.trans f2)
  omega
theorem Least.begin {T : Nat → V} {b b' t : Nat} {c : Int} (h : Lin T b t c) (k : Least T b' t c) : b' ≤ b := by
  rcases Nat.lt_or_ge b b' with l | l
  · exfalso
    obtain ⟨x, e1, e2⟩ := h (b' - 1) (by omega)
    rcases k.stop with z | z | ⟨u, v, z1, z2, z3⟩
    · omega
    · rw [e1] at z
      cases z
    · rw [e1] at z1
      rw [e2] at z2
      have k1 := V.int_inj z1
      have k2 := V.int_inj z2
      omega
  · exact l
theorem Least.uniq {T : Nat → V} {b b' t t' : Nat} {c c' : Int} (h : Least T b t c) (k : Least T b' t' c') : b = b' ∧ t = t' ∧ c = c' := by
  have e : t = t' := Nat.le_antisymm (h.min _ _ _ k.t0 k.lin) (k.min _ _ _ h.t0 h.lin)
  subst e
  have e : c = c' := h.lin.growth k.lin
  subst e
  exact ⟨Nat.le_antisymm (Least.begin k.lin h) (Least.begin h.lin k), rfl, rfl⟩
theorem Lin.sub {T : Nat → V} {b b' s t : Nat} {c d : Int} (h : Lin T b s c) (k : Lin T b' t d) (l : t ≤ s) : Lin T (max b b') (s - t) (c - d) := fun n hn => by
  obtain ⟨x, e1, e2⟩ := h n (by omega)
  obtain ⟨y, f1, f2⟩ := k (n + (s - t)) (by omega)
  rw [show n + (s - t) + t = n + s by omega, e2] at f2
  have := V.int_inj f2
  refine ⟨x, e1, ?_⟩
  rw [f1]
  congr 1
  omega
/-- the least turn divides every turn -/
theorem lin_dvd {T : Nat → V} {t : Nat} (t0 : 0 < t) {b : Nat} {c : Int} (h : Lin T b t c) (mn : ∀ b' t' c', 0 < t' → Lin T b' t' c' → t ≤ t') : ∀ (s b' : Nat) (d : Int), Lin T b' s d → ∃ q : Nat, s = t * q ∧ d = (q : Int) * c := by
  intro s
  induction s using Nat.strongRecOn with
  | _ s ih =>
    intro b' d k
    by_cases z : s = 0
    · subst z
      obtain ⟨x, e1, e2⟩ := k b' (Nat.le_refl _)
      rw [Nat.add_zero, e1] at e2
      have := V.int_inj e2
      exact ⟨0, rfl, by simp; omega⟩
    · have l := mn _ _ _ (by omega) k
      obtain ⟨q, e1, e2⟩ := ih (s - t) (by omega) _ _ (k.sub h l)
      refine ⟨q + 1, by rw [Nat.mul_succ]; omega, ?_⟩
      rw [Int.natCast_add, Int.add_mul]
      simp
      omega
theorem Lin.times {T : Nat → V} {b t : Nat} {c : Int} (h : Lin T b t c) (n : Nat) (hn : b ≤ n) (q : Nat) : ∃ x, T n = .int x ∧ T (n + t * q) = .int (x + (q : Int) * c) := by
  induction q with
  | zero =>
    obtain ⟨x, e1, e2⟩ := h n hn
    exact ⟨x, e1, by simpa using e1⟩
  | succ q ih =>
    obtain ⟨x, e1, e2⟩ := ih
    obtain ⟨y, f1, f2⟩ := h (n + t * q) (by omega)
    rw [e2] at f1
    have := V.int_inj f1
    refine ⟨x, e1, ?_⟩
    rw [show n + t * (q + 1) = n + t * q + t by rw [Nat.mul_succ]; omega, f2]
    congr 1
    rw [Int.natCast_add, Int.add_mul]
    simp
    omega
/-- a turn from somewhere on is one from the place on from which another one is -/
theorem Lin.back {T : Nat → V} {f p b t : Nat} {m c : Int} (h : Lin T f p m) (p0 : 0 < p) (k : Lin T b t c) : Lin T f t c := fun n hn => by
  obtain ⟨x, e1, e2⟩ := h.times n hn b
  obtain ⟨y, f1, f2⟩ := h.times (n + t) (by omega) b
  have hb : b ≤ p * b := Nat.le_mul_of_pos_left b p0
  obtain ⟨z, g1, g2⟩ := k (n + p * b) (by omega)
  rw [e2] at g1
  rw [show n + p * b + t = n + t + p * b by omega, f2] at g2
  have k1 := V.int_inj g1
  have k2 := V.int_inj g2
  refine ⟨x, e1, ?_⟩
  rw [f1]
  congr 1
  omega
theorem lin_seq {fs : List V} {ag : List Int} {m : Int} (h : 0 < ag.length) : Lin (seqT fs ag m) fs.length ag.length m := fun n hn => by
  refine ⟨_, seqT_ge (by omega), ?_⟩
  rw [seqT_ge (by omega), show n + ag.length - fs.length = (n - fs.length) + ag.length * 1 by omega, ext_add h]
  simp
theorem exists_least {P : Nat → Prop} : ∀ n, P n → ∃ t, P t ∧ ∀ t', P t' → t ≤ t' := by
  intro n
  induction n using Nat.strongRecOn with
  | _ n ih =>
    intro h
    by_cases c : ∃ k, k < n ∧ P k
    · obtain ⟨k, l, p⟩ := c
      exact ih k l p
    · refine ⟨n, h, fun t' p => ?_⟩
      rcases Nat.lt_or_ge t' n with l | l
      · exact absurd ⟨t', l, p⟩ c
      · exact l
theorem head_filter {p : Nat → Bool} : ∀ (n i : Nat), i < n → p i = true → ((List.range n).filter p).headD 0 ≤ i
  | 0, i, h, _ => absurd h (Nat.not_lt_zero i)
  | n + 1, i, h, hp => by
    rw [List.range_succ, List.filter_append]
    by_cases c : i < n
    · have := head_filter n i c hp
      cases e : (List.range n).filter p with
      | nil =>
        have hm : i ∈ (List.range n).filter p := List.mem_filter.mpr ⟨List.mem_range.mpr c, hp⟩
        rw [e] at hm
        cases hm
      | cons x r =>
        rw [e] at this
        exact this
    · have e : i = n := by omega
      subst e
      cases e : (List.range i).filter p with
      | nil =>
        rw [List.filter_cons, if_pos hp]
        exact Nat.le_refl _
      | cons x r =>
        have hm : x ∈ (List.range i).filter p := by rw [e]; exact List.mem_cons_self
        have := List.mem_range.mp (List.mem_filter.mp hm).1
        show x ≤ i
        omega
theorem turnOf_min {ag : List Int} {m : Int} {t : Nat} (t0 : 0 < t) (ht : t ≤ ag.length) (h : isTurn ag m t = true) : turnOf ag m ≤ t := by
  have := head_filter (p := fun i => isTurn ag m (i + 1)) ag.length (t - 1) (by omega) (by
    show isTurn ag m (t - 1 + 1) = true
    rw [show t - 1 + 1 = t by omega]
    exact h)
  unfold turnOf turns
  omega
theorem isTurn_of {fs : List V} {ag : List Int} {m c : Int} {t : Nat} (h : 0 < ag.length) (t0 : 0 < t) {q : Nat} (e1 : ag.length = t * q) (e2 : m = (q : Int) * c) (k : Lin (seqT fs ag m) fs.length t c) : isTurn ag m t = true := by
  have tl : t ≤ ag.length := by
    rw [e1]
    refine Nat.le_mul_of_pos_right t ?_
    rcases Nat.eq_zero_or_pos q with z | z
    · rw [z] at e1
      omega
    · exact z
  have e3 : m * (t : Int) = c * (ag.length : Int) := by
    rw [e1, e2, Int.natCast_mul, Int.mul_comm ((q : Int)) c, Int.mul_assoc, Int.mul_comm (q : Int) (t : Int)]
  have g : m * (t : Int) / (ag.length : Int) = c := by
    rw [e3]
    exact Int.mul_ediv_cancel _ (by omega)
  unfold isTurn
  rw [if_neg]
  · rw [List.all_eq_true]
    intro i hi
    rw [List.mem_range] at hi
    refine decide_eq_true ?_
    rw [wide_ext tl (by omega) h, wide_ext tl (by omega) h, g]
    obtain ⟨x, f1, f2⟩ := k (fs.length + i) (by omega)
    rw [seqT_ge (by omega)] at f1 f2
    rw [show fs.length + i - fs.length = i by omega] at f1
    rw [show fs.length + i + t - fs.length = i + t by omega] at f2
    have k1 := V.int_inj f1
    have k2 := V.int_inj f2
    omega
  · rw [not_or, Decidable.not_not, Decidable.not_not]
    constructor
    · rw [e1, Int.natCast_mul]
      exact Int.mul_emod_right _ _
    · rw [e3]
      exact Int.mul_emod_left _ _
theorem shrink_stop {m : Int} : ∀ (rf : List V) (ag : List Int), (∀ y ∈ rf, isThingV y = true) → (shrinkR m rf ag).1 = [] ∨ (∃ r, (shrinkR m rf ag).1 = .non :: r) ∨ ∃ x r, (shrinkR m rf ag).1 = .int x :: r ∧ x + m ≠ lastI (shrinkR m rf ag).2
  | [], ag, _ => .inl rfl
  | .int x :: r, ag, h => by
    by_cases c : x + m = lastI ag
    · rw [shrink_go c]
      exact shrink_stop r _ fun y hy => h y (List.mem_cons_of_mem _ hy)
    · rw [shrink_no c]
      exact .inr (.inr ⟨x, r, rfl, c⟩)
  | .non :: r, ag, h => .inr (.inl ⟨r, rfl⟩)
  | .bl _ :: r, ag, h => by cases h _ List.mem_cons_self
  | .str _ :: r, ag, h => by cases h _ List.mem_cons_self
  | .byt _ :: r, ag, h => by cases h _ List.mem_cons_self
  | .flt _ :: r, ag, h => by cases h _ List.mem_cons_self
  | .ref _ :: r, ag, h => by cases h _ List.mem_cons_self
  | .ty _ :: r, ag, h => by cases h _ List.mem_cons_self
theorem least_stop {fs : List V} {ag : List Int} {m : Int} (ht : ∀ y ∈ fs, isThingV y = true) : (leastF fs ag m).1 = [] ∨ (∃ r, (leastF fs ag m).1 = r ++ [.non]) ∨ ∃ x r, (leastF fs ag m).1 = r ++ [.int x] ∧ x + (leastF fs ag m).2.2 ≠ lastI (leastF fs ag m).2.1 := by
  rcases shrink_stop (m := m * (turnOf ag m : Int) / (ag.length : Int)) fs.reverse (ag.take (turnOf ag m)) (fun y hy => ht y (List.mem_reverse.mp hy)) with h | ⟨r, h⟩ | ⟨x, r, h, k⟩
  · left
    show (shrinkR _ fs.reverse (ag.take (turnOf ag m))).1.reverse = []
    rw [h]
    rfl
  · right
    left
    refine ⟨r.reverse, ?_⟩
    show (shrinkR _ fs.reverse (ag.take (turnOf ag m))).1.reverse = _
    rw [h, List.reverse_cons]
  · right
    right
    refine ⟨x, r.reverse, ?_, k⟩
    show (shrinkR _ fs.reverse (ag.take (turnOf ag m))).1.reverse = _
    rw [h, List.reverse_cons]
theorem least_is {fs : List V} {ag : List Int} {m : Int} (h : 0 < ag.length) (ht : ∀ y ∈ fs, isThingV y = true) : Least (seqT fs ag m) (leastF fs ag m).1.length (leastF fs ag m).2.1.length (leastF fs ag m).2.2 := by
  obtain ⟨i1, i2, i3, i4⟩ := least_keeps (fs := fs) (ag := ag) (m := m) h
  have st := least_stop (ag := ag) (m := m) ht
  have eT : seqT (leastF fs ag m).1 (leastF fs ag m).2.1 (leastF fs ag m).2.2 = seqT fs ag m := funext i1
  have t0 := turnOf_pos ag m
  have l0 : 0 < (leastF fs ag m).2.1.length := by rw [i2]; exact t0
  refine ⟨l0, ?_, ?_, ?_⟩
  · have := lin_seq (fs := (leastF fs ag m).1) (m := (leastF fs ag m).2.2) l0
    rw [eT] at this
    exact this
  · rw [i2]
    intro b' t' c' tp k
    obtain ⟨t, ⟨t1, b, c, L⟩, mn⟩ := exists_least (P := fun t => 0 < t ∧ ∃ b c, Lin (seqT fs ag m) b t c) t' ⟨tp, b', c', k⟩
    have hp := lin_seq (fs := fs) (m := m) h
    have L1 := hp.back h L
    obtain ⟨q, e1, e2⟩ := lin_dvd t1 L (fun b' t' c' a z => mn t' ⟨a, b', c', z⟩) ag.length _ _ hp
    have it := isTurn_of h t1 e1 e2 L1
    have tl : t ≤ ag.length := mn _ ⟨h, _, _, hp⟩
    exact Nat.le_trans (turnOf_min t1 tl it) (mn _ ⟨tp, b', c', k⟩)
  · rcases st with z | ⟨r, z⟩ | ⟨x, r, z, k⟩
    · left
      rw [z]
      rfl
    · right
      left
      rw [← eT, z, List.length_append]
      unfold seqT
      rw [if_pos (by rw [List.length_append]; simp)]
      simp
    · right
      right
      refine ⟨x, lastI (leastF fs ag m).2.1, ?_, ?_, fun w => k w.symm⟩
      · rw [← eT]
        generalize (leastF fs ag m).1 = F at z
        subst z
        unfold seqT
        rw [List.length_append, if_pos (by simp)]
        simp
      · rw [← eT]
        generalize (leastF fs ag m).1 = F at z
        subst z
        rw [seqT_ge (by rw [List.length_append]; simp only [List.length_cons, List.length_nil]; omega), List.length_append]
        simp only [List.length_cons, List.length_nil]
        rw [show r.length + (0 + 1) - 1 + (leastF fs ag m).2.1.length - (r.length + (0 + 1)) = (leastF fs ag m).2.1.length - 1 by omega, ext_lt (by omega)]
        rfl
/-- the attributes are cut out of the times -/
theorem least_parts {fs : List V} {ag : List Int} {m : Int} (h : 0 < ag.length) : (leastF fs ag m).1 = (List.range (leastF fs ag m).1.length).map (seqT fs ag m) ∧ (leastF fs ag m).2.1.map V.int = (List.range (leastF fs ag m).2.1.length).map fun i => seqT fs ag m ((leastF fs ag m).1.length + i) := by
  obtain ⟨i1, i2, i3, i4⟩ := least_keeps (fs := fs) (ag := ag) (m := m) h
  have eT : seqT (leastF fs ag m).1 (leastF fs ag m).2.1 (leastF fs ag m).2.2 = seqT fs ag m := funext i1
  constructor
  · rw [← eT]
    generalize (leastF fs ag m).1 = F
    refine List.ext_getElem (by simp) fun i h1 h2 => ?_
    rw [List.getElem_map, List.getElem_range]
    unfold seqT
    rw [if_pos h1, List.getD_eq_getElem?_getD, List.getElem?_eq_getElem h1]
    rfl
  · rw [← eT]
    generalize (leastF fs ag m).1 = F
    refine List.ext_getElem (by simp) fun i h1 h2 => ?_
    rw [List.length_map] at h1
    rw [List.getElem_map, List.getElem_map, List.getElem_range, seqT_ge (by omega), show F.length + i - F.length = i by omega, ext_lt h1, List.getD_eq_getElem?_getD, List.getElem?_eq_getElem h1]
    rfl
theorem map_int_inj : ∀ {a b : List Int}, a.map V.int = b.map V.int → a = b
  | [], [], _ => rfl
  | x :: r, y :: s, h => by
    rw [List.map_cons, List.map_cons] at h
    injection h with h1 h2
    rw [V.int_inj h1, map_int_inj h2]
  | [], _ :: _, h => by cases h
  | _ :: _, [], h => by cases h
/-- equal times: equal attributes -/
theorem least_same {fs fs' : List V} {ag ag' : List Int} {m m' : Int} (h : 0 < ag.length) (ht : ∀ y ∈ fs, isThingV y = true) (h' : 0 < ag'.length) (ht' : ∀ y ∈ fs', isThingV y = true) (e : ∀ n, seqT fs ag m n = seqT fs' ag' m' n) : leastF fs ag m = leastF fs' ag' m' := by
  have eT : seqT fs ag m = seqT fs' ag' m' := funext e
  have L1 := least_is (m := m) h ht
  have L2 := least_is (m := m') h' ht'
  rw [← eT] at L2
  obtain ⟨e1, e2, e3⟩ := L1.uniq L2
  obtain ⟨p1, p2⟩ := least_parts (fs := fs) (ag := ag) (m := m) h
  obtain ⟨q1, q2⟩ := least_parts (fs := fs') (ag := ag') (m := m') h'
  rw [← eT, ← e1] at q1
  rw [← eT, ← e1, ← e2] at q2
  have f1 : (leastF fs ag m).1 = (leastF fs' ag' m').1 := p1.trans q1.symm
  have f2 : (leastF fs ag m).2.1 = (leastF fs' ag' m').2.1 := map_int_inj (p2.trans q2.symm)
  exact Prod.ext f1 (Prod.ext f2 e3)
/-- equal for long enough: equal for ever -/
theorem seq_same {T U : Nat → V} {f p q N : Nat} {m k : Int} (p0 : 0 < p) (q0 : 0 < q) (h1 : Lin T f p m) (h2 : Lin U f q k) (hN : f + p + q ≤ N) (e : ∀ n, n < N → T n = U n) : ∀ n, T n = U n := by
  intro n
  induction n using Nat.strongRecOn with
  | _ n ih =>
    by_cases c : n < N
    · exact e n c
    · obtain ⟨x1, a1, a2⟩ := h1 (n - p) (by omega)
      obtain ⟨x2, b1, b2⟩ := h2 (n - q) (by omega)
      obtain ⟨x3, c1, c2⟩ := h1 (n - p - q) (by omega)
      obtain ⟨x4, d1, d2⟩ := h2 (n - p - q) (by omega)
      rw [show n - p + p = n by omega] at a2
      rw [show n - q + q = n by omega] at b2
      rw [show n - p - q + p = n - q by omega] at c2
      rw [show n - p - q + q = n - p by omega] at d2
      have i1 := ih (n - p) (by omega)
      have i2 := ih (n - q) (by omega)
      have i3 := ih (n - p - q) (by omega)
      rw [a1, d2] at i1
      rw [b1, c2] at i2
      rw [c1, d1] at i3
      have k1 := V.int_inj i1
      have k2 := V.int_inj i2
      have k3 := V.int_inj i3
      rw [a2, b2]
      congr 1
      omega
end WW

set_option Elab.async false
set_option linter.all false
set_option maxRecDepth 100000
set_option maxHeartbeats 4000000
namespace WW
open PySem L2
/-! ### rows that rise -/
def Ris (T : Nat → V) : Prop := ∀ n, belowV (T (n + 1)) (T n) = false
theorem pairI {xs : List Int} (h : xs.Pairwise (· ≤ ·)) {i j : Nat} (hij : i ≤ j) (hj : j < xs.length) : xs.getD i 0 ≤ xs.getD j 0 := by
  rcases Nat.lt_or_eq_of_le hij with l | rfl
  · rw [List.getD_eq_getElem?_getD, List.getD_eq_getElem?_getD, List.getElem?_eq_getElem hj, List.getElem?_eq_getElem (by omega)]
    exact List.pairwise_iff_getElem.mp h i j (by omega) hj l
  · exact Int.le_refl _
theorem ext_step {ag : List Int} {m : Int} (h0 : 0 < ag.length) (p : ag.Pairwise (· ≤ ·)) (hm : lastI ag - ag.getD 0 0 ≤ m) (k : Nat) : ext ag m k ≤ ext ag m (k + 1) := by
  unfold ext
  have hlt := Nat.mod_lt k h0
  by_cases c3 : k % ag.length + 1 = ag.length
  · have e1 : (k + 1) % ag.length = 0 := by rw [← Nat.mod_add_mod, c3, Nat.mod_self]
    have e2 : (k + 1) / ag.length = k / ag.length + 1 := by
      have d := Nat.div_add_mod k ag.length
      have : k + 1 = ag.length * (k / ag.length + 1) := by rw [Nat.mul_add, Nat.mul_one]; omega
      rw [this, Nat.mul_div_cancel_left _ h0]
    rw [e1, e2, show k % ag.length = ag.length - 1 by omega]
    have : ag.getD (ag.length - 1) 0 = lastI ag := rfl
    rw [this, Int.natCast_add, Int.add_mul]
    generalize ((k / ag.length : Nat) : Int) * m = z
    omega
  · have e1 : (k + 1) % ag.length = k % ag.length + 1 := by rw [← Nat.mod_add_mod, Nat.mod_eq_of_lt (by omega)]
    have e2 : (k + 1) / ag.length = k / ag.length := by
      have d := Nat.div_add_mod k ag.length
      have : k + 1 = (k % ag.length + 1) + ag.length * (k / ag.length) := by omega
      rw [this, Nat.add_mul_div_left _ _ h0, Nat.div_eq_of_lt (by omega), Nat.zero_add]
    rw [e1, e2]
    have := pairI p (i := k % ag.length) (j := k % ag.length + 1) (by omega) (by omega)
    omega
/-- nothing n times, times that rise, times that come again -/
structure UpR (fs : List V) (ag : List Int) (m : Int) : Prop where
  ex : ∃ (n : Nat) (is : List Int), fs = List.replicate n V.non ++ is.map V.int ∧ (is ++ ag).Pairwise (· ≤ ·)
  l1 : 0 < ag.length
  m0 : lastI ag - ag.getD 0 0 ≤ m
theorem UpR.things {fs : List V} {ag : List Int} {m : Int} (u : UpR fs ag m) : ∀ y ∈ fs, isThingV y = true := by
  obtain ⟨n, is, rfl, _⟩ := u.ex
  intro y hy
  rcases List.mem_append.mp hy with h | h
  · rw [List.eq_of_mem_replicate h]
    rfl
  · obtain ⟨i, _, rfl⟩ := List.mem_map.mp h
    rfl
theorem UpR.ris {fs : List V} {ag : List Int} {m : Int} (u : UpR fs ag m) : Ris (seqT fs ag m) := by
  obtain ⟨n, is, e, p⟩ := u.ex
  have fl : fs.length = n + is.length := by rw [e, List.length_append, List.length_replicate, List.length_map]
  have lo : ∀ k, k < n → seqT fs ag m k = .non := fun k hk => by
    unfold seqT
    rw [if_pos (by omega), e, List.getD_eq_getElem?_getD, List.getElem?_append_left (by rw [List.length_replicate]; exact hk), List.getElem?_replicate, if_pos hk]
    rfl
  have mi : ∀ j, j < is.length → seqT fs ag m (n + j) = .int (is.getD j 0) := fun j hj => by
    unfold seqT
    rw [if_pos (by omega), e, List.getD_eq_getElem?_getD, List.getElem?_append_right (by rw [List.length_replicate]; omega), List.length_replicate, show n + j - n = j by omega, List.getElem?_map, List.getElem?_eq_getElem hj, List.getD_eq_getElem?_getD, List.getElem?_eq_getElem hj]
    rfl
  have p1 := (List.pairwise_append.mp p).1
  have p2 := (List.pairwise_append.mp p).2.1
  have p3 := (List.pairwise_append.mp p).2.2
  have l1 := u.l1
  have mem : ∀ {l : List Int} {i : Nat}, i < l.length → l.getD i 0 ∈ l := fun {l i} hi => by
    rw [List.getD_eq_getElem?_getD, List.getElem?_eq_getElem hi]
    exact List.getElem_mem hi
  intro k
  by_cases c0 : k < n
  · rw [lo k c0]
    cases seqT fs ag m (k + 1) <;> rfl
  · obtain ⟨j, rfl⟩ : ∃ j, k = n + j := ⟨k - n, by omega⟩
    by_cases c1 : j + 1 < is.length
    · rw [mi j (by omega), show n + j + 1 = n + (j + 1) by omega, mi (j + 1) c1]
      have := pairI p1 (i := j) (j := j + 1) (by omega) c1
      exact decide_eq_false (by omega)
    · by_cases c2 : j < is.length
      · rw [mi j c2, seqT_ge (by omega), show n + j + 1 - fs.length = 0 by omega, ext_lt l1]
        have := p3 _ (mem c2) _ (mem l1)
        exact decide_eq_false (by omega)
      · rw [seqT_ge (by omega), seqT_ge (by omega), show n + j + 1 - fs.length = (n + j - fs.length) + 1 by omega]
        have := ext_step l1 p2 u.m0 (n + j - fs.length)
        exact decide_eq_false (by omega)
theorem Ris.non {T : Nat → V} (h : Ris T) {n : Nat} (e : T n = .non) (ht : ∀ n, isThingV (T n) = true) : ∀ k, k ≤ n → T k = .non := by
  induction n with
  | zero =>
    intro k hk
    rw [show k = 0 by omega]
    exact e
  | succ n ih =>
    intro k hk
    by_cases c : k = n + 1
    · rw [c]
      exact e
    · refine ih ?_ k (by omega)
      have q := h n
      have t := ht n
      rw [e] at q
      revert q t
      cases T n with
      | non => exact fun _ _ => rfl
      | int i => exact fun q _ => nomatch q
      | _ => exact fun _ t => nomatch t
theorem seqT_thg {fs : List V} {ag : List Int} {m : Int} (h : ∀ y ∈ fs, isThingV y = true) (n : Nat) : isThingV (seqT fs ag m n) = true := by
  by_cases c : n < fs.length
  · unfold seqT
    rw [if_pos c, List.getD_eq_getElem?_getD, List.getElem?_eq_getElem c]
    exact h _ (List.getElem_mem c)
  · rw [seqT_ge c]
    rfl
theorem seqT_fs {fs : List V} {ag : List Int} {m : Int} {n : Nat} (c : n < fs.length) : fs.getD n .non = seqT fs ag m n := by
  unfold seqT
  rw [if_pos c]
theorem cut_lastW {xs : List V} : cutV xs (some (-1)) none = xs.drop (xs.length - 1) := by
  unfold cutV
  rw [HT.sIx_none]
  have e : HT.sIx xs.length 0 (some (-1)) = xs.length - 1 := by
    cases xs with
    | nil => rfl
    | cons x r =>
      unfold HT.sIx
      simp
      try omega
  rw [e]
  exact List.take_of_length_le (by rw [List.length_drop]; omega)
/-- what rises is let -/
theorem ris_val {fs : List V} {ag : List Int} {m : Int} (h0 : 0 < ag.length) (ht : ∀ y ∈ fs, isThingV y = true) (hm : 0 ≤ m) (h : Ris (seqT fs ag m)) : wrongW (some fs) (some (ag.map V.int)) (.int m) = .non := by
  have r1 : risingV fs = true := risingV_of fun i hi => by
    rw [seqT_fs (ag := ag) (m := m) hi, seqT_fs (ag := ag) (m := m) (by omega)]
    exact h i
  have agD : ∀ {i : Nat}, i < ag.length → (ag.map V.int).getD i .non = seqT fs ag m (fs.length + i) := fun {i} hi => by
    rw [seqT_ge (by omega), show fs.length + i - fs.length = i by omega, ext_lt hi, List.getD_eq_getElem?_getD, List.getElem?_map, List.getElem?_eq_getElem hi, List.getD_eq_getElem?_getD, List.getElem?_eq_getElem hi]
    rfl
  have r2 : risingV (cutV fs (some (-1)) none ++ ag.map V.int) = true := risingV_of fun i hi => by
    rw [cut_lastW] at hi ⊢
    rw [List.length_append, List.length_drop, List.length_map] at hi
    have at_ : ∀ j, j < fs.length - (fs.length - 1) + ag.length → (fs.drop (fs.length - 1) ++ ag.map V.int).getD j .non = seqT fs ag m (fs.length - 1 + j) := fun j hj => by
      rw [List.getD_eq_getElem?_getD]
      by_cases c : j < (fs.drop (fs.length - 1)).length
      · rw [List.getElem?_append_left c, List.getElem?_drop, ← List.getD_eq_getElem?_getD]
        rw [List.length_drop] at c
        exact seqT_fs (by omega)
      · rw [List.getElem?_append_right (by omega), ← List.getD_eq_getElem?_getD]
        rw [List.length_drop] at c ⊢
        rw [agD (by omega)]
        congr 1
        omega
    rw [at_ _ hi, at_ _ (by omega)]
    exact h _
  have z0 : hd (ag.map V.int) = .int (ag.getD 0 0) := by
    unfold hd
    rw [List.getD_eq_getElem?_getD, List.getElem?_map, List.getElem?_eq_getElem h0, List.getD_eq_getElem?_getD, List.getElem?_eq_getElem h0]
    rfl
  have zL : lst (ag.map V.int) = .int (lastI ag) := by
    unfold lst lastI
    rw [List.length_map, List.getD_eq_getElem?_getD, List.getElem?_map, List.getElem?_eq_getElem (by omega), List.getD_eq_getElem?_getD, List.getElem?_eq_getElem (by omega)]
    rfl
  unfold wrongW
  dsimp only
  rw [if_pos (by rw [r1, List.all_eq_true.mpr ht]; rfl)]
  show wrongA fs (ag.map V.int) (.int m) = .non
  unfold wrongA
  rw [if_neg (by
    have : (ag.map V.int).all isThingV = true := List.all_eq_true.mpr fun y hy => by
      obtain ⟨i, _, rfl⟩ := List.mem_map.mp hy
      rfl
    rw [this]
    cases ag with
    | nil => cases h0
    | cons x r => exact fun z => by cases z)]
  rw [if_neg (by
    rw [r2, z0]
    exact fun z => by cases z)]
  rw [if_neg (by
    show ¬ decide (0 ≤ m) = false
    rw [decide_eq_true hm]
    exact fun z => by cases z), if_neg (by rw [z0]; exact fun z => by cases z), z0, zL]
  refine if_pos ?_
  show lastI ag ≤ ag.getD 0 0 + m
  have q := h (fs.length + (ag.length - 1))
  rw [seqT_ge (by omega), seqT_ge (by omega), show fs.length + (ag.length - 1) + 1 - fs.length = 0 + ag.length * 1 by omega, ext_add h0, ext_lt h0, show fs.length + (ag.length - 1) - fs.length = ag.length - 1 by omega, ext_lt (by omega)] at q
  have q := of_decide_eq_false q
  have : lastI ag = ag.getD (ag.length - 1) 0 := rfl
  omega
/-! ### told with a longer beginning and turn -/
def wideF (fs : List V) (ag : List Int) (m : Int) (d : Nat) : List V := (List.range (fs.length + d)).map (seqT fs ag m)
def wideA (ag : List Int) (m : Int) (d q : Nat) : List Int := (List.range (ag.length * q)).map fun i => ext ag m (d + i)
theorem wide_keeps {fs : List V} {ag : List Int} {m : Int} {d q : Nat} (h0 : 0 < ag.length) (q0 : 0 < q) (n : Nat) : seqT (wideF fs ag m d) (wideA ag m d q) (m * (q : Int)) n = seqT fs ag m n := by
  have fl : (wideF fs ag m d).length = fs.length + d := by unfold wideF; rw [List.length_map, List.length_range]
  have al : (wideA ag m d q).length = ag.length * q := by unfold wideA; rw [List.length_map, List.length_range]
  by_cases c : n < fs.length + d
  · rw [← seqT_fs (by rw [fl]; exact c)]
    unfold wideF
    rw [List.getD_eq_getElem?_getD, List.getElem?_map, List.getElem?_range c]
    rfl
  · rw [seqT_ge (by rw [fl]; exact c), seqT_ge (by omega), fl]
    congr 1
    obtain ⟨k, rfl⟩ : ∃ k, n = fs.length + d + k := ⟨n - (fs.length + d), by omega⟩
    rw [show fs.length + d + k - (fs.length + d) = k by omega, show fs.length + d + k - fs.length = d + k by omega]
    have p0 : 0 < ag.length * q := Nat.mul_pos h0 q0
    have e : k = k % (ag.length * q) + ag.length * (q * (k / (ag.length * q))) := by
      rw [← Nat.mul_assoc]
      exact (Nat.mod_add_div k _).symm
    have hlt := Nat.mod_lt k p0
    have e2 : ext ag m (d + k) = ext ag m (d + k % (ag.length * q)) + ((q * (k / (ag.length * q)) : Nat) : Int) * m := by
      rw [← ext_add h0, show d + k % (ag.length * q) + ag.length * (q * (k / (ag.length * q))) = d + (k % (ag.length * q) + ag.length * (q * (k / (ag.length * q)))) by omega, ← e]
    rw [e2]
    show (wideA ag m d q).getD (k % (wideA ag m d q).length) 0 + ((k / (wideA ag m d q).length : Nat) : Int) * (m * (q : Int)) = _
    rw [al]
    congr 1
    · unfold wideA
      rw [List.getD_eq_getElem?_getD, List.getElem?_map, List.getElem?_range hlt]
      rfl
    · rw [Int.natCast_mul, Int.mul_comm m (q : Int), ← Int.mul_assoc, Int.mul_comm ((k / (ag.length * q) : Nat) : Int) (q : Int)]
end WW

set_option Elab.async false
set_option linter.all false
set_option maxRecDepth 100000
set_option maxHeartbeats 4000000
namespace WW
open PySem L2
/-! ### the law's own search finds the least form -/
theorem srch_lin {T : Nat → V} {f p b t : Nat} {m c : Int} (hp : Lin T f p m) (p0 : 0 < p) (hf : f + p ≤ 50) (bf : b ≤ f) (hi : ∀ n, b ≤ n → T n = .int (intOf (T n))) (hc : ∀ n, b ≤ n → n < 50 → intOf (T (n + t)) - intOf (T n) = c) : Lin T f t c := fun n hn => by
  obtain ⟨k, rfl⟩ : ∃ k, n = f + k := ⟨n - f, by omega⟩
  have e : f + k = (f + k % p) + p * (k / p) := by
    have := Nat.mod_add_div k p
    omega
  have hlt := Nat.mod_lt k p0
  obtain ⟨x, e1, e2⟩ := hp.times (f + k % p) (by omega) (k / p)
  obtain ⟨y, f1, f2⟩ := hp.times (f + k % p + t) (by omega) (k / p)
  have q := hc (f + k % p) (by omega) (by omega)
  rw [e1, f1] at q
  have q : y - x = c := q
  rw [← e] at e2
  rw [show f + k % p + t + p * (k / p) = f + k + t by omega] at f2
  refine ⟨_, e2, ?_⟩
  rw [f2]
  congr 1
  omega
theorem srch_lt {T : Nat → V} {f p b t b0 t0 : Nat} {m c c0 : Int} (L : Least T b0 t0 c0) (hp : Lin T f p m) (p0 : 0 < p) (hf : f + p ≤ 50) (tp : 0 < t) (tl : t < t0) (bf : b ≤ f) (hi : ∀ n, b ≤ n → T n = .int (intOf (T n))) (hc : ∀ n, b ≤ n → n < 50 → intOf (T (n + t)) - intOf (T n) = c) : False := by
  have := L.min _ _ _ tp (srch_lin hp p0 hf bf hi hc)
  omega
theorem srch_eq {T : Nat → V} {b b0 t0 : Nat} {c c0 : Int} (L : Least T b0 t0 c0) (h0 : b0 < 50) (bl : b < b0) (hi : ∀ n, b ≤ n → T n = .int (intOf (T n))) (hc : ∀ n, b ≤ n → n < 50 → intOf (T (n + t0)) - intOf (T n) = c) : False := by
  obtain ⟨x, e1, e2⟩ := L.lin b0 (Nat.le_refl _)
  have q := hc b0 (by omega) h0
  rw [e1, e2] at q
  have q : x + c0 - x = c := q
  have r := hc (b0 - 1) (by omega) (by omega)
  rcases L.stop with z | z | ⟨u, v, z1, z2, z3⟩
  · omega
  · have := hi (b0 - 1) (by omega)
    rw [z] at this
    cases this
  · rw [z1, z2] at r
    have r : v - u = c := r
    omega
theorem Ris.ints {T : Nat → V} (h : Ris T) (ht : ∀ n, isThingV (T n) = true) {b : Nat} (hb : T b ≠ .non) : ∀ n, b ≤ n → T n = .int (intOf (T n)) := fun n hn => by
  have : T n ≠ .non := fun z => hb (h.non z ht b hn)
  have t := ht n
  revert this t
  cases T n with
  | non => exact fun z _ => absurd rfl z
  | int i => exact fun _ _ => rfl
  | _ => exact fun _ t => nomatch t
theorem at_range {T : Nat → V} {n N : Nat} (h : n < N) : atI ((List.range N).map T) (n : Int) = some (T n) := by
  refine atI_nat ?_
  rw [List.getElem?_map, List.getElem?_range h]
  rfl
end WW

set_option Elab.async false
set_option linter.all false
set_option maxRecDepth 100000
set_option maxHeartbeats 4000000
namespace WW
open PySem PySem.Spec PyProof.Rows L2
section
variable {P : Program} {w : World} {K : PySem.W.Frag} {mg : Str → Option Value} {base : Heap} {f : Addr} {fd : FuncData}
/-- the n-th time of a row -/
def spRTime (C : Addr) : Sp := fun vs H Q _ => ∃ (x : Addr) (fs : List V) (ag : List Int) (m : Int) (n : Nat), vs = [.ref x, .int (n : Int)] ∧ RowAt C H x fs (ag.map V.int) m ∧ 0 < ag.length ∧ ag.length < 1000 ∧ -1000 < m ∧ m < 1000 ∧ Q (seqT fs ag m n) H
abbrev s_Row_time : Stmt := inClass (top 23) 4
abbrev N_Row_time : List Str := ["self", "n", "far", "thing"]
theorem sc_Row_time : FnScope N_Row_time ["self", "n"] (defScope s_Row_time) := ⟨rfl, rfl, rfl, by decide +kernel, rfl, by decide +kernel, by decide +kernel⟩

theorem ok_rtime {C : Addr} (F : FunD K "time" "Row.time" (defArgs s_Row_time) (defBody s_Row_time) (defScope s_Row_time) [] [] f fd) (RR : RowC K C) (m_len : mg "len" = none) : FnOk P w K mg base CX0 1 f fd ["self", "n"] (spRTime C) := by
  refine F.ok sc_Row_time (fun vs H Q E h => ?_) (fun cdv A outer s H vs Q E hr h => ?_)
  · obtain ⟨x, fs, ag, m, n, rfl, _⟩ := h
    rfl
  · obtain ⟨x, fs, ag, m, n, rfl, ⟨dx, p1, p2, hx, h1, h2⟩, l0, l1, b0, b1, q⟩ := h
    refine ⟨_, PSs.nox (pss_cons (ps_if (pt_cmpR op_lt (pv 1) (pe_callB (call_lenK K) rfl m_len (by decide +kernel) (pa_cons (pe_fldK K (pv 0) rfl) (pa_nil))) (nomark _)) (pss_one (ps_ret (pe_ix (ix_sqK K) (pe_fldK K (pv 0) rfl) (pv 1) (fun _ _ => rfl)))) (pss_nil))
 (pss_cons (ps_set (i := 2) sc_Row_time.nd rfl (.inl rfl) (pe_op op_sub (pv 1) (pe_callB (call_lenK K) rfl m_len (by decide +kernel) (pa_cons (pe_fldK K (pv 0) rfl) (pa_nil)))))
 (pss_cons (ps_set (i := 3) sc_Row_time.nd rfl (.inl rfl) (pe_ix (ix_sqK K) (pe_fldK K (pv 0) rfl) (pe_op op_mod (pv 2) (pe_callB (call_lenK K) rfl m_len (by decide +kernel) (pa_cons (pe_fldK K (pv 0) rfl) (pa_nil)))) (fun _ _ => rfl)))
 (pss_one (ps_ret (pe_ifExp (pt_cmpR op_isN (pv 3) (pe_non) (nomark _)) (pe_non) (pe_op op_add (pv 3) (pe_op op_mul (pe_op op_fdiv (pv 2) (pe_callB (call_lenK K) rfl m_len (by decide +kernel) (pa_cons (pe_fldK K (pv 0) rfl) (pa_nil)))) (pe_fldK K (pv 0) rfl))))))))), ?_⟩
    refine ⟨_, rfl, _, rfl, x, C, dx, _, _, rfl, hx, RR.cls, RR.nF, rfl, p1, fs, rfl, .t h1, _, _, rfl, rfl, _, rfl, ?_⟩
    have hlen : ((ag.map V.int).length : Int) = (ag.length : Int) := by rw [List.length_map]
    unfold seqT at q
    by_cases hn : n < fs.length
    · rw [decide_eq_true (by omega)]
      rw [if_pos hn] at q
      exact ⟨_, rfl, x, C, dx, _, _, rfl, hx, RR.cls, RR.nF, rfl, _, rfl, p1, fs, _, _, rfl, rfl, .t h1, getD_at hn, q⟩
    · rw [decide_eq_false (by omega)]
      rw [if_neg hn] at q
      have e0 : ((n : Int) - (fs.length : Int)) % ((ag.map V.int).length : Int) = (((n - fs.length) % ag.length : Nat) : Int) := by
        rw [hlen, show (n : Int) - (fs.length : Int) = ((n - fs.length : Nat) : Int) by omega]
        rfl
      have e1 : ((n : Int) - (fs.length : Int)) / ((ag.map V.int).length : Int) = (((n - fs.length) / ag.length : Nat) : Int) := by
        rw [hlen, show (n : Int) - (fs.length : Int) = ((n - fs.length : Nat) : Int) by omega]
        rfl
      refine ⟨_, rfl, _, rfl, x, C, dx, _, _, rfl, hx, RR.cls, RR.nF, rfl, p1, fs, rfl, .t h1, _, _, rfl, rfl, ?_⟩
      refine ⟨_, rfl, x, C, dx, _, _, rfl, hx, RR.cls, RR.nA, rfl, _, rfl, _, rfl, x, C, dx, _, _, rfl, hx, RR.cls, RR.nA, rfl, p2, _, rfl, .t h2, _, _, rfl, rfl, by rw [hlen]; omega, p2, _, _, .int (ag.getD ((n - fs.length) % ag.length) 0), rfl, rfl, .t h2, ?_, ?_⟩
      · rw [e0]
        exact ints_at (Nat.mod_lt _ l0)
      · refine ⟨_, rfl, rfl, _, rfl, ?_⟩
        refine ⟨_, rfl, _, rfl, _, rfl, x, C, dx, _, _, rfl, hx, RR.cls, RR.nA, rfl, p2, _, rfl, .t h2, _, _, rfl, rfl, ⟨by rw [hlen]; omega, by rw [hlen]; omega⟩, _, rfl, x, C, dx, _, _, rfl, hx, RR.cls, RR.nM, rfl, _, _, rfl, rfl, .inr ⟨by omega, by omega⟩, _, _, rfl, rfl, ?_⟩
        rw [e1]
        exact q
/-- the parts of a row -/
def spParts (C : Addr) : Sp := fun vs H Q _ => ∃ (x dx p1 p2 : Addr) (m : Int), vs = [.ref x] ∧ H x = some (.ins C dx [("first", .ref p1), ("again", .ref p2), ("more", .int m)]) ∧ ∀ p H', Same H H' → H' p = some (.tup [.ref p1, .ref p2, .int m]) → Q (.ref p) H'
abbrev s_Row_parts : Stmt := inClass (top 23) 6
abbrev N_Row_parts : List Str := ["self"]
theorem sc_Row_parts : FnScope N_Row_parts ["self"] (defScope s_Row_parts) := ⟨rfl, rfl, rfl, by decide +kernel, rfl, by decide +kernel, by decide +kernel⟩

theorem ok_parts {C : Addr} (F : FunD K "parts" "Row.parts" (defArgs s_Row_parts) (defBody s_Row_parts) (defScope s_Row_parts) [] [] f fd) (RR : RowC K C) : FnOk P w K mg base CX0 1 f fd ["self"] (spParts C) := by
  refine F.ok sc_Row_parts (fun vs H Q E h => ?_) (fun cdv A outer s H vs Q E hr h => ?_)
  · obtain ⟨x, dx, p1, p2, m, rfl, _⟩ := h
    rfl
  · obtain ⟨x, dx, p1, p2, m, rfl, hx, q⟩ := h
    refine ⟨_, PSs.nox (pss_one (ps_ret (pe_tup (pa_cons (pe_fldK K (pv 0) rfl) (pa_cons (pe_fldK K (pv 0) rfl) (pa_cons (pe_fldK K (pv 0) rfl) (pa_nil))))))), ?_⟩
    refine ⟨_, rfl, x, C, dx, _, _, rfl, hx, RR.cls, RR.nF, rfl, _, rfl, x, C, dx, _, _, rfl, hx, RR.cls, RR.nA, rfl, _, rfl, x, C, dx, _, _, rfl, hx, RR.cls, RR.nM, rfl, by show 3 ≤ sizeLine; decide, fun p np => ?_⟩
    exact q p _ (same_new np) upd_same
/-- equal rows -/
def spEq (K : PySem.W.Frag) (C : Addr) : Sp := fun vs H Q _ => ∃ (x : Addr) (y : V) (fs ys : List V) (m : Int), vs = [.ref x, y] ∧ RowAt C H x fs ys m ∧
  ((∃ t, TyX K H y (.type t) ∧ PySem.W.kitOne K (.type t) (.ref C) = some false ∧ Q (.bl false) H) ∨
   ∃ (z : Addr) (gs zs : List V) (k : Int), y = .ref z ∧ RowAt C H z gs zs k ∧ (∀ y ∈ fs, isTh y = true) ∧ (∀ y ∈ ys, isTh y = true) ∧ (∀ y ∈ gs, isTh y = true) ∧ (∀ y ∈ zs, isTh y = true) ∧ ∀ H', Same H H' → Q (.bl (decide (fs = gs ∧ ys = zs ∧ m = k))) H')
theorem RowAt.ty {C : Addr} {H : Hp} {x : Addr} {fs ys : List V} {m : Int} (RR : RowC K C) (T : TyC K C) (h : RowAt C H x fs ys m) : TyX K H (.ref x) (.ref C) := by
  obtain ⟨dx, p1, p2, hx, _⟩ := h
  exact .base (.ins hx RR.cls T.cl T.ge T.tk T.ob)
abbrev s_Row___eq__ : Stmt := inClass (top 23) 8
abbrev N_Row___eq__ : List Str := ["self", "other"]
theorem sc_Row___eq__ : FnScope N_Row___eq__ ["self", "other"] (defScope s_Row___eq__) := ⟨rfl, rfl, rfl, by decide +kernel, rfl, by decide +kernel, by decide +kernel⟩

theorem ok_eq (F : FunD K "__eq__" "Row.__eq__" (defArgs s_Row___eq__) (defBody s_Row___eq__) (defScope s_Row___eq__) [] [] f fd) (RR : RowC K (He.ga K "Row")) (T : TyC K (He.ga K "Row")) (m_Row : mg "Row" = some (.ref (He.ga K "Row"))) (m_isinstance : mg "isinstance" = none) (g_Row_parts : MthAt P w K mg base CX0 1 (He.ga K "Row") "parts" ["self"] (spParts (He.ga K "Row"))) : FnOk P w K mg base CX0 2 f fd ["self", "other"] (spEq K (He.ga K "Row")) := by
  have c_Row := RR.cls
  refine F.ok sc_Row___eq__ (fun vs H Q E h => ?_) (fun cdv A outer s H vs Q E hr h => ?_)
  · obtain ⟨x, y, fs, ys, m, rfl, _⟩ := h
    rfl
  · obtain ⟨x, y, fs, ys, m, rfl, hx, q⟩ := h
    refine ⟨_, PSs.nox (pss_one (ps_ret (pe_and (pe_callB (call_isiK1 K) rfl m_isinstance (by decide +kernel) (pa_cons (pv 1) (pa_cons (pe_glob (v := .ref (He.ga K "Row")) rfl m_Row rfl) (pa_nil)))) (pe_one (pe_cmpR (op_eqDK K hr) (pe_mth0 c_Row g_Row_parts hr (pv 0)) (pe_mth0 c_Row g_Row_parts hr (pv 1)) (nomark _)))))), ?_⟩
    refine ⟨_, rfl, ?_⟩
    rcases q with ⟨t, ty, no, q⟩ | ⟨z, gs, zs, k, rfl, hz, t1, t2, t3, t4, q⟩
    · exact ⟨_, _, _, _, false, rfl, .own _, ty, no, false, rfl, q⟩
    · refine ⟨_, _, _, _, true, rfl, .own _, RowAt.ty RR T hz, T.own, true, rfl, ?_⟩
      obtain ⟨dx, p1, p2, hx, h1, h2⟩ := hx
      obtain ⟨dz, r1, r2, hz, k1, k2⟩ := hz
      refine ⟨_, rfl, x, dx, _, rfl, hx, rfl, x, dx, p1, p2, m, rfl, hx, fun p H1 s1 hp => ?_⟩
      refine ⟨_, rfl, z, dz, _, rfl, s1 _ _ hz, rfl, z, dz, r1, r2, k, rfl, s1 _ _ hz, fun p' H2 s2 hp' => ?_⟩
      have s12 := s1.trans s2
      refine ⟨_, _, dp_parts (s2 _ _ hp) (s12 _ _ h1) (s12 _ _ h2) t1 t2, dp_parts hp' (s12 _ _ k1) (s12 _ _ k2) t3 t4, shaped_parts _ _ _, shaped_parts _ _ _, ?_⟩
      rw [eqv_parts t1 t2 t3 t4]
      exact q H2 s12
/-! ### the text of a row -/
def wordOf : V → Str
  | .int i => Str.ofString (toString i)
  | _ => "-"
def rowWords (fs ys : List V) (m : Int) : List Str := fs.map wordOf ++ (("|" : Str) :: (ys.map wordOf ++ ([("+" : Str), Str.ofString (toString m)] : List Str)))
/-- a thing that is not too large for a text -/
def smallV : V → Bool
  | .non => true
  | .int i => decide (i.natAbs.log2 < 1920)
  | _ => false
def spWord : Sp := fun vs H Q _ => ∃ v, vs = [v] ∧ smallV v = true ∧ Q (.str (wordOf v)) H
abbrev s_word_of : Stmt := top 24
abbrev N_word_of : List Str := ["thing"]
theorem sc_word_of : FnScope N_word_of ["thing"] (defScope s_word_of) := ⟨rfl, rfl, rfl, by decide +kernel, rfl, by decide +kernel, by decide +kernel⟩

theorem ok_word (F : FnP K "word_of" s_word_of f fd) (m_str : mg "str" = none) : FnOk P w K mg base CX0 1 f fd ["thing"] spWord := by
  refine F.ok sc_word_of (fun vs H Q E h => ?_) (fun cdv A outer s H vs Q E hr h => ?_)
  · obtain ⟨v, rfl, _⟩ := h
    rfl
  · obtain ⟨v, rfl, hv, q⟩ := h
    refine ⟨_, PSs.nox (pss_one (ps_ret (pe_ifExp (pt_cmpR op_isN (pv 0) (pe_non) (nomark _)) (pe_str) (pe_callTy call_str_int rfl m_str (by decide +kernel) (pa_cons (pv 0) (pa_nil)))))), ?_⟩
    refine ⟨_, rfl, rfl, _, rfl, ?_⟩
    revert hv q
    cases v with
    | non => exact fun _ q => q
    | int i => exact fun hv q => ⟨_, rfl, i, rfl, of_decide_eq_true hv, q⟩
    | _ => exact fun z => nomatch z
theorem len_word {v : V} (h : smallV v = true) : (wordOf v).length ≤ 1921 := by
  revert h
  cases v with
  | non => exact fun _ => by decide
  | int i => exact fun h => PyProof.Rows.int_text_len_1921 (of_decide_eq_true h)
  | _ => exact fun z => nomatch z
theorem len_words : ∀ {xs : List V}, (∀ y ∈ xs, smallV y = true) → ((xs.map wordOf).map (·.length)).sum ≤ xs.length * 1921
  | [], _ => Nat.le_refl _
  | x :: r, h => by
    have h1 := len_word (h x List.mem_cons_self)
    have h2 := len_words (xs := r) fun y hy => h y (List.mem_cons_of_mem _ hy)
    simp only [List.map_cons, List.sum_cons, List.length_cons]
    omega
def spStr (C : Addr) : Sp := fun vs H Q _ => ∃ (x : Addr) (fs ys : List V) (m : Int), vs = [.ref x] ∧ RowAt C H x fs ys m ∧ fs.length ≤ 1000 ∧ ys.length ≤ 1000 ∧ (∀ y ∈ fs, smallV y = true) ∧ (∀ y ∈ ys, smallV y = true) ∧ m.natAbs.log2 < 1920 ∧ ∀ H', Same H H' → Q (.str (Txt.join " " (rowWords fs ys m))) H'
abbrev s_Row___str__ : Stmt := inClass (top 23) 9
abbrev N_Row___str__ : List Str := ["self", "words", "thing"]
theorem sc_Row___str__ : FnScope N_Row___str__ ["self"] (defScope s_Row___str__) := ⟨rfl, rfl, rfl, by decide +kernel, rfl, by decide +kernel, by decide +kernel⟩

theorem ok_str {C : Addr} (F : FunD K "__str__" "Row.__str__" (defArgs s_Row___str__) (defBody s_Row___str__) (defScope s_Row___str__) [] [] f fd) (RR : RowC K C) (m_str : mg "str" = none) (g_word_of : FnAt P w K mg base CX0 1 "word_of" ["thing"] spWord) : FnOk P w K mg base CX0 2 f fd ["self"] (spStr C) := by
  refine F.ok sc_Row___str__ (fun vs H Q E h => ?_) (fun cdv A outer s H vs Q E hr h => ?_)
  · obtain ⟨x, fs, ys, m, rfl, _⟩ := h
    rfl
  · obtain ⟨x, fs, ys, m, rfl, ⟨dx, p1, p2, hx, h1, h2⟩, l1, l2, t1, t2, t3, q⟩ := h
    refine ⟨_, PSs.nox (pss_cons (ps_setLc (i := 1) (own := [("thing", 2)]) rfl sc_Row___str__.nd rfl rfl (sw_true rfl rfl rfl (by decide +kernel)) (pi_seqK K (pe_fldK K (pv 0) rfl)) (blkOk_by (N := N_Row___str__) (sc := defScope s_Row___str__) (by decide +kernel)) (fun _ _ _ _ _ => pg_name (i := 2) sc_Row___str__.nd rfl (.inl rfl)) (fun _ _ _ _ _ => pts_nil) (fun _ _ _ _ _ => pe_fn g_word_of hr rfl (pa_cons (pv 2) (pa_nil))))
 (pss_one (ps_ret (pe_joinK K (pe_str) (pe_lst (pa_starK K (pv 1) (pa_cons (pe_str) (pa_starK K (pe_lc (own := [("thing", 2)]) rfl sc_Row___str__.nd (pi_seqK K (pe_fldK K (pv 0) rfl)) (blkOk_by (N := N_Row___str__) (sc := defScope s_Row___str__) (by decide +kernel)) (fun _ _ _ _ _ => pg_name (i := 2) sc_Row___str__.nd rfl (.inl rfl)) (fun _ _ _ _ _ => pts_nil) (fun _ _ _ _ _ => pe_fn g_word_of hr rfl (pa_cons (pv 2) (pa_nil)))) (pa_cons (pe_str) (pa_cons (pe_callTy call_str_int rfl m_str (by decide +kernel) (pa_cons (pe_fldK K (pv 0) rfl) (pa_nil))) (pa_nil))))))))))), ?_⟩
    refine q_seq (q_asg ?_)
    dsimp only [List.map_cons, List.map_nil]
    refine lc_sq (K := K) (a := p1) (xs := fs) (fun v => .str (wordOf v)) (fun R r => ⟨_, rfl, x, C, dx, _, _, rfl, hx, RR.cls, RR.nF, rfl, r⟩) (.t h1) (by omega) (fun y hy H1 s1 R r => ⟨_, rfl, y, rfl, t1 y hy, r H1 (Same.refl H1)⟩) fun D H1 s1 nD hD => ?_
    refine ⟨⟨_, rfl⟩, _, rfl, D, _, rfl, .inr (.inl (.inl hD)), ?_⟩
    refine q_cons (q_c (q_star ?_))
    dsimp only [List.map_cons, List.map_nil]
    refine lc_sq (K := K) (a := p2) (xs := ys) (fun v => .str (wordOf v)) (fun R r => ⟨_, rfl, x, C, dx, _, _, rfl, s1 _ _ hx, RR.cls, RR.nA, rfl, r⟩) (.t (s1 _ _ h2)) (by omega) (fun y hy H1 s1 R r => ⟨_, rfl, y, rfl, t2 y hy, r H1 (Same.refl H1)⟩) fun D2 H2 s2 nD2 hD2 => ?_
    refine ⟨D2, _, rfl, .inr (.inl (.inl hD2)), _, rfl, x, C, dx, _, _, rfl, s2 _ _ (s1 _ _ hx), RR.cls, RR.nM, rfl, m, rfl, t3, ?_, fun p np => ?_⟩
    · simp only [List.length_append, List.length_map, List.length_cons, List.length_nil]
      exact Nat.le_trans (show _ ≤ 3000 by omega) (by decide)
    · refine .mk " " p (rowWords fs ys m) rfl rfl (.l ?_) ?_ (q _ ((s1.trans s2).trans (same_new np)))
      · rw [upd_same]
        unfold rowWords
        simp only [List.map_append, List.map_cons, List.map_nil, List.map_map]
        rfl
      · have w1 := len_words t1
        have w2 := len_words t2
        have w3 := PyProof.Rows.int_text_len_1921 t3
        unfold rowWords
        simp only [List.map_append, List.map_cons, List.map_nil, List.sum_append, List.sum_cons, List.sum_nil, List.length_append, List.length_cons, List.length_nil, List.length_map]
        have e1 : (Str.ofString "|").length = 1 := by decide
        have e2 : (Str.ofString "+").length = 1 := by decide
        have e3 : (Str.ofString " ").length = 1 := by decide
        rw [e1, e2, e3]
        omega
end
end WW

set_option Elab.async false
set_option linter.all false
set_option maxRecDepth 100000
set_option maxHeartbeats 4000000
namespace WW
open PySem PySem.Spec PyProof.Rows L2
section
variable {P : Program} {w : World} {K : PySem.W.Frag} {mg : Str → Option Value} {base : Heap} {f : Addr} {fd : FuncData}
def spDiv : Sp := fun vs H Q _ => ∃ (a b : Nat), vs = [.int a, .int b] ∧ Q (.int (Nat.gcd a b)) H
abbrev s_divisor : Stmt := top 12
abbrev N_divisor : List Str := ["one", "other"]
theorem sc_divisor : FnScope N_divisor ["one", "other"] (defScope s_divisor) := ⟨rfl, rfl, rfl, by decide +kernel, rfl, by decide +kernel, by decide +kernel⟩

theorem ok_divisor (F : FnP K "divisor" s_divisor f fd) : FnOk P w K mg base CX0 1 f fd ["one", "other"] spDiv := by
  refine F.ok sc_divisor (fun vs H Q E h => ?_) (fun cdv A outer s H vs Q E hr h => ?_)
  · obtain ⟨a, b, rfl, _⟩ := h
    rfl
  · obtain ⟨a, b, rfl, q⟩ := h
    refine ⟨_, PSs.nox (pss_cons (ps_while PassesOwn.never (pt_cmpR op_ne (pv 1) (pe_int) (nomark _)) (pss_one (ps_par (i := 0) (j := 1) rfl sc_divisor.nd rfl rfl (by decide) rfl rfl (pa_cons (pv 1) (pa_cons (pe_op op_mod (pv 0) (pv 1)) (pa_nil))) rfl)))
 (pss_one (ps_ret (pv 0)))), ?_⟩
    refine ⟨fun k σ Hc => ∃ (c d : Nat), σ = [some (.int c), some (.int d)] ∧ d = k ∧ Hc = H ∧ Nat.gcd c d = Nat.gcd a b, ⟨b, a, b, rfl, rfl, rfl, rfl⟩, ?_⟩
    rintro k σ Hc ⟨c, d, rfl, rfl, rfl, e⟩
    refine ⟨_, rfl, rfl, _, rfl, ?_⟩
    rw [dec_int]
    by_cases h0 : (d : Int) = 0
    · rw [decide_eq_true h0]
      have : d = 0 := by omega
      subst this
      rw [Nat.gcd_zero_right] at e
      rw [← e] at q
      exact ⟨_, rfl, q⟩
    · rw [decide_eq_false h0]
      have hd : 0 < d := by omega
      refine ⟨fun σ' H' => σ' = [some (.int d), some (.int ((c % d : Nat) : Int))] ∧ H' = Hc, ?_, ?_⟩
      · rintro σ' H' ⟨rfl, rfl⟩
        refine ⟨c % d, Nat.mod_lt _ hd, d, c % d, rfl, rfl, rfl, ?_⟩
        rw [← e, Nat.gcd_comm d, ← Nat.gcd_rec, Nat.gcd_comm]
      · exact ⟨_, rfl, _, rfl, _, rfl, _, _, rfl, rfl, by show (0 : Int) < _; omega, _, _, rfl, rfl, rfl⟩
end
end WW

set_option Elab.async false
set_option linter.all false
set_option maxRecDepth 100000
set_option maxHeartbeats 4000000
namespace WW
open PySem PySem.Spec PyProof.Rows L2
/-- a row's value: nothing for ever, or a beginning, a turn, a growth -/
inductive RV where
  | emp
  | of (fs : List V) (ag : List Int) (m : Int)
def RV.T : RV → Nat → V
  | .emp => fun _ => .non
  | .of fs ag m => seqT fs ag m
/-- what is laid of it -/
def RV.fs : RV → List V
  | .emp => []
  | .of fs _ _ => fs
def RV.n : RV → Nat
  | .emp => 1
  | .of _ ag _ => ag.length
def RV.m : RV → Int
  | .emp => 0
  | .of _ _ m => m
def RV.ys : RV → List V
  | .emp => [.non]
  | .of _ ag _ => ag.map V.int
def RV.isE : RV → Bool
  | .emp => true
  | .of _ _ _ => false
structure RV.Ok (r : RV) : Prop where
  n0 : 0 < r.n
  n1 : r.n ≤ 20000
  f1 : r.fs.length ≤ 20000
  m0 : 0 ≤ r.m
  m1 : r.m < 1000000
  th : ∀ y ∈ r.fs, isThingV y = true
  ris : Ris r.T
  can : r.isE = false → Least r.T r.fs.length r.n r.m
theorem RV.ys_len (r : RV) : r.ys.length = r.n := by
  cases r with
  | emp => rfl
  | of fs ag m => exact List.length_map _
section
variable {P : Program} {w : World} {K : PySem.W.Frag} {mg : Str → Option Value} {base : Heap} {f : Addr} {fd : FuncData}
def RowR (C : Addr) (H : Hp) (x : Addr) (r : RV) : Prop := RowAt C H x r.fs r.ys r.m
def spCommon : Sp := fun vs H Q _ => ∃ (a b : Nat), vs = [.int a, .int b] ∧ 0 < a ∧ 0 < b ∧ a < 100000 ∧ b < 100000 ∧ Q (.int (Nat.lcm a b : Nat)) H
abbrev s_common : Stmt := top 13
abbrev N_common : List Str := ["one", "other"]
theorem sc_common : FnScope N_common ["one", "other"] (defScope s_common) := ⟨rfl, rfl, rfl, by decide +kernel, rfl, by decide +kernel, by decide +kernel⟩

theorem ok_common (F : FnP K "common" s_common f fd) (g_divisor : FnAt P w K mg base CX0 1 "divisor" ["one", "other"] spDiv) : FnOk P w K mg base CX0 2 f fd ["one", "other"] spCommon := by
  refine F.ok sc_common (fun vs H Q E h => ?_) (fun cdv A outer s H vs Q E hr h => ?_)
  · obtain ⟨a, b, rfl, _⟩ := h
    rfl
  · obtain ⟨a, b, rfl, a0, b0, a1, b1, q⟩ := h
    refine ⟨_, PSs.nox (pss_one (ps_ret (pe_op op_fdiv (pe_op op_mul (pv 0) (pv 1)) (pe_fn g_divisor hr rfl (pa_cons (pv 0) (pa_cons (pv 1) (pa_nil))))))), ?_⟩
    have g0 : 0 < Nat.gcd a b := Nat.gcd_pos_of_pos_left b a0
    have g1 : Nat.gcd a b ≤ a := Nat.le_of_dvd a0 (Nat.gcd_dvd_left a b)
    refine ⟨_, rfl, _, rfl, _, _, rfl, rfl, .inl ⟨by omega, by omega⟩, _, rfl, _, rfl, a, b, rfl, _, _, rfl, rfl, ⟨by omega, by omega⟩, ?_⟩
    exact q
def spCeil : Sp := fun vs H Q _ => ∃ (a b : Int), vs = [.int a, .int b] ∧ 0 < b ∧ b < 1000000000 ∧ Q (.int (-(-a / b))) H
abbrev s_ceiling : Stmt := top 14
abbrev N_ceiling : List Str := ["upper", "lower"]
theorem sc_ceiling : FnScope N_ceiling ["upper", "lower"] (defScope s_ceiling) := ⟨rfl, rfl, rfl, by decide +kernel, rfl, by decide +kernel, by decide +kernel⟩

theorem ok_ceiling (F : FnP K "ceiling" s_ceiling f fd) : FnOk P w K mg base CX0 1 f fd ["upper", "lower"] spCeil := by
  refine F.ok sc_ceiling (fun vs H Q E h => ?_) (fun cdv A outer s H vs Q E hr h => ?_)
  · obtain ⟨a, b, rfl, _⟩ := h
    rfl
  · obtain ⟨a, b, rfl, b0, b1, q⟩ := h
    refine ⟨_, PSs.nox (pss_one (ps_ret (pe_un un_neg (pe_op op_fdiv (pe_un un_neg (pv 0)) (pv 1))))), ?_⟩
    refine ⟨_, rfl, a, rfl, _, rfl, _, _, rfl, rfl, ⟨by omega, by omega⟩, _, rfl, ?_⟩
    exact q
def spIsE (C : Addr) : Sp := fun vs H Q _ => ∃ (x : Addr) (r : RV), vs = [.ref x] ∧ RowR C H x r ∧ r.Ok ∧ Q (.bl r.isE) H
abbrev s_Row_is_empty : Stmt := inClass (top 23) 3
abbrev N_Row_is_empty : List Str := ["self"]
theorem sc_Row_is_empty : FnScope N_Row_is_empty ["self"] (defScope s_Row_is_empty) := ⟨rfl, rfl, rfl, by decide +kernel, rfl, by decide +kernel, by decide +kernel⟩

theorem ok_isE {C : Addr} (F : FunD K "is_empty" "Row.is_empty" (defArgs s_Row_is_empty) (defBody s_Row_is_empty) (defScope s_Row_is_empty) [] [] f fd) (RR : RowC K C) : FnOk P w K mg base CX0 1 f fd ["self"] (spIsE C) := by
  refine F.ok sc_Row_is_empty (fun vs H Q E h => ?_) (fun cdv A outer s H vs Q E hr h => ?_)
  · obtain ⟨x, r, rfl, _⟩ := h
    rfl
  · obtain ⟨x, r, rfl, ⟨dx, p1, p2, hx, h1, h2⟩, ok, q⟩ := h
    refine ⟨_, PSs.nox (pss_one (ps_ret (pe_cmpR op_isN (pe_ix (ix_sqK K) (pe_fldK K (pv 0) rfl) (pe_int) (fun _ _ => rfl)) (pe_non) (nomark _)))), ?_⟩
    have at0 : atI r.ys 0 = some (r.ys.getD 0 .non) := getD_at (i := 0) (by rw [r.ys_len]; exact ok.n0)
    have e : decide (r.ys.getD 0 .non = V.non) = r.isE := by
      have n0 := ok.n0
      revert n0
      cases r with
      | emp => exact fun _ => rfl
      | of fs ag m =>
        intro n0
        show decide ((ag.map V.int).getD 0 .non = V.non) = false
        rw [List.getD_eq_getElem?_getD, List.getElem?_map, List.getElem?_eq_getElem n0]
        rfl
    refine ⟨_, rfl, x, C, dx, _, _, rfl, hx, RR.cls, RR.nA, rfl, p2, _, _, _, rfl, rfl, .t h2, at0, rfl, ?_⟩
    rw [e]
    exact q
/-- the n-th time -/
def spRT (C : Addr) : Sp := fun vs H Q _ => ∃ (x : Addr) (r : RV) (n : Nat), vs = [.ref x, .int (n : Int)] ∧ RowR C H x r ∧ r.Ok ∧ Q (r.T n) H
theorem ok_rt {C : Addr} (F : FunD K "time" "Row.time" (defArgs s_Row_time) (defBody s_Row_time) (defScope s_Row_time) [] [] f fd) (RR : RowC K C) (m_len : mg "len" = none) : FnOk P w K mg base CX0 1 f fd ["self", "n"] (spRT C) := by
  refine F.ok sc_Row_time (fun vs H Q E h => ?_) (fun cdv A outer s H vs Q E hr h => ?_)
  · obtain ⟨x, r, n, rfl, _⟩ := h
    rfl
  · obtain ⟨x, r, n, rfl, ⟨dx, p1, p2, hx, h1, h2⟩, ok, q⟩ := h
    refine ⟨_, PSs.nox (pss_cons (ps_if (pt_cmpR op_lt (pv 1) (pe_callB (call_lenK K) rfl m_len (by decide +kernel) (pa_cons (pe_fldK K (pv 0) rfl) (pa_nil))) (nomark _)) (pss_one (ps_ret (pe_ix (ix_sqK K) (pe_fldK K (pv 0) rfl) (pv 1) (fun _ _ => rfl)))) (pss_nil))
 (pss_cons (ps_set (i := 2) sc_Row_time.nd rfl (.inl rfl) (pe_op op_sub (pv 1) (pe_callB (call_lenK K) rfl m_len (by decide +kernel) (pa_cons (pe_fldK K (pv 0) rfl) (pa_nil)))))
 (pss_cons (ps_set (i := 3) sc_Row_time.nd rfl (.inl rfl) (pe_ix (ix_sqK K) (pe_fldK K (pv 0) rfl) (pe_op op_mod (pv 2) (pe_callB (call_lenK K) rfl m_len (by decide +kernel) (pa_cons (pe_fldK K (pv 0) rfl) (pa_nil)))) (fun _ _ => rfl)))
 (pss_one (ps_ret (pe_ifExp (pt_cmpR op_isN (pv 3) (pe_non) (nomark _)) (pe_non) (pe_op op_add (pv 3) (pe_op op_mul (pe_op op_fdiv (pv 2) (pe_callB (call_lenK K) rfl m_len (by decide +kernel) (pa_cons (pe_fldK K (pv 0) rfl) (pa_nil)))) (pe_fldK K (pv 0) rfl))))))))), ?_⟩
    refine ⟨_, rfl, _, rfl, x, C, dx, _, _, rfl, hx, RR.cls, RR.nF, rfl, p1, _, rfl, .t h1, _, _, rfl, rfl, _, rfl, ?_⟩
    obtain ⟨n0, n1, f1, m0, m1, th, ris, can⟩ := ok
    have hlen : (r.ys.length : Int) = (r.n : Int) := by rw [r.ys_len]
    by_cases hn : n < r.fs.length
    · rw [decide_eq_true (by omega)]
      refine ⟨_, rfl, x, C, dx, _, _, rfl, hx, RR.cls, RR.nF, rfl, _, rfl, p1, _, _, _, rfl, rfl, .t h1, getD_at hn, ?_⟩
      revert hn q
      cases r with
      | emp => exact fun _ hn => absurd hn (Nat.not_lt_zero _)
      | of fs ag m =>
        intro q hn
        have e : seqT fs ag m n = fs.getD n .non := by
          unfold seqT
          exact if_pos hn
        have q : Q (seqT fs ag m n) H := q
        rw [e] at q
        exact q
    · rw [decide_eq_false (by omega)]
      have e0 : ((n : Int) - (r.fs.length : Int)) % (r.ys.length : Int) = (((n - r.fs.length) % r.n : Nat) : Int) := by
        rw [hlen, show (n : Int) - (r.fs.length : Int) = ((n - r.fs.length : Nat) : Int) by omega]
        rfl
      have e1 : ((n : Int) - (r.fs.length : Int)) / (r.ys.length : Int) = (((n - r.fs.length) / r.n : Nat) : Int) := by
        rw [hlen, show (n : Int) - (r.fs.length : Int) = ((n - r.fs.length : Nat) : Int) by omega]
        rfl
      have hat : atI r.ys (((n : Int) - (r.fs.length : Int)) % (r.ys.length : Int)) = some (r.ys.getD ((n - r.fs.length) % r.n) .non) := by
        rw [e0]
        exact getD_at (by rw [r.ys_len]; exact Nat.mod_lt _ n0)
      refine ⟨_, rfl, _, rfl, x, C, dx, _, _, rfl, hx, RR.cls, RR.nF, rfl, p1, _, rfl, .t h1, _, _, rfl, rfl, ?_⟩
      refine ⟨_, rfl, x, C, dx, _, _, rfl, hx, RR.cls, RR.nA, rfl, _, rfl, _, rfl, x, C, dx, _, _, rfl, hx, RR.cls, RR.nA, rfl, p2, _, rfl, .t h2, _, _, rfl, rfl, by rw [hlen]; omega, p2, _, _, _, rfl, rfl, .t h2, hat, ?_⟩
      refine ⟨_, rfl, rfl, _, rfl, ?_⟩
      have q : Q (r.T n) H := q
      cases r with
      | emp =>
        have z : (RV.ys .emp).getD ((n - (RV.fs .emp).length) % (RV.n .emp)) .non = V.non := by
          show [V.non].getD (n % 1) .non = V.non
          rw [Nat.mod_one]
          rfl
        rw [z]
        exact q
      | of fs ag m =>
        have z : (RV.ys (.of fs ag m)).getD ((n - (RV.fs (.of fs ag m)).length) % (RV.n (.of fs ag m))) .non = V.int (ag.getD ((n - fs.length) % ag.length) 0) := by
          show (ag.map V.int).getD ((n - fs.length) % ag.length) .non = _
          have hl : (n - fs.length) % ag.length < ag.length := Nat.mod_lt _ n0
          rw [List.getD_eq_getElem?_getD, List.getElem?_map, List.getElem?_eq_getElem hl, List.getD_eq_getElem?_getD, List.getElem?_eq_getElem hl]
          rfl
        rw [z]
        refine ⟨_, rfl, _, rfl, _, rfl, x, C, dx, _, _, rfl, hx, RR.cls, RR.nA, rfl, p2, _, rfl, .t h2, _, _, rfl, rfl, ⟨by rw [hlen]; omega, by rw [hlen]; omega⟩, _, rfl, x, C, dx, _, _, rfl, hx, RR.cls, RR.nM, rfl, _, _, rfl, rfl, .inr ⟨by omega, by omega⟩, _, _, rfl, rfl, ?_⟩
        rw [e1]
        have e : seqT fs ag m n = .int (ag.getD ((n - fs.length) % ag.length) 0 + ((n - fs.length) / ag.length : Nat) * m) := by
          unfold seqT
          exact if_neg hn
        have q : Q (seqT fs ag m n) H := q
        rw [e] at q
        exact q
/-- the growth of a row through a turn -/
def spGrow (C : Addr) : Sp := fun vs H Q _ => ∃ (x : Addr) (r : RV) (t : Nat), vs = [.ref x, .int (t : Int)] ∧ RowR C H x r ∧ r.Ok ∧ Q (.int (r.m * ((t / r.n : Nat) : Int))) H
abbrev s_growth : Stmt := top 30
abbrev N_growth : List Str := ["row", "turn"]
theorem sc_growth : FnScope N_growth ["row", "turn"] (defScope s_growth) := ⟨rfl, rfl, rfl, by decide +kernel, rfl, by decide +kernel, by decide +kernel⟩

theorem ok_growth {C : Addr} (F : FnP K "growth" s_growth f fd) (RR : RowC K C) (m_len : mg "len" = none) : FnOk P w K mg base CX0 1 f fd ["row", "turn"] (spGrow C) := by
  refine F.ok sc_growth (fun vs H Q E h => ?_) (fun cdv A outer s H vs Q E hr h => ?_)
  · obtain ⟨x, r, t, rfl, _⟩ := h
    rfl
  · obtain ⟨x, r, t, rfl, ⟨dx, p1, p2, hx, h1, h2⟩, ok, q⟩ := h
    refine ⟨_, PSs.nox (pss_one (ps_ret (pe_op op_mul (pe_fldK K (pv 0) rfl) (pe_op op_fdiv (pv 1) (pe_callB (call_lenK K) rfl m_len (by decide +kernel) (pa_cons (pe_fldK K (pv 0) rfl) (pa_nil))))))), ?_⟩
    obtain ⟨n0, n1, f1, m0, m1, th, ris, can⟩ := ok
    have hlen : (r.ys.length : Int) = (r.n : Int) := by rw [r.ys_len]
    refine ⟨_, rfl, x, C, dx, _, _, rfl, hx, RR.cls, RR.nM, rfl, _, rfl, _, rfl, x, C, dx, _, _, rfl, hx, RR.cls, RR.nA, rfl, p2, _, rfl, .t h2, _, _, rfl, rfl, ⟨by rw [hlen]; omega, by rw [hlen]; omega⟩, _, _, rfl, rfl, .inl ⟨by omega, by omega⟩, ?_⟩
    rw [hlen]
    exact q
/-- the window of two rows: the longer beginning, the common turn -/
def spWin (C : Addr) : Sp := fun vs H Q _ => ∃ (x y : Addr) (r u : RV), vs = [.ref x, .ref y] ∧ RowR C H x r ∧ RowR C H y u ∧ r.Ok ∧ u.Ok ∧ ∀ p H', Same H H' → H' p = some (.tup [.int (max r.fs.length u.fs.length : Nat), .int (Nat.lcm r.n u.n : Nat)]) → Q (.ref p) H'
abbrev s_window : Stmt := top 29
abbrev N_window : List Str := ["one", "other"]
theorem sc_window : FnScope N_window ["one", "other"] (defScope s_window) := ⟨rfl, rfl, rfl, by decide +kernel, rfl, by decide +kernel, by decide +kernel⟩

theorem ok_window {C : Addr} (F : FnP K "window" s_window f fd) (RR : RowC K C) (m_len : mg "len" = none) (m_max : mg "max" = none) (g_common : FnAt P w K mg base CX0 2 "common" ["one", "other"] spCommon) : FnOk P w K mg base CX0 3 f fd ["one", "other"] (spWin C) := by
  refine F.ok sc_window (fun vs H Q E h => ?_) (fun cdv A outer s H vs Q E hr h => ?_)
  · obtain ⟨x, y, r, u, rfl, _⟩ := h
    rfl
  · obtain ⟨x, y, r, u, rfl, ⟨dx, p1, p2, hx, h1, h2⟩, ⟨dy, q1, q2, hy, k1, k2⟩, ok, ok2, q⟩ := h
    refine ⟨_, PSs.nox (pss_one (ps_ret (pe_tup (pa_cons (pe_callB (call_max2 rfl) rfl m_max (by decide +kernel) (pa_cons (pe_callB (call_lenK K) rfl m_len (by decide +kernel) (pa_cons (pe_fldK K (pv 0) rfl) (pa_nil))) (pa_cons (pe_callB (call_lenK K) rfl m_len (by decide +kernel) (pa_cons (pe_fldK K (pv 1) rfl) (pa_nil))) (pa_nil)))) (pa_cons (pe_fn g_common hr rfl (pa_cons (pe_callB (call_lenK K) rfl m_len (by decide +kernel) (pa_cons (pe_fldK K (pv 0) rfl) (pa_nil))) (pa_cons (pe_callB (call_lenK K) rfl m_len (by decide +kernel) (pa_cons (pe_fldK K (pv 1) rfl) (pa_nil))) (pa_nil)))) (pa_nil)))))), ?_⟩
    have o1 := ok.n0
    have o2 := ok.n1
    have o3 := ok2.n0
    have o4 := ok2.n1
    refine ⟨_, rfl, x, C, dx, _, _, rfl, hx, RR.cls, RR.nF, rfl, p1, _, rfl, .t h1, _, rfl, y, C, dy, _, _, rfl, hy, RR.cls, RR.nF, rfl, q1, _, rfl, .t k1, _, _, rfl, ?_⟩
    refine ⟨_, rfl, x, C, dx, _, _, rfl, hx, RR.cls, RR.nA, rfl, p2, _, rfl, .t h2, _, rfl, y, C, dy, _, _, rfl, hy, RR.cls, RR.nA, rfl, q2, _, rfl, .t k2, r.n, u.n, by rw [r.ys_len, u.ys_len]; rfl, o1, o3, by omega, by omega, by show 2 ≤ sizeLine; decide, fun p np => ?_⟩
    refine q p _ (same_new np) ?_
    rw [upd_same]
    have e : (max r.fs.length u.fs.length : Nat) = if (r.fs.length : Int) < (u.fs.length : Int) then u.fs.length else r.fs.length := by
      split <;> omega
    rw [e]
    split <;> rfl
/-! ### making rows -/
/-- the row made of a beginning, a turn, a growth -/
def RV.mk (gs : List V) (zs : List Int) (k : Int) : RV := .of (leastF gs zs k).1 (leastF gs zs k).2.1 (leastF gs zs k).2.2
theorem RV.mk_T {gs : List V} {zs : List Int} {k : Int} (h : 0 < zs.length) : (RV.mk gs zs k).T = seqT gs zs k := funext (least_keeps h).1
theorem RV.mk_ok {gs : List V} {zs : List Int} {k : Int} (z0 : 0 < zs.length) (z1 : zs.length ≤ 20000) (g1 : gs.length ≤ 20000) (k0 : 0 ≤ k) (k1 : k < 1000000) (th : ∀ y ∈ gs, isThingV y = true) (ri : Ris (seqT gs zs k)) : (RV.mk gs zs k).Ok := by
  obtain ⟨i1, i2, i3, i4⟩ := least_keeps (fs := gs) (ag := zs) (m := k) z0
  have L := least_is (m := k) z0 th
  have hp := lin_seq (fs := gs) (m := k) z0
  have tl := turnOf_le (m := k) z0
  have t0 := turnOf_pos zs k
  obtain ⟨q, eq1, eq2⟩ := lin_dvd L.t0 L.lin L.min _ _ _ hp
  have q0 : 0 < q := by
    rcases Nat.eq_zero_or_pos q with z | z
    · rw [z, Nat.mul_zero] at eq1
      omega
    · exact z
  have mm : 0 ≤ (leastF gs zs k).2.2 ∧ (leastF gs zs k).2.2 ≤ k := by
    generalize (leastF gs zs k).2.2 = c at eq2
    have c0 : 0 ≤ c := by
      rcases Int.lt_or_le c 0 with z | z
      · have : (q : Int) * c < 0 := Int.mul_neg_of_pos_of_neg (by omega) z
        omega
      · exact z
    have : 1 * c ≤ (q : Int) * c := Int.mul_le_mul_of_nonneg_right (by omega) c0
    omega
  exact ⟨by show 0 < (leastF gs zs k).2.1.length; omega, by show (leastF gs zs k).2.1.length ≤ 20000; omega, Nat.le_trans i4 g1, mm.1, by show (leastF gs zs k).2.2 < 1000000; omega, fun y hy => th y (i3 y hy), by rw [RV.mk_T z0]; exact ri, fun _ => by rw [RV.mk_T z0]; exact L⟩
theorem leastV_mk {fs : List V} {ag : List Int} {m : Int} (h : 0 < ag.length) : leastV fs (ag.map V.int) m = ((RV.mk fs ag m).fs, (RV.mk fs ag m).ys, (RV.mk fs ag m).m) := by
  have hd0 : ¬ hd (ag.map V.int) = .non := by
    unfold hd
    rw [List.getD_eq_getElem?_getD, List.getElem?_map, List.getElem?_eq_getElem h]
    exact fun z => nomatch z
  have eag : (ag.map V.int).map intOf = ag := by
    rw [List.map_map]
    exact List.map_id'' (fun _ => rfl) ag
  unfold leastV
  rw [if_neg hd0, eag]
  rfl
/-- Row(a, b, k), a and b lists or tuples -/
theorem init_mk {C : Addr} {H : Hp} {a b x dx : Addr} {gs : List V} {zs : List Int} {k : Int} {R : VK} {E : XK} (ha : Sq K H a gs) (hb : Sq K H b (zs.map V.int)) (z0 : 0 < zs.length) (z1 : zs.length ≤ 20000) (g1 : gs.length ≤ 20000) (k0 : 0 ≤ k) (th : ∀ y ∈ gs, isThingV y = true) (ri : Ris (seqT gs zs k))
    (nx : H x = none) (ndx : H dx = none) (hn : dx ≠ x) (h : ∀ H', Same H H' → RowR C H' x (RV.mk gs zs k) → R .non H') : spInit K C [.ref x, .ref a, .ref b, .int k] (upd (upd H dx (.own x)) x (.ins C dx [])) R E := by
  have s1 : Same H (upd (upd H dx (.own x)) x (.ins C dx [])) := (same_new ndx).trans (same_new ((upd_ne (Ne.symm hn)).trans nx))
  refine ⟨x, dx, .ref a, .ref b, gs, zs.map V.int, k, rfl, upd_same, ⟨a, rfl, ha.ex s1, g1, fun y hy => ⟨false, hasT_thing (th y hy)⟩⟩, ⟨b, rfl, hb.ex s1, by rw [List.length_map]; exact z1, fun y hy => ?_⟩, ris_val z0 th k0 ri, fun H' sb hr => ?_⟩
  · obtain ⟨i, _, rfl⟩ := List.mem_map.mp hy
    exact ⟨false, hasT_int i⟩
  · rw [leastV_mk z0] at hr
    exact h H' (made_row (fs := []) (ys := []) (m := 0) nx ndx hn sb) hr
end
end WW

set_option Elab.async false
set_option linter.all false
set_option maxRecDepth 100000
set_option maxHeartbeats 4000000
namespace WW
open PySem PySem.Spec PyProof.Rows L2
section
variable {P : Program} {w : World} {K : PySem.W.Frag} {mg : Str → Option Value} {base : Heap} {f : Addr} {fd : FuncData}
/-- a written row -/
def spConst (C : Addr) (fs ys : List V) (m : Int) : Sp := fun vs H Q _ => vs = [] ∧ ∀ x H', Same H H' → RowAt C H' x fs ys m → Q (.ref x) H'
abbrev s_empty : Stmt := top 26
abbrev N_empty : List Str := []
theorem sc_empty : FnScope N_empty [] (defScope s_empty) := ⟨rfl, rfl, rfl, by decide +kernel, rfl, by decide +kernel, by decide +kernel⟩

theorem ok_empty (F : FnP K "empty" s_empty f fd) (g_Row : MkAt P w K mg base CX0 4 "Row" ["self", "first", "again", "more"] (spInit K (He.ga K "Row")) []) : FnOk P w K mg base CX0 6 f fd [] (spConst (He.ga K "Row") [] [.non] 0) := by
  refine F.ok sc_empty (fun vs H Q E h => ?_) (fun cdv A outer s H vs Q E hr h => ?_)
  · obtain ⟨rfl, _⟩ := h
    rfl
  · obtain ⟨rfl, q⟩ := h
    refine ⟨_, PSs.nox (pss_one (ps_ret (pe_mkr g_Row hr rfl (pa_cons (pe_tup (pa_nil)) (pa_cons (pe_tup (pa_cons (pe_non) (pa_nil))) (pa_cons (pe_int) (pa_nil))))))), ?_⟩
    refine ⟨by decide, fun p1 n1 => ⟨by decide, fun p2 n2 x dx nx ndx hn => ?_⟩⟩
    have s0 : Same H (upd (upd H p1 (.tup [])) p2 (.tup [.non])) := (same_new n1).trans (same_new n2)
    have s1 : Same (upd (upd H p1 (.tup [])) p2 (.tup [.non])) (upd (upd (upd (upd H p1 (.tup [])) p2 (.tup [.non])) dx (.own x)) x (.ins (He.ga K "Row") dx [])) := (same_new ndx).trans (same_new ((upd_ne (Ne.symm hn)).trans nx))
    have h1 := s1 _ _ (same_new n2 _ _ (upd_same (H := H) (a := p1) (o := .tup [])))
    have h2 := s1 _ _ (upd_same (H := upd H p1 (.tup [])) (a := p2) (o := .tup [.non]))
    refine ⟨x, dx, .ref p1, .ref p2, [], [.non], 0, rfl, upd_same, ⟨p1, rfl, .t h1, by decide, fun y hy => nomatch hy⟩, ⟨p2, rfl, .t h2, by decide, fun y hy => ?_⟩, by decide +kernel, fun H' sb hr => ⟨rfl, q x H' (s0.trans (made_row (fs := []) (ys := []) (m := 0) nx ndx hn sb)) ?_⟩⟩
    · rw [List.mem_singleton.mp hy]
      exact ⟨false, hasT_non⟩
    · have e : leastV [] [.non] 0 = ([], [.non], 0) := by decide +kernel
      rw [e] at hr
      exact hr
theorem RowAt.sb {C : Addr} {H H' : Hp} {x b : Addr} {fs ys : List V} {m : Int} (hb : Box H b) (e : SameBut b H H') (h : RowAt C H x fs ys m) : RowAt C H' x fs ys m := by
  obtain ⟨dx, p1, p2, h1, h2, h3⟩ := h
  obtain ⟨u, v, z, hb⟩ := hb
  have n : ∀ {a o}, H a = some o → (∀ xs, o ≠ .lst xs) → a ≠ b := fun ha hn z => by
    rw [z, hb] at ha
    exact hn _ (Option.some.inj ha).symm
  exact ⟨dx, p1, p2, e _ _ (n h1 fun _ z => nomatch z) h1, e _ _ (n h2 fun _ z => nomatch z) h2, e _ _ (n h3 fun _ z => nomatch z) h3⟩
end
end WW

set_option Elab.async false
set_option linter.all false
set_option maxRecDepth 100000
set_option maxHeartbeats 4000000
namespace WW
open PySem PySem.Spec PyProof.Rows L2
def addV (t : Int) : V → V
  | .int i => .int (i + t)
  | v => v
theorem below_add {t : Int} {x y : V} (h : belowV x y = false) : belowV (addV t x) (addV t y) = false := by
  revert h
  cases x with
  | non =>
    cases y with
    | int j => exact fun z => nomatch z
    | _ => exact fun _ => rfl
  | int i =>
    cases y with
    | int j =>
      intro h
      have h := of_decide_eq_false h
      exact decide_eq_false (by omega)
    | _ => exact fun _ => rfl
  | _ => cases y <;> exact fun _ => rfl
/-- a row so many goings behind, so much later -/
def mvT (T : Nat → V) (g : Nat) (t : Int) (n : Nat) : V := if n < g then .non else addV t (T (n - g))
theorem mv_seq {fs : List V} {ag : List Int} {m t : Int} {g : Nat} (h0 : 0 < ag.length) (n : Nat) : seqT (List.replicate g V.non ++ fs.map (addV t)) (ag.map (· + t)) m n = mvT (seqT fs ag m) g t n := by
  have gl : (List.replicate g V.non ++ fs.map (addV t)).length = g + fs.length := by rw [List.length_append, List.length_replicate, List.length_map]
  unfold mvT
  by_cases c : n < g
  · rw [if_pos c, ← seqT_fs (by omega), List.getD_eq_getElem?_getD, List.getElem?_append_left (by rw [List.length_replicate]; exact c), List.getElem?_replicate, if_pos c]
    rfl
  · rw [if_neg c]
    by_cases c2 : n < g + fs.length
    · rw [← seqT_fs (by omega), List.getD_eq_getElem?_getD, List.getElem?_append_right (by rw [List.length_replicate]; omega), List.length_replicate, List.getElem?_map, List.getElem?_eq_getElem (by omega), ← seqT_fs (show n - g < fs.length by omega), List.getD_eq_getElem?_getD, List.getElem?_eq_getElem (by omega)]
      rfl
    · rw [seqT_ge (by omega), seqT_ge (by omega), gl]
      show _ = V.int (_ + t)
      congr 1
      unfold ext
      rw [List.length_map, show n - (g + fs.length) = n - g - fs.length by omega]
      have hl := Nat.mod_lt (n - g - fs.length) h0
      rw [List.getD_eq_getElem?_getD, List.getElem?_map, List.getElem?_eq_getElem hl, List.getD_eq_getElem?_getD, List.getElem?_eq_getElem hl]
      show ag[(n - g - fs.length) % ag.length] + t + _ = ag[(n - g - fs.length) % ag.length] + _ + t
      generalize (((n - g - fs.length) / ag.length : Nat) : Int) * m = z
      omega
theorem mv_ris {T : Nat → V} {g : Nat} {t : Int} (h : Ris T) : Ris (mvT T g t) := fun n => by
  unfold mvT
  by_cases c : n < g
  · rw [if_pos c]
    generalize (if n + 1 < g then V.non else addV t (T (n + 1 - g))) = z
    cases z <;> rfl
  · rw [if_neg c, if_neg (by omega), show n + 1 - g = (n - g) + 1 by omega]
    exact below_add (h (n - g))
section
variable {P : Program} {w : World} {K : PySem.W.Frag} {mg : Str → Option Value} {base : Heap} {f : Addr} {fd : FuncData}
def spMoved (C : Addr) : Sp := fun vs H Q _ => ∃ (x : Addr) (r : RV) (g : Nat) (t : Int), vs = [.ref x, .int (g : Int), .int t] ∧ RowR C H x r ∧ r.Ok ∧ g + r.fs.length ≤ 20000 ∧ g ≤ 1000 ∧
  ∀ y H' r', Same H H' → RowR C H' y r' → r'.Ok → (∀ n, r'.T n = mvT r.T g t n) → Q (.ref y) H'
abbrev s_moved : Stmt := top 27
abbrev N_moved : List Str := ["row", "goings", "time", "first", "thing"]
theorem sc_moved : FnScope N_moved ["row", "goings", "time"] (defScope s_moved) := ⟨rfl, rfl, rfl, by decide +kernel, rfl, by decide +kernel, by decide +kernel⟩

theorem ok_moved (F : FnP K "moved" s_moved f fd) (RR : RowC K (He.ga K "Row")) (g_Row_is_empty : PrpAt P w K mg base CX0 1 (He.ga K "Row") "is_empty" ["self"] (spIsE (He.ga K "Row"))) (g_empty : FnAt P w K mg base CX0 6 "empty" [] (spConst (He.ga K "Row") [] [.non] 0)) (g_Row : MkAt P w K mg base CX0 4 "Row" ["self", "first", "again", "more"] (spInit K (He.ga K "Row")) []) : FnOk P w K mg base CX0 7 f fd ["row", "goings", "time"] (spMoved (He.ga K "Row")) := by
  have c_Row := RR.cls
  refine F.ok sc_moved (fun vs H Q E h => ?_) (fun cdv A outer s H vs Q E hr h => ?_)
  · obtain ⟨x, r, g, t, rfl, _⟩ := h
    rfl
  · obtain ⟨x, r, g, t, rfl, hx, ok, gf, g1, q⟩ := h
    refine ⟨_, PSs.nox (pss_cons (ps_if (pt_val (pe_prp c_Row g_Row_is_empty hr (pv 0))) (pss_one (ps_ret (pe_fn0 g_empty hr rfl))) (pss_nil))
 (pss_cons (ps_setLc (i := 3) (own := [("thing", 4)]) rfl sc_moved.nd rfl rfl (sw_true rfl rfl rfl (by decide +kernel)) (pi_seqK K (pe_fldK K (pv 0) rfl)) (blkOk_by (N := N_moved) (sc := defScope s_moved) (by decide +kernel)) (fun _ _ _ _ _ => pg_name (i := 4) sc_moved.nd rfl (.inl rfl)) (fun _ _ _ _ _ => pts_nil) (fun _ _ _ _ _ => pe_ifExp (pt_cmpR op_isN (pv 4) (pe_non) (nomark _)) (pe_non) (pe_op op_add (pv 4) (pv 2))))
 (pss_one (ps_ret (pe_mkr g_Row hr rfl (pa_cons (pe_op op_cat (pe_op op_rep (pe_lst (pa_cons (pe_non) (pa_nil))) (pv 1)) (pv 3)) (pa_cons (pe_lc (own := [("thing", 4)]) rfl sc_moved.nd (pi_seqK K (pe_fldK K (pv 0) rfl)) (blkOk_by (N := N_moved) (sc := defScope s_moved) (by decide +kernel)) (fun _ _ _ _ _ => pg_name (i := 4) sc_moved.nd rfl (.inl rfl)) (fun _ _ _ _ _ => pts_nil) (fun _ _ _ _ _ => pe_op op_add (pv 4) (pv 2))) (pa_cons (pe_fldK K (pv 0) rfl) (pa_nil))))))))), ?_⟩
    obtain ⟨dx, p1, p2, hx1, h1, h2⟩ := id hx
    refine ⟨_, rfl, x, dx, _, rfl, hx1, x, r, rfl, hx, ok, ?_⟩
    refine ⟨r.isE, rfl, ?_⟩
    cases r with
    | emp =>
      refine ⟨rfl, fun y H1 s1 hy => q y H1 .emp s1 hy ok fun n => ?_⟩
      show V.non = mvT (fun _ => V.non) g t n
      unfold mvT
      split <;> rfl
    | of fs ag m =>
      refine q_no rfl ?_
      dsimp only [List.map_cons, List.map_nil]
      have h1 : H p1 = some (.tup fs) := h1
      have h2 : H p2 = some (.tup (ag.map V.int)) := h2
      have gf : g + fs.length ≤ 20000 := gf
      have n0 : 0 < ag.length := ok.n0
      have n1 : ag.length ≤ 20000 := ok.n1
      have m0 : 0 ≤ m := ok.m0
      have m1 : m < 1000000 := ok.m1
      have th : ∀ y ∈ fs, isThingV y = true := ok.th
      have ri : Ris (seqT fs ag m) := ok.ris
      refine q_seq (q_asg ?_)
      refine lc_sq (K := K) (a := p1) (xs := fs) (addV t) (fun R r => ⟨_, rfl, x, _, dx, _, _, rfl, hx1, RR.cls, RR.nF, rfl, r⟩) (.t h1) (by omega) (fun y hy H1 s1 R r => ?_) fun D H1 s1 nD hD => ?_
      · refine ⟨_, rfl, rfl, _, rfl, ?_⟩
        have ty := th y hy
        revert r ty
        cases y with
        | non => exact fun r _ => r H1 (Same.refl H1)
        | int i => exact fun r _ => ⟨_, rfl, _, rfl, _, _, rfl, rfl, r H1 (Same.refl H1)⟩
        | _ => exact fun _ z => nomatch z
      refine ⟨by show 1 ≤ sizeLine; decide, fun l nl => ⟨_, rfl, l, _, [.non], rfl, rfl, upd_same, by omega, by omega, ?_, fun l2 nl2 => ?_⟩⟩
      · show 1 * ((g : Int)).toNat ≤ sizeLine
        exact Nat.le_trans (show 1 * ((g : Int)).toNat ≤ 20000 by omega) (by decide)
      have er : (List.replicate ((g : Int)).toNat [V.non]).flatten = List.replicate g V.non := by
        rw [Int.toNat_natCast]
        generalize g = k
        induction k with
        | zero => rfl
        | succ k ih => rw [List.replicate_succ, List.flatten_cons, ih]; rfl
      rw [er]
      have s2 := (same_new (o := .lst [V.non]) nl).trans (same_new (o := .lst (List.replicate g V.non)) nl2)
      refine ⟨_, rfl, l2, D, _, _, rfl, rfl, upd_same, s2 _ _ hD, ?_, fun l3 nl3 => ?_⟩
      · rw [List.length_replicate, List.length_map]
        exact Nat.le_trans gf (by decide)
      have s3 := (s1.trans s2).trans (same_new (o := .lst (List.replicate g V.non ++ fs.map (addV t))) nl3)
      have e3 : (upd (upd (upd H1 l (.lst [V.non])) l2 (.lst (List.replicate g V.non))) l3 (.lst (List.replicate g V.non ++ fs.map (addV t)))) l3 = some (.lst (List.replicate g V.non ++ fs.map (addV t))) := upd_same
      generalize upd (upd (upd H1 l (.lst [V.non])) l2 (.lst (List.replicate g V.non))) l3 (.lst (List.replicate g V.non ++ fs.map (addV t))) = H3 at s3 e3
      refine q_cons ?_
      refine lc_sq (K := K) (a := p2) (xs := ag.map V.int) (addV t) (fun R r => ⟨_, rfl, x, _, dx, _, _, rfl, s3 _ _ hx1, RR.cls, RR.nA, rfl, r⟩) (.t (s3 _ _ h2)) (by rw [List.length_map]; omega) (fun y hy H4 s4 R r => ?_) fun D2 H4 s4 nD2 hD2 => ?_
      · obtain ⟨i, _, rfl⟩ := List.mem_map.mp hy
        exact ⟨_, rfl, _, rfl, _, _, rfl, rfl, r H4 (Same.refl H4)⟩
      have ez : (ag.map V.int).map (addV t) = (ag.map (· + t)).map V.int := by
        rw [List.map_map, List.map_map]
        rfl
      rw [ez] at hD2
      have zl : (ag.map (· + t)).length = ag.length := List.length_map _
      have gl : (List.replicate g V.non ++ fs.map (addV t)).length = g + fs.length := by rw [List.length_append, List.length_replicate, List.length_map]
      have eT : seqT (List.replicate g V.non ++ fs.map (addV t)) (ag.map (· + t)) m = mvT (seqT fs ag m) g t := funext (mv_seq n0)
      have th2 : ∀ y ∈ List.replicate g V.non ++ fs.map (addV t), isThingV y = true := fun y hy => by
        rcases List.mem_append.mp hy with h | h
        · rw [List.eq_of_mem_replicate h]
          rfl
        · obtain ⟨u, hu, rfl⟩ := List.mem_map.mp h
          have := th u hu
          revert this
          cases u with
          | non => exact fun _ => rfl
          | int i => exact fun _ => rfl
          | _ => exact fun z => nomatch z
      have ri2 : Ris (seqT (List.replicate g V.non ++ fs.map (addV t)) (ag.map (· + t)) m) := by
        rw [eT]
        exact mv_ris ri
      refine ⟨_, rfl, x, _, dx, _, _, rfl, s4 _ _ (s3 _ _ hx1), RR.cls, RR.nM, rfl, fun y dy ny ndy hny => ?_⟩
      refine init_mk (.l (s4 _ _ e3)) (.l hD2) (by omega) (by omega) (by omega) m0 th2 ri2 ny ndy hny fun H5 s5 hy => ⟨rfl, ?_⟩
      refine q y H5 _ ((s3.trans s4).trans s5) hy (RV.mk_ok (by omega) (by omega) (by omega) m0 m1 th2 ri2) fun n => ?_
      rw [RV.mk_T (by omega)]
      exact congrFun eT n
abbrev s_later : Stmt := top 28
abbrev N_later : List Str := ["row", "marks", "lasts"]
theorem sc_later : FnScope N_later ["row", "marks", "lasts"] (defScope s_later) := ⟨rfl, rfl, rfl, by decide +kernel, rfl, by decide +kernel, by decide +kernel⟩

theorem ok_later (F : FnP K "later" s_later f fd) (g_moved : FnAt P w K mg base CX0 7 "moved" ["row", "goings", "time"] (spMoved (He.ga K "Row"))) : FnOk P w K mg base CX0 8 f fd ["row", "marks", "lasts"] (spMoved (He.ga K "Row")) := by
  refine F.ok sc_later (fun vs H Q E h => ?_) (fun cdv A outer s H vs Q E hr h => ?_)
  · obtain ⟨x, r, g, t, rfl, _⟩ := h
    rfl
  · obtain ⟨x, r, g, t, rfl, h⟩ := h
    refine ⟨_, PSs.nox (pss_one (ps_ret (pe_fn g_moved hr rfl (pa_cons (pv 0) (pa_cons (pv 1) (pa_cons (pv 2) (pa_nil))))))), ?_⟩
    exact ⟨_, rfl, _, rfl, _, rfl, x, r, g, t, rfl, h⟩
end
end WW

set_option Elab.async false
set_option linter.all false
set_option maxRecDepth 100000
set_option maxHeartbeats 4000000
namespace WW
open PySem PySem.Spec PyProof.Rows L2
/-- the greater of two things -/
def maxV : V → V → V
  | .int i, .int j => .int (max i j)
  | .non, y => y
  | x, _ => x
/-- the lesser one -/
def minV : V → V → V
  | .int i, .int j => .int (min i j)
  | _, _ => .non
section
variable {P : Program} {w : World} {K : PySem.W.Frag} {mg : Str → Option Value} {base : Heap} {f : Addr} {fd : FuncData}
def spGreater : Sp := fun vs H Q _ => ∃ x y : V, vs = [x, y] ∧ isThingV x = true ∧ isThingV y = true ∧ Q (maxV x y) H
abbrev s_greater : Stmt := top 35
abbrev N_greater : List Str := ["one", "other"]
theorem sc_greater : FnScope N_greater ["one", "other"] (defScope s_greater) := ⟨rfl, rfl, rfl, by decide +kernel, rfl, by decide +kernel, by decide +kernel⟩

theorem ok_greater (F : FnP K "greater" s_greater f fd) (m_max : mg "max" = none) (m_int : mg "int" = none) : FnOk P w K mg base CX0 1 f fd ["one", "other"] spGreater := by
  refine F.ok sc_greater (fun vs H Q E h => ?_) (fun cdv A outer s H vs Q E hr h => ?_)
  · obtain ⟨x, y, rfl, _⟩ := h
    rfl
  · obtain ⟨x, y, rfl, hx, hy, q⟩ := h
    refine ⟨_, PSs.nox (pss_cons (ps_if (PW.pt (pw_or (pt_cmpR op_isN (pv 0) (pe_non) (nomark _)) (pw_or1 (pt_cmpR op_isN (pv 1) (pe_non) (nomark _))))) (pss_one (ps_ret (pe_ifExp (pt_cmpR op_isN (pv 0) (pe_non) (nomark _)) (pv 1) (pv 0)))) (pss_nil))
 (pss_one (ps_ret (pe_callB (call_max2 rfl) rfl m_max (by decide +kernel) (pa_cons (pe_callTy call_int1 rfl m_int (by decide +kernel) (pa_cons (pv 0) (pa_nil))) (pa_cons (pe_callTy call_int1 rfl m_int (by decide +kernel) (pa_cons (pv 1) (pa_nil))) (pa_nil))))))), ?_⟩
    refine ⟨_, rfl, rfl, _, rfl, ?_⟩
    revert hx hy q
    cases x with
    | non =>
      intro _ hy q
      refine ⟨_, rfl, rfl, _, rfl, _, rfl, ?_⟩
      revert q
      cases y <;> exact fun q => q
    | int i =>
      cases y with
      | non =>
        intro _ _ q
        exact ⟨_, rfl, rfl, _, rfl, _, rfl, rfl, _, rfl, _, rfl, q⟩
      | int j =>
        intro _ _ q
        refine ⟨_, rfl, rfl, _, rfl, ?_⟩
        refine ⟨_, rfl, .inl ⟨i, rfl, _, rfl, .inl ⟨j, rfl, i, j, rfl, ?_⟩⟩⟩
        have e : (if j > i then j else i) = max i j := by
          split <;> omega
        rw [e]
        exact q
      | _ => exact fun _ z => nomatch z
    | _ => exact fun z => nomatch z
def spLesser : Sp := fun vs H Q _ => ∃ x y : V, vs = [x, y] ∧ isThingV x = true ∧ isThingV y = true ∧ Q (minV x y) H
abbrev s_lesser : Stmt := top 36
abbrev N_lesser : List Str := ["one", "other"]
theorem sc_lesser : FnScope N_lesser ["one", "other"] (defScope s_lesser) := ⟨rfl, rfl, rfl, by decide +kernel, rfl, by decide +kernel, by decide +kernel⟩

theorem ok_lesser (F : FnP K "lesser" s_lesser f fd) (m_min : mg "min" = none) (m_int : mg "int" = none) : FnOk P w K mg base CX0 1 f fd ["one", "other"] spLesser := by
  refine F.ok sc_lesser (fun vs H Q E h => ?_) (fun cdv A outer s H vs Q E hr h => ?_)
  · obtain ⟨x, y, rfl, _⟩ := h
    rfl
  · obtain ⟨x, y, rfl, hx, hy, q⟩ := h
    refine ⟨_, PSs.nox (pss_one (ps_ret (pe_ifExp (PW.pt (pw_or (pt_cmpR op_isN (pv 0) (pe_non) (nomark _)) (pw_or1 (pt_cmpR op_isN (pv 1) (pe_non) (nomark _))))) (pe_non) (pe_callB (call_min2 rfl) rfl m_min (by decide +kernel) (pa_cons (pe_callTy call_int1 rfl m_int (by decide +kernel) (pa_cons (pv 0) (pa_nil))) (pa_cons (pe_callTy call_int1 rfl m_int (by decide +kernel) (pa_cons (pv 1) (pa_nil))) (pa_nil))))))), ?_⟩
    refine ⟨_, rfl, rfl, _, rfl, ?_⟩
    revert hx hy q
    cases x with
    | non => exact fun _ _ q => q
    | int i =>
      cases y with
      | non => exact fun _ _ q => ⟨_, rfl, rfl, _, rfl, q⟩
      | int j =>
        intro _ _ q
        refine ⟨_, rfl, rfl, _, rfl, ?_⟩
        refine ⟨_, rfl, .inl ⟨i, rfl, _, rfl, .inl ⟨j, rfl, i, j, rfl, ?_⟩⟩⟩
        have e : (if j < i then j else i) = min i j := by
          split <;> omega
        rw [e]
        exact q
      | _ => exact fun _ z => nomatch z
    | _ => exact fun z => nomatch z
/-- Row(values[:start], values[start:start + turn], more) -/
def spVals (K : PySem.W.Frag) (C : Addr) : Sp := fun vs H Q _ => ∃ (a : Addr) (xs : List V) (s t : Nat) (k : Int) (zs : List Int), vs = [.ref a, .int (s : Int), .int (t : Int), .int k] ∧ H a = some (.lst xs) ∧ xs.length = s + t ∧ 0 < t ∧ s + t ≤ 20000 ∧ 0 ≤ k ∧ xs.drop s = zs.map V.int ∧ (∀ y ∈ xs.take s, isThingV y = true) ∧ Ris (seqT (xs.take s) zs k) ∧
  ∀ y H', Same H H' → RowR C H' y (RV.mk (xs.take s) zs k) → Q (.ref y) H'
abbrev s_row_of_values : Stmt := top 34
abbrev N_row_of_values : List Str := ["values", "start", "turn", "more"]
theorem sc_row_of_values : FnScope N_row_of_values ["values", "start", "turn", "more"] (defScope s_row_of_values) := ⟨rfl, rfl, rfl, by decide +kernel, rfl, by decide +kernel, by decide +kernel⟩

theorem ok_vals (F : FnP K "row_of_values" s_row_of_values f fd) (g_Row : MkAt P w K mg base CX0 4 "Row" ["self", "first", "again", "more"] (spInit K (He.ga K "Row")) []) : FnOk P w K mg base CX0 6 f fd ["values", "start", "turn", "more"] (spVals K (He.ga K "Row")) := by
  refine F.ok sc_row_of_values (fun vs H Q E h => ?_) (fun cdv A outer s H vs Q E hr h => ?_)
  · obtain ⟨a, xs, s, t, k, zs, rfl, _⟩ := h
    rfl
  · obtain ⟨a, xs, s0, t, k, zs, rfl, ha, hl, t0, hb, k0, hz, th, ri, q⟩ := h
    refine ⟨_, PSs.nox (pss_one (ps_ret (pe_mkr g_Row hr rfl (pa_cons (pe_slice (sl_sqK K) (pv 0) (po_none) (po_some (pv 1))) (pa_cons (pe_slice (sl_sqK K) (pv 0) (po_some (pv 1)) (po_some (pe_op op_add (pv 1) (pv 2)))) (pa_cons (pv 3) (pa_nil))))))), ?_⟩
    have zl : zs.length = t := by
      have := congrArg List.length hz
      rw [List.length_drop, List.length_map, hl] at this
      omega
    refine ⟨_, rfl, _, rfl, _, rfl, .inl ⟨a, _, rfl, .inl (.inl ha), fun l1 nl1 => ?_⟩⟩
    rw [cut_to]
    refine ⟨_, rfl, _, rfl, _, rfl, _, rfl, _, rfl, _, _, rfl, rfl, _, rfl, .inl ⟨a, _, rfl, .inl (.inl (same_new nl1 _ _ ha)), fun l2 nl2 => ?_⟩⟩
    have c2 : cutV xs (some (s0 : Int)) (some ((s0 : Int) + (t : Int))) = zs.map V.int := by
      rw [show (s0 : Int) + (t : Int) = ((s0 + t : Nat) : Int) from rfl, ← hz]
      unfold cutV
      rw [HT.sIx_nat, HT.sIx_nat, Nat.min_eq_left (by omega), Nat.min_eq_left (by omega)]
      exact List.take_of_length_le (by rw [List.length_drop]; omega)
    rw [c2]
    refine ⟨_, rfl, fun y dy ny ndy hny => ?_⟩
    exact init_mk (.l (same_new nl2 _ _ upd_same)) (.l upd_same) (by omega) (by omega) (by rw [List.length_take]; omega) k0 th ri ny ndy hny fun H5 s5 hy => ⟨rfl, q y H5 (((same_new nl1).trans (same_new nl2)).trans s5) hy⟩
end
end WW

set_option Elab.async false
set_option linter.all false
set_option maxRecDepth 100000
set_option maxHeartbeats 4000000
namespace WW
open PySem PySem.Spec PyProof.Rows L2
/-- how far U is above T at n -/
def gapI (T U : Nat → V) (n : Nat) : Int := intOf (U n) - intOf (T n)
theorem RV.int_at {r : RV} (h : r.isE = false) {n : Nat} (hn : r.fs.length ≤ n) : r.T n = .int (intOf (r.T n)) := by
  revert h hn
  cases r with
  | emp => exact fun z => nomatch z
  | of fs ag m =>
    intro _ hn
    have hn : fs.length ≤ n := hn
    show seqT fs ag m n = .int (intOf (seqT fs ag m n))
    rw [seqT_ge (by omega)]
    rfl
section
variable {P : Program} {w : World} {K : PySem.W.Frag} {mg : Str → Option Value} {base : Heap} {f : Addr} {fd : FuncData}
def spParted (C : Addr) : Sp := fun vs H Q _ => ∃ (x y : Addr) (r u : RV) (s t : Nat) (gain : Int), vs = [.ref x, .ref y] ∧ RowR C H x r ∧ RowR C H y u ∧ r.Ok ∧ u.Ok ∧ r.isE = false ∧ u.isE = false ∧ s = max r.fs.length u.fs.length ∧ t = Nat.lcm r.n u.n ∧ t ≤ 1000 ∧
  gain = r.m * ((t / r.n : Nat) : Int) - u.m * ((t / u.n : Nat) : Int) ∧ 0 < gain ∧ gain < 1000000000 ∧
  ∀ (l : Int) H', Same H H' → (∃ i, i < t ∧ l = gapI r.T u.T (s + i)) → (∀ i, i < t → gapI r.T u.T (s + i) ≤ l) → Q (.int ((s : Int) + (t : Int) * (max 0 (-(-l / gain))))) H'
abbrev s_parted : Stmt := top 37
abbrev N_parted : List Str := ["fast", "slow", "start", "turn", "gain", "lack", "n"]
theorem sc_parted : FnScope N_parted ["fast", "slow"] (defScope s_parted) := ⟨rfl, rfl, rfl, by decide +kernel, rfl, by decide +kernel, by decide +kernel⟩

theorem ok_parted (F : FnP K "parted" s_parted f fd) (RR : RowC K (He.ga K "Row")) (m_max : mg "max" = none) (m_range : mg "range" = none) (m_int : mg "int" = none) (g_window : FnAt P w K mg base CX0 3 "window" ["one", "other"] (spWin (He.ga K "Row"))) (g_growth : FnAt P w K mg base CX0 1 "growth" ["row", "turn"] (spGrow (He.ga K "Row")))
    (g_Row_time : MthAt P w K mg base CX0 1 (He.ga K "Row") "time" ["self", "n"] (spRT (He.ga K "Row"))) (g_ceiling : FnAt P w K mg base CX0 1 "ceiling" ["upper", "lower"] spCeil) : FnOk P w K mg base CX0 4 f fd ["fast", "slow"] (spParted (He.ga K "Row")) := by
  have c_Row := RR.cls
  refine F.ok sc_parted (fun vs H Q E h => ?_) (fun cdv A outer s H vs Q E hr h => ?_)
  · obtain ⟨x, y, r, u, s, t, g, rfl, _⟩ := h
    rfl
  · obtain ⟨x, y, r, u, s0, t, gain, rfl, hx, hy, ok, ok2, er, eu, es, et, t1, eg, g0, g1, q⟩ := h
    refine ⟨_, PSs.nox (pss_cons (ps_asg (pe_fn g_window hr rfl (pa_cons (pv 0) (pa_cons (pv 1) (pa_nil)))) (pg_tupK K rfl (pgs_cons (pg_name (i := 2) sc_parted.nd rfl (.inl rfl)) (pgs_cons (pg_name (i := 3) sc_parted.nd rfl (.inl rfl)) (pgs_nil)))))
 (pss_cons (ps_set (i := 4) sc_parted.nd rfl (.inl rfl) (pe_op op_sub (pe_fn g_growth hr rfl (pa_cons (pv 0) (pa_cons (pv 3) (pa_nil)))) (pe_fn g_growth hr rfl (pa_cons (pv 1) (pa_cons (pv 3) (pa_nil))))))
 (pss_cons (ps_set (i := 5) sc_parted.nd rfl (.inl rfl) (pe_callB (cr_maxK K) rfl m_max (by decide +kernel) (pa_cons (pe_lc (own := [("n", 6)]) rfl sc_parted.nd (pi_range2 rfl m_range (pa_cons (pv 2) (pa_cons (pe_op op_add (pv 2) (pv 3)) (pa_nil)))) (blkOk_by (N := N_parted) (sc := defScope s_parted) (by decide +kernel)) (fun _ _ _ _ _ => pg_name (i := 6) sc_parted.nd rfl (.inl rfl)) (fun _ _ _ _ _ => pts_nil) (fun _ _ _ _ _ => pe_callTy call_int1 rfl m_int (by decide +kernel) (pa_cons (pe_op op_sub (pe_mth c_Row g_Row_time hr (pv 1) (pa_cons (pv 6) (pa_nil))) (pe_mth c_Row g_Row_time hr (pv 0) (pa_cons (pv 6) (pa_nil)))) (pa_nil)))) (pa_nil))))
 (pss_one (ps_ret (pe_op op_add (pv 2) (pe_op op_mul (pv 3) (pe_callB (call_max2 rfl) rfl m_max (by decide +kernel) (pa_cons (pe_int) (pa_cons (pe_fn g_ceiling hr rfl (pa_cons (pv 5) (pa_cons (pv 4) (pa_nil)))) (pa_nil))))))))))), ?_⟩
    have t0 : 0 < t := by
      rw [et]
      exact Nat.lcm_pos ok.n0 ok2.n0
    have f1 := ok.f1
    have f2 := ok2.f1
    refine ⟨_, rfl, _, rfl, x, y, r, u, rfl, hx, hy, ok, ok2, fun p H1 s1 hp => ?_⟩
    rw [← es, ← et] at hp
    refine ⟨p, _, rfl, .inl (.inl hp), rfl, _, _, rfl, _, _, rfl, rfl, ?_⟩
    refine ⟨_, rfl, _, rfl, x, r, t, rfl, RowAt.ex s1 hx, ok, _, rfl, _, rfl, y, u, t, rfl, RowAt.ex s1 hy, ok2, _, _, rfl, rfl, ?_⟩
    dsimp only [List.map_cons, List.map_nil]
    refine q_name ?_
    rw [← eg]
    refine q_seq (q_asg (q_cb (q_one ?_)))
    refine ⟨_, rfl, _, rfl, _, rfl, _, _, rfl, rfl, _, _, rfl, ⟨by omega, by omega, by omega, by omega⟩, fun D nD => ?_⟩
    rw [show ((s0 : Int) + (t : Int) - (s0 : Int)).toNat = t by omega]
    dsimp only [List.map_cons, List.map_nil]
    refine lc_rg (fun i => .int (gapI r.T u.T (s0 + i))) (by omega) nD (fun i hi H2 s2 R k => ?_) fun H2 s2 hD => ?_
    · have s12 := s1.trans s2
      have rx := RowAt.ex s12 hx
      have ry := RowAt.ex s12 hy
      obtain ⟨dx, p1, p2, hx1, _⟩ := id rx
      obtain ⟨dy, q1, q2, hy1, _⟩ := id ry
      have en : (s0 : Int) + (i : Int) = ((s0 + i : Nat) : Int) := rfl
      refine ⟨_, rfl, y, dy, _, rfl, hy1, rfl, _, rfl, y, u, s0 + i, rfl, ry, ok2, ?_⟩
      refine ⟨_, rfl, x, dx, _, rfl, hx1, rfl, _, rfl, x, r, s0 + i, rfl, rx, ok, ?_⟩
      exact ⟨_, _, RV.int_at eu (by omega), RV.int_at er (by omega), .inl ⟨_, rfl, k H2 (Same.refl H2)⟩⟩
    refine ⟨D, (List.range t).map fun i => gapI r.T u.T (s0 + i), rfl, .inl (.inl (by rw [hD, List.map_map]; rfl)), by rw [List.length_map, List.length_range]; exact t0, fun l hl hu => ?_⟩
    have l1 : ∃ i, i < t ∧ l = gapI r.T u.T (s0 + i) := by
      obtain ⟨i, hi, e⟩ := List.mem_map.mp hl
      exact ⟨i, List.mem_range.mp hi, e.symm⟩
    have l2 : ∀ i, i < t → gapI r.T u.T (s0 + i) ≤ l := fun i hi => hu _ (List.mem_map.mpr ⟨i, List.mem_range.mpr hi, rfl⟩)
    have fin := q l H2 (s1.trans s2) l1 l2
    refine ⟨_, rfl, _, rfl, _, rfl, _, rfl, l, gain, rfl, g0, g1, _, _, rfl, _, _, rfl, rfl, .inl ⟨by omega, by omega⟩, _, _, rfl, rfl, ?_⟩
    have e : (if -(-l / gain) > 0 then -(-l / gain) else 0) = max 0 (-(-l / gain)) := by
      split <;> omega
    rw [e]
    exact fin
end
end WW

set_option Elab.async false
set_option linter.all false
set_option maxRecDepth 100000
set_option maxHeartbeats 4000000
namespace WW
open PySem L2
theorem gap_turns {T U : Nat → V} {s t : Nat} {c d : Int} (hT : Lin T s t c) (hU : Lin U s t d) (n : Nat) (hn : s ≤ n) (q : Nat) : gapI T U (n + t * q) = gapI T U n - (q : Int) * (c - d) := by
  obtain ⟨x, e1, e2⟩ := hT.times n hn q
  obtain ⟨y, f1, f2⟩ := hU.times n hn q
  unfold gapI
  rw [e1, e2, f1, f2]
  show y + (q : Int) * d - (x + (q : Int) * c) = y - x - (q : Int) * (c - d)
  rw [Int.mul_sub]
  omega
/-- from parted's start on the faster row is nowhere below -/
theorem parted_ok {T U : Nat → V} {s t : Nat} {c d l : Int} (hT : Lin T s t c) (hU : Lin U s t d) (t0 : 0 < t) (g : 0 < c - d) (hl : ∀ i, i < t → gapI T U (s + i) ≤ l) (n : Nat) (hn : (s : Int) + (t : Int) * (max 0 (-(-l / (c - d)))) ≤ (n : Int)) : gapI T U n ≤ 0 := by
  have k0 : 0 ≤ max 0 (-(-l / (c - d))) := by omega
  obtain ⟨k, hk⟩ : ∃ k : Nat, max 0 (-(-l / (c - d))) = (k : Int) := ⟨(max 0 (-(-l / (c - d)))).toNat, by omega⟩
  rw [hk] at hn
  have sn : s + t * k ≤ n := by
    have : ((s + t * k : Nat) : Int) ≤ (n : Int) := by
      rw [Int.natCast_add, Int.natCast_mul]
      exact hn
    omega
  have e : n = (s + (n - s) % t) + t * ((n - s) / t) := by
    have := Nat.mod_add_div (n - s) t
    omega
  have hlt := Nat.mod_lt (n - s) t0
  have kq : k ≤ (n - s) / t := by
    rw [Nat.le_div_iff_mul_le t0, Nat.mul_comm]
    omega
  rw [e, gap_turns hT hU _ (by omega)]
  have h1 := hl _ hlt
  have h2 : (k : Int) * (c - d) ≤ (((n - s) / t : Nat) : Int) * (c - d) := Int.mul_le_mul_of_nonneg_right (by omega) (by omega)
  have h3 : l ≤ (k : Int) * (c - d) := by
    have a1 : -(-l / (c - d)) ≤ (k : Int) := by omega
    have a2 : -(k : Int) ≤ -l / (c - d) := by omega
    have a3 := (Int.le_ediv_iff_mul_le g).mp a2
    rw [Int.neg_mul] at a3
    omega
  omega
end WW

set_option Elab.async false
set_option linter.all false
set_option maxRecDepth 100000
set_option maxHeartbeats 4000000
namespace WW
open PySem PySem.Spec PyProof.Rows L2
section
variable {P : Program} {w : World} {K : PySem.W.Frag} {mg : Str → Option Value} {base : Heap} {f : Addr} {fd : FuncData}
def growI (r : RV) (t : Nat) : Int := r.m * ((t / r.n : Nat) : Int)
def fastB (r u : RV) (t : Nat) : Bool := !r.isE && (u.isE || decide (growI r t > growI u t))
def abv (r u : RV) (n : Nat) : Bool := belowV (u.T n) (r.T n)
def spAbove (C : Addr) : Sp := fun vs H Q _ => ∃ (x y : Addr) (r u : RV) (s t : Nat), vs = [.ref x, .ref y] ∧ RowR C H x r ∧ RowR C H y u ∧ r.Ok ∧ u.Ok ∧ s = max r.fs.length u.fs.length ∧ t = Nat.lcm r.n u.n ∧ (fastB r u t = true → ∃ N, abv r u N = true) ∧
  ∀ v H', Same H H' → ((∃ n : Nat, v = .int (n : Int) ∧ abv r u n = true ∧ ∀ k, k < n → abv r u k = false) ∨ (v = .non ∧ fastB r u t = false ∧ ∀ k, k < s + t → abv r u k = false)) → Q v H'
abbrev s_first_above : Stmt := top 31
abbrev N_first_above : List Str := ["one", "other", "start", "turn", "is_faster", "at"]
theorem sc_first_above : FnScope N_first_above ["one", "other"] (defScope s_first_above) := ⟨rfl, rfl, rfl, by decide +kernel, rfl, by decide +kernel, by decide +kernel⟩

theorem ok_above (F : FnP K "first_above" s_first_above f fd) (RR : RowC K (He.ga K "Row")) (g_window : FnAt P w K mg base CX0 3 "window" ["one", "other"] (spWin (He.ga K "Row"))) (g_growth : FnAt P w K mg base CX0 1 "growth" ["row", "turn"] (spGrow (He.ga K "Row"))) (g_is_below : FnAt P w K mg base CX0 1 "is_below" ["one", "other"] spBelow)
    (g_Row_time : MthAt P w K mg base CX0 1 (He.ga K "Row") "time" ["self", "n"] (spRT (He.ga K "Row"))) (g_Row_is_empty : PrpAt P w K mg base CX0 1 (He.ga K "Row") "is_empty" ["self"] (spIsE (He.ga K "Row"))) : FnOk P w K mg base CX0 4 f fd ["one", "other"] (spAbove (He.ga K "Row")) := by
  have c_Row := RR.cls
  refine F.ok sc_first_above (fun vs H Q E h => ?_) (fun cdv A outer s H vs Q E hr h => ?_)
  · obtain ⟨x, y, r, u, s, t, rfl, _⟩ := h
    rfl
  · obtain ⟨x, y, r, u, s0, t, rfl, hx, hy, ok, ok2, es, et, wit, q⟩ := h
    refine ⟨_, PSs.nox (pss_cons (ps_asg (pe_fn g_window hr rfl (pa_cons (pv 0) (pa_cons (pv 1) (pa_nil)))) (pg_tupK K rfl (pgs_cons (pg_name (i := 2) sc_first_above.nd rfl (.inl rfl)) (pgs_cons (pg_name (i := 3) sc_first_above.nd rfl (.inl rfl)) (pgs_nil)))))
 (Evl.pss_cut (ps_set (i := 4) sc_first_above.nd rfl (.inl rfl) (pe_and (pe_not (pe_prp c_Row g_Row_is_empty hr (pv 0))) (pe_one (pe_or (pe_prp c_Row g_Row_is_empty hr (pv 1)) (pe_one (pe_cmpR op_gt (pe_fn g_growth hr rfl (pa_cons (pv 0) (pa_cons (pv 3) (pa_nil)))) (pe_fn g_growth hr rfl (pa_cons (pv 1) (pa_cons (pv 3) (pa_nil)))) (nomark _)))))))
 (pss_cons (ps_set (i := 5) sc_first_above.nd rfl (.inl rfl) (pe_int))
 (pss_cons (ps_while PassesOwn.never (PW.pt (pw_or (pt_val (pv 4)) (pw_or1 (pt_cmpR op_lt (pv 5) (pe_op op_add (pv 2) (pv 3)) (nomark _))))) (pss_cons (ps_if (pt_val (pe_fn g_is_below hr rfl (pa_cons (pe_mth c_Row g_Row_time hr (pv 1) (pa_cons (pv 5) (pa_nil))) (pa_cons (pe_mth c_Row g_Row_time hr (pv 0) (pa_cons (pv 5) (pa_nil))) (pa_nil))))) (pss_one (ps_ret (pv 5))) (pss_nil))
 (pss_one (ps_aug (i := 5) sc_first_above.nd rfl (.inl rfl) (pe_int) ip_add))))
 (pss_one (ps_ret (pe_non))))))), ?_⟩
    refine ⟨_, rfl, _, rfl, x, y, r, u, rfl, hx, hy, ok, ok2, fun p H1 s1 hp => ?_⟩
    rw [← es, ← et] at hp
    refine ⟨p, _, rfl, .inl (.inl hp), rfl, _, _, rfl, _, _, rfl, rfl, ?_⟩
    have rx := RowAt.ex s1 hx
    have ry := RowAt.ex s1 hy
    obtain ⟨dx, p1, p2, hx1, _⟩ := id rx
    obtain ⟨dy, q1, q2, hy1, _⟩ := id ry
    refine ⟨fun σ H2 => σ = [some (.ref x), some (.ref y), some (.int (s0 : Int)), some (.int (t : Int)), some (.bl (fastB r u t)), none] ∧ H2 = H1, ?_, ?_⟩
    · refine ⟨_, rfl, x, dx, _, rfl, hx1, x, r, rfl, rx, ok, ?_⟩
      refine ⟨r.isE, rfl, !r.isE, rfl, ?_⟩
      unfold fastB
      cases e1 : r.isE with
      | true => exact ⟨rfl, rfl⟩
      | false =>
        refine ⟨_, rfl, y, dy, _, rfl, hy1, y, u, rfl, ry, ok2, u.isE, rfl, ?_⟩
        cases e2 : u.isE with
        | true => exact ⟨rfl, rfl⟩
        | false => exact ⟨_, rfl, _, rfl, x, r, t, rfl, rx, ok, _, rfl, _, rfl, y, u, t, rfl, ry, ok2, _, _, rfl, rfl, rfl, rfl⟩
    · rintro σ H2 ⟨rfl, rfl⟩
      obtain ⟨N, hN⟩ : ∃ N : Nat, (fastB r u t = true → abv r u N = true) ∧ (fastB r u t = false → N = s0 + t) := by
        cases e : fastB r u t with
        | true =>
          obtain ⟨N, h⟩ := wit e
          exact ⟨N, fun _ => h, fun z => by cases z⟩
        | false => exact ⟨s0 + t, (fun z => by cases z), fun _ => rfl⟩
      refine ⟨fun k σ Hc => ∃ n : Nat, σ = [some (.ref x), some (.ref y), some (.int (s0 : Int)), some (.int (t : Int)), some (.bl (fastB r u t)), some (.int (n : Int))] ∧ Same H2 Hc ∧ k = N - n ∧ ∀ i, i < n → abv r u i = false, ⟨N, 0, rfl, Same.refl H2, by omega, fun i hi => absurd hi (Nat.not_lt_zero i)⟩, ?_⟩
      rintro k σ Hc ⟨n, rfl, sc, ek, hk⟩
      have thT : ∀ i, isThingV (r.T i) = true := fun i => by
        cases r with
        | emp => rfl
        | of fs ag m => exact seqT_thg ok.th i
      have thU : ∀ i, isThingV (u.T i) = true := fun i => by
        cases u with
        | emp => rfl
        | of fs ag m => exact seqT_thg ok2.th i
      have rx2 := RowAt.ex sc rx
      have ry2 := RowAt.ex sc ry
      have hx2 := sc _ _ hx1
      have hy2 := sc _ _ hy1
      have up : ∀ i, i < n + 1 → abv r u n = false → abv r u i = false := fun i hi z => by
        rcases Nat.lt_or_eq_of_le (Nat.le_of_lt_succ hi) with l | l
        · exact hk i l
        · rw [l]
          exact z
      refine ⟨_, rfl, fastB r u t, rfl, ?_⟩
      cases e : fastB r u t with
      | true =>
        have nN : abv r u n = false → n < N := fun z => by
          rcases Nat.lt_or_ge n N with l | l
          · exact l
          · have a := hN.1 e
            rcases Nat.lt_or_eq_of_le l with l | l
            · rw [hk N l] at a
              cases a
            · rw [l, z] at a
              cases a
        refine ⟨fun σ' H' => σ' = [some (.ref x), some (.ref y), some (.int (s0 : Int)), some (.int (t : Int)), some (.bl true), some (.int ((n : Int) + 1))] ∧ Same H2 H' ∧ abv r u n = false, ?_, ?_⟩
        · rintro σ' H' ⟨rfl, s3, z⟩
          exact ⟨N - (n + 1), by have := nN z; omega, n + 1, rfl, s3, rfl, fun i hi => up i hi z⟩
        · refine ⟨_, rfl, y, dy, _, rfl, hy2, rfl, _, rfl, y, u, n, rfl, ry2, ok2, _, rfl, x, dx, _, rfl, hx2, rfl, _, rfl, x, r, n, rfl, rx2, ok, ?_⟩
          refine ⟨_, ⟨_, _, rfl, thU n, thT n, rfl⟩, fun H3 s3 => ⟨abv r u n, rfl, ?_⟩⟩
          cases a : abv r u n with
          | true => exact ⟨_, rfl, q _ H3 ((s1.trans sc).trans s3) (.inl ⟨n, rfl, a, hk⟩)⟩
          | false => exact ⟨_, rfl, _, _, rfl, rfl, rfl, sc.trans s3, rfl⟩
      | false =>
        refine ⟨_, rfl, _, rfl, _, rfl, _, _, rfl, rfl, _, _, rfl, rfl, _, rfl, ?_⟩
        have eN := hN.2 e
        by_cases c : (n : Int) < (s0 : Int) + (t : Int)
        · rw [decide_eq_true c]
          refine ⟨fun σ' H' => σ' = [some (.ref x), some (.ref y), some (.int (s0 : Int)), some (.int (t : Int)), some (.bl false), some (.int ((n : Int) + 1))] ∧ Same H2 H' ∧ abv r u n = false, ?_, ?_⟩
          · rintro σ' H' ⟨rfl, s3, z⟩
            exact ⟨N - (n + 1), by omega, n + 1, rfl, s3, rfl, fun i hi => up i hi z⟩
          · refine ⟨_, rfl, y, dy, _, rfl, hy2, rfl, _, rfl, y, u, n, rfl, ry2, ok2, _, rfl, x, dx, _, rfl, hx2, rfl, _, rfl, x, r, n, rfl, rx2, ok, ?_⟩
            refine ⟨_, ⟨_, _, rfl, thU n, thT n, rfl⟩, fun H3 s3 => ⟨abv r u n, rfl, ?_⟩⟩
            cases a : abv r u n with
            | true => exact ⟨_, rfl, q _ H3 ((s1.trans sc).trans s3) (.inl ⟨n, rfl, a, hk⟩)⟩
            | false => exact ⟨_, rfl, _, _, rfl, rfl, rfl, sc.trans s3, rfl⟩
        · rw [decide_eq_false c]
          exact q _ Hc (s1.trans sc) (.inr ⟨rfl, e, fun i hi => hk i (by omega)⟩)
/-- one is nowhere above the other -/
def spAtMost (C : Addr) : Sp := fun vs H Q _ => ∃ (x y : Addr) (r u : RV) (s t : Nat), vs = [.ref x, .ref y] ∧ RowR C H x r ∧ RowR C H y u ∧ r.Ok ∧ u.Ok ∧ s = max r.fs.length u.fs.length ∧ t = Nat.lcm r.n u.n ∧ (fastB r u t = true → ∃ N, abv r u N = true) ∧
  ∀ v H', Same H H' → ((v = false ∧ ∃ n, abv r u n = true) ∨ (v = true ∧ fastB r u t = false ∧ ∀ k, k < s + t → abv r u k = false)) → Q (.bl v) H'
abbrev s_is_at_most : Stmt := top 32
abbrev N_is_at_most : List Str := ["one", "other"]
theorem sc_is_at_most : FnScope N_is_at_most ["one", "other"] (defScope s_is_at_most) := ⟨rfl, rfl, rfl, by decide +kernel, rfl, by decide +kernel, by decide +kernel⟩

theorem ok_atmost (F : FnP K "is_at_most" s_is_at_most f fd) (g_first_above : FnAt P w K mg base CX0 4 "first_above" ["one", "other"] (spAbove (He.ga K "Row"))) : FnOk P w K mg base CX0 5 f fd ["one", "other"] (spAtMost (He.ga K "Row")) := by
  refine F.ok sc_is_at_most (fun vs H Q E h => ?_) (fun cdv A outer s H vs Q E hr h => ?_)
  · obtain ⟨x, y, r, u, s, t, rfl, _⟩ := h
    rfl
  · obtain ⟨x, y, r, u, s0, t, rfl, hx, hy, ok, ok2, es, et, wit, q⟩ := h
    refine ⟨_, PSs.nox (pss_one (ps_ret (pe_cmpR op_isN (pe_fn g_first_above hr rfl (pa_cons (pv 0) (pa_cons (pv 1) (pa_nil)))) (pe_non) (nomark _)))), ?_⟩
    refine ⟨_, rfl, _, rfl, x, y, r, u, s0, t, rfl, hx, hy, ok, ok2, es, et, wit, fun v H1 s1 h => ⟨rfl, ?_⟩⟩
    rcases h with ⟨n, rfl, a, _⟩ | ⟨rfl, e, a⟩
    · exact q false H1 s1 (.inl ⟨rfl, n, a⟩)
    · exact q true H1 s1 (.inr ⟨rfl, e, a⟩)
end
end WW

set_option Elab.async false
set_option linter.all false
set_option maxRecDepth 100000
set_option maxHeartbeats 4000000
namespace WW
open PySem L2
/-- a row told by its times -/
theorem seq_vals {W : Nat → V} {s t : Nat} {c : Int} (h : Lin W s t c) (t0 : 0 < t) (n : Nat) : seqT ((List.range s).map W) ((List.range t).map fun i => intOf (W (s + i))) c n = W n := by
  have fl : ((List.range s).map W).length = s := by rw [List.length_map, List.length_range]
  have al : ((List.range t).map fun i => intOf (W (s + i))).length = t := by rw [List.length_map, List.length_range]
  by_cases d : n < s
  · rw [← seqT_fs (by rw [fl]; exact d), List.getD_eq_getElem?_getD, List.getElem?_map, List.getElem?_range d]
    rfl
  · rw [seqT_ge (by rw [fl]; exact d), fl]
    obtain ⟨k, rfl⟩ : ∃ k, n = s + k := ⟨n - s, by omega⟩
    rw [show s + k - s = k by omega]
    have hlt := Nat.mod_lt k t0
    have e : s + k = (s + k % t) + t * (k / t) := by
      have := Nat.mod_add_div k t
      omega
    obtain ⟨x, e1, e2⟩ := h.times (s + k % t) (by omega) (k / t)
    rw [← e] at e2
    rw [e2]
    congr 1
    unfold ext
    rw [al, List.getD_eq_getElem?_getD, List.getElem?_map, List.getElem?_range hlt]
    show intOf (W (s + k % t)) + _ = _
    rw [e1]
    rfl
theorem Lin.mul {T : Nat → V} {b t : Nat} {c : Int} (h : Lin T b t c) (q : Nat) : Lin T b (t * q) ((q : Int) * c) := fun n hn => h.times n hn q
theorem Lin.from_ {T : Nat → V} {b b' t : Nat} {c : Int} (h : Lin T b t c) (l : b ≤ b') : Lin T b' t c := fun n hn => h n (by omega)
theorem lin_max {T U : Nat → V} {b t : Nat} {c : Int} (h : Lin T b t c) (k : Lin U b t c) : Lin (fun n => maxV (T n) (U n)) b t c := fun n hn => by
  obtain ⟨x, e1, e2⟩ := h n hn
  obtain ⟨y, f1, f2⟩ := k n hn
  refine ⟨max x y, ?_, ?_⟩
  · show maxV (T n) (U n) = _
    rw [e1, f1]
    rfl
  · show maxV (T (n + t)) (U (n + t)) = _
    rw [e2, f2]
    show V.int (max (x + c) (y + c)) = _
    congr 1
    omega
theorem lin_min {T U : Nat → V} {b t : Nat} {c : Int} (h : Lin T b t c) (k : Lin U b t c) : Lin (fun n => minV (T n) (U n)) b t c := fun n hn => by
  obtain ⟨x, e1, e2⟩ := h n hn
  obtain ⟨y, f1, f2⟩ := k n hn
  refine ⟨min x y, ?_, ?_⟩
  · show minV (T n) (U n) = _
    rw [e1, f1]
    rfl
  · show minV (T (n + t)) (U (n + t)) = _
    rw [e2, f2]
    show V.int (min (x + c) (y + c)) = _
    congr 1
    omega
theorem RV.lin {r : RV} (ok : r.Ok) (h : r.isE = false) : Lin r.T r.fs.length r.n r.m := by
  cases r with
  | emp => cases h
  | of fs ag m => exact lin_seq ok.n0
theorem RV.lin_lcm {r : RV} (ok : r.Ok) (h : r.isE = false) {t : Nat} (d : r.n ∣ t) : Lin r.T r.fs.length t (growI r t) := by
  obtain ⟨q, rfl⟩ := d
  have e : growI r (r.n * q) = (q : Int) * r.m := by
    unfold growI
    rw [Nat.mul_div_cancel_left q ok.n0, Int.mul_comm]
  rw [e]
  exact (RV.lin ok h).mul q
theorem lin_fast {T U : Nat → V} {b p : Nat} {c : Int} (h : Lin T b p c) (hU : ∀ n, b ≤ n → U n = .int (intOf (U n))) (g : ∀ n, b ≤ n → gapI T U n ≤ 0) : Lin (fun n => maxV (T n) (U n)) b p c := fun n hn => by
  have at_ : ∀ n, b ≤ n → maxV (T n) (U n) = T n := fun n hn => by
    obtain ⟨x, e1, _⟩ := h n hn
    have q := g n hn
    unfold gapI at q
    rw [hU n hn, e1]
    rw [e1] at q
    have q : intOf (U n) - x ≤ 0 := q
    show V.int (max x (intOf (U n))) = V.int x
    congr 1
    omega
  obtain ⟨x, e1, e2⟩ := h n hn
  refine ⟨x, ?_, ?_⟩
  · show maxV (T n) (U n) = _
    rw [at_ n hn, e1]
  · show maxV (T (n + p)) (U (n + p)) = _
    rw [at_ (n + p) (by omega), e2]
theorem lin_slow {T U : Nat → V} {b p : Nat} {c : Int} (h : Lin U b p c) (hT : ∀ n, b ≤ n → T n = .int (intOf (T n))) (g : ∀ n, b ≤ n → gapI T U n ≤ 0) : Lin (fun n => minV (T n) (U n)) b p c := fun n hn => by
  have at_ : ∀ n, b ≤ n → minV (T n) (U n) = U n := fun n hn => by
    obtain ⟨x, e1, _⟩ := h n hn
    have q := g n hn
    unfold gapI at q
    rw [hT n hn, e1]
    rw [e1] at q
    have q : x - intOf (T n) ≤ 0 := q
    show V.int (min (intOf (T n)) x) = V.int x
    congr 1
    omega
  obtain ⟨x, e1, e2⟩ := h n hn
  refine ⟨x, ?_, ?_⟩
  · show minV (T n) (U n) = _
    rw [at_ n hn, e1]
  · show minV (T (n + p)) (U (n + p)) = _
    rw [at_ (n + p) (by omega), e2]
theorem maxV_comm {x y : V} (hx : isThingV x = true) (hy : isThingV y = true) : maxV x y = maxV y x := by
  revert hx hy
  cases x with
  | non =>
    cases y with
    | non => exact fun _ _ => rfl
    | int j => exact fun _ _ => rfl
    | _ => exact fun _ z => nomatch z
  | int i =>
    cases y with
    | non => exact fun _ _ => rfl
    | int j =>
      intro _ _
      show V.int (max i j) = V.int (max j i)
      congr 1
      omega
    | _ => exact fun _ z => nomatch z
  | _ => exact fun z => nomatch z
theorem minV_comm {x y : V} (hx : isThingV x = true) (hy : isThingV y = true) : minV x y = minV y x := by
  revert hx hy
  cases x with
  | non =>
    cases y with
    | non => exact fun _ _ => rfl
    | int j => exact fun _ _ => rfl
    | _ => exact fun _ z => nomatch z
  | int i =>
    cases y with
    | non => exact fun _ _ => rfl
    | int j =>
      intro _ _
      show V.int (min i j) = V.int (min j i)
      congr 1
      omega
    | _ => exact fun _ z => nomatch z
  | _ => exact fun z => nomatch z
theorem RV.thing {r : RV} (ok : r.Ok) (n : Nat) : isThingV (r.T n) = true := by
  cases r with
  | emp => rfl
  | of fs ag m => exact seqT_thg ok.th n
theorem maxV_thing {x y : V} (hx : isThingV x = true) (hy : isThingV y = true) : isThingV (maxV x y) = true := by
  revert hx hy
  cases x with
  | non => exact fun _ h => by cases y <;> first | rfl | exact h
  | int i =>
    cases y with
    | non => exact fun _ _ => rfl
    | int j => exact fun _ _ => rfl
    | _ => exact fun _ z => nomatch z
  | _ => exact fun z => nomatch z
theorem minV_thing (x y : V) : isThingV (minV x y) = true := by
  cases x <;> cases y <;> rfl
theorem below_max {a b c d : V} (h1 : belowV a b = false) (h2 : belowV c d = false) (ha : isThingV a = true) (hb : isThingV b = true) (hc : isThingV c = true) (hd : isThingV d = true) : belowV (maxV a c) (maxV b d) = false := by
  revert h1 h2 ha hb hc hd
  cases a with
  | non =>
    cases b with
    | non => exact fun _ h2 _ _ _ _ => by cases c <;> cases d <;> first | exact h2 | rfl
    | int j => exact fun h1 => nomatch h1
    | _ => exact fun _ _ _ z => nomatch z
  | int i =>
    cases b with
    | non =>
      cases c with
      | non =>
        cases d with
        | non => exact fun _ _ _ _ _ _ => rfl
        | int l => exact fun _ h2 => nomatch h2
        | _ => exact fun _ _ _ _ _ z => nomatch z
      | int k =>
        cases d with
        | non => exact fun _ _ _ _ _ _ => rfl
        | int l =>
          intro _ h2 _ _ _ _
          have h2 := of_decide_eq_false h2
          exact decide_eq_false (p := max i k < l) (by omega)
        | _ => exact fun _ _ _ _ _ z => nomatch z
      | _ => exact fun _ _ _ _ z => nomatch z
    | int j =>
      cases c with
      | non =>
        cases d with
        | non => exact fun h1 _ _ _ _ _ => h1
        | int l => exact fun _ h2 => nomatch h2
        | _ => exact fun _ _ _ _ _ z => nomatch z
      | int k =>
        cases d with
        | non =>
          intro h1 _ _ _ _ _
          have h1 := of_decide_eq_false h1
          exact decide_eq_false (p := max i k < j) (by omega)
        | int l =>
          intro h1 h2 _ _ _ _
          have h1 := of_decide_eq_false h1
          have h2 := of_decide_eq_false h2
          exact decide_eq_false (p := max i k < max j l) (by omega)
        | _ => exact fun _ _ _ _ _ z => nomatch z
      | _ => exact fun _ _ _ _ z => nomatch z
    | _ => exact fun _ _ _ z => nomatch z
  | _ => exact fun _ _ z => nomatch z
theorem below_min {a b c d : V} (h1 : belowV a b = false) (h2 : belowV c d = false) (ha : isThingV a = true) (hb : isThingV b = true) (hc : isThingV c = true) (hd : isThingV d = true) : belowV (minV a c) (minV b d) = false := by
  revert h1 h2 ha hb hc hd
  cases b with
  | int j =>
    cases d with
    | int l =>
      cases a with
      | int i =>
        cases c with
        | int k =>
          intro h1 h2 _ _ _ _
          have h1 := of_decide_eq_false h1
          have h2 := of_decide_eq_false h2
          exact decide_eq_false (p := min i k < min j l) (by omega)
        | non => exact fun _ h2 => nomatch h2
        | _ => exact fun _ _ _ _ z => nomatch z
      | non => exact fun h1 => nomatch h1
      | _ => exact fun _ _ z => nomatch z
    | _ => exact fun _ _ _ _ _ _ => by cases a <;> cases c <;> rfl
  | _ => exact fun _ _ _ _ _ _ => by cases a <;> cases c <;> cases d <;> rfl
end WW

set_option Elab.async false
set_option linter.all false
set_option maxRecDepth 100000
set_option maxHeartbeats 4000000
namespace WW
open PySem PySem.Spec PyProof.Rows L2
/-- where parted lays the start, of a faster and a slower row, at most -/
def PB (r u : RV) (s t : Nat) : Prop := ∀ l : Int, (∃ i, i < t ∧ l = gapI r.T u.T (s + i)) → (s : Int) + (t : Int) * (max 0 (-(-l / (growI r t - growI u t)))) ≤ 19000
theorem vals_take {W : Nat → V} (s t : Nat) : ((List.range (s + t)).map W).take s = (List.range s).map W := by
  rw [List.range_add, List.map_append]
  exact List.take_left' (by rw [List.length_map, List.length_range])
theorem vals_drop {W : Nat → V} {s t : Nat} {c : Int} (h : Lin W s t c) : ((List.range (s + t)).map W).drop s = ((List.range t).map fun i => intOf (W (s + i))).map V.int := by
  rw [List.range_add, List.map_append, List.drop_left' (by rw [List.length_map, List.length_range]), List.map_map, List.map_map]
  refine List.map_congr_left fun i _ => ?_
  obtain ⟨x, e, _⟩ := h (s + i) (by omega)
  show W (s + i) = V.int (intOf (W (s + i)))
  rw [e]
  rfl
section
variable {P : Program} {w : World} {K : PySem.W.Frag} {mg : Str → Option Value} {base : Heap} {f : Addr} {fd : FuncData}
def spG2 (C : Addr) : Sp := fun vs H Q _ => ∃ (x y : Addr) (r u : RV) (s t : Nat), vs = [.ref x, .ref y] ∧ RowR C H x r ∧ RowR C H y u ∧ r.Ok ∧ u.Ok ∧ s = max r.fs.length u.fs.length ∧ t = Nat.lcm r.n u.n ∧ t ≤ 1000 ∧ s ≤ 19000 ∧
  (r.isE = false → u.isE = false → (growI r t > growI u t → PB r u s t) ∧ (growI r t < growI u t → PB u r s t)) ∧ growI r t < 1000000 ∧ growI u t < 1000000 ∧ 0 ≤ growI r t ∧ 0 ≤ growI u t ∧
  (r.isE = true → Q (.ref y) H) ∧ (r.isE = false → u.isE = true → Q (.ref x) H) ∧
  (r.isE = false → u.isE = false → ∀ z H' (r' : RV), Same H H' → RowR C H' z r' → r'.Ok → (∀ n, r'.T n = maxV (r.T n) (u.T n)) → r'.isE = false → Q (.ref z) H')
abbrev s_greatest_of_two : Stmt := top 38
abbrev N_greatest_of_two : List Str := ["one", "other", "start", "turn", "here", "there", "more", "values", "fast", "slow", "n"]
theorem sc_greatest_of_two : FnScope N_greatest_of_two ["one", "other"] (defScope s_greatest_of_two) := ⟨rfl, rfl, rfl, by decide +kernel, rfl, by decide +kernel, by decide +kernel⟩

theorem ok_g2 (F : FnP K "greatest_of_two" s_greatest_of_two f fd) (RR : RowC K (He.ga K "Row")) (m_max : mg "max" = none) (m_int : mg "int" = none) (m_len : mg "len" = none) (m_range : mg "range" = none) (g_window : FnAt P w K mg base CX0 3 "window" ["one", "other"] (spWin (He.ga K "Row"))) (g_growth : FnAt P w K mg base CX0 1 "growth" ["row", "turn"] (spGrow (He.ga K "Row"))) (g_parted : FnAt P w K mg base CX0 4 "parted" ["fast", "slow"] (spParted (He.ga K "Row"))) (g_greater : FnAt P w K mg base CX0 1 "greater" ["one", "other"] spGreater)
    (g_Row_time : MthAt P w K mg base CX0 1 (He.ga K "Row") "time" ["self", "n"] (spRT (He.ga K "Row"))) (g_Row_is_empty : PrpAt P w K mg base CX0 1 (He.ga K "Row") "is_empty" ["self"] (spIsE (He.ga K "Row"))) (g_row_of_values : FnAt P w K mg base CX0 6 "row_of_values" ["values", "start", "turn", "more"] (spVals K (He.ga K "Row"))) : FnOk P w K mg base CX0 7 f fd ["one", "other"] (spG2 (He.ga K "Row")) := by
  have c_Row := RR.cls
  refine F.ok sc_greatest_of_two (fun vs H Q E h => ?_) (fun cdv A outer s H vs Q E hr h => ?_)
  · obtain ⟨x, y, r, u, s, t, rfl, _⟩ := h
    rfl
  · obtain ⟨x, y, r, u, s0, t, rfl, hx, hy, ok, ok2, es, et, t1, b1, pb, gr, gu, gr0, gu0, q1, q2, q3⟩ := h
    refine ⟨_, PSs.nox (Evl.pss_cut (ps_if (PW.pt (pw_or (pt_val (pe_prp c_Row g_Row_is_empty hr (pv 0))) (pw_or1 (pt_val (pe_prp c_Row g_Row_is_empty hr (pv 1)))))) (pss_one (ps_ret (pe_ifExp (pt_val (pe_prp c_Row g_Row_is_empty hr (pv 0))) (pv 1) (pv 0)))) (pss_nil))
 (pss_cons (ps_asg (pe_fn g_window hr rfl (pa_cons (pv 0) (pa_cons (pv 1) (pa_nil)))) (pg_tupK K rfl (pgs_cons (pg_name (i := 2) sc_greatest_of_two.nd rfl (.inl rfl)) (pgs_cons (pg_name (i := 3) sc_greatest_of_two.nd rfl (.inl rfl)) (pgs_nil)))))
 (pss_cons (ps_par (i := 4) (j := 5) rfl sc_greatest_of_two.nd rfl rfl (by decide) rfl rfl (pa_cons (pe_fn g_growth hr rfl (pa_cons (pv 0) (pa_cons (pv 3) (pa_nil)))) (pa_cons (pe_fn g_growth hr rfl (pa_cons (pv 1) (pa_cons (pv 3) (pa_nil)))) (pa_nil))) rfl)
 (pss_cons (ps_set (i := 6) sc_greatest_of_two.nd rfl (.inl rfl) (pv 4))
 (Evl.pss_cut (ps_if (pt_cmpR op_ne (pv 4) (pv 5) (nomark _)) (pss_cons (ps_asg (pe_ifExp (pt_cmpR op_gt (pv 4) (pv 5) (nomark _)) (pe_tup (pa_cons (pv 0) (pa_cons (pv 1) (pa_nil)))) (pe_tup (pa_cons (pv 1) (pa_cons (pv 0) (pa_nil))))) (pg_tupK K rfl (pgs_cons (pg_name (i := 8) sc_greatest_of_two.nd rfl (.inl rfl)) (pgs_cons (pg_name (i := 9) sc_greatest_of_two.nd rfl (.inl rfl)) (pgs_nil)))))
 (pss_one (ps_par3 (i := 2) (j := 3) (l := 6) rfl sc_greatest_of_two.nd rfl rfl rfl (by decide) (by decide) (by decide) rfl rfl rfl (pa_cons (pe_callB (call_max2 rfl) rfl m_max (by decide +kernel) (pa_cons (pe_callTy call_int1 rfl m_int (by decide +kernel) (pa_cons (pv 2) (pa_nil))) (pa_cons (pe_callTy call_int1 rfl m_int (by decide +kernel) (pa_cons (pe_fn g_parted hr rfl (pa_cons (pv 8) (pa_cons (pv 9) (pa_nil)))) (pa_nil))) (pa_nil)))) (pa_cons (pe_callB (call_lenK K) rfl m_len (by decide +kernel) (pa_cons (pe_fldK K (pv 8) rfl) (pa_nil))) (pa_cons (pe_fldK K (pv 8) rfl) (pa_nil)))) rfl))) (pss_nil))
 (pss_cons (ps_setLc (i := 7) (own := [("n", 10)]) rfl sc_greatest_of_two.nd rfl rfl (sw_true rfl rfl rfl (by decide +kernel)) (pi_range1 rfl m_range (pa_cons (pe_op op_add (pv 2) (pv 3)) (pa_nil))) (blkOk_by (N := N_greatest_of_two) (sc := defScope s_greatest_of_two) (by decide +kernel)) (fun _ _ _ _ _ => pg_name (i := 10) sc_greatest_of_two.nd rfl (.inl rfl)) (fun _ _ _ _ _ => pts_nil) (fun _ _ _ _ _ => pe_fn g_greater hr rfl (pa_cons (pe_mth c_Row g_Row_time hr (pv 0) (pa_cons (pv 10) (pa_nil))) (pa_cons (pe_mth c_Row g_Row_time hr (pv 1) (pa_cons (pv 10) (pa_nil))) (pa_nil)))))
 (pss_one (ps_ret (pe_fn g_row_of_values hr rfl (pa_cons (pv 7) (pa_cons (pv 2) (pa_cons (pv 3) (pa_cons (pv 6) (pa_nil)))))))))))))), ?_⟩
    have t0 : 0 < t := by
      rw [et]
      exact Nat.lcm_pos ok.n0 ok2.n0
    have dr : r.n ∣ t := by
      rw [et]
      exact Nat.dvd_lcm_left _ _
    have du : u.n ∣ t := by
      rw [et]
      exact Nat.dvd_lcm_right _ _
    obtain ⟨dx, p1, p2, hx1, hx2, hx3⟩ := id hx
    obtain ⟨dy, r1, r2, hy1, hy2, hy3⟩ := id hy
    refine ⟨fun σ H1 => σ = L2.start N_greatest_of_two [.ref x, .ref y] ∧ H1 = H ∧ r.isE = false ∧ u.isE = false, ?_, ?_⟩
    · refine ⟨_, rfl, x, dx, _, rfl, hx1, x, r, rfl, hx, ok, r.isE, rfl, ?_⟩
      cases e1 : r.isE with
      | true =>
        refine ⟨_, rfl, x, dx, _, rfl, hx1, x, r, rfl, hx, ok, r.isE, rfl, ?_⟩
        rw [e1]
        exact ⟨_, rfl, q1 e1⟩
      | false =>
        refine ⟨_, rfl, y, dy, _, rfl, hy1, y, u, rfl, hy, ok2, u.isE, rfl, ?_⟩
        cases e2 : u.isE with
        | true =>
          refine ⟨_, rfl, x, dx, _, rfl, hx1, x, r, rfl, hx, ok, r.isE, rfl, ?_⟩
          rw [e1]
          exact ⟨_, rfl, q2 e1 e2⟩
        | false => exact ⟨rfl, rfl, rfl, rfl⟩
    rintro σ H1 ⟨rfl, rfl, e1, e2⟩
    have Lr := RV.lin_lcm ok e1 dr
    have Lu := RV.lin_lcm ok2 e2 du
    have thM : ∀ n, isThingV (maxV (r.T n) (u.T n)) = true := fun n => maxV_thing (RV.thing ok n) (RV.thing ok2 n)
    have riM : Ris fun n => maxV (r.T n) (u.T n) := fun n => below_max (ok.ris n) (ok2.ris n) (RV.thing ok _) (RV.thing ok _) (RV.thing ok2 _) (RV.thing ok2 _)
    have n1 := ok.n0
    have n2 := ok2.n0
    have m1 := ok.m0
    have m2 := ok2.m0
    have m3 := ok.m1
    have m4 := ok2.m1
    have nl1 : r.n ≤ t := Nat.le_of_dvd t0 dr
    have nl2 : u.n ≤ t := Nat.le_of_dvd t0 du
    refine ⟨_, rfl, _, rfl, x, y, r, u, rfl, hx, hy, ok, ok2, fun p H2 s2 hp => ?_⟩
    rw [← es, ← et] at hp
    refine ⟨p, _, rfl, .inl (.inl hp), rfl, _, _, rfl, _, _, rfl, rfl, ?_⟩
    refine ⟨_, rfl, _, rfl, x, r, t, rfl, RowAt.ex s2 hx, ok, _, rfl, _, rfl, y, u, t, rfl, RowAt.ex s2 hy, ok2, _, _, rfl, ?_⟩
    refine ⟨_, rfl, ?_⟩
    refine ⟨fun σ H3 => ∃ (s' n' : Nat) (m' : Int) (v8 v9 : Option V), σ = [some (.ref x), some (.ref y), some (.int (s' : Int)), some (.int (n' : Int)), some (.int (growI r t)), some (.int (growI u t)), some (.int m'), none, v8, v9, none] ∧ Same H1 H3 ∧ 0 < n' ∧ n' ≤ 1000 ∧ s' ≤ 19000 ∧ 0 ≤ m' ∧ m' < 1000000 ∧ Lin (fun n => maxV (r.T n) (u.T n)) s' n' m', ?_, ?_⟩
    · refine ⟨_, rfl, _, rfl, rfl, _, rfl, ?_⟩
      by_cases c : growI r t = growI u t
      · have cd : decide (V.int (r.m * ((t / r.n : Nat) : Int)) = V.int (u.m * ((t / u.n : Nat) : Int))) = true := decide_eq_true (congrArg V.int c)
        rw [cd]
        refine ⟨s0, t, growI r t, none, none, rfl, s2, t0, t1, b1, gr0, gr, lin_max (Lr.from_ (by omega)) ?_⟩
        rw [c]
        exact Lu.from_ (by omega)
      · have cd : decide (V.int (r.m * ((t / r.n : Nat) : Int)) = V.int (u.m * ((t / u.n : Nat) : Int))) = false := decide_eq_false fun z => c (V.int_inj z)
        rw [cd]
        refine ⟨_, rfl, _, rfl, _, _, rfl, rfl, _, rfl, ?_⟩
        by_cases c1 : growI r t > growI u t
        · rw [decide_eq_true (show r.m * ((t / r.n : Nat) : Int) > u.m * ((t / u.n : Nat) : Int) from c1)]
          refine ⟨_, rfl, _, rfl, by show 2 ≤ sizeLine; decide, fun q nq => ?_⟩
          have s3 := same_new (o := .tup [.ref x, .ref y]) nq
          have eq3 : (upd H2 q (.tup [.ref x, .ref y])) q = some (.tup [.ref x, .ref y]) := upd_same
          generalize upd H2 q (.tup [.ref x, .ref y]) = H3 at s3 eq3
          have s13 := s2.trans s3
          refine ⟨q, _, rfl, .inl (.inl eq3), rfl, _, _, rfl, _, _, rfl, rfl, ?_⟩
          refine ⟨_, rfl, .inl ⟨_, rfl, _, rfl, _, rfl, x, y, r, u, s0, t, growI r t - growI u t, rfl, RowAt.ex s13 hx, RowAt.ex s13 hy, ok, ok2, e1, e2, es, et, t1, rfl, by omega, by omega, fun l H4 s4 l1 l2 => .inl ⟨_, rfl, _, _, rfl, ?_⟩⟩⟩
          have s14 := s13.trans s4
          refine ⟨_, rfl, x, _, dx, _, _, rfl, s14 _ _ hx1, RR.cls, RR.nA, rfl, p2, _, rfl, .t (s14 _ _ hx3), _, rfl, x, _, dx, _, _, rfl, s14 _ _ hx1, RR.cls, RR.nM, rfl, _, _, _, rfl, ?_⟩
          have B := (pb e1 e2).1 c1 l l1
          have k0 : 0 ≤ (t : Int) * max 0 (-(-l / (growI r t - growI u t))) := Int.mul_nonneg (by omega) (by omega)
          obtain ⟨S, hS⟩ : ∃ S : Nat, (s0 : Int) + (t : Int) * max 0 (-(-l / (growI r t - growI u t))) = (S : Int) := ⟨((s0 : Int) + (t : Int) * max 0 (-(-l / (growI r t - growI u t)))).toNat, by omega⟩
          have eV : (if (s0 : Int) + (t : Int) * max 0 (-(-l / (growI r t - growI u t))) > (s0 : Int) then (s0 : Int) + (t : Int) * max 0 (-(-l / (growI r t - growI u t))) else (s0 : Int)) = (S : Int) := by
            split <;> omega
          rw [eV, r.ys_len]
          refine ⟨S, r.n, r.m, _, _, rfl, s14, ok.n0, by omega, by omega, ok.m0, ok.m1, ?_⟩
          exact lin_fast ((RV.lin ok e1).from_ (by omega)) (fun n hn => RV.int_at e2 (by omega)) (fun n hn => parted_ok (Lr.from_ (by omega)) (Lu.from_ (by omega)) t0 (by omega) l2 n (by omega))
        · rw [decide_eq_false (show ¬ r.m * ((t / r.n : Nat) : Int) > u.m * ((t / u.n : Nat) : Int) from c1)]
          have c1 : growI r t < growI u t := by omega
          refine ⟨_, rfl, _, rfl, by show 2 ≤ sizeLine; decide, fun q nq => ?_⟩
          have s3 := same_new (o := .tup [.ref y, .ref x]) nq
          have eq3 : (upd H2 q (.tup [.ref y, .ref x])) q = some (.tup [.ref y, .ref x]) := upd_same
          generalize upd H2 q (.tup [.ref y, .ref x]) = H3 at s3 eq3
          have s13 := s2.trans s3
          refine ⟨q, _, rfl, .inl (.inl eq3), rfl, _, _, rfl, _, _, rfl, rfl, ?_⟩
          refine ⟨_, rfl, .inl ⟨_, rfl, _, rfl, _, rfl, y, x, u, r, s0, t, growI u t - growI r t, rfl, RowAt.ex s13 hy, RowAt.ex s13 hx, ok2, ok, e2, e1, by rw [es]; omega, by rw [et]; exact Nat.lcm_comm _ _, t1, rfl, by omega, by omega, fun l H4 s4 l1 l2 => .inl ⟨_, rfl, _, _, rfl, ?_⟩⟩⟩
          have s14 := s13.trans s4
          refine ⟨_, rfl, y, _, dy, _, _, rfl, s14 _ _ hy1, RR.cls, RR.nA, rfl, r2, _, rfl, .t (s14 _ _ hy3), _, rfl, y, _, dy, _, _, rfl, s14 _ _ hy1, RR.cls, RR.nM, rfl, _, _, _, rfl, ?_⟩
          have B := (pb e1 e2).2 c1 l l1
          have k0 : 0 ≤ (t : Int) * max 0 (-(-l / (growI u t - growI r t))) := Int.mul_nonneg (by omega) (by omega)
          obtain ⟨S, hS⟩ : ∃ S : Nat, (s0 : Int) + (t : Int) * max 0 (-(-l / (growI u t - growI r t))) = (S : Int) := ⟨((s0 : Int) + (t : Int) * max 0 (-(-l / (growI u t - growI r t)))).toNat, by omega⟩
          have eV : (if (s0 : Int) + (t : Int) * max 0 (-(-l / (growI u t - growI r t))) > (s0 : Int) then (s0 : Int) + (t : Int) * max 0 (-(-l / (growI u t - growI r t))) else (s0 : Int)) = (S : Int) := by
            split <;> omega
          rw [eV, u.ys_len]
          refine ⟨S, u.n, u.m, _, _, rfl, s14, ok2.n0, by omega, by omega, ok2.m0, ok2.m1, ?_⟩
          have eW : (fun n => maxV (r.T n) (u.T n)) = fun n => maxV (u.T n) (r.T n) := funext fun n => maxV_comm (RV.thing ok n) (RV.thing ok2 n)
          rw [eW]
          exact lin_fast ((RV.lin ok2 e2).from_ (by omega)) (fun n hn => RV.int_at e1 (by omega)) (fun n hn => parted_ok (Lu.from_ (by omega)) (Lr.from_ (by omega)) t0 (by omega) l2 n (by omega))
    · rintro σ H3 ⟨s', n', m', v8, v9, rfl, s3, n0, nb, sb, m0, mb, LM⟩
      refine q_seq (q_asg ?_)
      refine ⟨_, rfl, _, rfl, _, _, rfl, rfl, _, rfl, by omega, by omega, fun D nD => ?_⟩
      rw [show ((s' : Int) + (n' : Int)).toNat = s' + n' by omega]
      refine lc_rg (fun i => maxV (r.T i) (u.T i)) (by omega) nD (fun i hi H4 s4 R k => ?_) fun H4 s4 hD => ?_
      · have s14 := s3.trans s4
        rw [show (0 : Int) + (i : Int) = (i : Int) by omega]
        exact ⟨_, rfl, x, dx, _, rfl, s14 _ _ hx1, rfl, _, rfl, x, r, i, rfl, RowAt.ex s14 hx, ok, _, rfl, y, dy, _, rfl, s14 _ _ hy1, rfl, _, rfl, y, u, i, rfl, RowAt.ex s14 hy, ok2, _, _, rfl, RV.thing ok i, RV.thing ok2 i, k H4 (Same.refl H4)⟩
      have zl : ((List.range n').map fun i => intOf (maxV (r.T (s' + i)) (u.T (s' + i)))).length = n' := by rw [List.length_map, List.length_range]
      have fl : ((List.range s').map fun i => maxV (r.T i) (u.T i)).length = s' := by rw [List.length_map, List.length_range]
      have eT : seqT ((List.range s').map fun i => maxV (r.T i) (u.T i)) ((List.range n').map fun i => intOf (maxV (r.T (s' + i)) (u.T (s' + i)))) m' = fun n => maxV (r.T n) (u.T n) := funext fun n => seq_vals LM n0 n
      have thF : ∀ y ∈ (List.range s').map fun i => maxV (r.T i) (u.T i), isThingV y = true := fun v hv => by
        obtain ⟨i, _, rfl⟩ := List.mem_map.mp hv
        exact thM i
      refine ⟨_, rfl, _, rfl, _, rfl, _, rfl, D, _, s', n', m', (List.range n').map (fun i => intOf (maxV (r.T (s' + i)) (u.T (s' + i)))), rfl, hD, by rw [List.length_map, List.length_range], n0, by omega, m0, vals_drop LM, ?_, ?_, fun z H5 s5 hz => ?_⟩
      · rw [vals_take]
        exact thF
      · rw [vals_take, eT]
        exact riM
      · rw [vals_take] at hz
        refine q3 e1 e2 z H5 _ ((s3.trans s4).trans s5) hz (RV.mk_ok (by omega) (by omega) (by omega) m0 mb thF (by rw [eT]; exact riM)) (fun n => ?_) rfl
        rw [RV.mk_T (by omega), eT]
end
end WW

set_option Elab.async false
set_option linter.all false
set_option maxRecDepth 100000
set_option maxHeartbeats 4000000
namespace WW
open PySem PySem.Spec PyProof.Rows L2
section
variable {P : Program} {w : World} {K : PySem.W.Frag} {mg : Str → Option Value} {base : Heap} {f : Addr} {fd : FuncData}
def spL2 (C : Addr) : Sp := fun vs H Q _ => ∃ (x y : Addr) (r u : RV) (s t : Nat), vs = [.ref x, .ref y] ∧ RowR C H x r ∧ RowR C H y u ∧ r.Ok ∧ u.Ok ∧ s = max r.fs.length u.fs.length ∧ t = Nat.lcm r.n u.n ∧ t ≤ 1000 ∧ s ≤ 19000 ∧
  (r.isE = false → u.isE = false → (growI r t > growI u t → PB r u s t) ∧ (growI r t < growI u t → PB u r s t)) ∧ growI r t < 1000000 ∧ growI u t < 1000000 ∧ 0 ≤ growI r t ∧ 0 ≤ growI u t ∧
  (r.isE = true ∨ u.isE = true → ∀ z H', Same H H' → RowR C H' z .emp → Q (.ref z) H') ∧
  (r.isE = false → u.isE = false → ∀ z H' (r' : RV), Same H H' → RowR C H' z r' → r'.Ok → (∀ n, r'.T n = minV (r.T n) (u.T n)) → r'.isE = false → Q (.ref z) H')
abbrev s_least_of_two : Stmt := top 39
abbrev N_least_of_two : List Str := ["one", "other", "start", "turn", "here", "there", "more", "values", "fast", "slow", "n"]
theorem sc_least_of_two : FnScope N_least_of_two ["one", "other"] (defScope s_least_of_two) := ⟨rfl, rfl, rfl, by decide +kernel, rfl, by decide +kernel, by decide +kernel⟩

theorem ok_l2 (F : FnP K "least_of_two" s_least_of_two f fd) (RR : RowC K (He.ga K "Row")) (m_max : mg "max" = none) (m_int : mg "int" = none) (m_len : mg "len" = none) (m_range : mg "range" = none) (g_window : FnAt P w K mg base CX0 3 "window" ["one", "other"] (spWin (He.ga K "Row"))) (g_growth : FnAt P w K mg base CX0 1 "growth" ["row", "turn"] (spGrow (He.ga K "Row"))) (g_parted : FnAt P w K mg base CX0 4 "parted" ["fast", "slow"] (spParted (He.ga K "Row"))) (g_lesser : FnAt P w K mg base CX0 1 "lesser" ["one", "other"] spLesser)
    (g_Row_time : MthAt P w K mg base CX0 1 (He.ga K "Row") "time" ["self", "n"] (spRT (He.ga K "Row"))) (g_Row_is_empty : PrpAt P w K mg base CX0 1 (He.ga K "Row") "is_empty" ["self"] (spIsE (He.ga K "Row"))) (g_empty : FnAt P w K mg base CX0 6 "empty" [] (spConst (He.ga K "Row") [] [.non] 0)) (g_row_of_values : FnAt P w K mg base CX0 6 "row_of_values" ["values", "start", "turn", "more"] (spVals K (He.ga K "Row"))) : FnOk P w K mg base CX0 7 f fd ["one", "other"] (spL2 (He.ga K "Row")) := by
  have c_Row := RR.cls
  refine F.ok sc_least_of_two (fun vs H Q E h => ?_) (fun cdv A outer s H vs Q E hr h => ?_)
  · obtain ⟨x, y, r, u, s, t, rfl, _⟩ := h
    rfl
  · obtain ⟨x, y, r, u, s0, t, rfl, hx, hy, ok, ok2, es, et, t1, b1, pb, gr, gu, gr0, gu0, q1, q3⟩ := h
    refine ⟨_, PSs.nox (Evl.pss_cut (ps_if (PW.pt (pw_or (pt_val (pe_prp c_Row g_Row_is_empty hr (pv 0))) (pw_or1 (pt_val (pe_prp c_Row g_Row_is_empty hr (pv 1)))))) (pss_one (ps_ret (pe_fn0 g_empty hr rfl))) (pss_nil))
 (pss_cons (ps_asg (pe_fn g_window hr rfl (pa_cons (pv 0) (pa_cons (pv 1) (pa_nil)))) (pg_tupK K rfl (pgs_cons (pg_name (i := 2) sc_least_of_two.nd rfl (.inl rfl)) (pgs_cons (pg_name (i := 3) sc_least_of_two.nd rfl (.inl rfl)) (pgs_nil)))))
 (pss_cons (ps_par (i := 4) (j := 5) rfl sc_least_of_two.nd rfl rfl (by decide) rfl rfl (pa_cons (pe_fn g_growth hr rfl (pa_cons (pv 0) (pa_cons (pv 3) (pa_nil)))) (pa_cons (pe_fn g_growth hr rfl (pa_cons (pv 1) (pa_cons (pv 3) (pa_nil)))) (pa_nil))) rfl)
 (pss_cons (ps_set (i := 6) sc_least_of_two.nd rfl (.inl rfl) (pv 4))
 (Evl.pss_cut (ps_if (pt_cmpR op_ne (pv 4) (pv 5) (nomark _)) (pss_cons (ps_asg (pe_ifExp (pt_cmpR op_gt (pv 4) (pv 5) (nomark _)) (pe_tup (pa_cons (pv 0) (pa_cons (pv 1) (pa_nil)))) (pe_tup (pa_cons (pv 1) (pa_cons (pv 0) (pa_nil))))) (pg_tupK K rfl (pgs_cons (pg_name (i := 8) sc_least_of_two.nd rfl (.inl rfl)) (pgs_cons (pg_name (i := 9) sc_least_of_two.nd rfl (.inl rfl)) (pgs_nil)))))
 (pss_one (ps_par3 (i := 2) (j := 3) (l := 6) rfl sc_least_of_two.nd rfl rfl rfl (by decide) (by decide) (by decide) rfl rfl rfl (pa_cons (pe_callB (call_max2 rfl) rfl m_max (by decide +kernel) (pa_cons (pe_callTy call_int1 rfl m_int (by decide +kernel) (pa_cons (pv 2) (pa_nil))) (pa_cons (pe_callTy call_int1 rfl m_int (by decide +kernel) (pa_cons (pe_fn g_parted hr rfl (pa_cons (pv 8) (pa_cons (pv 9) (pa_nil)))) (pa_nil))) (pa_nil)))) (pa_cons (pe_callB (call_lenK K) rfl m_len (by decide +kernel) (pa_cons (pe_fldK K (pv 9) rfl) (pa_nil))) (pa_cons (pe_fldK K (pv 9) rfl) (pa_nil)))) rfl))) (pss_nil))
 (pss_cons (ps_setLc (i := 7) (own := [("n", 10)]) rfl sc_least_of_two.nd rfl rfl (sw_true rfl rfl rfl (by decide +kernel)) (pi_range1 rfl m_range (pa_cons (pe_op op_add (pv 2) (pv 3)) (pa_nil))) (blkOk_by (N := N_least_of_two) (sc := defScope s_least_of_two) (by decide +kernel)) (fun _ _ _ _ _ => pg_name (i := 10) sc_least_of_two.nd rfl (.inl rfl)) (fun _ _ _ _ _ => pts_nil) (fun _ _ _ _ _ => pe_fn g_lesser hr rfl (pa_cons (pe_mth c_Row g_Row_time hr (pv 0) (pa_cons (pv 10) (pa_nil))) (pa_cons (pe_mth c_Row g_Row_time hr (pv 1) (pa_cons (pv 10) (pa_nil))) (pa_nil)))))
 (pss_one (ps_ret (pe_fn g_row_of_values hr rfl (pa_cons (pv 7) (pa_cons (pv 2) (pa_cons (pv 3) (pa_cons (pv 6) (pa_nil)))))))))))))), ?_⟩
    have t0 : 0 < t := by
      rw [et]
      exact Nat.lcm_pos ok.n0 ok2.n0
    have dr : r.n ∣ t := by
      rw [et]
      exact Nat.dvd_lcm_left _ _
    have du : u.n ∣ t := by
      rw [et]
      exact Nat.dvd_lcm_right _ _
    obtain ⟨dx, p1, p2, hx1, hx2, hx3⟩ := id hx
    obtain ⟨dy, r1, r2, hy1, hy2, hy3⟩ := id hy
    refine ⟨fun σ H1 => σ = L2.start N_least_of_two [.ref x, .ref y] ∧ H1 = H ∧ r.isE = false ∧ u.isE = false, ?_, ?_⟩
    · refine ⟨_, rfl, x, dx, _, rfl, hx1, x, r, rfl, hx, ok, r.isE, rfl, ?_⟩
      cases e1 : r.isE with
      | true => exact ⟨rfl, fun z H1 s1 hz => q1 (.inl e1) z H1 s1 hz⟩
      | false =>
        refine ⟨_, rfl, y, dy, _, rfl, hy1, y, u, rfl, hy, ok2, u.isE, rfl, ?_⟩
        cases e2 : u.isE with
        | true => exact ⟨rfl, fun z H1 s1 hz => q1 (.inr e2) z H1 s1 hz⟩
        | false => exact ⟨rfl, rfl, rfl, rfl⟩
    rintro σ H1 ⟨rfl, rfl, e1, e2⟩
    have Lr := RV.lin_lcm ok e1 dr
    have Lu := RV.lin_lcm ok2 e2 du
    have thM : ∀ n, isThingV (minV (r.T n) (u.T n)) = true := fun n => minV_thing _ _
    have riM : Ris fun n => minV (r.T n) (u.T n) := fun n => below_min (ok.ris n) (ok2.ris n) (RV.thing ok _) (RV.thing ok _) (RV.thing ok2 _) (RV.thing ok2 _)
    have n1 := ok.n0
    have n2 := ok2.n0
    have m1 := ok.m0
    have m2 := ok2.m0
    have m3 := ok.m1
    have m4 := ok2.m1
    have nl1 : r.n ≤ t := Nat.le_of_dvd t0 dr
    have nl2 : u.n ≤ t := Nat.le_of_dvd t0 du
    refine ⟨_, rfl, _, rfl, x, y, r, u, rfl, hx, hy, ok, ok2, fun p H2 s2 hp => ?_⟩
    rw [← es, ← et] at hp
    refine ⟨p, _, rfl, .inl (.inl hp), rfl, _, _, rfl, _, _, rfl, rfl, ?_⟩
    refine ⟨_, rfl, _, rfl, x, r, t, rfl, RowAt.ex s2 hx, ok, _, rfl, _, rfl, y, u, t, rfl, RowAt.ex s2 hy, ok2, _, _, rfl, ?_⟩
    refine ⟨_, rfl, ?_⟩
    refine ⟨fun σ H3 => ∃ (s' n' : Nat) (m' : Int) (v8 v9 : Option V), σ = [some (.ref x), some (.ref y), some (.int (s' : Int)), some (.int (n' : Int)), some (.int (growI r t)), some (.int (growI u t)), some (.int m'), none, v8, v9, none] ∧ Same H1 H3 ∧ 0 < n' ∧ n' ≤ 1000 ∧ s' ≤ 19000 ∧ 0 ≤ m' ∧ m' < 1000000 ∧ Lin (fun n => minV (r.T n) (u.T n)) s' n' m', ?_, ?_⟩
    · refine ⟨_, rfl, _, rfl, rfl, _, rfl, ?_⟩
      by_cases c : growI r t = growI u t
      · have cd : decide (V.int (r.m * ((t / r.n : Nat) : Int)) = V.int (u.m * ((t / u.n : Nat) : Int))) = true := decide_eq_true (congrArg V.int c)
        rw [cd]
        refine ⟨s0, t, growI r t, none, none, rfl, s2, t0, t1, b1, gr0, gr, lin_min (Lr.from_ (by omega)) ?_⟩
        rw [c]
        exact Lu.from_ (by omega)
      · have cd : decide (V.int (r.m * ((t / r.n : Nat) : Int)) = V.int (u.m * ((t / u.n : Nat) : Int))) = false := decide_eq_false fun z => c (V.int_inj z)
        rw [cd]
        refine ⟨_, rfl, _, rfl, _, _, rfl, rfl, _, rfl, ?_⟩
        by_cases c1 : growI r t > growI u t
        · rw [decide_eq_true (show r.m * ((t / r.n : Nat) : Int) > u.m * ((t / u.n : Nat) : Int) from c1)]
          refine ⟨_, rfl, _, rfl, by show 2 ≤ sizeLine; decide, fun q nq => ?_⟩
          have s3 := same_new (o := .tup [.ref x, .ref y]) nq
          have eq3 : (upd H2 q (.tup [.ref x, .ref y])) q = some (.tup [.ref x, .ref y]) := upd_same
          generalize upd H2 q (.tup [.ref x, .ref y]) = H3 at s3 eq3
          have s13 := s2.trans s3
          refine ⟨q, _, rfl, .inl (.inl eq3), rfl, _, _, rfl, _, _, rfl, rfl, ?_⟩
          refine ⟨_, rfl, .inl ⟨_, rfl, _, rfl, _, rfl, x, y, r, u, s0, t, growI r t - growI u t, rfl, RowAt.ex s13 hx, RowAt.ex s13 hy, ok, ok2, e1, e2, es, et, t1, rfl, by omega, by omega, fun l H4 s4 l1 l2 => .inl ⟨_, rfl, _, _, rfl, ?_⟩⟩⟩
          have s14 := s13.trans s4
          refine ⟨_, rfl, y, _, dy, _, _, rfl, s14 _ _ hy1, RR.cls, RR.nA, rfl, r2, _, rfl, .t (s14 _ _ hy3), _, rfl, y, _, dy, _, _, rfl, s14 _ _ hy1, RR.cls, RR.nM, rfl, _, _, _, rfl, ?_⟩
          have B := (pb e1 e2).1 c1 l l1
          have k0 : 0 ≤ (t : Int) * max 0 (-(-l / (growI r t - growI u t))) := Int.mul_nonneg (by omega) (by omega)
          obtain ⟨S, hS⟩ : ∃ S : Nat, (s0 : Int) + (t : Int) * max 0 (-(-l / (growI r t - growI u t))) = (S : Int) := ⟨((s0 : Int) + (t : Int) * max 0 (-(-l / (growI r t - growI u t)))).toNat, by omega⟩
          have eV : (if (s0 : Int) + (t : Int) * max 0 (-(-l / (growI r t - growI u t))) > (s0 : Int) then (s0 : Int) + (t : Int) * max 0 (-(-l / (growI r t - growI u t))) else (s0 : Int)) = (S : Int) := by
            split <;> omega
          rw [eV, u.ys_len]
          refine ⟨S, u.n, u.m, _, _, rfl, s14, ok2.n0, by omega, by omega, ok2.m0, ok2.m1, ?_⟩
          exact lin_slow ((RV.lin ok2 e2).from_ (by omega)) (fun n hn => RV.int_at e1 (by omega)) (fun n hn => parted_ok (Lr.from_ (by omega)) (Lu.from_ (by omega)) t0 (by omega) l2 n (by omega))
        · rw [decide_eq_false (show ¬ r.m * ((t / r.n : Nat) : Int) > u.m * ((t / u.n : Nat) : Int) from c1)]
          have c1 : growI r t < growI u t := by omega
          refine ⟨_, rfl, _, rfl, by show 2 ≤ sizeLine; decide, fun q nq => ?_⟩
          have s3 := same_new (o := .tup [.ref y, .ref x]) nq
          have eq3 : (upd H2 q (.tup [.ref y, .ref x])) q = some (.tup [.ref y, .ref x]) := upd_same
          generalize upd H2 q (.tup [.ref y, .ref x]) = H3 at s3 eq3
          have s13 := s2.trans s3
          refine ⟨q, _, rfl, .inl (.inl eq3), rfl, _, _, rfl, _, _, rfl, rfl, ?_⟩
          refine ⟨_, rfl, .inl ⟨_, rfl, _, rfl, _, rfl, y, x, u, r, s0, t, growI u t - growI r t, rfl, RowAt.ex s13 hy, RowAt.ex s13 hx, ok2, ok, e2, e1, by rw [es]; omega, by rw [et]; exact Nat.lcm_comm _ _, t1, rfl, by omega, by omega, fun l H4 s4 l1 l2 => .inl ⟨_, rfl, _, _, rfl, ?_⟩⟩⟩
          have s14 := s13.trans s4
          refine ⟨_, rfl, x, _, dx, _, _, rfl, s14 _ _ hx1, RR.cls, RR.nA, rfl, p2, _, rfl, .t (s14 _ _ hx3), _, rfl, x, _, dx, _, _, rfl, s14 _ _ hx1, RR.cls, RR.nM, rfl, _, _, _, rfl, ?_⟩
          have B := (pb e1 e2).2 c1 l l1
          have k0 : 0 ≤ (t : Int) * max 0 (-(-l / (growI u t - growI r t))) := Int.mul_nonneg (by omega) (by omega)
          obtain ⟨S, hS⟩ : ∃ S : Nat, (s0 : Int) + (t : Int) * max 0 (-(-l / (growI u t - growI r t))) = (S : Int) := ⟨((s0 : Int) + (t : Int) * max 0 (-(-l / (growI u t - growI r t)))).toNat, by omega⟩
          have eV : (if (s0 : Int) + (t : Int) * max 0 (-(-l / (growI u t - growI r t))) > (s0 : Int) then (s0 : Int) + (t : Int) * max 0 (-(-l / (growI u t - growI r t))) else (s0 : Int)) = (S : Int) := by
            split <;> omega
          rw [eV, r.ys_len]
          refine ⟨S, r.n, r.m, _, _, rfl, s14, ok.n0, by omega, by omega, ok.m0, ok.m1, ?_⟩
          have eW : (fun n => minV (r.T n) (u.T n)) = fun n => minV (u.T n) (r.T n) := funext fun n => minV_comm (RV.thing ok n) (RV.thing ok2 n)
          rw [eW]
          exact lin_slow ((RV.lin ok e1).from_ (by omega)) (fun n hn => RV.int_at e2 (by omega)) (fun n hn => parted_ok (Lu.from_ (by omega)) (Lr.from_ (by omega)) t0 (by omega) l2 n (by omega))
    · rintro σ H3 ⟨s', n', m', v8, v9, rfl, s3, n0, nb, sb, m0, mb, LM⟩
      refine q_seq (q_asg ?_)
      refine ⟨_, rfl, _, rfl, _, _, rfl, rfl, _, rfl, by omega, by omega, fun D nD => ?_⟩
      rw [show ((s' : Int) + (n' : Int)).toNat = s' + n' by omega]
      refine lc_rg (fun i => minV (r.T i) (u.T i)) (by omega) nD (fun i hi H4 s4 R k => ?_) fun H4 s4 hD => ?_
      · have s14 := s3.trans s4
        rw [show (0 : Int) + (i : Int) = (i : Int) by omega]
        exact ⟨_, rfl, x, dx, _, rfl, s14 _ _ hx1, rfl, _, rfl, x, r, i, rfl, RowAt.ex s14 hx, ok, _, rfl, y, dy, _, rfl, s14 _ _ hy1, rfl, _, rfl, y, u, i, rfl, RowAt.ex s14 hy, ok2, _, _, rfl, RV.thing ok i, RV.thing ok2 i, k H4 (Same.refl H4)⟩
      have zl : ((List.range n').map fun i => intOf (minV (r.T (s' + i)) (u.T (s' + i)))).length = n' := by rw [List.length_map, List.length_range]
      have fl : ((List.range s').map fun i => minV (r.T i) (u.T i)).length = s' := by rw [List.length_map, List.length_range]
      have eT : seqT ((List.range s').map fun i => minV (r.T i) (u.T i)) ((List.range n').map fun i => intOf (minV (r.T (s' + i)) (u.T (s' + i)))) m' = fun n => minV (r.T n) (u.T n) := funext fun n => seq_vals LM n0 n
      have thF : ∀ y ∈ (List.range s').map fun i => minV (r.T i) (u.T i), isThingV y = true := fun v hv => by
        obtain ⟨i, _, rfl⟩ := List.mem_map.mp hv
        exact thM i
      refine ⟨_, rfl, _, rfl, _, rfl, _, rfl, D, _, s', n', m', (List.range n').map (fun i => intOf (minV (r.T (s' + i)) (u.T (s' + i)))), rfl, hD, by rw [List.length_map, List.length_range], n0, by omega, m0, vals_drop LM, ?_, ?_, fun z H5 s5 hz => ?_⟩
      · rw [vals_take]
        exact thF
      · rw [vals_take, eT]
        exact riM
      · rw [vals_take] at hz
        refine q3 e1 e2 z H5 _ ((s3.trans s4).trans s5) hz (RV.mk_ok (by omega) (by omega) (by omega) m0 mb thF (by rw [eT]; exact riM)) (fun n => ?_) rfl
        rw [RV.mk_T (by omega), eT]
end
end WW

set_option Elab.async false
set_option linter.all false
set_option maxRecDepth 100000
set_option maxHeartbeats 4000000
namespace WW
open PySem L2
/-- a row of small times, in the end one that comes again after six goings -/
structure Tail (r : RV) : Prop where
  ok : r.Ok
  ne : r.isE = false
  b12 : ∀ n, n < 12 → ∀ i, r.T n = .int i → -4 ≤ i ∧ i ≤ 600
  ex : ∃ (T' : Nat → V) (c : Int) (s : Nat), Lin T' 5 6 c ∧ (∀ n, 5 ≤ n → n < 11 → -4 ≤ intOf (T' n) ∧ intOf (T' n) ≤ 600) ∧ 0 ≤ c ∧ c ≤ 604 ∧ ∀ n, s ≤ n → r.T n = T' n
theorem lin_congr {T U : Nat → V} {b t : Nat} {c : Int} (h : Lin T b t c) (e : ∀ n, b ≤ n → U n = T n) : Lin U b t c := fun n hn => by
  rw [e n hn, e (n + t) (by omega)]
  exact h n hn
theorem Tail.at_ {r : RV} (h : Tail r) : r.n ∣ 6 ∧ 0 ≤ growI r 6 ∧ growI r 6 ≤ 604 ∧ Lin r.T r.fs.length 6 (growI r 6) ∧ ∃ T', Lin T' 5 6 (growI r 6) ∧ (∀ n, 5 ≤ n → n < 11 → -4 ≤ intOf (T' n) ∧ intOf (T' n) ≤ 600) ∧ ∀ n, r.fs.length ≤ n → 5 ≤ n → r.T n = T' n := by
  obtain ⟨T', c, s, l, b, c0, c1, e⟩ := h.ex
  have L := h.ok.can h.ne
  have l1 : Lin r.T (max s 5) 6 c := lin_congr (l.from_ (by omega)) fun n hn => e n (by omega)
  obtain ⟨q, e1, e2⟩ := lin_dvd L.t0 L.lin L.min _ _ _ l1
  have d : r.n ∣ 6 := ⟨q, e1⟩
  have l2 := RV.lin_lcm h.ok h.ne d
  have ec : c = growI r 6 := l1.growth l2
  subst ec
  refine ⟨d, c0, c1, l2, T', l, b, fun n h1 h2 => ?_⟩
  obtain ⟨x, a1, a2⟩ := l2.times n h1 s
  obtain ⟨y, f1, f2⟩ := l.times n h2 s
  rw [e _ (by omega), f2] at a2
  have := V.int_inj a2
  rw [a1, f1]
  congr 1
  omega
theorem grow_t {r : RV} {t q : Nat} (n0 : 0 < r.n) (d : r.n ∣ t) : growI r (t * q) = (q : Int) * growI r t := by
  obtain ⟨p, rfl⟩ := d
  unfold growI
  rw [Nat.mul_assoc, Nat.mul_div_cancel_left _ n0, Nat.mul_div_cancel_left _ n0, Int.natCast_mul]
  rw [Int.mul_comm (q : Int), Int.mul_assoc]
theorem grow_le {r : RV} (h : Tail r) {t : Nat} (t6 : t ∣ 6) (d : r.n ∣ t) : 0 ≤ growI r t ∧ growI r t ≤ 604 := by
  obtain ⟨_, c0, c1, _⟩ := h.at_
  obtain ⟨q, e⟩ := t6
  rw [e, grow_t h.ok.n0 d] at c0 c1
  have q0 : 0 < q := by
    rcases Nat.eq_zero_or_pos q with z | z
    · rw [z] at e
      omega
    · exact z
  have g0 : 0 ≤ growI r t := Int.mul_nonneg h.ok.m0 (Int.natCast_nonneg _)
  have : 1 * growI r t ≤ (q : Int) * growI r t := Int.mul_le_mul_of_nonneg_right (by omega) g0
  omega
theorem grow_lt {r u : RV} (h : Tail r) (k : Tail u) {t : Nat} (t6 : t ∣ 6) (d : r.n ∣ t) (d2 : u.n ∣ t) (g : growI u t < growI r t) : growI u 6 < growI r 6 := by
  obtain ⟨q, e⟩ := t6
  have q0 : 0 < q := by
    rcases Nat.eq_zero_or_pos q with z | z
    · rw [z] at e
      omega
    · exact z
  rw [e, grow_t h.ok.n0 d, grow_t k.ok.n0 d2]
  exact Int.mul_lt_mul_of_pos_left g (by omega)
theorem gap_bd {r u : RV} (h : Tail r) (k : Tail u) (g : growI u 6 ≤ growI r 6) (n : Nat) (h1 : r.fs.length ≤ n) (h2 : u.fs.length ≤ n) : gapI r.T u.T n ≤ 604 := by
  by_cases c : n < 12
  · have a := h.b12 n c _ (RV.int_at h.ne h1)
    have b := k.b12 n c _ (RV.int_at k.ne h2)
    unfold gapI
    omega
  · obtain ⟨_, _, _, _, T', l, b, e⟩ := h.at_
    obtain ⟨_, _, _, _, U', l2, b2, e2⟩ := k.at_
    have hlt := Nat.mod_lt (n - 5) (show 0 < 6 by decide)
    have en : n = (5 + (n - 5) % 6) + 6 * ((n - 5) / 6) := by omega
    have z : gapI r.T u.T n = gapI T' U' n := by
      unfold gapI
      rw [e n h1 (by omega), e2 n h2 (by omega)]
    rw [z, en, gap_turns l l2 _ (by omega)]
    have a1 := b (5 + (n - 5) % 6) (by omega) (by omega)
    have a2 := b2 (5 + (n - 5) % 6) (by omega) (by omega)
    have a3 : 0 ≤ (((n - 5) / 6 : Nat) : Int) * (growI r 6 - growI u 6) := Int.mul_nonneg (by omega) (by omega)
    unfold gapI
    omega
theorem lack_le {l g : Int} (h : l ≤ 604) (g0 : 0 < g) : max 0 (-(-l / g)) ≤ 604 := by
  have : -604 ≤ -l / g := by
    rw [Int.le_ediv_iff_mul_le g0]
    have : 604 * 1 ≤ 604 * g := Int.mul_le_mul_of_nonneg_left (by omega) (by omega)
    omega
  omega
theorem lcm6 {a b : Nat} (h : a ∣ 6) (k : b ∣ 6) : Nat.lcm a b ∣ 6 := Nat.lcm_dvd h k
/-- parted's start -/
theorem part_le {r u : RV} (h : Tail r) (k : Tail u) {t s : Nat} (t6 : t ∣ 6) (d : r.n ∣ t) (d2 : u.n ∣ t) (es : max r.fs.length u.fs.length ≤ s) (g : growI u t < growI r t) (l : Int) (hl : ∃ i, i < t ∧ l = gapI r.T u.T (s + i)) : (s : Int) + (t : Int) * (max 0 (-(-l / (growI r t - growI u t)))) ≤ (s : Int) + 3624 := by
  obtain ⟨i, _, rfl⟩ := hl
  have b := gap_bd h k (Int.le_of_lt (grow_lt h k t6 d d2 g)) (s + i) (by omega) (by omega)
  have a := lack_le b (show 0 < growI r t - growI u t by omega)
  have t1 : t ≤ 6 := Nat.le_of_dvd (by decide) t6
  have : (t : Int) * (max 0 (-(-(gapI r.T u.T (s + i)) / (growI r t - growI u t)))) ≤ 6 * 604 := Int.mul_le_mul (by omega) a (by omega) (by omega)
  omega
theorem max_exists (f : Nat → Int) : ∀ t, 0 < t → ∃ l, (∃ i, i < t ∧ l = f i) ∧ ∀ i, i < t → f i ≤ l
  | 0 => fun h => absurd h (by omega)
  | 1 => fun _ => ⟨f 0, ⟨0, by omega, rfl⟩, fun i hi => by rw [show i = 0 by omega]; exact Int.le_refl _⟩
  | t + 2 => fun _ => by
    obtain ⟨l, ⟨i, hi, e⟩, h⟩ := max_exists f (t + 1) (by omega)
    by_cases c : f (t + 1) ≤ l
    · refine ⟨l, ⟨i, by omega, e⟩, fun j hj => ?_⟩
      rcases Nat.lt_or_eq_of_le (Nat.le_of_lt_succ hj) with z | z
      · exact h j z
      · rw [z]
        exact c
    · refine ⟨f (t + 1), ⟨t + 1, by omega, rfl⟩, fun j hj => ?_⟩
      rcases Nat.lt_or_eq_of_le (Nat.le_of_lt_succ hj) with z | z
      · have := h j z
        omega
      · rw [z]
        exact Int.le_refl _
/-- from where on the faster row is nowhere below -/
theorem fast_from {r u : RV} (h : Tail r) (k : Tail u) (g : growI u 6 < growI r 6) : ∃ S : Nat, S ≤ max r.fs.length u.fs.length + 3624 ∧ max r.fs.length u.fs.length ≤ S ∧ ∀ n, S ≤ n → gapI r.T u.T n ≤ 0 := by
  obtain ⟨d, _, _, l1, _⟩ := h.at_
  obtain ⟨d2, _, _, l2, _⟩ := k.at_
  obtain ⟨l, hl, hm⟩ := max_exists (fun i => gapI r.T u.T (max r.fs.length u.fs.length + i)) 6 (by decide)
  have a := part_le h k (s := max r.fs.length u.fs.length) (Nat.dvd_refl 6) d d2 (Nat.le_refl _) g l hl
  have b : 0 ≤ ((6 : Nat) : Int) * (max 0 (-(-l / (growI r 6 - growI u 6)))) := Int.mul_nonneg (by omega) (by omega)
  refine ⟨(((max r.fs.length u.fs.length : Nat) : Int) + ((6 : Nat) : Int) * (max 0 (-(-l / (growI r 6 - growI u 6))))).toNat, by omega, by omega, fun n hn => ?_⟩
  exact parted_ok (l1.from_ (by omega)) (l2.from_ (by omega)) (by decide) (by omega) hm n (by omega)
theorem Tail.begin {r : RV} (h : Tail r) {S t : Nat} {c : Int} (t0 : 0 < t) (l : Lin r.T S t c) : r.fs.length ≤ S := by
  have L := h.ok.can h.ne
  exact Least.begin (l.back t0 L.lin) L
theorem b12_max {r u : RV} (h : Tail r) (k : Tail u) {n : Nat} (hn : n < 12) {i : Int} (e : maxV (r.T n) (u.T n) = .int i) : -4 ≤ i ∧ i ≤ 600 := by
  have a := h.b12 n hn
  have b := k.b12 n hn
  have ta := RV.thing h.ok n
  have tb := RV.thing k.ok n
  revert e ta tb a b
  generalize r.T n = x
  generalize u.T n = y
  intro e a b ta tb
  cases x with
  | non => exact b i (by cases y <;> first | exact e | cases tb)
  | int p =>
    cases y with
    | non => exact a i e
    | int q =>
      have := a p rfl
      have := b q rfl
      have z := V.int_inj e
      omega
    | _ => cases tb
  | _ => cases ta
theorem b12_min {r u : RV} (h : Tail r) (k : Tail u) {n : Nat} (hn : n < 12) {i : Int} (e : minV (r.T n) (u.T n) = .int i) : -4 ≤ i ∧ i ≤ 600 := by
  have a := h.b12 n hn
  have b := k.b12 n hn
  revert e a b
  generalize r.T n = x
  generalize u.T n = y
  intro e a b
  cases x with
  | int p =>
    cases y with
    | int q =>
      have := a p rfl
      have := b q rfl
      have z := V.int_inj e
      omega
    | _ => cases e
  | _ => cases e
theorem max_fast {T U : Nat → V} {n : Nat} (hT : T n = .int (intOf (T n))) (hU : U n = .int (intOf (U n))) (g : gapI T U n ≤ 0) : maxV (T n) (U n) = T n ∧ minV (T n) (U n) = U n := by
  unfold gapI at g
  revert g hT hU
  generalize T n = x
  generalize U n = y
  intro hT hU g
  rw [hT, hU]
  constructor
  · show V.int (max (intOf x) (intOf y)) = V.int (intOf x)
    congr 1
    omega
  · show V.int (min (intOf x) (intOf y)) = V.int (intOf y)
    congr 1
    omega
/-- the greatest of two -/
theorem tail_max {r u v : RV} (h : Tail r) (k : Tail u) (ok : v.Ok) (ne : v.isE = false) (e : ∀ n, v.T n = maxV (r.T n) (u.T n)) : Tail v ∧ v.fs.length ≤ max r.fs.length u.fs.length + 3624 := by
  obtain ⟨_, c0, c1, l1, T', m1, b1, e1⟩ := h.at_
  obtain ⟨_, d0, d1, l2, U', m2, b2, e2⟩ := k.at_
  have big : ∀ {n}, max r.fs.length u.fs.length ≤ n → r.T n = .int (intOf (r.T n)) ∧ u.T n = .int (intOf (u.T n)) := fun hn => ⟨RV.int_at h.ne (by omega), RV.int_at k.ne (by omega)⟩
  have b12 : ∀ n, n < 12 → ∀ i, v.T n = .int i → -4 ≤ i ∧ i ≤ 600 := fun n hn i hi => by
    rw [e n] at hi
    exact b12_max h k hn hi
  rcases Int.lt_trichotomy (growI u 6) (growI r 6) with g | g | g
  · obtain ⟨S, s1, s2, gp⟩ := fast_from h k g
    have ev : ∀ n, S ≤ n → v.T n = r.T n := fun n hn => by
      rw [e n]
      exact (max_fast (big (by omega)).1 (big (by omega)).2 (gp n hn)).1
    have tv : Tail v := ⟨ok, ne, b12, T', _, max S 5, m1, b1, c0, c1, fun n hn => by rw [ev n (by omega), e1 n (by omega) (by omega)]⟩
    have := tv.begin (by decide) (lin_congr (l1.from_ (show r.fs.length ≤ S by omega)) ev)
    exact ⟨tv, by omega⟩
  · have lm : Lin v.T (max r.fs.length u.fs.length) 6 (growI r 6) := by
      rw [show v.T = fun n => maxV (r.T n) (u.T n) from funext e]
      refine lin_max (l1.from_ (by omega)) ?_
      rw [← g]
      exact l2.from_ (by omega)
    rw [g] at m2
    have tv : Tail v := ⟨ok, ne, b12, fun n => maxV (T' n) (U' n), _, max (max r.fs.length u.fs.length) 5, lin_max m1 m2, fun n h5 h11 => by
      obtain ⟨x, x1, _⟩ := m1 n h5
      obtain ⟨y, y1, _⟩ := m2 n h5
      have a := b1 n h5 h11
      have b := b2 n h5 h11
      rw [x1] at a
      rw [y1] at b
      show -4 ≤ intOf (maxV (T' n) (U' n)) ∧ intOf (maxV (T' n) (U' n)) ≤ 600
      rw [x1, y1]
      have a : -4 ≤ x ∧ x ≤ 600 := a
      have b : -4 ≤ y ∧ y ≤ 600 := b
      show -4 ≤ max x y ∧ max x y ≤ 600
      omega, c0, c1, fun n hn => by rw [e n, e1 n (by omega) (by omega), e2 n (by omega) (by omega)]⟩
    have := tv.begin (by decide) lm
    exact ⟨tv, by omega⟩
  · obtain ⟨S, s1, s2, gp⟩ := fast_from k h g
    have ev : ∀ n, S ≤ n → v.T n = u.T n := fun n hn => by
      rw [e n, maxV_comm (RV.thing h.ok n) (RV.thing k.ok n)]
      exact (max_fast (big (by omega)).2 (big (by omega)).1 (gp n hn)).1
    have tv : Tail v := ⟨ok, ne, b12, U', _, max S 5, m2, b2, d0, d1, fun n hn => by rw [ev n (by omega), e2 n (by omega) (by omega)]⟩
    have := tv.begin (by decide) (lin_congr (l2.from_ (show u.fs.length ≤ S by omega)) ev)
    exact ⟨tv, by omega⟩
/-- the least of two -/
theorem tail_min {r u v : RV} (h : Tail r) (k : Tail u) (ok : v.Ok) (ne : v.isE = false) (e : ∀ n, v.T n = minV (r.T n) (u.T n)) : Tail v ∧ v.fs.length ≤ max r.fs.length u.fs.length + 3624 := by
  obtain ⟨_, c0, c1, l1, T', m1, b1, e1⟩ := h.at_
  obtain ⟨_, d0, d1, l2, U', m2, b2, e2⟩ := k.at_
  have big : ∀ {n}, max r.fs.length u.fs.length ≤ n → r.T n = .int (intOf (r.T n)) ∧ u.T n = .int (intOf (u.T n)) := fun hn => ⟨RV.int_at h.ne (by omega), RV.int_at k.ne (by omega)⟩
  have b12 : ∀ n, n < 12 → ∀ i, v.T n = .int i → -4 ≤ i ∧ i ≤ 600 := fun n hn i hi => by
    rw [e n] at hi
    exact b12_min h k hn hi
  rcases Int.lt_trichotomy (growI u 6) (growI r 6) with g | g | g
  · obtain ⟨S, s1, s2, gp⟩ := fast_from h k g
    have ev : ∀ n, S ≤ n → v.T n = u.T n := fun n hn => by
      rw [e n]
      exact (max_fast (big (by omega)).1 (big (by omega)).2 (gp n hn)).2
    have tv : Tail v := ⟨ok, ne, b12, U', _, max S 5, m2, b2, d0, d1, fun n hn => by rw [ev n (by omega), e2 n (by omega) (by omega)]⟩
    have := tv.begin (by decide) (lin_congr (l2.from_ (show u.fs.length ≤ S by omega)) ev)
    exact ⟨tv, by omega⟩
  · have lm : Lin v.T (max r.fs.length u.fs.length) 6 (growI r 6) := by
      rw [show v.T = fun n => minV (r.T n) (u.T n) from funext e]
      refine lin_min (l1.from_ (by omega)) ?_
      rw [← g]
      exact l2.from_ (by omega)
    rw [g] at m2
    have tv : Tail v := ⟨ok, ne, b12, fun n => minV (T' n) (U' n), _, max (max r.fs.length u.fs.length) 5, lin_min m1 m2, fun n h5 h11 => by
      obtain ⟨x, x1, _⟩ := m1 n h5
      obtain ⟨y, y1, _⟩ := m2 n h5
      have a := b1 n h5 h11
      have b := b2 n h5 h11
      rw [x1] at a
      rw [y1] at b
      show -4 ≤ intOf (minV (T' n) (U' n)) ∧ intOf (minV (T' n) (U' n)) ≤ 600
      rw [x1, y1]
      have a : -4 ≤ x ∧ x ≤ 600 := a
      have b : -4 ≤ y ∧ y ≤ 600 := b
      show -4 ≤ min x y ∧ min x y ≤ 600
      omega, c0, c1, fun n hn => by rw [e n, e1 n (by omega) (by omega), e2 n (by omega) (by omega)]⟩
    have := tv.begin (by decide) lm
    exact ⟨tv, by omega⟩
  · obtain ⟨S, s1, s2, gp⟩ := fast_from k h g
    have ev : ∀ n, S ≤ n → v.T n = r.T n := fun n hn => by
      rw [e n, minV_comm (RV.thing h.ok n) (RV.thing k.ok n)]
      exact (max_fast (big (by omega)).2 (big (by omega)).1 (gp n hn)).2
    have tv : Tail v := ⟨ok, ne, b12, T', _, max S 5, m1, b1, c0, c1, fun n hn => by rw [ev n (by omega), e1 n (by omega) (by omega)]⟩
    have := tv.begin (by decide) (lin_congr (l1.from_ (show r.fs.length ≤ S by omega)) ev)
    exact ⟨tv, by omega⟩
end WW

set_option Elab.async false
set_option linter.all false
set_option maxRecDepth 100000
set_option maxHeartbeats 4000000
namespace WW
open PySem PySem.Spec PyProof.Rows L2
/-- for .. in a list or a tuple -/
theorem for_sq {K : PySem.W.Frag} {a : Addr} {xs : List V} {g : TG} {tb : TS} {D : Ends} {σ : L2.St} {H : Hp} (hq : Sq K H a xs) (Pv : Nat → L2.St → Hp → Prop) (h0 : Pv 0 σ H) (hl : ∀ i σ' H', Pv i σ' H' → (SqL K H a xs → SqL K H' a xs) ∧ (SqT K H a xs → SqT K H' a xs))
    (hs : ∀ i x σ H, xs[i]? = some x → Pv i σ H → g x σ H fun σ2 H2 => tb { D with nx := Pv (i + 1), ct := Pv (i + 1), bk := D.nx } σ2 H2) (hd : ∀ σ H, Pv xs.length σ H → D.nx σ H) :
    ((∃ xs, SqL K H a xs) ∧ (∃ W : Nat → Nat → L2.St → Hp → Prop, (∃ m, W 0 m σ H) ∧ ∀ i m σ H, W i m σ H →
      ((Itl K a).stop i H ∧ D.nx σ H) ∨ ((Itl K a).go i H ∧ ∃ N : L2.St → Hp → Prop, (∀ σ' H', N σ' H' → ∃ m', m' < m ∧ W (i + 1) m' σ' H') ∧ ∀ x H', (Itl K a).yld i H x H' → g x σ H' fun σ2 H2 => tb { D with nx := N, ct := N, bk := D.nx } σ2 H2))) ∨
    ((∃ xs, SqT K H a xs) ∧ (∃ W : Nat → Nat → L2.St → Hp → Prop, (∃ m, W 0 m σ H) ∧ ∀ i m σ H, W i m σ H →
      ((Itt K a).stop i H ∧ D.nx σ H) ∨ ((Itt K a).go i H ∧ ∃ N : L2.St → Hp → Prop, (∀ σ' H', N σ' H' → ∃ m', m' < m ∧ W (i + 1) m' σ' H') ∧ ∀ x H', (Itt K a).yld i H x H' → g x σ H' fun σ2 H2 => tb { D with nx := N, ct := N, bk := D.nx } σ2 H2))) := by
  rcases hq with hq | hq
  · exact .inl ⟨⟨xs, hq⟩, for_list (xs := xs) Pv h0 (fun i σ' H' _ p => (hl i σ' H' p).1 hq) hs hd⟩
  · exact .inr ⟨⟨xs, hq⟩, for_tup (xs := xs) Pv h0 (fun i σ' H' _ p => (hl i σ' H' p).2 hq) hs hd⟩
theorem cut_from' {xs : List V} {t : Nat} : cutV xs (some (t : Int)) none = xs.drop t := by
  unfold cutV
  rw [HT.sIx_none, HT.sIx_nat]
  by_cases h : t ≤ xs.length
  · rw [Nat.min_eq_left h]
    exact List.take_of_length_le (by rw [List.length_drop]; omega)
  · rw [Nat.min_eq_right (by omega), List.drop_eq_nil_of_le (Nat.le_refl _), List.drop_eq_nil_of_le (by omega)]
    simp
theorem sl_from {K : PySem.W.Frag} {H : Hp} {Q : VK} {a : Addr} {xs : List V} {t : Nat} (hq : Sq K H a xs) (t0 : 0 < t) (hx : 0 < xs.length) (q : ∀ p H', Same H H' → Sq K H' p (xs.drop t) → Q (.ref p) H') : rSlQ K (.ref a) (some (t : Int)) none H Q := by
  have hw : ¬ (HT.sIx xs.length 0 (some (t : Int)) = 0 ∧ HT.sIx xs.length xs.length none = xs.length) := by
    rintro ⟨h, _⟩
    rw [HT.sIx_nat] at h
    omega
  rcases hq with hq | hq
  · refine .inl ⟨a, xs, rfl, hq, fun p np => ?_⟩
    rw [cut_from']
    exact q p _ (same_new np) (.l upd_same)
  · refine .inr (.inl ⟨a, xs, rfl, hq, hw, fun p np => ?_⟩)
    rw [cut_from']
    exact q p _ (same_new np) (.t upd_same)
/-- [φ x for x in xs if p x] -/
theorem lc_sqFM {K : PySem.W.Frag} {σ : L2.St} {H : Hp} {Q : VK} {tl te : TE} {tt : TT} {j : Nat} {xs : List V} (p : V → Bool) (φ : V → V) (hv : ∀ R : VK, (∀ a H', Same H H' → Sq K H' a xs → R (.ref a) H') → tl σ H R) (hl : xs.length ≤ 100000)
    (ht : ∀ x ∈ xs, ∀ H1, Same H H1 → ∀ R : Bool → Hp → Prop, (∀ H2, Same H1 H2 → R (p x) H2) → tt ((wipe σ [j]).set j (some x)) H1 R)
    (he : ∀ x ∈ xs, p x = true → ∀ H1, Same H H1 → ∀ R : VK, (∀ H2, Same H1 H2 → R (φ x) H2) → te ((wipe σ [j]).set j (some x)) H1 R)
    (k : ∀ D H', Same H H' → H D = none → H' D = some (.lst ((xs.filter p).map φ)) → Q (.ref D) H') : tLc (iSeq K tl) (gName j) tt te [j] σ H Q := by
  refine hv _ fun a H0 s0 hq => ⟨a, rfl, ?_⟩
  have turn : ∀ (D : Addr), H0 D = none → ∀ i x Hc, xs[i]? = some x → (Same H0 Hc ∧ Hc D = some (.lst (((xs.take i).filter p).map φ))) → gName j x (wipe σ [j]) Hc fun σ2 H2 => wipe σ2 [j] = wipe σ [j] ∧ tt σ2 H2 fun b H3 =>
      if b = true then te σ2 H3 fun y H4 => ∃ acc, H4 D = some (.lst acc) ∧ acc.length < sizeLine ∧ (Same H0 (upd H4 D (.lst (acc ++ [y]))) ∧ (upd H4 D (.lst (acc ++ [y]))) D = some (.lst (((xs.take (i + 1)).filter p).map φ))) else (Same H0 H3 ∧ H3 D = some (.lst (((xs.take (i + 1)).filter p).map φ))) := by
    intro D hD i x Hc hx ⟨sm, hd⟩
    refine ⟨wipe1, ?_⟩
    have mx := List.mem_of_getElem? hx
    refine ht x mx Hc (s0.trans sm) _ fun H1 s1 => ?_
    cases hp : p x with
    | false =>
      refine ⟨sm.trans s1, ?_⟩
      rw [List.take_add_one, hx, List.filter_append]
      show H1 D = some (.lst (((xs.take i).filter p ++ [x].filter p).map φ))
      rw [List.filter_cons, if_neg (by rw [hp]; decide), List.filter_nil, List.append_nil]
      exact s1 _ _ hd
    | true =>
      refine he x mx hp H1 (s0.trans (sm.trans s1)) _ fun H2 s2 => ⟨_, s2 _ _ (s1 _ _ hd), ?_, same_app ((sm.trans s1).trans s2) hD, ?_⟩
      · have e := List.length_filter_le p (xs.take i)
        rw [List.length_take] at e
        rw [List.length_map]
        exact Nat.lt_of_le_of_lt (Nat.le_trans e (Nat.le_trans (Nat.min_le_right _ _) hl)) (by decide)
      · rw [upd_same, List.take_add_one, hx, List.filter_append]
        show some (HO.lst (((xs.take i).filter p).map φ ++ [φ x])) = some (.lst (((xs.take i).filter p ++ [x].filter p).map φ))
        rw [List.filter_cons, if_pos hp, List.filter_nil, List.map_append]
        rfl
  rcases hq with hq | hq
  · refine .inl ⟨⟨xs, hq⟩, fun D hD => ?_⟩
    refine lc_list (K := K) (a := a) (xs := xs) (fun i Hc => Same H0 Hc ∧ Hc D = some (.lst (((xs.take i).filter p).map φ))) ⟨same_app (Same.refl H0) hD, upd_same⟩ (fun i Hc _ r => Evl.ex_l r.1 hq) (turn D hD) fun Hc r => ?_
    rw [List.take_length] at r
    exact k D Hc (s0.trans r.1) (s0.free hD) r.2
  · refine .inr ⟨⟨xs, hq⟩, fun D hD => ?_⟩
    refine lc_tup (K := K) (a := a) (xs := xs) (fun i Hc => Same H0 Hc ∧ Hc D = some (.lst (((xs.take i).filter p).map φ))) ⟨same_app (Same.refl H0) hD, upd_same⟩ (fun i Hc _ r => Evl.ex_t r.1 hq) (turn D hD) fun Hc r => ?_
    rw [List.take_length] at r
    exact k D Hc (s0.trans r.1) (s0.free hD) r.2
/-- [e for x in xs], e something new each time -/
theorem lc_sqI {K : PySem.W.Frag} {σ : L2.St} {H : Hp} {Q : VK} {tl te : TE} {j : Nat} {xs : List V} (Iv : Nat → List V → Hp → Prop) (hv : ∀ R : VK, (∀ a H', Same H H' → Sq K H' a xs → R (.ref a) H') → tl σ H R) (hl : xs.length ≤ 100000)
    (h0 : ∀ H', Same H H' → Iv 0 [] H') (stab : ∀ i acc Hc D ls ls', H D = none → Hc D = some (.lst ls) → Iv i acc Hc → Iv i acc (upd Hc D (.lst ls')))
    (he : ∀ i x acc H1, xs[i]? = some x → Same H H1 → acc.length = i → Iv i acc H1 → ∀ R : VK, (∀ y H2, Same H1 H2 → Iv (i + 1) (acc ++ [y]) H2 → R y H2) → te ((wipe σ [j]).set j (some x)) H1 R)
    (k : ∀ D H' acc, Same H H' → H D = none → H' D = some (.lst acc) → acc.length = xs.length → Iv xs.length acc H' → Q (.ref D) H') : tLc (iSeq K tl) (gName j) tYes te [j] σ H Q := by
  refine hv _ fun a H0 s0 hq => ⟨a, rfl, ?_⟩
  have turn : ∀ (D : Addr), H0 D = none → ∀ i x Hc, xs[i]? = some x → (Same H0 Hc ∧ ∃ acc, Hc D = some (.lst acc) ∧ acc.length = i ∧ Iv i acc Hc) → gName j x (wipe σ [j]) Hc fun σ2 H2 => wipe σ2 [j] = wipe σ [j] ∧ tYes σ2 H2 fun b H3 =>
      if b = true then te σ2 H3 fun y H4 => ∃ acc, H4 D = some (.lst acc) ∧ acc.length < sizeLine ∧ (Same H0 (upd H4 D (.lst (acc ++ [y]))) ∧ ∃ acc', (upd H4 D (.lst (acc ++ [y]))) D = some (.lst acc') ∧ acc'.length = i + 1 ∧ Iv (i + 1) acc' (upd H4 D (.lst (acc ++ [y])))) else (Same H0 H3 ∧ ∃ acc', H3 D = some (.lst acc') ∧ acc'.length = i + 1 ∧ Iv (i + 1) acc' H3) := by
    intro D hD i x Hc hx ⟨sm, acc, hd, la, iv⟩
    refine ⟨wipe1, ?_⟩
    have hi : i < xs.length := by
      rcases Nat.lt_or_ge i xs.length with c | c
      · exact c
      · rw [List.getElem?_eq_none c] at hx
        cases hx
    refine he i x acc Hc hx (s0.trans sm) la iv _ fun y H2 s2 iv2 => ⟨acc, s2 _ _ hd, ?_, same_app (sm.trans s2) hD, acc ++ [y], upd_same, by rw [List.length_append, la]; rfl, stab _ _ _ D _ _ (s0.free hD) (s2 _ _ hd) iv2⟩
    rw [la]
    exact Nat.lt_of_lt_of_le (Nat.lt_of_lt_of_le hi hl) (by decide)
  have beg : ∀ D, H0 D = none → Same H0 (upd H0 D (.lst [])) ∧ ∃ acc, (upd H0 D (.lst [])) D = some (.lst acc) ∧ acc.length = 0 ∧ Iv 0 acc (upd H0 D (.lst [])) := fun D hD => ⟨same_app (Same.refl H0) hD, [], upd_same, rfl, h0 _ (s0.trans (same_app (Same.refl H0) hD))⟩
  rcases hq with hq | hq
  · refine .inl ⟨⟨xs, hq⟩, fun D hD => ?_⟩
    refine lc_list (K := K) (a := a) (xs := xs) (fun i Hc => Same H0 Hc ∧ ∃ acc, Hc D = some (.lst acc) ∧ acc.length = i ∧ Iv i acc Hc) (beg D hD) (fun i Hc _ p => Evl.ex_l p.1 hq) (turn D hD) fun Hc p => ?_
    obtain ⟨sm, acc, e, la, iv⟩ := p
    exact k D Hc acc (s0.trans sm) (s0.free hD) e la iv
  · refine .inr ⟨⟨xs, hq⟩, fun D hD => ?_⟩
    refine lc_tup (K := K) (a := a) (xs := xs) (fun i Hc => Same H0 Hc ∧ ∃ acc, Hc D = some (.lst acc) ∧ acc.length = i ∧ Iv i acc Hc) (beg D hD) (fun i Hc _ p => Evl.ex_t p.1 hq) (turn D hD) fun Hc p => ?_
    obtain ⟨sm, acc, e, la, iv⟩ := p
    exact k D Hc acc (s0.trans sm) (s0.free hD) e la iv
/-- [e for x in range(..)], e something new each time, by what is drawn of b -/
theorem lc_rgB {σ : L2.St} {H : Hp} {Qd : Hp → Prop} {te : TE} {j n : Nat} {lo : Int} {b D : Addr} {ob : HO} (Iv : Nat → List V → Hp → Prop) (hl : n ≤ 100000) (hb : H b = some ob) (hD : H D = none)
    (h0 : Iv 0 [] (upd H D (.lst []))) (stab : ∀ i acc Hc ls ls', SameBut b H Hc → Hc D = some (.lst ls) → Iv i acc Hc → Iv i acc (upd Hc D (.lst ls')))
    (he : ∀ i acc H1, i < n → SameBut b H H1 → acc.length = i → Iv i acc H1 → ∀ R : VK, (∀ y H2, SameBut b H1 H2 → Iv (i + 1) (acc ++ [y]) H2 → R y H2) → te ((wipe σ [j]).set j (some (.int (lo + i)))) H1 R)
    (k : ∀ H' acc, SameBut b H H' → H' D = some (.lst acc) → acc.length = n → Iv n acc H' → Qd H') :
    ∃ W : Nat → Nat → Hp → Prop, (∃ m, W 0 m (upd H D (.lst []))) ∧ ∀ i m H, W i m H →
      ((Itr lo n).stop i H ∧ Qd H) ∨ ((Itr lo n).go i H ∧ ∃ Nx : Hp → Prop, (∀ H', Nx H' → ∃ m', m' < m ∧ W (i + 1) m' H') ∧ ∀ x H', (Itr lo n).yld i H x H' → gName j x (wipe σ [j]) H' fun σ2 H2 => wipe σ2 [j] = wipe σ [j] ∧ tYes σ2 H2 fun b H3 =>
        if b = true then te σ2 H3 fun y H4 => ∃ acc, H4 D = some (.lst acc) ∧ acc.length < sizeLine ∧ Nx (upd H4 D (.lst (acc ++ [y]))) else Nx H3) := by
  have nD : D ≠ b := fun z => by
    rw [z, hb] at hD
    cases hD
  refine lc_range (fun i Hc => SameBut b H Hc ∧ ∃ acc, Hc D = some (.lst acc) ∧ acc.length = i ∧ Iv i acc Hc) ⟨(SameBut.of (Same.refl H)).app hD, [], upd_same, rfl, h0⟩ (fun i Hc hi ⟨sm, acc, hd, la, iv⟩ => ⟨wipe1, ?_⟩) fun Hc ⟨sm, acc, e, la, iv⟩ => k Hc acc sm e la iv
  refine he i acc Hc hi sm la iv _ fun y H2 s2 iv2 => ⟨acc, s2 _ _ nD hd, ?_, (sm.trans s2).app hD, acc ++ [y], upd_same, by rw [List.length_append, la]; rfl, stab _ _ _ _ _ (sm.trans s2) (s2 _ _ nD hd) iv2⟩
  rw [la]
  exact Nat.lt_of_lt_of_le (Nat.lt_of_lt_of_le hi hl) (by decide)
theorem pi_zipK {X : Cx} (K : PySem.W.Frag) {e e2 : Expr} {ta : TA} {p pos tpos : Pos} {elts : List Expr} {kk : Nat} (hg : Gl X "zip") (hm : X.mg "zip" = none) (ha : PA X [e, e2] ta) (h : X.K = K := by rfl)
    (hs : starEach [e, e2] X.env = (false, eval e X.env) :: starEach [e2] X.env := by rfl) (hpl : (backTo pos (starEach [e2] X.env)).any (·.1) = false := by rfl) :
    PI X (.Tuple elts kk tpos) (.Call (.Name "zip" p) [e, e2] [] pos) (iZip K ta) := by
  subst h
  exact pi_zip hg hm ha hs hpl
/-- [.. for x, y in zip(a, b) if test], the test never true -/
theorem lc_zip_none {K : PySem.W.Frag} {a b D : Addr} {xs ys : List V} {g : TG} {tt : TT} {te : TE} {vs : List Nat} {σ : L2.St} {H : Hp} {Qd : Hp → Prop} (hl : xs.length = ys.length) (qa : SqL K H a xs) (qb : SqL K H b ys) (hD : H D = none)
    (hs : ∀ (i : Nat) x y T Hc, xs[i]? = some x → ys[i]? = some y → Same H Hc → Hc T = some (.tup [x, y]) → ∀ R : L2.St → Bool → Hp → Prop, (∀ σ2 H3, Same Hc H3 → R σ2 false H3) → g (.ref T) (wipe σ vs) Hc fun σ2 H2 => wipe σ2 vs = wipe σ vs ∧ tt σ2 H2 (R σ2))
    (k : ∀ H', Same H H' → H' D = some (.lst []) → Qd H') :
    ∃ W : Nat → Nat → Hp → Prop, (∃ m, W 0 m (upd H D (.lst []))) ∧ ∀ i m H, W i m H →
      ((Itz K a b).stop i H ∧ Qd H) ∨ ((Itz K a b).go i H ∧ ∃ Nx : Hp → Prop, (∀ H', Nx H' → ∃ m', m' < m ∧ W (i + 1) m' H') ∧ ∀ x H', (Itz K a b).yld i H x H' → g x (wipe σ vs) H' fun σ2 H2 => wipe σ2 vs = wipe σ vs ∧ tt σ2 H2 fun b H3 =>
        if b = true then te σ2 H3 fun y H4 => ∃ acc, H4 D = some (.lst acc) ∧ acc.length < sizeLine ∧ Nx (upd H4 D (.lst (acc ++ [y]))) else Nx H3) := by
  refine ⟨fun i m Hc => m = xs.length - i ∧ i ≤ xs.length ∧ Same H Hc ∧ Hc D = some (.lst []), ⟨xs.length, by simp, Nat.zero_le _, same_app (Same.refl H) hD, upd_same⟩, ?_⟩
  rintro i m Hc ⟨rfl, hi, sm, hd⟩
  have q1 := Evl.ex_l sm qa
  have q2 := Evl.ex_l sm qb
  by_cases hlt : i < xs.length
  · refine .inr ⟨⟨xs, ys, xs[i], ys[i]'(by omega), q1, q2, by simp [hlt], by rw [List.getElem?_eq_getElem]⟩, fun H' => Same H H' ∧ H' D = some (.lst []), fun H' p' => ⟨xs.length - (i + 1), by omega, rfl, hlt, p'⟩, fun x H' y => ?_⟩
    obtain ⟨T, x1, y1, rfl, nT, rfl, e1, e2⟩ := y
    have sT := same_new (o := .tup [x1, y1]) nT
    refine hs i x1 y1 T _ (e1 xs q1) (e2 ys q2) (sm.trans sT) upd_same (fun σ2 b H3 => if b = true then te σ2 H3 fun y H4 => ∃ acc, H4 D = some (.lst acc) ∧ acc.length < sizeLine ∧ (Same H (upd H4 D (.lst (acc ++ [y]))) ∧ (upd H4 D (.lst (acc ++ [y]))) D = some (.lst [])) else (Same H H3 ∧ H3 D = some (.lst []))) fun σ2 H3 s3 => ?_
    exact ⟨(sm.trans sT).trans s3, s3 _ _ (sT _ _ hd)⟩
  · have e : i = xs.length := by omega
    subst e
    exact .inl ⟨⟨xs, ys, q1, q2, .inl (Nat.le_refl _)⟩, k Hc sm hd⟩
end WW

set_option Elab.async false
set_option linter.all false
set_option maxRecDepth 100000
set_option maxHeartbeats 4000000
namespace WW
open PySem PySem.Spec PyProof.Rows L2
theorem emp_ok : RV.emp.Ok := ⟨by decide, by decide, by decide, by decide, by decide, (fun _ h => nomatch h), (fun _ => rfl), fun h => nomatch h⟩
/-- nothing, or a row of small times -/
def Nice (r : RV) (B : Nat) : Prop := r = .emp ∨ (Tail r ∧ r.fs.length ≤ B)
theorem Nice.ok {r : RV} {B : Nat} (h : Nice r B) : r.Ok := by
  rcases h with rfl | ⟨h, _⟩
  · exact emp_ok
  · exact h.ok
theorem Nice.le {r : RV} {B : Nat} (h : Nice r B) : r.fs.length ≤ B := by
  rcases h with rfl | ⟨_, h⟩
  · exact Nat.zero_le _
  · exact h
theorem Nice.up {r : RV} {B B' : Nat} (h : Nice r B) (l : B ≤ B') : Nice r B' := by
  rcases h with h | ⟨h, k⟩
  · exact .inl h
  · exact .inr ⟨h, Nat.le_trans k l⟩
theorem Nice.six {r : RV} {B : Nat} (h : Nice r B) : r.n ∣ 6 := by
  rcases h with rfl | ⟨h, _⟩
  · exact ⟨6, rfl⟩
  · exact h.at_.1
theorem Nice.isE {r : RV} {B : Nat} (h : Nice r B) (e : r.isE = true) : r = .emp := by
  rcases h with h | ⟨h, _⟩
  · exact h
  · rw [h.ne] at e
    cases e
theorem Nice.tail {r : RV} {B : Nat} (h : Nice r B) (e : r.isE = false) : Tail r := by
  rcases h with rfl | ⟨h, _⟩
  · cases e
  · exact h
theorem Nice.grow {r : RV} {B : Nat} (h : Nice r B) {t : Nat} (t6 : t ∣ 6) (d : r.n ∣ t) : 0 ≤ growI r t ∧ growI r t < 1000000 := by
  rcases h with rfl | ⟨h, _⟩
  · have e : growI .emp t = 0 := Int.zero_mul _
    rw [e]
    decide
  · have := grow_le h t6 d
    omega
theorem Nice.pre {r u : RV} {B : Nat} (h : Nice r B) (k : Nice u B) (hB : B ≤ 15000) {s t : Nat} (es : s = max r.fs.length u.fs.length) (et : t = Nat.lcm r.n u.n) : t ≤ 1000 ∧ s ≤ 19000 ∧
  (r.isE = false → u.isE = false → (growI r t > growI u t → PB r u s t) ∧ (growI r t < growI u t → PB u r s t)) ∧ growI r t < 1000000 ∧ growI u t < 1000000 ∧ 0 ≤ growI r t ∧ 0 ≤ growI u t := by
  have t6 : t ∣ 6 := by
    rw [et]
    exact lcm6 h.six k.six
  have d1 : r.n ∣ t := by
    rw [et]
    exact Nat.dvd_lcm_left _ _
  have d2 : u.n ∣ t := by
    rw [et]
    exact Nat.dvd_lcm_right _ _
  have t1 : t ≤ 6 := Nat.le_of_dvd (by decide) t6
  have l1 := h.le
  have l2 := k.le
  have g1 := h.grow t6 d1
  have g2 := k.grow t6 d2
  refine ⟨by omega, by omega, fun e1 e2 => ⟨fun g l hl => ?_, fun g l hl => ?_⟩, g1.2, g2.2, g1.1, g2.1⟩
  · have := part_le (h.tail e1) (k.tail e2) t6 d1 d2 (by omega) g l hl
    omega
  · have := part_le (k.tail e2) (h.tail e1) t6 d2 d1 (by omega) g l hl
    omega
theorem maxV_non {x : V} (h : isThingV x = true) : maxV x .non = x := by
  cases x <;> first | rfl | cases h
theorem minV_non (x : V) : minV x .non = .non := by
  cases x <;> rfl
def foldM (op : V → V → V) (T : RV) (rs : List RV) (n : Nat) : V := (rs.map (·.T n)).foldl op (T.T n)
theorem foldM_add (op : V → V → V) (T : RV) (rs : List RV) (r : RV) (n : Nat) : foldM op T (rs ++ [r]) n = op (foldM op T rs n) (r.T n) := by
  unfold foldM
  rw [List.map_append, List.foldl_append]
  rfl
theorem at_hd {x : V} {xs : List V} : atI (x :: xs) 0 = some x := atI_nat (xs := x :: xs) (j := 0) rfl
section
variable {P : Program} {w : World} {K : PySem.W.Frag} {mg : Str → Option Value} {base : Heap} {f : Addr} {fd : FuncData}
def rowRef (z : Addr × RV) : V := .ref z.1
def spMost (K : PySem.W.Frag) (C : Addr) (op : V → V → V) : Sp := fun vs H Q _ => ∃ (a : Addr) (z0 : Addr × RV) (zs : List (Addr × RV)), vs = [.ref a] ∧ Sq K H a ((z0 :: zs).map rowRef) ∧ zs.length ≤ 4 ∧ (∀ z ∈ z0 :: zs, RowR C H z.1 z.2 ∧ Nice z.2 5) ∧
  ∀ x H' (r : RV), Same H H' → RowR C H' x r → r.Ok → (zs = [] → r = z0.2) → (∀ n, r.T n = foldM op z0.2 (zs.map (·.2)) n) → Q (.ref x) H'
abbrev s_greatest : Stmt := top 40
abbrev N_greatest : List Str := ["rows", "found", "row"]
theorem sc_greatest : FnScope N_greatest ["rows"] (defScope s_greatest) := ⟨rfl, rfl, rfl, by decide +kernel, rfl, by decide +kernel, by decide +kernel⟩

theorem ok_greatest (F : FnP K "greatest" s_greatest f fd) (g_greatest_of_two : FnAt P w K mg base CX0 7 "greatest_of_two" ["one", "other"] (spG2 (He.ga K "Row"))) : FnOk P w K mg base CX0 8 f fd ["rows"] (spMost K (He.ga K "Row") maxV) := by
  refine F.ok sc_greatest (fun vs H Q E h => ?_) (fun cdv A outer s H vs Q E hr h => ?_)
  · obtain ⟨a, z0, zs, rfl, _⟩ := h
    rfl
  · obtain ⟨a, z0, zs, rfl, hq, hl, hz, q⟩ := h
    refine ⟨_, PSs.nox (pss_cons (ps_set (i := 1) sc_greatest.nd rfl (.inl rfl) (pe_ix (ix_sqK K) (pv 0) (pe_int) (fun _ _ => rfl)))
 (pss_cons (ps_for PassesOwn.never rfl (pi_seqK K (pe_slice (sl_sqK K) (pv 0) (po_some (pe_int)) (po_none))) (pg_name (i := 2) sc_greatest.nd rfl (.inl rfl)) (pss_one (ps_set (i := 1) sc_greatest.nd rfl (.inl rfl) (pe_fn g_greatest_of_two hr rfl (pa_cons (pv 1) (pa_cons (pv 2) (pa_nil)))))))
 (pss_one (ps_ret (pv 1))))), ?_⟩
    refine ⟨_, rfl, a, _, _, _, rfl, rfl, hq, at_hd, ?_⟩
    refine ⟨_, rfl, _, rfl, sl_from (t := 1) hq (by decide) (by rw [List.length_map]; exact Nat.succ_pos _) fun p H1 s1 hp => ⟨p, rfl, ?_⟩⟩
    have hp : Sq K H1 p (zs.map rowRef) := hp
    have hz0 := hz z0 List.mem_cons_self
    refine for_sq hp (fun i σ Hc => ∃ (x : Addr) (g : RV) (v : Option V), σ = [some (.ref a), some (.ref x), v] ∧ Same H1 Hc ∧ RowR (He.ga K "Row") Hc x g ∧ Nice g (5 + 3624 * i) ∧ (i = 0 → g = z0.2) ∧ ∀ n, g.T n = foldM maxV z0.2 ((zs.take i).map (·.2)) n) ⟨z0.1, z0.2, none, rfl, Same.refl H1, RowAt.ex s1 hz0.1, hz0.2, fun _ => rfl, fun n => rfl⟩ (fun i σ Hc p => ?_) ?_ ?_
    · obtain ⟨x, g, v, _, sc, _⟩ := p
      exact ⟨Evl.ex_l sc, Evl.ex_t sc⟩
    · rintro i y σ Hc hy ⟨x, g, v, rfl, sc, hx, ng, _, eg⟩
      rw [List.getElem?_map] at hy
      obtain ⟨z, hzi, rfl⟩ := Option.map_eq_some_iff.mp hy
      have hi : i < zs.length := by
        rcases Nat.lt_or_ge i zs.length with c | c
        · exact c
        · rw [List.getElem?_eq_none c] at hzi
          cases hzi
      have mz := hz z (List.mem_cons_of_mem _ (List.mem_of_getElem? hzi))
      have hy' := RowAt.ex (s1.trans sc) mz.1
      have nu : Nice z.2 (5 + 3624 * i) := mz.2.up (by omega)
      obtain ⟨t1, b1, pb, gr, gu, gr0, gu0⟩ := ng.pre nu (by omega) rfl rfl
      have eT : (zs.take (i + 1)).map (·.2) = (zs.take i).map (·.2) ++ [z.2] := by
        rw [List.take_add_one, hzi, List.map_append]
        rfl
      have ef : ∀ n, foldM maxV z0.2 ((zs.take (i + 1)).map (·.2)) n = maxV (g.T n) (z.2.T n) := fun n => by
        rw [eT, foldM_add, ← eg]
      refine ⟨_, rfl, _, rfl, x, z.1, g, z.2, _, _, rfl, hx, hy', ng.ok, nu.ok, rfl, rfl, t1, b1, pb, gr, gu, gr0, gu0, fun e1 => ?_, fun e1 e2 => ?_, fun e1 e2 x' H2 r' s2 hr' ok' em ne' => ?_⟩
      · refine ⟨z.1, z.2, _, rfl, sc, hy', nu.up (by omega), fun h => absurd h (by omega), fun n => ?_⟩
        rw [ef, ng.isE e1]
        rfl
      · refine ⟨x, g, _, rfl, sc, hx, ng.up (by omega), fun h => absurd h (by omega), fun n => ?_⟩
        rw [ef, nu.isE e2]
        exact (maxV_non (RV.thing ng.ok n)).symm
      · obtain ⟨tv, lv⟩ := tail_max (ng.tail e1) (nu.tail e2) ok' ne' em
        have l1 := ng.le
        have l2 := nu.le
        refine ⟨x', r', _, rfl, sc.trans s2, hr', .inr ⟨tv, by omega⟩, fun h => absurd h (by omega), fun n => ?_⟩
        rw [ef, em]
    · rintro σ Hc ⟨x, g, v, rfl, sc, hx, ng, e0, eg⟩
      rw [List.length_map] at eg e0
      rw [List.take_length] at eg
      exact ⟨_, rfl, q x Hc g (s1.trans sc) hx ng.ok (fun h => e0 (by rw [h]; rfl)) eg⟩
abbrev s_least : Stmt := top 41
abbrev N_least : List Str := ["rows", "found", "row"]
theorem sc_least : FnScope N_least ["rows"] (defScope s_least) := ⟨rfl, rfl, rfl, by decide +kernel, rfl, by decide +kernel, by decide +kernel⟩

theorem ok_leastR (F : FnP K "least" s_least f fd) (g_least_of_two : FnAt P w K mg base CX0 7 "least_of_two" ["one", "other"] (spL2 (He.ga K "Row"))) : FnOk P w K mg base CX0 8 f fd ["rows"] (spMost K (He.ga K "Row") minV) := by
  refine F.ok sc_least (fun vs H Q E h => ?_) (fun cdv A outer s H vs Q E hr h => ?_)
  · obtain ⟨a, z0, zs, rfl, _⟩ := h
    rfl
  · obtain ⟨a, z0, zs, rfl, hq, hl, hz, q⟩ := h
    refine ⟨_, PSs.nox (pss_cons (ps_set (i := 1) sc_least.nd rfl (.inl rfl) (pe_ix (ix_sqK K) (pv 0) (pe_int) (fun _ _ => rfl)))
 (pss_cons (ps_for PassesOwn.never rfl (pi_seqK K (pe_slice (sl_sqK K) (pv 0) (po_some (pe_int)) (po_none))) (pg_name (i := 2) sc_least.nd rfl (.inl rfl)) (pss_one (ps_set (i := 1) sc_least.nd rfl (.inl rfl) (pe_fn g_least_of_two hr rfl (pa_cons (pv 1) (pa_cons (pv 2) (pa_nil)))))))
 (pss_one (ps_ret (pv 1))))), ?_⟩
    refine ⟨_, rfl, a, _, _, _, rfl, rfl, hq, at_hd, ?_⟩
    refine ⟨_, rfl, _, rfl, sl_from (t := 1) hq (by decide) (by rw [List.length_map]; exact Nat.succ_pos _) fun p H1 s1 hp => ⟨p, rfl, ?_⟩⟩
    have hp : Sq K H1 p (zs.map rowRef) := hp
    have hz0 := hz z0 List.mem_cons_self
    refine for_sq hp (fun i σ Hc => ∃ (x : Addr) (g : RV) (v : Option V), σ = [some (.ref a), some (.ref x), v] ∧ Same H1 Hc ∧ RowR (He.ga K "Row") Hc x g ∧ Nice g (5 + 3624 * i) ∧ (i = 0 → g = z0.2) ∧ ∀ n, g.T n = foldM minV z0.2 ((zs.take i).map (·.2)) n) ⟨z0.1, z0.2, none, rfl, Same.refl H1, RowAt.ex s1 hz0.1, hz0.2, fun _ => rfl, fun n => rfl⟩ (fun i σ Hc p => ?_) ?_ ?_
    · obtain ⟨x, g, v, _, sc, _⟩ := p
      exact ⟨Evl.ex_l sc, Evl.ex_t sc⟩
    · rintro i y σ Hc hy ⟨x, g, v, rfl, sc, hx, ng, _, eg⟩
      rw [List.getElem?_map] at hy
      obtain ⟨z, hzi, rfl⟩ := Option.map_eq_some_iff.mp hy
      have hi : i < zs.length := by
        rcases Nat.lt_or_ge i zs.length with c | c
        · exact c
        · rw [List.getElem?_eq_none c] at hzi
          cases hzi
      have mz := hz z (List.mem_cons_of_mem _ (List.mem_of_getElem? hzi))
      have hy' := RowAt.ex (s1.trans sc) mz.1
      have nu : Nice z.2 (5 + 3624 * i) := mz.2.up (by omega)
      obtain ⟨t1, b1, pb, gr, gu, gr0, gu0⟩ := ng.pre nu (by omega) rfl rfl
      have eT : (zs.take (i + 1)).map (·.2) = (zs.take i).map (·.2) ++ [z.2] := by
        rw [List.take_add_one, hzi, List.map_append]
        rfl
      have ef : ∀ n, foldM minV z0.2 ((zs.take (i + 1)).map (·.2)) n = minV (g.T n) (z.2.T n) := fun n => by
        rw [eT, foldM_add, ← eg]
      refine ⟨_, rfl, _, rfl, x, z.1, g, z.2, _, _, rfl, hx, hy', ng.ok, nu.ok, rfl, rfl, t1, b1, pb, gr, gu, gr0, gu0, fun e12 x' H2 s2 hr' => ?_, fun e1 e2 x' H2 r' s2 hr' ok' em ne' => ?_⟩
      · refine ⟨x', .emp, _, rfl, sc.trans s2, hr', .inl rfl, fun h => absurd h (by omega), fun n => ?_⟩
        rw [ef]
        rcases e12 with e1 | e2
        · rw [ng.isE e1]
          rfl
        · rw [nu.isE e2]
          exact (minV_non _).symm
      · obtain ⟨tv, lv⟩ := tail_min (ng.tail e1) (nu.tail e2) ok' ne' em
        have l1 := ng.le
        have l2 := nu.le
        refine ⟨x', r', _, rfl, sc.trans s2, hr', .inr ⟨tv, by omega⟩, fun h => absurd h (by omega), fun n => ?_⟩
        rw [ef, em]
    · rintro σ Hc ⟨x, g, v, rfl, sc, hx, ng, e0, eg⟩
      rw [List.length_map] at eg e0
      rw [List.take_length] at eg
      exact ⟨_, rfl, q x Hc g (s1.trans sc) hx ng.ok (fun h => e0 (by rw [h]; rfl)) eg⟩
end
end WW

set_option Elab.async false
set_option linter.all false
set_option maxRecDepth 100000
set_option maxHeartbeats 4000000
namespace WW
open PySem PySem.Spec PyProof.Rows L2
/-- the greatest thing -/
def highV (xs : List V) : V := xs.foldl maxV .non
/-- the least thing -/
def lowV : List V → V
  | [] => .non
  | x :: r => r.foldl minV x
def IsMax (v : V) (xs : List V) : Prop := (v = .non ∧ ∀ x ∈ xs, x = .non) ∨ ∃ m, v = .int m ∧ V.int m ∈ xs ∧ ∀ i, V.int i ∈ xs → i ≤ m
def IsMin (v : V) (xs : List V) : Prop := (v = .non ∧ V.non ∈ xs) ∨ ∃ m, v = .int m ∧ V.non ∉ xs ∧ V.int m ∈ xs ∧ ∀ i, V.int i ∈ xs → m ≤ i
theorem IsMax.uniq {v u : V} {xs : List V} (h : IsMax v xs) (k : IsMax u xs) : v = u := by
  rcases h with ⟨rfl, h⟩ | ⟨m, rfl, h1, h2⟩
  · rcases k with ⟨rfl, _⟩ | ⟨n, rfl, k1, _⟩
    · rfl
    · exact nomatch h _ k1
  · rcases k with ⟨rfl, k⟩ | ⟨n, rfl, k1, k2⟩
    · exact nomatch k _ h1
    · have := h2 n k1
      have := k2 m h1
      congr 1
      omega
theorem IsMin.uniq {v u : V} {xs : List V} (h : IsMin v xs) (k : IsMin u xs) : v = u := by
  rcases h with ⟨rfl, h⟩ | ⟨m, rfl, h0, h1, h2⟩
  · rcases k with ⟨rfl, _⟩ | ⟨n, rfl, k0, _⟩
    · rfl
    · exact absurd h k0
  · rcases k with ⟨rfl, k⟩ | ⟨n, rfl, k0, k1, k2⟩
    · exact absurd k h0
    · have := h2 n k1
      have := k2 m h1
      congr 1
      omega
theorem isMax_add {v x : V} {xs : List V} (h : IsMax v xs) (hx : isThingV x = true) : IsMax (maxV v x) (x :: xs) := by
  revert hx
  cases x with
  | non =>
    intro _
    rcases h with ⟨rfl, h⟩ | ⟨m, rfl, h1, h2⟩
    · exact .inl ⟨rfl, fun y hy => (List.mem_cons.mp hy).elim id (h y)⟩
    · exact .inr ⟨m, rfl, List.mem_cons_of_mem _ h1, fun i hi => (List.mem_cons.mp hi).elim (fun z => nomatch z) (h2 i)⟩
  | int j =>
    intro _
    rcases h with ⟨rfl, h⟩ | ⟨m, rfl, h1, h2⟩
    · refine .inr ⟨j, rfl, List.mem_cons_self, fun i hi => (List.mem_cons.mp hi).elim (fun z => ?_) fun z => nomatch h _ z⟩
      have := V.int_inj z
      omega
    · refine .inr ⟨max m j, rfl, ?_, fun i hi => (List.mem_cons.mp hi).elim (fun z => ?_) fun z => ?_⟩
      · rcases Int.le_total m j with c | c
        · rw [show max m j = j by omega]
          exact List.mem_cons_self
        · rw [show max m j = m by omega]
          exact List.mem_cons_of_mem _ h1
      · have := V.int_inj z
        omega
      · have := h2 i z
        omega
  | _ => exact fun z => nomatch z
theorem isMin_add {v x : V} {xs : List V} (h : IsMin v xs) (hx : isThingV x = true) : IsMin (minV v x) (x :: xs) := by
  revert hx
  cases x with
  | non =>
    intro _
    rw [minV_non]
    exact .inl ⟨rfl, List.mem_cons_self⟩
  | int j =>
    intro _
    rcases h with ⟨rfl, h⟩ | ⟨m, rfl, h0, h1, h2⟩
    · exact .inl ⟨rfl, List.mem_cons_of_mem _ h⟩
    · refine .inr ⟨min m j, rfl, fun z => (List.mem_cons.mp z).elim (fun z => nomatch z) h0, ?_, fun i hi => (List.mem_cons.mp hi).elim (fun z => ?_) fun z => ?_⟩
      · rcases Int.le_total m j with c | c
        · rw [show min m j = m by omega]
          exact List.mem_cons_of_mem _ h1
        · rw [show min m j = j by omega]
          exact List.mem_cons_self
      · have := V.int_inj z
        omega
      · have := h2 i z
        omega
  | _ => exact fun z => nomatch z
theorem isMax_fold : ∀ (xs : List V) (v : V) (ys : List V), (∀ x ∈ xs, isThingV x = true) → IsMax v ys → IsMax (xs.foldl maxV v) (xs.reverse ++ ys)
  | [], v, ys, _, h => h
  | x :: r, v, ys, hx, h => by
    have := isMax_fold r (maxV v x) (x :: ys) (fun y hy => hx y (List.mem_cons_of_mem _ hy)) (isMax_add h (hx x List.mem_cons_self))
    rw [List.reverse_cons, List.append_assoc]
    exact this
theorem isMin_fold : ∀ (xs : List V) (v : V) (ys : List V), (∀ x ∈ xs, isThingV x = true) → IsMin v ys → IsMin (xs.foldl minV v) (xs.reverse ++ ys)
  | [], v, ys, _, h => h
  | x :: r, v, ys, hx, h => by
    have := isMin_fold r (minV v x) (x :: ys) (fun y hy => hx y (List.mem_cons_of_mem _ hy)) (isMin_add h (hx x List.mem_cons_self))
    rw [List.reverse_cons, List.append_assoc]
    exact this
theorem IsMax.perm {v : V} {xs ys : List V} (h : IsMax v xs) (e : ∀ z, z ∈ xs ↔ z ∈ ys) : IsMax v ys := by
  rcases h with ⟨rfl, h⟩ | ⟨m, rfl, h1, h2⟩
  · exact .inl ⟨rfl, fun x hx => h x ((e x).mpr hx)⟩
  · exact .inr ⟨m, rfl, (e _).mp h1, fun i hi => h2 i ((e _).mpr hi)⟩
theorem IsMin.perm {v : V} {xs ys : List V} (h : IsMin v xs) (e : ∀ z, z ∈ xs ↔ z ∈ ys) : IsMin v ys := by
  rcases h with ⟨rfl, h⟩ | ⟨m, rfl, h0, h1, h2⟩
  · exact .inl ⟨rfl, (e _).mp h⟩
  · exact .inr ⟨m, rfl, fun z => h0 ((e _).mpr z), (e _).mp h1, fun i hi => h2 i ((e _).mpr hi)⟩
theorem high_is {xs : List V} (h : ∀ x ∈ xs, isThingV x = true) : IsMax (highV xs) xs :=
  (isMax_fold xs .non [] h (.inl ⟨rfl, fun x hx => nomatch hx⟩)).perm fun z => by simp
theorem low_is {x : V} {xs : List V} (h : ∀ y ∈ x :: xs, isThingV y = true) : IsMin (lowV (x :: xs)) (x :: xs) := by
  refine (isMin_fold xs x [x] (fun y hy => h y (List.mem_cons_of_mem _ hy)) ?_).perm fun z => by simp [or_comm]
  have := h x List.mem_cons_self
  revert this
  cases x with
  | non => exact fun _ => .inl ⟨rfl, List.mem_cons_self⟩
  | int i =>
    intro _
    refine .inr ⟨i, rfl, ?_, List.mem_cons_self, fun j hj => ?_⟩
    · intro z
      have z := List.mem_singleton.mp z
      cases z
    · have := V.int_inj (List.mem_singleton.mp hj)
      omega
  | _ => exact fun z => nomatch z
section
variable {P : Program} {w : World} {K : PySem.W.Frag} {mg : Str → Option Value} {base : Heap} {f : Addr} {fd : FuncData}
/-- a told row: a tuple of two lists and a number -/
def ToldR (H : Hp) (p : Addr) (r : RV) : Prop := ∃ p1 p2, H p = some (.tup [.ref p1, .ref p2, .int r.m]) ∧ H p1 = some (.lst r.fs) ∧ H p2 = some (.lst r.ys)
theorem ToldR.ex {H H' : Hp} {p : Addr} {r : RV} (e : Same H H') (h : ToldR H p r) : ToldR H' p r := by
  obtain ⟨p1, p2, h0, h1, h2⟩ := h
  exact ⟨p1, p2, e _ _ h0, e _ _ h1, e _ _ h2⟩
/-- what may be told -/
structure Pre (r : RV) : Prop where
  n0 : 0 < r.n
  n1 : r.n ≤ 12
  f1 : r.fs.length ≤ 20
  m0 : 0 ≤ r.m
  m1 : r.m < 1000
  th : ∀ y ∈ r.fs, isThingV y = true
  ris : Ris r.T
def spTimeR : Sp := fun vs H Q _ => ∃ (p : Addr) (r : RV) (n : Nat), vs = [.ref p, .int (n : Int)] ∧ ToldR H p r ∧ Pre r ∧ Q (r.T n) H
theorem ok_timeR (F : FnP K "_law_time" s_l_time f fd) (m_len : mg "len" = none) : FnOk P w K mg base CX0 1 f fd ["_law_told", "_law_n"] spTimeR := by
  refine F.ok sc_l_time (fun vs H Q E h => ?_) (fun cdv A outer s H vs Q E hr h => ?_)
  · obtain ⟨p, r, n, rfl, _⟩ := h
    rfl
  · obtain ⟨p, r, n, rfl, ⟨p1, p2, hp, h1, h2⟩, pre, q⟩ := h
    refine ⟨_, PSs.nox (pss_cons (ps_asg (pv 0) (pg_tupK K rfl (pgs_cons (pg_name (i := 2) sc_l_time.nd rfl (.inl rfl)) (pgs_cons (pg_name (i := 3) sc_l_time.nd rfl (.inl rfl)) (pgs_cons (pg_name (i := 4) sc_l_time.nd rfl (.inl rfl)) (pgs_nil))))))
 (pss_cons (ps_if (pt_cmpR op_lt (pv 1) (pe_callB (call_lenK K) rfl m_len (by decide +kernel) (pa_cons (pv 2) (pa_nil))) (nomark _)) (pss_one (ps_ret (pe_ix (ix_sqK K) (pv 2) (pv 1) (fun _ _ => rfl)))) (pss_nil))
 (pss_cons (ps_set (i := 5) sc_l_time.nd rfl (.inl rfl) (pe_ix (ix_sqK K) (pv 3) (pe_op op_mod (pe_op op_sub (pv 1) (pe_callB (call_lenK K) rfl m_len (by decide +kernel) (pa_cons (pv 2) (pa_nil)))) (pe_callB (call_lenK K) rfl m_len (by decide +kernel) (pa_cons (pv 3) (pa_nil)))) (fun _ _ => rfl)))
 (pss_one (ps_ret (pe_ifExp (pt_cmpR op_isN (pv 5) (pe_non) (nomark _)) (pe_non) (pe_op op_add (pv 5) (pe_op op_mul (pe_op op_fdiv (pe_op op_sub (pv 1) (pe_callB (call_lenK K) rfl m_len (by decide +kernel) (pa_cons (pv 2) (pa_nil)))) (pe_callB (call_lenK K) rfl m_len (by decide +kernel) (pa_cons (pv 3) (pa_nil)))) (pv 4))))))))), ?_⟩
    refine ⟨_, rfl, p, _, rfl, .inl (.inl hp), rfl, _, _, rfl, _, _, rfl, _, _, rfl, rfl, ?_⟩
    refine ⟨_, rfl, _, rfl, p1, _, rfl, .l h1, _, _, rfl, rfl, _, rfl, ?_⟩
    obtain ⟨n0, n1, f1, m0, m1, th, ris⟩ := pre
    have hlen : (r.ys.length : Int) = (r.n : Int) := by rw [r.ys_len]
    by_cases hn : n < r.fs.length
    · rw [decide_eq_true (by omega)]
      refine ⟨_, rfl, _, rfl, p1, _, _, _, rfl, rfl, .l h1, getD_at hn, ?_⟩
      revert hn q
      cases r with
      | emp => exact fun _ hn => absurd hn (Nat.not_lt_zero _)
      | of fs ag m =>
        intro q hn
        have e : seqT fs ag m n = fs.getD n .non := by
          unfold seqT
          exact if_pos hn
        have q : Q (seqT fs ag m n) H := q
        rw [e] at q
        exact q
    · rw [decide_eq_false (by omega)]
      have e0 : ((n : Int) - (r.fs.length : Int)) % (r.ys.length : Int) = (((n - r.fs.length) % r.n : Nat) : Int) := by
        rw [hlen, show (n : Int) - (r.fs.length : Int) = ((n - r.fs.length : Nat) : Int) by omega]
        rfl
      have e1 : ((n : Int) - (r.fs.length : Int)) / (r.ys.length : Int) = (((n - r.fs.length) / r.n : Nat) : Int) := by
        rw [hlen, show (n : Int) - (r.fs.length : Int) = ((n - r.fs.length : Nat) : Int) by omega]
        rfl
      have hat : atI r.ys (((n : Int) - (r.fs.length : Int)) % (r.ys.length : Int)) = some (r.ys.getD ((n - r.fs.length) % r.n) .non) := by
        rw [e0]
        exact getD_at (by rw [r.ys_len]; exact Nat.mod_lt _ n0)
      refine ⟨_, rfl, _, rfl, _, rfl, p1, _, rfl, .l h1, _, _, rfl, rfl, _, rfl, p2, _, rfl, .l h2, _, _, rfl, rfl, by rw [hlen]; omega, p2, _, _, _, rfl, rfl, .l h2, hat, ?_⟩
      refine ⟨_, rfl, rfl, _, rfl, ?_⟩
      have q : Q (r.T n) H := q
      cases r with
      | emp =>
        have z : (RV.ys .emp).getD ((n - (RV.fs .emp).length) % (RV.n .emp)) .non = V.non := by
          show [V.non].getD (n % 1) .non = V.non
          rw [Nat.mod_one]
          rfl
        rw [z]
        exact q
      | of fs ag m =>
        have z : (RV.ys (.of fs ag m)).getD ((n - (RV.fs (.of fs ag m)).length) % (RV.n (.of fs ag m))) .non = V.int (ag.getD ((n - fs.length) % ag.length) 0) := by
          show (ag.map V.int).getD ((n - fs.length) % ag.length) .non = _
          have hl : (n - fs.length) % ag.length < ag.length := Nat.mod_lt _ n0
          rw [List.getD_eq_getElem?_getD, List.getElem?_map, List.getElem?_eq_getElem hl, List.getD_eq_getElem?_getD, List.getElem?_eq_getElem hl]
          rfl
        rw [z]
        refine ⟨_, rfl, _, rfl, _, rfl, p1, _, rfl, .l h1, _, _, rfl, rfl, _, rfl, p2, _, rfl, .l h2, _, _, rfl, rfl, ⟨by rw [hlen]; omega, by rw [hlen]; omega⟩, _, rfl, _, _, rfl, rfl, .inr ⟨by omega, by omega⟩, _, _, rfl, rfl, ?_⟩
        rw [e1]
        have e : seqT fs ag m n = .int (ag.getD ((n - fs.length) % ag.length) 0 + ((n - fs.length) / ag.length : Nat) * m) := by
          unfold seqT
          exact if_neg hn
        have q : Q (seqT fs ag m n) H := q
        rw [e] at q
        exact q
/-- the row made of what is told -/
def RV.made : RV → RV
  | .emp => .emp
  | .of fs ag m => RV.mk fs ag m
theorem Pre.T {r : RV} (h : Pre r) : r.made.T = r.T := by
  cases r with
  | emp => rfl
  | of fs ag m => exact RV.mk_T h.n0
theorem Pre.ok {r : RV} (h : Pre r) : r.made.Ok := by
  cases r with
  | emp => exact emp_ok
  | of fs ag m =>
    obtain ⟨n0, n1, f1, m0, m1, th, ris⟩ := h
    have n1 : ag.length ≤ 12 := n1
    have f1 : fs.length ≤ 20 := f1
    have m1 : m < 1000 := m1
    exact RV.mk_ok n0 (by omega) (by omega) m0 (by omega) th ris
def spMadeR (C : Addr) : Sp := fun vs H Q _ => ∃ (p : Addr) (r : RV), vs = [.ref p] ∧ ToldR H p r ∧ Pre r ∧ ∀ x H', Same H H' → RowR C H' x r.made → Q (.ref x) H'
theorem ok_madeR (F : FnP K "_law_made" s_l_made f fd) (g_Row : MkAt P w K mg base CX0 4 "Row" ["self", "first", "again", "more"] (spInit K (He.ga K "Row")) []) : FnOk P w K mg base CX0 6 f fd ["_law_told"] (spMadeR (He.ga K "Row")) := by
  refine F.ok sc_l_made (fun vs H Q E h => ?_) (fun cdv A outer s H vs Q E hr h => ?_)
  · obtain ⟨p, r, rfl, _⟩ := h
    rfl
  · obtain ⟨p, r, rfl, ⟨p1, p2, hp, h1, h2⟩, pre, q⟩ := h
    refine ⟨_, PSs.nox (pss_one (ps_ret (pe_mkr g_Row hr rfl (pa_cons (pe_ix (ix_sqK K) (pv 0) (pe_int) (fun _ _ => rfl)) (pa_cons (pe_ix (ix_sqK K) (pv 0) (pe_int) (fun _ _ => rfl)) (pa_cons (pe_ix (ix_sqK K) (pv 0) (pe_int) (fun _ _ => rfl)) (pa_nil))))))), ?_⟩
    refine ⟨_, rfl, p, _, _, _, rfl, rfl, .t hp, rfl, _, rfl, p, _, _, _, rfl, rfl, .t hp, rfl, _, rfl, p, _, _, _, rfl, rfl, .t hp, rfl, fun x dx nx ndx hn => ?_⟩
    obtain ⟨n0, n1, f1, m0, m1, th, ris⟩ := pre
    cases r with
    | of fs ag m =>
      have n1 : ag.length ≤ 12 := n1
      have f1 : fs.length ≤ 20 := f1
      exact init_mk (.l h1) (.l h2) n0 (by omega) (by omega) m0 th ris nx ndx hn fun H' s' hr' => ⟨rfl, q x H' s' hr'⟩
    | emp =>
      have s1 : Same H (upd (upd H dx (.own x)) x (.ins (He.ga K "Row") dx [])) := (same_new ndx).trans (same_new ((upd_ne (Ne.symm hn)).trans nx))
      refine ⟨x, dx, .ref p1, .ref p2, [], [.non], 0, rfl, upd_same, ⟨p1, rfl, .l (s1 _ _ h1), by decide, fun y hy => nomatch hy⟩, ⟨p2, rfl, .l (s1 _ _ h2), by decide, fun y hy => ?_⟩, by decide +kernel, fun H' sb hr => ⟨rfl, q x H' (made_row (fs := []) (ys := []) (m := 0) nx ndx hn sb) ?_⟩⟩
      · rw [List.mem_singleton.mp hy]
        exact ⟨false, hasT_non⟩
      · have e : leastV [] [.non] 0 = ([], [.non], 0) := by decide +kernel
        rw [e] at hr
        exact hr
def notNon : V → Bool
  | .non => false
  | _ => true
def spHigh (K : PySem.W.Frag) : Sp := fun vs H Q _ => ∃ (a : Addr) (xs : List V), vs = [.ref a] ∧ Sq K H a xs ∧ xs.length ≤ 1000 ∧ (∀ x ∈ xs, isThingV x = true) ∧ ∀ H', Same H H' → Q (highV xs) H'
abbrev s_l_high : Stmt := top 51
abbrev N_l_high : List Str := ["_law_things", "_law_some", "_law_thing"]
theorem sc_l_high : FnScope N_l_high ["_law_things"] (defScope s_l_high) := ⟨rfl, rfl, rfl, by decide +kernel, rfl, by decide +kernel, by decide +kernel⟩

theorem ok_high (F : FnP K "_law_high" s_l_high f fd) (m_max : mg "max" = none) (m_int : mg "int" = none) : FnOk P w K mg base CX0 1 f fd ["_law_things"] (spHigh K) := by
  refine F.ok sc_l_high (fun vs H Q E h => ?_) (fun cdv A outer s H vs Q E hr h => ?_)
  · obtain ⟨a, xs, rfl, _⟩ := h
    rfl
  · obtain ⟨a, xs, rfl, ha, hl, th, q⟩ := h
    refine ⟨_, PSs.nox (pss_cons (ps_setLc (i := 1) (own := [("_law_thing", 2)]) rfl sc_l_high.nd rfl rfl (sw_true rfl rfl rfl (by decide +kernel)) (pi_seqK K (pv 0)) (blkOk_by (N := N_l_high) (sc := defScope s_l_high) (by decide +kernel)) (fun _ _ _ _ _ => pg_name (i := 2) sc_l_high.nd rfl (.inl rfl)) (fun _ _ _ _ _ => pts_one (pt_cmpR op_notN (pv 2) (pe_non) (nomark _))) (fun _ _ _ _ _ => pe_callTy call_int1 rfl m_int (by decide +kernel) (pa_cons (pv 2) (pa_nil))))
 (pss_one (ps_ret (pe_ifExp (pt_cmpR (op_neDK K hr) (pv 1) (pe_lst (pa_nil)) (nomark _)) (pe_callB (cr_maxK K) rfl m_max (by decide +kernel) (pa_cons (pv 1) (pa_nil))) (pe_non))))), ?_⟩
    refine q_seq (q_asg ?_)
    dsimp only [List.map_cons, List.map_nil]
    refine lc_sqFM (K := K) (xs := xs) notNon id (fun R r => ⟨_, rfl, r a H (Same.refl H) ha⟩) (by omega) (fun x hx H1 s1 R r => ?_) (fun x hx px H1 s1 R r => ?_) fun D H1 s1 nD hD => ?_
    · refine ⟨_, rfl, rfl, _, rfl, ?_⟩
      have := th x hx
      cases x with
      | non => exact r H1 (Same.refl H1)
      | int i => exact r H1 (Same.refl H1)
      | _ => cases this
    · have := th x hx
      cases x with
      | non => cases px
      | int i => exact ⟨_, rfl, .inl ⟨i, rfl, r H1 (Same.refl H1)⟩⟩
      | _ => cases this
    rw [List.map_id] at hD
    have thF : ∀ x ∈ xs.filter notNon, ∃ i, x = V.int i := fun x hx => by
      obtain ⟨h1, h2⟩ := List.mem_filter.mp hx
      have := th x h1
      cases x with
      | non => cases h2
      | int i => exact ⟨i, rfl⟩
      | _ => cases this
    have eN : xs.filter notNon = ((xs.filter notNon).map intOf).map V.int := by
      rw [List.map_map]
      conv => lhs; rw [← List.map_id (xs.filter notNon)]
      refine List.map_congr_left fun x hx => ?_
      obtain ⟨i, rfl⟩ := thF x hx
      rfl
    have thT : ∀ y ∈ xs.filter notNon, isTh y = true := fun y hy => by
      obtain ⟨i, rfl⟩ := thF y hy
      rfl
    refine q_ret (q_ifE (q_tst ?_))
    have th0 : ∀ y ∈ ([] : List V), isTh y = true := fun y hy => nomatch hy
    refine ⟨_, rfl, by show 0 ≤ sizeLine; decide, fun p np => ?_⟩
    have s2 := same_new (o := .lst []) np
    have e2 : (upd H1 p (.lst [])) p = some (.lst []) := upd_same
    generalize upd H1 p (.lst []) = H2 at s2 e2
    refine ⟨_, _, dp_list (s2 _ _ hD) thT, dp_list e2 th0, shaped_list _, shaped_list _, _, rfl, ?_⟩
    rw [eqv_list thT th0]
    have hm := high_is th
    by_cases c : xs.filter notNon = []
    · rw [decide_eq_true c]
      have e : highV xs = .non := IsMax.uniq hm (.inl ⟨rfl, fun x hx => by
        have z : x ∉ xs.filter notNon := by
          rw [c]
          exact List.not_mem_nil
        rw [List.mem_filter] at z
        have t := th x hx
        cases x with
        | non => rfl
        | int i => exact absurd ⟨hx, rfl⟩ z
        | _ => cases t⟩)
      have := q H2 (s1.trans s2)
      rw [e] at this
      exact this
    · rw [decide_eq_false c]
      have mF : ∀ i : Int, i ∈ (xs.filter notNon).map intOf ↔ V.int i ∈ xs := fun i => by
        rw [List.mem_map]
        constructor
        · rintro ⟨x, hx, rfl⟩
          obtain ⟨i, rfl⟩ := thF x hx
          exact (List.mem_filter.mp hx).1
        · exact fun h => ⟨V.int i, List.mem_filter.mpr ⟨h, rfl⟩, rfl⟩
      refine ⟨_, rfl, D, (xs.filter notNon).map intOf, rfl, .inl (.inl (by rw [← eN]; exact s2 _ _ hD)), ?_, fun m m1 m2 => ?_⟩
      · rw [List.length_map]
        exact List.length_pos_iff.mpr c
      · have e : highV xs = .int m := IsMax.uniq hm (.inr ⟨m, rfl, (mF m).mp m1, fun i hi => m2 i ((mF i).mpr hi)⟩)
        have := q H2 (s1.trans s2)
        rw [e] at this
        exact this
def spLow (K : PySem.W.Frag) : Sp := fun vs H Q _ => ∃ (a : Addr) (x0 : V) (xs : List V), vs = [.ref a] ∧ Sq K H a (x0 :: xs) ∧ xs.length ≤ 1000 ∧ (∀ x ∈ x0 :: xs, isThingV x = true) ∧ ∀ H', Same H H' → Q (lowV (x0 :: xs)) H'
theorem in_non {xs : List V} (th : ∀ x ∈ xs, isThingV x = true) : inV .non xs = decide (V.non ∈ xs) := by
  unfold inV
  rw [Bool.eq_iff_iff, List.any_eq_true, decide_eq_true_iff]
  constructor
  · rintro ⟨x, hx, e⟩
    have t := th x hx
    cases x with
    | non => exact hx
    | int i => cases e
    | _ => cases t
  · exact fun h => ⟨_, h, rfl⟩
theorem op_inK {X : Cx} (K : PySem.W.Frag) (h : X.K = K := by rfl) : OpR X (compareOp .In) (rIn K false) := by
  subst h
  exact op_in_seq
theorem cr_minQ {X : Cx} (K : PySem.W.Frag) (hc : X.calm = true := by rfl) (h : X.K = K := by rfl) : CallR X (.builtin "min") (rMin K) := by
  subst h
  exact cr_min hc
abbrev s_l_low : Stmt := top 52
abbrev N_l_low : List Str := ["_law_things", "_law_thing"]
theorem sc_l_low : FnScope N_l_low ["_law_things"] (defScope s_l_low) := ⟨rfl, rfl, rfl, by decide +kernel, rfl, by decide +kernel, by decide +kernel⟩

theorem ok_low (F : FnP K "_law_low" s_l_low f fd) (m_min : mg "min" = none) (m_int : mg "int" = none) : FnOk P w K mg base CX0 1 f fd ["_law_things"] (spLow K) := by
  refine F.ok sc_l_low (fun vs H Q E h => ?_) (fun cdv A outer s H vs Q E hr h => ?_)
  · obtain ⟨a, x0, xs, rfl, _⟩ := h
    rfl
  · obtain ⟨a, x0, xs, rfl, ha, hl, th, q⟩ := h
    refine ⟨_, PSs.nox (pss_one (ps_ret (pe_ifExp (pt_cmpR (op_inK K) (pe_non) (pv 0) rfl) (pe_non) (pe_callB (cr_minQ K) rfl m_min (by decide +kernel) (pa_cons (pe_lc (own := [("_law_thing", 1)]) rfl sc_l_low.nd (pi_seqK K (pv 0)) (blkOk_by (N := N_l_low) (sc := defScope s_l_low) (by decide +kernel)) (fun _ _ _ _ _ => pg_name (i := 1) sc_l_low.nd rfl (.inl rfl)) (fun _ _ _ _ _ => pts_nil) (fun _ _ _ _ _ => pe_callTy call_int1 rfl m_int (by decide +kernel) (pa_cons (pv 1) (pa_nil)))) (pa_nil)))))), ?_⟩
    refine q_ret (q_ifE (q_tst ?_))
    refine ⟨_, rfl, a, _, rfl, ha, rfl, ?_, _, rfl, ?_⟩
    · rw [List.all_eq_true]
      intro x hx
      have := th x hx
      cases x <;> first | rfl | cases this
    rw [show (if false = true then !inV V.non (x0 :: xs) else inV V.non (x0 :: xs)) = inV V.non (x0 :: xs) from rfl, in_non th]
    have hm := low_is th
    by_cases c : V.non ∈ x0 :: xs
    · rw [decide_eq_true c]
      have := q H (Same.refl H)
      rw [IsMin.uniq hm (.inl ⟨rfl, c⟩)] at this
      exact this
    · rw [decide_eq_false c]
      have ti : ∀ x ∈ x0 :: xs, ∃ i, x = V.int i := fun x hx => by
        have := th x hx
        cases x with
        | non => exact absurd hx c
        | int i => exact ⟨i, rfl⟩
        | _ => cases this
      refine q_cb (q_one ?_)
      dsimp only [List.map_cons, List.map_nil]
      refine lc_sq (K := K) (a := a) (xs := x0 :: xs) id (fun R r => ⟨_, rfl, r⟩) ha (by rw [List.length_cons]; omega) (fun x hx H1 s1 R r => ?_) fun D H1 s1 nD hD => ?_
      · obtain ⟨i, rfl⟩ := ti x hx
        exact ⟨_, rfl, .inl ⟨i, rfl, r H1 (Same.refl H1)⟩⟩
      rw [List.map_id] at hD
      have eN : x0 :: xs = ((x0 :: xs).map intOf).map V.int := by
        rw [List.map_map]
        conv => lhs; rw [← List.map_id (x0 :: xs)]
        refine List.map_congr_left fun x hx => ?_
        obtain ⟨i, rfl⟩ := ti x hx
        rfl
      have mF : ∀ i : Int, i ∈ (x0 :: xs).map intOf ↔ V.int i ∈ x0 :: xs := fun i => by
        rw [List.mem_map]
        constructor
        · rintro ⟨x, hx, rfl⟩
          obtain ⟨i, rfl⟩ := ti x hx
          exact hx
        · exact fun h => ⟨V.int i, h, rfl⟩
      refine ⟨D, (x0 :: xs).map intOf, rfl, .inl (.inl (by rw [← eN]; exact hD)), by rw [List.length_map]; exact Nat.succ_pos _, fun m m1 m2 => ?_⟩
      have := q H1 s1
      rw [IsMin.uniq hm (.inr ⟨m, rfl, c, (mF m).mp m1, fun i hi => m2 i ((mF i).mpr hi)⟩)] at this
      exact this
def spIsAbove : Sp := fun vs H Q _ => ∃ (x y : V), vs = [x, y] ∧ isThingV x = true ∧ isThingV y = true ∧ Q (.bl (belowV y x)) H
abbrev s_l_is_above : Stmt := top 53
abbrev N_l_is_above : List Str := ["_law_one", "_law_other"]
theorem sc_l_is_above : FnScope N_l_is_above ["_law_one", "_law_other"] (defScope s_l_is_above) := ⟨rfl, rfl, rfl, by decide +kernel, rfl, by decide +kernel, by decide +kernel⟩

theorem ok_isabove (F : FnP K "_law_is_above" s_l_is_above f fd) : FnOk P w K mg base CX0 1 f fd ["_law_one", "_law_other"] spIsAbove := by
  refine F.ok sc_l_is_above (fun vs H Q E h => ?_) (fun cdv A outer s H vs Q E hr h => ?_)
  · obtain ⟨x, y, rfl, _⟩ := h
    rfl
  · obtain ⟨x, y, rfl, hx, hy, q⟩ := h
    refine ⟨_, PSs.nox (pss_one (ps_ret (pe_and (pe_cmpR op_notN (pv 0) (pe_non) (nomark _)) (pe_one (pe_or (pe_cmpR op_isN (pv 1) (pe_non) (nomark _)) (pe_one (pe_cmpR op_gt (pv 0) (pv 1) (nomark _)))))))), ?_⟩
    revert hx hy q
    cases x with
    | non =>
      intro _ hy q
      refine ⟨_, rfl, rfl, _, rfl, ?_⟩
      revert q hy
      cases y <;> exact fun hy q => by first | exact q | cases hy
    | int i =>
      cases y with
      | non => exact fun _ _ q => ⟨_, rfl, rfl, _, rfl, _, rfl, rfl, _, rfl, q⟩
      | int j => exact fun _ _ q => ⟨_, rfl, rfl, _, rfl, _, rfl, rfl, _, rfl, _, rfl, _, rfl, _, _, rfl, rfl, q⟩
      | _ => exact fun _ z => nomatch z
    | _ => exact fun z => nomatch z
end
end WW

set_option Elab.async false
set_option linter.all false
set_option maxRecDepth 100000
set_option maxHeartbeats 4000000
namespace WW
open PySem PySem.Spec PyProof.Rows L2
theorem abv_int {r u : RV} {n : Nat} {x y : Int} (e1 : r.T n = .int x) (e2 : u.T n = .int y) : abv r u n = decide (y < x) := by
  unfold abv
  rw [e1, e2]
  rfl
theorem abv_wit {r u : RV} (ok : r.Ok) (ok2 : u.Ok) {t : Nat} (t0 : 0 < t) (d1 : r.n ∣ t) (d2 : u.n ∣ t) (h : fastB r u t = true) : ∃ N, abv r u N = true := by
  unfold fastB at h
  obtain ⟨h1, h2⟩ := Bool.and_eq_true_iff.mp h
  have e1 : r.isE = false := by
    revert h1
    cases r.isE <;> simp
  cases e2 : u.isE with
  | true =>
    refine ⟨r.fs.length, ?_⟩
    cases u with
    | of fs ag m => cases e2
    | emp =>
      unfold abv
      rw [RV.int_at e1 (Nat.le_refl _)]
      rfl
  | false =>
    rw [e2] at h2
    have g : growI u t < growI r t := by
      have := of_decide_eq_true (Bool.or_eq_true_iff.mp h2 |>.resolve_left (fun z => nomatch z))
      exact this
    have l1 := (RV.lin_lcm ok e1 d1).from_ (show r.fs.length ≤ max r.fs.length u.fs.length by omega)
    have l2 := (RV.lin_lcm ok2 e2 d2).from_ (show u.fs.length ≤ max r.fs.length u.fs.length by omega)
    generalize max r.fs.length u.fs.length = s at l1 l2
    generalize hq : (gapI r.T u.T s).toNat + 1 = q
    obtain ⟨x, a1, a2⟩ := l1.times s (Nat.le_refl _) q
    obtain ⟨y, b1, b2⟩ := l2.times s (Nat.le_refl _) q
    refine ⟨s + t * q, ?_⟩
    rw [abv_int a2 b2]
    refine decide_eq_true ?_
    have eg : gapI r.T u.T s = y - x := by
      unfold gapI
      rw [a1, b1]
      rfl
    have : (q : Int) * 1 ≤ (q : Int) * (growI r t - growI u t) := Int.mul_le_mul_of_nonneg_left (by omega) (by omega)
    rw [Int.mul_sub] at this
    omega
theorem abv_none {r u : RV} (ok : r.Ok) (ok2 : u.Ok) {s t : Nat} (t0 : 0 < t) (d1 : r.n ∣ t) (d2 : u.n ∣ t) (es : s = max r.fs.length u.fs.length) (h : fastB r u t = false) (hk : ∀ k, k < s + t → abv r u k = false) : ∀ k, abv r u k = false := by
  intro k
  cases e1 : r.isE with
  | true =>
    cases r with
    | of fs ag m => cases e1
    | emp =>
      show belowV (u.T k) .non = false
      cases u.T k <;> rfl
  | false =>
    unfold fastB at h
    rw [e1] at h
    cases e2 : u.isE with
    | true =>
      rw [e2] at h
      cases h
    | false =>
      rw [e2] at h
      have g : growI r t ≤ growI u t := by
        have h : decide (growI r t > growI u t) = false := h
        have := of_decide_eq_false h
        omega
      by_cases c : k < s + t
      · exact hk k c
      · have l1 := (RV.lin_lcm ok e1 d1).from_ (show r.fs.length ≤ s by omega)
        have l2 := (RV.lin_lcm ok2 e2 d2).from_ (show u.fs.length ≤ s by omega)
        have hlt := Nat.mod_lt (k - s) t0
        have ek : k = (s + (k - s) % t) + t * ((k - s) / t) := by
          have := Nat.mod_add_div (k - s) t
          omega
        obtain ⟨x, a1, a2⟩ := l1.times (s + (k - s) % t) (by omega) ((k - s) / t)
        obtain ⟨y, b1, b2⟩ := l2.times (s + (k - s) % t) (by omega) ((k - s) / t)
        have h0 := hk (s + (k - s) % t) (by omega)
        rw [abv_int a1 b1] at h0
        have h0 := of_decide_eq_false h0
        rw [ek, abv_int a2 b2]
        refine decide_eq_false ?_
        have : (((k - s) / t : Nat) : Int) * growI r t ≤ (((k - s) / t : Nat) : Int) * growI u t := Int.mul_le_mul_of_nonneg_left g (Int.natCast_nonneg _)
        omega
section
variable {P : Program} {w : World} {K : PySem.W.Frag} {mg : Str → Option Value} {base : Heap} {f : Addr} {fd : FuncData}
def spPair : Sp := fun vs H Q _ => ∃ (p p' : Addr) (r u : RV), vs = [.ref p, .ref p'] ∧ ToldR H p r ∧ ToldR H p' u ∧ Pre r ∧ Pre u ∧ ∀ H', Same H H' → Q (.bl true) H'
abbrev s_l_pair_right : Stmt := top 54
abbrev N_l_pair_right : List Str := ["_law_one", "_law_other", "_law_here", "_law_there", "_law_above", "_law_told", "_law_n"]
theorem sc_l_pair_right : FnScope N_l_pair_right ["_law_one", "_law_other"] (defScope s_l_pair_right) := ⟨rfl, rfl, rfl, by decide +kernel, rfl, by decide +kernel, by decide +kernel⟩

theorem ok_pair (F : FnP K "_law_pair_right" s_l_pair_right f fd) (m_range : mg "range" = none) (g_l_made : FnAt P w K mg base CX0 6 "_law_made" ["_law_told"] (spMadeR (He.ga K "Row"))) (g_l_is_above : FnAt P w K mg base CX0 1 "_law_is_above" ["_law_one", "_law_other"] spIsAbove) (g_l_time : FnAt P w K mg base CX0 1 "_law_time" ["_law_told", "_law_n"] spTimeR)
    (g_first_above : FnAt P w K mg base CX0 4 "first_above" ["one", "other"] (spAbove (He.ga K "Row"))) (g_is_at_most : FnAt P w K mg base CX0 5 "is_at_most" ["one", "other"] (spAtMost (He.ga K "Row"))) : FnOk P w K mg base CX0 7 f fd ["_law_one", "_law_other"] spPair := by
  refine F.ok sc_l_pair_right (fun vs H Q E h => ?_) (fun cdv A outer s H vs Q E hr h => ?_)
  · obtain ⟨p, p', r, u, rfl, _⟩ := h
    rfl
  · obtain ⟨p, p', r, u, rfl, hp, hp', pr, pu, q⟩ := h
    refine ⟨_, PSs.nox (pss_cons (ps_par (i := 2) (j := 3) rfl sc_l_pair_right.nd rfl rfl (by decide) rfl rfl (pa_cons (pe_fn g_l_made hr rfl (pa_cons (pv 0) (pa_nil))) (pa_cons (pe_fn g_l_made hr rfl (pa_cons (pv 1) (pa_nil))) (pa_nil))) rfl)
 (pss_cons (ps_setLc (i := 4) (own := [("_law_n", 6)]) rfl sc_l_pair_right.nd rfl rfl (sw_true rfl rfl rfl (by decide +kernel)) (pi_range1 rfl m_range (pa_cons (pe_int) (pa_nil))) (blkOk_by (N := N_l_pair_right) (sc := defScope s_l_pair_right) (by decide +kernel)) (fun _ _ _ _ _ => pg_name (i := 6) sc_l_pair_right.nd rfl (.inl rfl)) (fun _ _ _ _ _ => pts_one (pt_val (pe_fn g_l_is_above hr rfl (pa_cons (pe_fn g_l_time hr rfl (pa_cons (pv 0) (pa_cons (pv 6) (pa_nil)))) (pa_cons (pe_fn g_l_time hr rfl (pa_cons (pv 1) (pa_cons (pv 6) (pa_nil)))) (pa_nil)))))) (fun _ _ _ _ _ => pv 6))
 (pss_cons (ps_set (i := 5) sc_l_pair_right.nd rfl (.inl rfl) (pe_fn g_first_above hr rfl (pa_cons (pv 2) (pa_cons (pv 3) (pa_nil)))))
 (pss_cons (ps_if (PW.pt (pw_or (PW.pt (pw_and (pt_cmpR (op_neDK K hr) (pv 4) (pe_lst (pa_nil)) (nomark _)) (pw_and1 (pt_cmpR op_ne (pv 5) (pe_ix (ix_sqK K) (pv 4) (pe_int) (fun _ _ => rfl)) (nomark _))))) (pw_or1 (pt_cmpR op_ne (pe_fn g_is_at_most hr rfl (pa_cons (pv 2) (pa_cons (pv 3) (pa_nil)))) (pe_cmpR op_isN (pv 5) (pe_non) (nomark _)) (nomark _))))) (pss_one (ps_ret (pe_bl))) (pss_nil))
 (pss_one (ps_ret (pe_or (pe_cmpR op_isN (pv 5) (pe_non) (nomark _)) (pe_one (pe_fn g_l_is_above hr rfl (pa_cons (pe_fn g_l_time hr rfl (pa_cons (pv 0) (pa_cons (pv 5) (pa_nil)))) (pa_cons (pe_fn g_l_time hr rfl (pa_cons (pv 1) (pa_cons (pv 5) (pa_nil)))) (pa_nil)))))))))))), ?_⟩
    have ok := pr.ok
    have ok2 := pu.ok
    have d1 : r.made.n ∣ Nat.lcm r.made.n u.made.n := Nat.dvd_lcm_left _ _
    have d2 : u.made.n ∣ Nat.lcm r.made.n u.made.n := Nat.dvd_lcm_right _ _
    have t0 : 0 < Nat.lcm r.made.n u.made.n := Nat.lcm_pos ok.n0 ok2.n0
    have thr : ∀ n, isThingV (r.T n) = true := fun n => by
      rw [← pr.T]
      exact RV.thing ok n
    have thu : ∀ n, isThingV (u.T n) = true := fun n => by
      rw [← pu.T]
      exact RV.thing ok2 n
    have eab : ∀ n, belowV (u.T n) (r.T n) = abv r.made u.made n := fun n => by
      unfold abv
      rw [pr.T, pu.T]
    refine ⟨_, rfl, p, r, rfl, hp, pr, fun x H1 s1 hx => ⟨_, rfl, p', u, rfl, hp'.ex s1, pu, fun y H2 s2 hy => ⟨_, _, rfl, ?_⟩⟩⟩
    have s02 := s1.trans s2
    have hx2 := RowAt.ex s2 hx
    -- above
    dsimp only
    refine q_seq (q_asg ?_)
    refine ⟨400, rfl, by decide, by decide, fun D nD => ?_⟩
    rw [show Int.toNat 400 = 400 from rfl]
    dsimp only [List.map_cons, List.map_nil]
    refine lc_rgF (fun n => abv r.made u.made n) (fun n => .int (n : Int)) (by decide) nD (fun n hn H3 s3 R k => ?_) (fun n hn H3 s3 R k => ?_) fun H3 s3 hD => ?_
    · have s03 := s02.trans s3
      rw [show (0 : Int) + (n : Int) = (n : Int) by omega]
      refine ⟨_, rfl, _, rfl, p, r, n, rfl, hp.ex s03, pr, _, rfl, _, rfl, p', u, n, rfl, hp'.ex s03, pu, _, _, rfl, thr n, thu n, _, rfl, ?_⟩
      rw [eab]
      exact k H3 (Same.refl H3)
    · rw [show (0 : Int) + (n : Int) = (n : Int) by omega]
      exact ⟨_, rfl, k H3 (Same.refl H3)⟩
    have s03 := s02.trans s3
    refine ⟨_, rfl, _, rfl, x, y, r.made, u.made, _, _, rfl, RowAt.ex s3 hx2, RowAt.ex s3 hy, ok, ok2, rfl, rfl, abv_wit ok ok2 t0 d1 d2, fun v H4 s4 hv => ?_⟩
    have s04 := s03.trans s4
    have th0 : ∀ y ∈ ([] : List V), isTh y = true := fun y hy => nomatch hy
    have thL : ∀ y ∈ (((List.range 400).filter (fun n => abv r.made u.made n)).map fun (n : Nat) => V.int (n : Int)), isTh y = true := fun y hy => by
      obtain ⟨n, _, rfl⟩ := List.mem_map.mp hy
      rfl
    have hv : (∃ n : Nat, v = .int (n : Int) ∧ abv r.made u.made n = true ∧ ∀ k, k < n → abv r.made u.made k = false) ∨ (v = .non ∧ ∀ k, abv r.made u.made k = false) := by
      rcases hv with h | ⟨h1, h2, h3⟩
      · exact .inl h
      · exact .inr ⟨h1, abv_none ok ok2 t0 d1 d2 rfl h2 h3⟩
    have key : ∀ {t : TT} {R : Bool → Hp → Prop}, (∀ H5, Same H4 H5 → t [some (.ref p), some (.ref p'), some (.ref x), some (.ref y), some (.ref D), some v, none] H5 R) → tOr (tAnd (tTest (tOp (rNeD K) (tVar 4) (tLst tNil))) (tTest (tOp rNe (tVar 5) (tOp (rIxQ K) (tVar 4) (tC (V.int 0)))))) t [some (.ref p), some (.ref p'), some (.ref x), some (.ref y), some (.ref D), some v, none] H4 R := by
      intro t R k
      refine ⟨_, rfl, by show 0 ≤ sizeLine; decide, fun e ne => ?_⟩
      have s5 := same_new (o := .lst []) ne
      have e5 : (upd H4 e (.lst [])) e = some (.lst []) := upd_same
      generalize upd H4 e (.lst []) = H5 at s5 e5
      have hD5 := (s4.trans s5) _ _ hD
      refine ⟨_, _, dp_list hD5 thL, dp_list e5 th0, shaped_list _, shaped_list _, _, rfl, ?_⟩
      rw [eqv_list thL th0]
      cases eL : (List.range 400).filter (fun n => abv r.made u.made n) with
      | nil => exact k H5 s5
      | cons n0 rest =>
        rw [eL] at hD5
        have m0 : n0 ∈ (List.range 400).filter (fun n => abv r.made u.made n) := by
          rw [eL]
          exact List.mem_cons_self
        obtain ⟨m1, m2⟩ := List.mem_filter.mp m0
        have m1 := List.mem_range.mp m1
        have hd : ∀ i, i < 400 → abv r.made u.made i = true → n0 ≤ i := fun i h1 h2 => by
          have := head_filter (p := fun n => abv r.made u.made n) 400 i h1 h2
          rw [eL] at this
          exact this
        have ev : v = .int (n0 : Int) := by
          rcases hv with ⟨n, rfl, a1, a2⟩ | ⟨_, a⟩
          · have c1 : ¬ n0 < n := fun z => by
              rw [a2 n0 z] at m2
              cases m2
            have c2 := hd n (by omega) a1
            rw [show n = n0 by omega]
          · rw [a n0] at m2
            cases m2
        refine ⟨_, rfl, _, rfl, D, _, _, _, rfl, rfl, .l hD5, at_hd, ?_⟩
        rw [ev]
        refine ⟨rfl, _, rfl, ?_⟩
        rw [decide_eq_true rfl]
        have := k H5 s5
        rw [ev] at this
        exact this
    dsimp only
    refine q_seq (q_if (key fun H5 s5 => ?_))
    have s05 := s04.trans s5
    refine ⟨_, rfl, _, rfl, x, y, r.made, u.made, _, _, rfl, RowAt.ex ((s3.trans s4).trans s5) hx2, RowAt.ex ((s3.trans s4).trans s5) hy, ok, ok2, rfl, rfl, abv_wit ok ok2 t0 d1 d2, fun b H6 s6 hb => ?_⟩
    have s06 := s05.trans s6
    refine ⟨_, rfl, rfl, ?_⟩
    have eb : b = decide (v = V.non) := by
      rcases hv with ⟨n, rfl, a1, a2⟩ | ⟨rfl, a⟩
      · rcases hb with ⟨rfl, _⟩ | ⟨rfl, h2, h3⟩
        · rfl
        · rw [abv_none ok ok2 t0 d1 d2 rfl h2 h3 n] at a1
          cases a1
      · rcases hb with ⟨rfl, n, h⟩ | ⟨rfl, _⟩
        · rw [a n] at h
          cases h
        · rfl
    rw [eb]
    refine ⟨rfl, _, rfl, ?_⟩
    rw [decide_eq_true rfl]
    refine q_no rfl ?_
    dsimp only
    rcases hv with ⟨n, rfl, a1, a2⟩ | ⟨rfl, a⟩
    · refine ⟨_, rfl, rfl, _, rfl, _, rfl, _, rfl, p, r, n, rfl, hp.ex s06, pr, _, rfl, _, rfl, p', u, n, rfl, hp'.ex s06, pu, _, _, rfl, thr n, thu n, ?_⟩
      rw [eab, a1]
      exact q H6 s06
    · exact ⟨_, rfl, rfl, _, rfl, q H6 s06⟩
end
end WW

set_option Elab.async false
set_option linter.all false
set_option maxRecDepth 100000
set_option maxHeartbeats 4000000
namespace WW
open PySem L2
theorem Drawn.upr {fs : List V} {ag : List Int} {m : Int} (d : Drawn fs ag m) : UpR fs ag m ∧ 0 ≤ m ∧ fs.length ≤ 5 := by
  obtain ⟨n, is, e, hn, hi, p, b⟩ := d.ex
  have l1 := d.l1
  have m0 := d.m0
  have pa := (List.pairwise_append.mp p).2.1
  have q := pairI pa (i := 0) (j := ag.length - 1) (by omega) (by omega)
  have eL : lastI ag = ag.getD (ag.length - 1) 0 := rfl
  refine ⟨⟨⟨n, is, e, p⟩, by omega, m0⟩, by omega, ?_⟩
  rw [e, List.length_append, List.length_replicate, List.length_map]
  omega
theorem Drawn.pre {fs : List V} {ag : List Int} {m : Int} (d : Drawn fs ag m) : Pre (.of fs ag m) := by
  obtain ⟨u, m0, fl⟩ := d.upr
  have l3 := d.l3
  have m1 := d.m1
  exact ⟨u.l1, by show ag.length ≤ 12; omega, by show fs.length ≤ 20; omega, m0, by show m < 1000; omega, u.things, u.ris⟩
theorem emp_pre : Pre .emp := ⟨by decide, by decide, by decide, by decide, by decide, (fun _ h => nomatch h), fun _ => rfl⟩
theorem Drawn.bd {fs : List V} {ag : List Int} {m : Int} (d : Drawn fs ag m) {k : Nat} (hk : k < 12) {i : Int} (e : seqT fs ag m k = .int i) : -4 ≤ i ∧ i ≤ 600 := by
  obtain ⟨u, m0, fl⟩ := d.upr
  obtain ⟨n, is, ef, hn, hi, p, b⟩ := d.ex
  have m1 := d.m1
  by_cases c : k < fs.length
  · have e1 := seqT_fs (ag := ag) (m := m) c
    rw [e] at e1
    have hm : V.int i ∈ fs := by
      rw [List.getD_eq_getElem?_getD, List.getElem?_eq_getElem c] at e1
      have e1 : fs[k] = V.int i := e1
      rw [← e1]
      exact List.getElem_mem c
    rw [ef] at hm
    rcases List.mem_append.mp hm with h | h
    · cases List.eq_of_mem_replicate h
    · obtain ⟨j, hj, z⟩ := List.mem_map.mp h
      have := b j (List.mem_append_left _ hj)
      have := V.int_inj z
      omega
  · rw [seqT_ge c] at e
    have e := V.int_inj e
    unfold ext at e
    have hl : (k - fs.length) % ag.length < ag.length := Nat.mod_lt _ u.l1
    have hm : ag.getD ((k - fs.length) % ag.length) 0 ∈ is ++ ag := by
      rw [List.getD_eq_getElem?_getD, List.getElem?_eq_getElem hl]
      exact List.mem_append_right _ (List.getElem_mem hl)
    have hb := b _ hm
    have hq : (k - fs.length) / ag.length ≤ 11 := Nat.le_trans (Nat.div_le_self _ _) (by omega)
    generalize (k - fs.length) / ag.length = q at e hq
    have a1 : (q : Int) * m ≤ 11 * 50 := Int.mul_le_mul (by omega) m1 m0 (by omega)
    have a2 : 0 ≤ (q : Int) * m := Int.mul_nonneg (by omega) m0
    omega
theorem Drawn.nice {fs : List V} {ag : List Int} {m : Int} (d : Drawn fs ag m) : Nice (RV.mk fs ag m) 5 := by
  obtain ⟨u, m0, fl⟩ := d.upr
  have l1 := d.l1
  have l3 := d.l3
  have m1 := d.m1
  have eT : (RV.mk fs ag m).T = seqT fs ag m := RV.mk_T u.l1
  have lk : (leastF fs ag m).1.length ≤ fs.length := (least_keeps u.l1).2.2.2
  obtain ⟨q, hq, q6⟩ : ∃ q : Nat, ag.length * q = 6 ∧ q ≤ 6 := by
    rcases (show ag.length = 1 ∨ ag.length = 2 ∨ ag.length = 3 by omega) with h | h | h
    · exact ⟨6, by rw [h], by decide⟩
    · exact ⟨3, by rw [h], by decide⟩
    · exact ⟨2, by rw [h], by decide⟩
  have L : Lin (seqT fs ag m) 5 6 ((q : Int) * m) := by
    have := (lin_seq (fs := fs) (m := m) u.l1).mul q
    rw [hq] at this
    exact this.from_ fl
  have a1 : (q : Int) * m ≤ 6 * 50 := Int.mul_le_mul (by omega) m1 m0 (by omega)
  have a2 : 0 ≤ (q : Int) * m := Int.mul_nonneg (by omega) m0
  refine .inr ⟨⟨d.pre.ok, rfl, fun n hn i hi => ?_, seqT fs ag m, _, 0, L, fun n h5 h11 => ?_, a2, by omega, fun n _ => by rw [eT]⟩, Nat.le_trans lk fl⟩
  · rw [eT] at hi
    exact d.bd hn hi
  · obtain ⟨x, e, _⟩ := L n h5
    have := d.bd (show n < 12 by omega) e
    rw [e]
    exact this
/-- what is drawn or nothing -/
def DrawnR (r : RV) : Prop := r = .emp ∨ ∃ fs ag m, r = .of fs ag m ∧ Drawn fs ag m
theorem DrawnR.pre {r : RV} (h : DrawnR r) : Pre r := by
  rcases h with rfl | ⟨fs, ag, m, rfl, d⟩
  · exact emp_pre
  · exact d.pre
theorem DrawnR.nice {r : RV} (h : DrawnR r) : Nice r.made 5 := by
  rcases h with rfl | ⟨fs, ag, m, rfl, d⟩
  · exact .inl rfl
  · exact d.nice
theorem all_non {r : RV} (ok : r.Ok) (h : ∀ n, r.T n = .non) : r = .emp := by
  cases r with
  | emp => rfl
  | of fs ag m =>
    have := RV.int_at (r := .of fs ag m) rfl (Nat.le_refl _)
    rw [h] at this
    cases this
theorem high_fold (r : RV) (rs : List RV) (n : Nat) : foldM maxV r rs n = highV ((r :: rs).map (·.T n)) := rfl
theorem low_fold (r : RV) (rs : List RV) (n : Nat) : foldM minV r rs n = lowV ((r :: rs).map (·.T n)) := rfl
end WW

set_option Elab.async false
set_option linter.all false
set_option maxRecDepth 100000
set_option maxHeartbeats 4000000
namespace WW
open PySem PySem.Spec PyProof.Rows L2
section
variable {P : Program} {w : World} {K : PySem.W.Frag} {mg : Str → Option Value} {base : Heap} {f : Addr} {fd : FuncData}
/-- a told row, away from the box and a list -/
def ToldX (H : Hp) (b l p : Addr) (r : RV) : Prop := ∃ p1 p2, (H p = some (.tup [.ref p1, .ref p2, .int r.m]) ∧ H p1 = some (.lst r.fs) ∧ H p2 = some (.lst r.ys)) ∧ (p ≠ b ∧ p1 ≠ b ∧ p2 ≠ b) ∧ (p ≠ l ∧ p1 ≠ l ∧ p2 ≠ l)
theorem ToldX.told {H : Hp} {b l p : Addr} {r : RV} (h : ToldX H b l p r) : ToldR H p r := by
  obtain ⟨p1, p2, h, _⟩ := h
  exact ⟨p1, p2, h⟩
theorem ToldX.sb {H H' : Hp} {b l p : Addr} {r : RV} (h : ToldX H b l p r) (e : SameBut b H H') : ToldX H' b l p r := by
  obtain ⟨p1, p2, ⟨a1, a2, a3⟩, n, m⟩ := h
  exact ⟨p1, p2, ⟨e _ _ n.1 a1, e _ _ n.2.1 a2, e _ _ n.2.2 a3⟩, n, m⟩
theorem ToldX.upl {H : Hp} {b l p : Addr} {r : RV} {o : HO} (h : ToldX H b l p r) : ToldX (upd H l o) b l p r := by
  obtain ⟨p1, p2, ⟨a1, a2, a3⟩, n, m⟩ := h
  exact ⟨p1, p2, ⟨(upd_ne m.1).trans a1, (upd_ne m.2.1).trans a2, (upd_ne m.2.2).trans a3⟩, n, m⟩
theorem Box.upl {H : Hp} {b l : Addr} {o : HO} (h : Box H b) (n : l ≠ b) : Box (upd H l o) b := by
  obtain ⟨x, y, z, h⟩ := h
  exact ⟨x, y, z, (upd_ne (Ne.symm n)).trans h⟩
theorem rowAt_upl {C : Addr} {H : Hp} {x l : Addr} {o : HO} {ls fs ys : List V} {m : Int} (hl : H l = some (.lst ls)) (h : RowAt C H x fs ys m) : RowAt C (upd H l o) x fs ys m := by
  obtain ⟨dx, p1, p2, h1, h2, h3⟩ := h
  have n : ∀ {a u}, H a = some u → (∀ xs, u ≠ .lst xs) → a ≠ l := fun ha hn z => by
    rw [z, hl] at ha
    exact hn _ (Option.some.inj ha).symm
  exact ⟨dx, p1, p2, (upd_ne (n h1 fun _ z => nomatch z)).trans h1, (upd_ne (n h2 fun _ z => nomatch z)).trans h2, (upd_ne (n h3 fun _ z => nomatch z)).trans h3⟩
theorem thing_th' {y : V} (h : isThingV y = true) : isTh y = true := by
  cases y <;> first | rfl | cases h
theorem ys_th (r : RV) : ∀ y ∈ r.ys, isTh y = true := fun y hy => by
  cases r with
  | emp =>
    rw [List.mem_singleton.mp hy]
    rfl
  | of fs ag m =>
    obtain ⟨i, _, rfl⟩ := List.mem_map.mp hy
    rfl
theorem scal_self {v : V} (h : isThingV v = true) : scal v v = true := by
  cases v <;> first | rfl | cases h
theorem row_last (p0 : Addr × RV) (pt : List (Addr × RV)) : ∃ pl ∈ p0 :: pt, atI ((p0 :: pt).map rowRef) (-1) = some (rowRef pl) := by
  have hn : p0 :: pt ≠ [] := fun z => nomatch z
  refine ⟨(p0 :: pt).getLast hn, List.getLast_mem hn, ?_⟩
  have e : p0 :: pt = (p0 :: pt).dropLast ++ [(p0 :: pt).getLast hn] := (List.dropLast_concat_getLast hn).symm
  conv => lhs; rw [e, List.map_append]
  exact atI_last _ _
theorem risA : Ris (seqT [] (List.replicate 12 (-99)) 1) := UpR.ris ⟨⟨0, [], rfl, by decide⟩, by decide, by decide⟩
theorem risB : Ris (seqT [] [99] 0) := UpR.ris ⟨⟨0, [], rfl, by decide⟩, by decide, by decide⟩
theorem abvAB (n : Nat) : abv (RV.mk [] (List.replicate 12 (-99)) 1) (RV.mk [] [99] 0) n = decide (2388 ≤ n) := by
  have e1 : (RV.mk [] (List.replicate 12 (-99)) 1).T n = .int (-99 + ((n / 12 : Nat) : Int) * 1) := by
    rw [RV.mk_T (by decide), seqT_ge (by exact Nat.not_lt_zero _)]
    unfold ext
    rw [List.length_replicate, List.length_nil, Nat.sub_zero, List.getD_eq_getElem?_getD, List.getElem?_replicate, if_pos (Nat.mod_lt _ (by decide))]
    rfl
  have e2 : (RV.mk [] [99] 0).T n = .int 99 := by
    rw [RV.mk_T (by decide), seqT_ge (by exact Nat.not_lt_zero _)]
    unfold ext
    rw [List.length_singleton, Nat.mod_one, Int.mul_zero]
    rfl
  rw [abv_int e1 e2, decide_eq_decide]
  omega
def spLaw (K : PySem.W.Frag) : Sp := fun vs H Q _ => ∃ (a : Addr) (ns : List Int), vs = [.ref a] ∧ SqL K H a (ns.map V.int) ∧ ns.length ≤ 63 ∧ ∀ H', Q (.bl true) H'
abbrev s_law : Stmt := top 55
abbrev N_law : List Str := ["_law_script", "_law_k", "_law_box_here", "_law_turn", "_law_some", "_law_made_here", "_law_handed", "_law_high_here", "_law_low_here", "_law_n", "_law_marks", "_law_lasts", "_law_moved", "_law_things", "_law_thing", "_law_more", "_law_told", "_law_one", "_law_two"]
theorem sc_law : FnScope N_law ["_law_script"] (defScope s_law) := ⟨rfl, rfl, rfl, by decide +kernel, rfl, by decide +kernel, by decide +kernel⟩

theorem ok_law (F : FnP K "law" s_law f fd) (m_range : mg "range" = none) (m_max : mg "max" = none) (m_min : mg "min" = none) (m_len : mg "len" = none) (m_list : mg "list" = none) (m_tuple : mg "tuple" = none) (m_zip : mg "zip" = none) (RR : RowC K (He.ga K "Row")) (T : TyC K (He.ga K "Row"))
    (g_l_box : FnAt P w K mg base CX0 1 "_law_box" ["_law_script", "_law_k"] (spBox K)) (g_l_take : FnAt P w K mg base CX0 1 "_law_take" ["_law_box_here", "_law_many"] spTake) (g_l_row : FnAt P w K mg base CX0 3 "_law_row" ["_law_box_here", "_law_is_low"] spRowF)
    (g_Row : MkAt P w K mg base CX0 4 "Row" ["self", "first", "again", "more"] (spInit K (He.ga K "Row")) []) (g_l_made : FnAt P w K mg base CX0 6 "_law_made" ["_law_told"] (spMadeR (He.ga K "Row"))) (g_l_time : FnAt P w K mg base CX0 1 "_law_time" ["_law_told", "_law_n"] spTimeR)
    (g_l_high : FnAt P w K mg base CX0 1 "_law_high" ["_law_things"] (spHigh K)) (g_l_low : FnAt P w K mg base CX0 1 "_law_low" ["_law_things"] (spLow K)) (g_l_pair_right : FnAt P w K mg base CX0 7 "_law_pair_right" ["_law_one", "_law_other"] spPair)
    (g_greatest : FnAt P w K mg base CX0 8 "greatest" ["rows"] (spMost K (He.ga K "Row") maxV)) (g_least : FnAt P w K mg base CX0 8 "least" ["rows"] (spMost K (He.ga K "Row") minV)) (g_later : FnAt P w K mg base CX0 8 "later" ["row", "marks", "lasts"] (spMoved (He.ga K "Row")))
    (g_first_above : FnAt P w K mg base CX0 4 "first_above" ["one", "other"] (spAbove (He.ga K "Row"))) (g_is_at_most : FnAt P w K mg base CX0 5 "is_at_most" ["one", "other"] (spAtMost (He.ga K "Row")))
    (g_Row_time : MthAt P w K mg base CX0 1 (He.ga K "Row") "time" ["self", "n"] (spRT (He.ga K "Row"))) (g_eq : EqAtC P w K mg base CX0 2 (He.ga K "Row") ["self", "other"] (spEq K (He.ga K "Row")))
    (g_empty : FnAt P w K mg base CX0 6 "empty" [] (spConst (He.ga K "Row") [] [.non] 0)) : FnOk P w K mg base CX0 9 f fd ["_law_script"] (spLaw K) := by
  have c_Row := RR.cls
  refine F.ok sc_law (fun vs H Q E h => ?_) (fun cdv A outer s H vs Q E hr h => ?_)
  · obtain ⟨a, ns, rfl, _⟩ := h
    rfl
  · obtain ⟨a, ns, rfl, hq, hl, q⟩ := h
    refine ⟨_, PSs.nox (Evl.pss_cut (ps_for PassesOwn.never rfl (pi_range1 rfl m_range (pa_cons (pe_callB (call_max2 rfl) rfl m_max (by decide +kernel) (pa_cons (pe_int) (pa_cons (pe_callB (call_min2 rfl) rfl m_min (by decide +kernel) (pa_cons (pe_int) (pa_cons (pe_callB (call_lenK K) rfl m_len (by decide +kernel) (pa_cons (pv 0) (pa_nil))) (pa_nil)))) (pa_nil)))) (pa_nil))) (pg_name (i := 1) sc_law.nd rfl (.inl rfl)) (pss_cons (ps_set (i := 2) sc_law.nd rfl (.inr rfl) (pe_fn g_l_box hr rfl (pa_cons (pv 0) (pa_cons (pv 1) (pa_nil)))))
 (pss_one (ps_for PassesOwn.never rfl (pi_range1 rfl m_range (pa_cons (pe_int) (pa_nil))) (pg_name (i := 3) sc_law.nd rfl (.inr rfl)) (pss_cons (ps_setLc (i := 4) (own := [("_law_more", 15)]) rfl sc_law.nd rfl rfl (sw_true rfl rfl rfl (by decide +kernel)) (pi_range1 rfl m_range (pa_cons (pe_op op_add (pe_int) (pe_fn g_l_take hr rfl (pa_cons (pv 2) (pa_cons (pe_int) (pa_nil))))) (pa_nil))) (blkOk_by (N := N_law) (sc := defScope s_law) (by decide +kernel)) (fun _ _ _ _ _ => pg_name (i := 15) sc_law.nd rfl (.inl rfl)) (fun _ _ _ _ _ => pts_nil) (fun _ _ _ _ _ => pe_fn g_l_row hr rfl (pa_cons (pv 2) (pa_cons (pe_cmpR op_eq (pe_op op_mod (pv 3) (pe_int)) (pe_int) (nomark _)) (pa_nil)))))
 (Evl.pss_cut (ps_if (pt_cmpR op_eq (pe_fn g_l_take hr rfl (pa_cons (pv 2) (pa_cons (pe_int) (pa_nil)))) (pe_int) (nomark _)) (pss_one (ps_expr (pe_bm PySem.F.plainAttrs_list PySem.F.slot_list_append PySem.F.type_list_append mt_append (pv 4) (pa_cons (pe_tup (pa_cons (pe_lst (pa_nil)) (pa_cons (pe_lst (pa_cons (pe_non) (pa_nil))) (pa_cons (pe_int) (pa_nil))))) (pa_nil))))) (pss_nil))
 (pss_cons (ps_setLc (i := 5) (own := [("_law_told", 16)]) rfl sc_law.nd rfl rfl (sw_true rfl rfl rfl (by decide +kernel)) (pi_seqK K (pv 4)) (blkOk_by (N := N_law) (sc := defScope s_law) (by decide +kernel)) (fun _ _ _ _ _ => pg_name (i := 16) sc_law.nd rfl (.inl rfl)) (fun _ _ _ _ _ => pts_nil) (fun _ _ _ _ _ => pe_fn g_l_made hr rfl (pa_cons (pv 16) (pa_nil))))
 (pss_cons (ps_set (i := 6) sc_law.nd rfl (.inl rfl) (pe_callTy (call_listK K) rfl m_list (by decide +kernel) (pa_cons (pv 5) (pa_nil))))
 (pss_cons (ps_par (i := 7) (j := 8) rfl sc_law.nd rfl rfl (by decide) rfl rfl (pa_cons (pe_fn g_greatest hr rfl (pa_cons (pv 6) (pa_nil))) (pa_cons (pe_fn g_least hr rfl (pa_cons (pe_callTy (call_tupleK K) rfl m_tuple (by decide +kernel) (pa_cons (pv 5) (pa_nil))) (pa_nil))) (pa_nil))) rfl)
 (pss_cons (ps_if (PW.pt (pw_or (pt_cmpR op_ne (pe_callB (call_lenK K) rfl m_len (by decide +kernel) (pa_cons (pv 6) (pa_nil))) (pe_callB (call_lenK K) rfl m_len (by decide +kernel) (pa_cons (pv 5) (pa_nil))) (nomark _)) (pw_or1 (pt_cmpR (op_neDK K hr) (pe_lc (own := [("_law_one", 17), ("_law_two", 18)]) rfl sc_law.nd (pi_zipK K rfl m_zip (pa_cons (pv 6) (pa_cons (pv 5) (pa_nil)))) (blkOk_by (N := N_law) (sc := defScope s_law) (by decide +kernel)) (fun _ _ _ _ _ => pg_tupK (n := 2) K rfl (pgs_cons (pg_name (i := 17) sc_law.nd rfl (.inl rfl)) (pgs_cons (pg_name (i := 18) sc_law.nd rfl (.inl rfl)) (pgs_nil)))) (fun _ _ _ _ _ => pts_one (pt_cmpR (op_neO K g_eq hr) (pv 17) (pv 18) (nomark _))) (fun _ _ _ _ _ => pe_int)) (pe_lst (pa_nil)) (nomark _))))) (pss_one (ps_ret (pe_bl))) (pss_nil))
 (Evl.pss_cut (ps_for PassesOwn.never rfl (pi_seqK K (pe_op op_cat (pe_listRg rfl rfl m_list (prg_1 rfl m_range (pe_int))) (pe_lst (pa_cons (pe_op op_add (pe_op op_pow (pe_int) (pe_int)) (pe_fn g_l_take hr rfl (pa_cons (pv 2) (pa_cons (pe_int) (pa_nil))))) (pa_nil))))) (pg_name (i := 9) sc_law.nd rfl (.inr rfl)) (pss_cons (ps_setLc (i := 13) (own := [("_law_told", 16)]) rfl sc_law.nd rfl rfl (sw_true rfl rfl rfl (by decide +kernel)) (pi_seqK K (pv 4)) (blkOk_by (N := N_law) (sc := defScope s_law) (by decide +kernel)) (fun _ _ _ _ _ => pg_name (i := 16) sc_law.nd rfl (.inl rfl)) (fun _ _ _ _ _ => pts_nil) (fun _ _ _ _ _ => pe_fn g_l_time hr rfl (pa_cons (pv 16) (pa_cons (pv 9) (pa_nil)))))
 (pss_one (ps_if (PW.pt (pw_or (pt_cmpR op_ne (pe_mth c_Row g_Row_time hr (pv 7) (pa_cons (pv 9) (pa_nil))) (pe_fn g_l_high hr rfl (pa_cons (pv 13) (pa_nil))) (nomark _)) (pw_or1 (pt_cmpR op_ne (pe_mth c_Row g_Row_time hr (pv 8) (pa_cons (pv 9) (pa_nil))) (pe_fn g_l_low hr rfl (pa_cons (pv 13) (pa_nil))) (nomark _))))) (pss_one (ps_ret (pe_bl))) (pss_nil)))))
 (pss_cons (ps_if (PW.pt (pw_or (pt_not (pt_val (pe_fn g_l_pair_right hr rfl (pa_cons (pe_ix (ix_sqK K) (pv 4) (pe_int) (fun _ _ => rfl)) (pa_cons (pe_ix (ix_sqK K) (pv 4) (pe_un un_neg (pe_int)) (fun _ _ => rfl)) (pa_nil)))))) (pw_or1 (pt_not (pt_val (pe_fn g_l_pair_right hr rfl (pa_cons (pe_ix (ix_sqK K) (pv 4) (pe_un un_neg (pe_int)) (fun _ _ => rfl)) (pa_cons (pe_ix (ix_sqK K) (pv 4) (pe_int) (fun _ _ => rfl)) (pa_nil))))))))) (pss_one (ps_ret (pe_bl))) (pss_nil))
 (pss_cons (ps_par (i := 10) (j := 11) rfl sc_law.nd rfl rfl (by decide) rfl rfl (pa_cons (pe_fn g_l_take hr rfl (pa_cons (pv 2) (pa_cons (pe_int) (pa_nil)))) (pa_cons (pe_fn g_l_take hr rfl (pa_cons (pv 2) (pa_cons (pe_int) (pa_nil)))) (pa_nil))) rfl)
 (pss_cons (ps_set (i := 12) sc_law.nd rfl (.inl rfl) (pe_fn g_later hr rfl (pa_cons (pe_ix (ix_sqK K) (pv 5) (pe_int) (fun _ _ => rfl)) (pa_cons (pv 10) (pa_cons (pv 11) (pa_nil))))))
 (pss_one (ps_for PassesOwn.never rfl (pi_range1 rfl m_range (pa_cons (pe_int) (pa_nil))) (pg_name (i := 9) sc_law.nd rfl (.inr rfl)) (pss_cons (ps_set (i := 14) sc_law.nd rfl (.inl rfl) (pe_ifExp (pt_cmpR op_ge (pv 9) (pv 10) (nomark _)) (pe_fn g_l_time hr rfl (pa_cons (pe_ix (ix_sqK K) (pv 4) (pe_int) (fun _ _ => rfl)) (pa_cons (pe_op op_sub (pv 9) (pv 10)) (pa_nil)))) (pe_non)))
 (pss_one (ps_if (pt_cmpR op_ne (pe_mth c_Row g_Row_time hr (pv 12) (pa_cons (pv 9) (pa_nil))) (pe_ifExp (pt_cmpR op_isN (pv 14) (pe_non) (nomark _)) (pe_non) (pe_op op_add (pv 14) (pv 11))) (nomark _)) (pss_one (ps_ret (pe_bl))) (pss_nil))))))))))))))))))))
 (pss_cons (ps_if (pt_cmpR op_ne (pe_fn g_first_above hr rfl (pa_cons (pe_mkr g_Row hr rfl (pa_cons (pe_lst (pa_nil)) (pa_cons (pe_op op_rep (pe_lst (pa_cons (pe_op op_sub (pe_int) (pe_int)) (pa_nil))) (pe_int)) (pa_cons (pe_int) (pa_nil))))) (pa_cons (pe_mkr g_Row hr rfl (pa_cons (pe_lst (pa_nil)) (pa_cons (pe_lst (pa_cons (pe_int) (pa_nil))) (pa_cons (pe_int) (pa_nil))))) (pa_nil)))) (pe_int) (nomark _)) (pss_one (ps_ret (pe_bl))) (pss_nil))
 (pss_one (ps_ret (pe_and (pe_cmpR (op_eqO K g_eq hr) (pe_fn g_later hr rfl (pa_cons (pe_fn0 g_empty hr rfl) (pa_cons (pe_int) (pa_cons (pe_int) (pa_nil))))) (pe_fn0 g_empty hr rfl) (nomark _)) (pe_and (pe_cmpR (op_eqO K g_eq hr) (pe_fn g_greatest hr rfl (pa_cons (pe_lst (pa_cons (pe_fn0 g_empty hr rfl) (pa_nil))) (pa_nil))) (pe_fn0 g_empty hr rfl) (nomark _)) (pe_one (pe_fn g_is_at_most hr rfl (pa_cons (pe_fn0 g_empty hr rfl) (pa_cons (pe_fn0 g_empty hr rfl) (pa_nil))))))))))), ?_⟩
    have hlen : ((ns.map V.int).length : Int) = (ns.length : Int) := by rw [List.length_map]
    refine ⟨fun σ H' => ∃ (v1 v2 v3 v4 v5 v6 v7 v8 v9 v10 v11 v12 v13 v14 v15 v16 v17 v18 : Option V), σ = [some (.ref a), v1, v2, v3, v4, v5, v6, v7, v8, v9, v10, v11, v12, v13, v14, v15, v16, v17, v18], ?_, ?_⟩
    · refine ⟨_, rfl, a, _, rfl, .inl hq, _, _, rfl, _, _, rfl, _, rfl, ?_, ?_, ?_⟩
      · rw [hlen]
        split <;> split <;> omega
      · rw [hlen]
        split <;> split <;> omega
      refine for_range (fun i σ Hc => ∃ (v1 v2 v3 v4 v5 v6 v7 v8 v9 v10 v11 v12 v13 v14 v15 v16 v17 v18 : Option V), σ = [some (.ref a), v1, v2, v3, v4, v5, v6, v7, v8, v9, v10, v11, v12, v13, v14, v15, v16, v17, v18] ∧ Same H Hc) ⟨_, _, _, _, _, _, _, _, _, _, _, _, _, _, _, _, _, _, rfl, Same.refl H⟩ ?_ ?_
      · rintro i σ Hc hi ⟨v1, v2, v3, v4, v5, v6, v7, v8, v9, v10, v11, v12, v13, v14, v15, v16, v17, v18, rfl, sH⟩
        refine ⟨_, rfl, _, rfl, a, ns, (0 : Int) + (i : Int), rfl, Evl.ex_l sH hq, by omega, by omega, fun b H1 s1 nb hb => ?_⟩
        refine ⟨6, rfl, by decide, by decide, ?_⟩
        refine for_range (fun i σ Hc => ∃ (v1 v3 v4 v5 v6 v7 v8 v9 v10 v11 v12 v13 v14 v15 v16 v17 v18 : Option V), σ = [some (.ref a), v1, some (.ref b), v3, v4, v5, v6, v7, v8, v9, v10, v11, v12, v13, v14, v15, v16, v17, v18] ∧ SameBut b H1 Hc ∧ Box Hc b) ⟨_, _, _, _, _, _, _, _, _, _, _, _, _, _, _, _, _, rfl, SameBut.refl b H1, hb⟩ ?_ ?_
        · rintro j σ H2 hj ⟨v1, v3, v4, v5, v6, v7, v8, v9, v10, v11, v12, v13, v14, v15, v16, v17, v18, rfl, sb2, hb2⟩
          rw [show (0 : Int) + (j : Int) = (j : Int) by omega]
          refine q_name ?_
          -- some
          refine q_seq (q_asg ?_)
          refine ⟨_, rfl, b, 3, rfl, hb2, by decide, by decide, fun x0 y0 z0 d0 l0 u0 => ⟨_, _, rfl, rfl, _, rfl, by omega, by omega, fun D nD => ?_⟩⟩
          dsimp only [List.map_cons, List.map_nil]
          have hb3 : Box (upd H2 b (bx x0 y0 z0)) b := ⟨_, _, _, upd_same⟩
          have sb3 : SameBut b H2 (upd H2 b (bx x0 y0 z0)) := SameBut.upd b _ _
          generalize upd H2 b (bx x0 y0 z0) = H3 at hb3 sb3 nD
          have nDb : D ≠ b := Box.ne hb3 nD
          obtain ⟨hx, hy, hz, hbb⟩ := id hb3
          refine lc_rgB (b := b) (fun i acc Hc => Box Hc b ∧ (∃ ls, Hc D = some (.lst ls)) ∧ ∃ ps : List (Addr × RV), acc = ps.map rowRef ∧ ∀ z ∈ ps, DrawnR z.2 ∧ ToldX Hc b D z.1 z.2) (by omega) hbb nD ⟨hb3.upl nDb, ⟨_, upd_same⟩, [], rfl, fun z hz => nomatch hz⟩ (fun i acc Hc ls ls' _ _ iv => ?_) (fun i acc H4 hi sb4 la iv R k => ?_) fun H4 acc sb4 hD la iv => ?_
          · obtain ⟨bx', _, ps, e, h⟩ := iv
            exact ⟨bx'.upl nDb, ⟨_, upd_same⟩, ps, e, fun z hz => ⟨(h z hz).1, (h z hz).2.upl⟩⟩
          · obtain ⟨bx', ⟨ls, hls⟩, ps, e, h⟩ := iv
            refine ⟨_, rfl, _, rfl, _, _, rfl, rfl, (by show (0 : Int) < 2; decide), rfl, b, _, rfl, bx', fun p H5 fs ag m dr sb5 hb5 t => ?_⟩
            obtain ⟨p1, p2, h1, h2, h3, n0, n1, n2, f0, f1, f2⟩ := t
            refine k (.ref p) H5 sb5 ⟨hb5, ⟨ls, sb5 _ _ nDb hls⟩, ps ++ [(p, .of fs ag m)], by rw [e, List.map_append]; rfl, fun z hz => ?_⟩
            rcases List.mem_append.mp hz with hz | hz
            · exact ⟨(h z hz).1, (h z hz).2.sb sb5⟩
            · rw [List.mem_singleton.mp hz]
              exact ⟨.inr ⟨fs, ag, m, rfl, dr⟩, p1, p2, ⟨h1, h2, h3⟩, ⟨n0, n1, n2⟩, Ne.symm (ne_of_none hls f0), Ne.symm (ne_of_none hls f1), Ne.symm (ne_of_none hls f2)⟩
          obtain ⟨hb4, _, ps, rfl, hps⟩ := iv
          rw [List.length_map] at la
          have lp0 : 0 < ps.length := by omega
          have lp3 : ps.length ≤ 3 := by omega
          refine q_name ?_
          refine ⟨fun σ H5 => ∃ (ps : List (Addr × RV)), σ = [some (.ref a), v1, some (.ref b), some (.int (j : Int)), some (.ref D), v5, v6, v7, v8, v9, v10, v11, v12, v13, v14, v15, v16, v17, v18] ∧ SameBut b H2 H5 ∧ Box H5 b ∧ H5 D = some (.lst (ps.map rowRef)) ∧ 0 < ps.length ∧ ps.length ≤ 4 ∧ ∀ z ∈ ps, DrawnR z.2 ∧ ToldX H5 b D z.1 z.2, ?_, ?_⟩
          · refine ⟨_, rfl, b, 6, rfl, hb4, by decide, by decide, fun x y z d dl du => ⟨rfl, _, rfl, ?_⟩⟩
            have hb5 : Box (upd H4 b (bx x y z)) b := ⟨_, _, _, upd_same⟩
            have sb5 : SameBut b H4 (upd H4 b (bx x y z)) := SameBut.upd b _ _
            generalize upd H4 b (bx x y z) = H5 at hb5 sb5
            have hD5 := sb5 _ _ nDb hD
            have sb25 : SameBut b H2 H5 := (sb3.trans sb4).trans sb5
            refine ite2 (fun c => ?_) (fun c => ?_)
            · refine ⟨_, rfl, .inl ⟨rfl, _, .inl (.inl hD5)⟩, by show 0 ≤ sizeLine; decide, fun l1 nl1 => ⟨by show 1 ≤ sizeLine; decide, fun l2 nl2 => ⟨by show 3 ≤ sizeLine; decide, fun t nt => ?_⟩⟩⟩
              have s1' := same_new (o := .lst []) nl1
              have s2' := same_new (o := .lst [.non]) nl2
              have s3' := same_new (o := .tup [.ref l1, .ref l2, .int 0]) nt
              have e1 := s3' _ _ (s2' _ _ (upd_same (H := H5) (a := l1) (o := .lst [])))
              have e2 := s3' _ _ (upd_same (H := upd H5 l1 (.lst [])) (a := l2) (o := .lst [.non]))
              have e3 : (upd (upd (upd H5 l1 (.lst [])) l2 (.lst [.non])) t (.tup [.ref l1, .ref l2, .int 0])) t = some (.tup [.ref l1, .ref l2, .int 0]) := upd_same
              have s13' := (s1'.trans s2').trans s3'
              have n1 : l1 ≠ b := Box.ne hb5 nl1
              have n2 : l2 ≠ b := Box.ne (hb5.ex s1') nl2
              have n3 : t ≠ b := Box.ne ((hb5.ex s1').ex s2') nt
              have m1 : l1 ≠ D := Ne.symm (ne_of_none hD5 nl1)
              have m2 : l2 ≠ D := Ne.symm (ne_of_none (s1' _ _ hD5) nl2)
              have m3 : t ≠ D := Ne.symm (ne_of_none (s2' _ _ (s1' _ _ hD5)) nt)
              generalize upd (upd (upd H5 l1 (.lst [])) l2 (.lst [.non])) t (.tup [.ref l1, .ref l2, .int 0]) = H6 at s13' e1 e2 e3
              refine ⟨D, _, _, rfl, rfl, s13' _ _ hD5, ?_, ?_⟩
              · rw [List.length_map]
                exact Nat.lt_of_lt_of_le (show ps.length < 10 by omega) (by decide)
              · refine ⟨ps ++ [(t, .emp)], rfl, ?_, (hb5.ex s13').upl nDb, ?_, by rw [List.length_append]; exact Nat.lt_of_lt_of_le lp0 (by omega), by rw [List.length_append]; exact Nat.succ_le_succ lp3, fun z hz => ?_⟩
                · intro c o nc hc
                  rw [upd_ne (fun e => ?_)]
                  · exact s13' _ _ (sb25 _ _ nc hc)
                  · rw [e] at hc
                    have := sb3 _ _ nDb hc
                    rw [nD] at this
                    cases this
                · rw [upd_same, List.map_append]
                  rfl
                · rcases List.mem_append.mp hz with hz | hz
                  · exact ⟨(hps z hz).1, (((hps z hz).2.sb sb5).sb (.of s13')).upl⟩
                  · rw [List.mem_singleton.mp hz]
                    exact ⟨.inl rfl, (ToldX.upl ⟨l1, l2, ⟨e3, e1, e2⟩, ⟨n3, n1, n2⟩, m3, m1, m2⟩)⟩
            · exact ⟨ps, rfl, sb25, hb5, hD5, lp0, by omega, fun z hz => ⟨(hps z hz).1, (hps z hz).2.sb sb5⟩⟩
          clear hps lp0 lp3 la hD hb4
          clear sb4
          rintro σ H5 ⟨ps, rfl, sb5, hb5, hD, lp0, lp4, hps⟩
          -- made
          refine q_seq (q_asg ?_)
          dsimp only [List.map_cons, List.map_nil]
          refine lc_sqI (K := K) (xs := ps.map rowRef) (fun i acc Hc => ∃ zs : List (Addr × RV), acc = zs.map rowRef ∧ zs.map (·.2) = (ps.take i).map (fun z => z.2.made) ∧ ∀ z ∈ zs, RowR (He.ga K "Row") Hc z.1 z.2) (fun R r => ⟨_, rfl, r D H5 (Same.refl H5) (.l hD)⟩) (by rw [List.length_map]; omega) (fun H' _ => ⟨[], rfl, rfl, fun z hz => nomatch hz⟩) (fun i acc Hc L ls ls' _ hL iv => ?_) (fun i y acc H6 hy s6 la iv R k => ?_) fun M H6 acc s6 nM hM la iv => ?_
          · obtain ⟨zs, e1, e2, h⟩ := iv
            exact ⟨zs, e1, e2, fun z hz => rowAt_upl hL (h z hz)⟩
          · obtain ⟨zs, e1, e2, h⟩ := iv
            rw [List.getElem?_map] at hy
            obtain ⟨z, hz, rfl⟩ := Option.map_eq_some_iff.mp hy
            have hz' := hps z (List.mem_of_getElem? hz)
            refine ⟨_, rfl, z.1, z.2, rfl, hz'.2.told.ex s6, hz'.1.pre, fun x H7 s7 hx => k (.ref x) H7 s7 ⟨zs ++ [(x, z.2.made)], by rw [e1, List.map_append]; rfl, ?_, fun z2 hz2 => ?_⟩⟩
            · rw [List.map_append, e2, List.take_add_one, hz, List.map_append]
              rfl
            · rcases List.mem_append.mp hz2 with h2 | h2
              · exact RowAt.ex s7 (h z2 h2)
              · rw [List.mem_singleton.mp h2]
                exact hx
          obtain ⟨zs, rfl, ez, hzs⟩ := iv
          rw [List.length_map, List.take_length] at ez
          have lz : zs.length = ps.length := by
            have := congrArg List.length ez
            rw [List.length_map, List.length_map] at this
            exact this
          have nz : ∀ z ∈ zs, Nice z.2 5 := fun z hz => by
            have : z.2 ∈ zs.map (·.2) := List.mem_map.mpr ⟨z, hz, rfl⟩
            rw [ez] at this
            obtain ⟨u, hu, e⟩ := List.mem_map.mp this
            rw [← e]
            exact (hps u hu).1.nice
          have eTz : ∀ n, zs.map (fun z => z.2.T n) = ps.map (fun z => z.2.T n) := fun n => by
            have := congrArg (List.map fun r : RV => r.T n) ez
            rw [List.map_map, List.map_map] at this
            refine this.trans (List.map_congr_left fun z hz => ?_)
            show z.2.made.T n = z.2.T n
            rw [(hps z hz).1.pre.T]
          obtain ⟨z0, zt, rfl⟩ : ∃ z0 zt, zs = z0 :: zt := by
            cases zs with
            | nil => exact absurd lz (by show ¬ 0 = ps.length; omega)
            | cons z0 zt => exact ⟨z0, zt, rfl⟩
          obtain ⟨p0, pt, rfl⟩ : ∃ p0 pt, ps = p0 :: pt := by
            cases ps with
            | nil => exact absurd lp0 (by decide)
            | cons p0 pt => exact ⟨p0, pt, rfl⟩
          have lzt : zt.length ≤ 4 := by
            have : zt.length + 1 = pt.length + 1 := lz
            have : pt.length + 1 ≤ 4 := lp4
            omega
          -- handed
          refine q_name ?_
          refine ⟨_, rfl, M, _, rfl, .l hM, fun Hd nHd => ?_⟩
          have s7 := same_new (o := .lst ((z0 :: zt).map rowRef)) nHd
          have e7 : (upd H6 Hd (.lst ((z0 :: zt).map rowRef))) Hd = some (.lst ((z0 :: zt).map rowRef)) := upd_same
          generalize upd H6 Hd (.lst ((z0 :: zt).map rowRef)) = H7 at s7 e7
          have rows7 : ∀ z ∈ z0 :: zt, RowR (He.ga K "Row") H7 z.1 z.2 ∧ Nice z.2 5 := fun z hz => ⟨RowAt.ex s7 (hzs z hz), nz z hz⟩
          refine ⟨_, rfl, Hd, z0, zt, rfl, .l e7, lzt, rows7, fun xh H8 rh s8 hxh okh _ eh => ?_⟩
          refine ⟨_, rfl, tupq (.l (s8 _ _ (s7 _ _ hM))) fun tp H9 s9 htp => ⟨tp, z0, zt, rfl, htp, lzt, fun z hz => ⟨RowAt.ex (s8.trans s9) (rows7 z hz).1, (rows7 z hz).2⟩, fun xl H10 rl s10 hxl okl _ el => ⟨_, _, rfl, ?_⟩⟩⟩
          have s710 := (s8.trans s9).trans s10
          have hxh10 := RowAt.ex (s9.trans s10) hxh
          have rows10 : ∀ z ∈ z0 :: zt, RowR (He.ga K "Row") H10 z.1 z.2 := fun z hz => RowAt.ex s710 (rows7 z hz).1
          have hM10 := s710 _ _ (s7 _ _ hM)
          have hHd10 := s710 _ _ e7
          have sb10 : Same H5 H10 := (s6.trans s7).trans s710
          have th0 : ∀ y ∈ ([] : List V), isTh y = true := fun y hy => nomatch hy
          dsimp only
          refine q_seq (q_if ?_)
          refine ⟨_, rfl, Hd, _, rfl, .l hHd10, _, rfl, M, _, rfl, .l hM10, rfl, _, rfl, ?_⟩
          rw [decide_eq_true rfl]
          refine ⟨_, rfl, _, rfl, Hd, M, _, _, rfl, .inl (.inl hHd10), .inl (.inl hM10), fun D2 nD2 => ?_⟩
          dsimp only [List.map_cons, List.map_nil]
          refine lc_zip_none rfl (.inl (.inl hHd10)) (.inl (.inl hM10)) nD2 (fun i x y T' Hc hx hy sc hT R k => ?_) fun H11 s11 hD2 => ?_
          · have exy : x = y := by
              have := hx.symm.trans hy
              exact Option.some.inj this
            subst exy
            have hx' : ((z0 :: zt).map rowRef)[i]? = some x := hx
            rw [List.getElem?_map] at hx'
            obtain ⟨z, hz, rfl⟩ := Option.map_eq_some_iff.mp hx'
            have rz := RowAt.ex sc (rows10 z (List.mem_of_getElem? hz))
            have okz := (nz z (List.mem_of_getElem? hz)).ok
            obtain ⟨dz, r1, r2, hz1, hz2, hz3⟩ := id rz
            have t1 : ∀ y ∈ z.2.fs, isTh y = true := fun y hy => thing_th' (okz.th y hy)
            have t2 : ∀ y ∈ z.2.ys, isTh y = true := ys_th z.2
            refine ⟨T', _, rfl, .inl (.inl hT), rfl, _, _, rfl, _, _, rfl, rfl, rfl, _, rfl, _, rfl, ?_⟩
            refine .mk z.1 dz _ (.ref _) rfl hz1 (RowAt.ty RR T rz) notFirst_self ⟨z.1, .ref z.1, _, _, _, rfl, rz, .inr ⟨z.1, _, _, _, rfl, rz, t1, t2, t1, t2, fun H12 s12 => ⟨_, rfl, _, rfl, ?_⟩⟩⟩
            rw [decide_eq_true ⟨rfl, rfl, rfl⟩]
            exact k _ H12 s12
          refine ⟨by show 0 ≤ sizeLine; decide, fun e ne => ?_⟩
          have s12 := same_new (o := .lst []) ne
          have e12 : (upd H11 e (.lst [])) e = some (.lst []) := upd_same
          generalize upd H11 e (.lst []) = H12 at s12 e12
          refine ⟨_, _, dp_list (xs := []) (s12 _ _ hD2) th0, dp_list e12 th0, shaped_list _, shaped_list _, _, rfl, ?_⟩
          rw [eqv_list th0 th0, decide_eq_true rfl]
          refine q_no rfl ?_
          dsimp only
          have s512 := (sb10.trans s11).trans s12
          have s1012 := s11.trans s12
          have hxh12 := RowAt.ex s1012 hxh10
          have hxl12 := RowAt.ex s1012 hxl
          have rows12 : ∀ z ∈ z0 :: zt, RowR (He.ga K "Row") H12 z.1 z.2 := fun z hz => RowAt.ex s1012 (rows10 z hz)
          have hM12 := s1012 _ _ hM10
          have hD12 := s512 _ _ hD
          have hb12 := hb5.ex s512
          have told12 : ∀ z ∈ p0 :: pt, DrawnR z.2 ∧ ToldX H12 b D z.1 z.2 := fun z hz => ⟨(hps z hz).1, (hps z hz).2.sb (.of s512)⟩
          have sbA : SameBut b H2 H12 := sb5.trans (.of s512)
          clear hHd10 hM10 hxh10 hxl rows10 s710 rows7 e7 hD2 e12 s12 s11 s512 s1012 sb10 hxh
          -- the times
          refine ⟨fun σ Hc => ∃ (v9 v10 v11 v12 v13 v14 v15 v16 v17 v18 : Option V), σ = [some (.ref a), v1, some (.ref b), some (.int (j : Int)), some (.ref D), some (.ref M), some (.ref Hd), some (.ref xh), some (.ref xl), v9, v10, v11, v12, v13, v14, v15, v16, v17, v18] ∧ SameBut b H12 Hc ∧ Box Hc b, ?_, ?_⟩
          · refine ⟨120, rfl, .of_le (by decide) (by decide) (by decide) (by decide), fun l1 nl1 => ?_⟩
            have sL1 := same_new (o := .lst (rgV 0 120)) nl1
            have eL1 : (upd H12 l1 (.lst (rgV 0 120))) l1 = some (.lst (rgV 0 120)) := upd_same
            generalize upd H12 l1 (.lst (rgV 0 120)) = H13 at sL1 eL1
            refine ⟨_, _, rfl, rfl, ⟨by decide, by decide, by decide⟩, _, rfl, b, 100, rfl, hb12.ex sL1, by decide, by decide, fun x y z d dl du => ⟨_, _, rfl, rfl, by show 1 ≤ sizeLine; decide, fun l2 nl2 => ?_⟩⟩
            have hb14 : Box (upd H13 b (bx x y z)) b := ⟨_, _, _, upd_same⟩
            have sb14 : SameBut b H12 (upd H13 b (bx x y z)) := SameBut.trans (.of sL1) (SameBut.upd b _ _)
            have nb1 : l1 ≠ b := Box.ne hb12 nl1
            have eL14 : (upd H13 b (bx x y z)) l1 = some (.lst (rgV 0 120)) := (upd_ne nb1).trans eL1
            generalize upd H13 b (bx x y z) = H14 at hb14 sb14 eL14 nl2
            have sL2 := same_new (o := .lst [.int ((10 : Int) ^ (9 : Int).toNat + d)]) nl2
            have eL2 : (upd H14 l2 (.lst [.int ((10 : Int) ^ (9 : Int).toNat + d)])) l2 = some (.lst [.int ((10 : Int) ^ (9 : Int).toNat + d)]) := upd_same
            refine ⟨l1, l2, _, _, rfl, rfl, sL2 _ _ eL14, eL2, by rw [rgV_length]; show 120 + 1 ≤ sizeLine; decide, fun l3 nl3 => ?_⟩
            have sL3 := same_new (o := .lst (rgV 0 120 ++ [.int ((10 : Int) ^ (9 : Int).toNat + d)])) nl3
            have eL3 : (upd (upd H14 l2 (.lst [.int ((10 : Int) ^ (9 : Int).toNat + d)])) l3 (.lst (rgV 0 120 ++ [.int ((10 : Int) ^ (9 : Int).toNat + d)]))) l3 = some (.lst (rgV 0 120 ++ [.int ((10 : Int) ^ (9 : Int).toNat + d)])) := upd_same
            have s15 := sL2.trans sL3
            generalize upd (upd H14 l2 (.lst [.int ((10 : Int) ^ (9 : Int).toNat + d)])) l3 (.lst (rgV 0 120 ++ [.int ((10 : Int) ^ (9 : Int).toNat + d)])) = H15 at s15 eL3
            have sb15 : SameBut b H12 H15 := sb14.trans (.of s15)
            have hb15 := hb14.ex s15
            have hI : ∀ x ∈ rgV 0 120 ++ [V.int ((10 : Int) ^ (9 : Int).toNat + d)], ∃ n : Nat, x = .int (n : Int) := fun x hx => by
              rcases List.mem_append.mp hx with h | h
              · unfold rgV at h
                obtain ⟨n, _, rfl⟩ := List.mem_map.mp h
                exact ⟨n, by rw [show (0 : Int) + (n : Int) = (n : Int) by omega]⟩
              · rw [List.mem_singleton.mp h]
                refine ⟨((10 : Int) ^ (9 : Int).toNat + d).toNat, congrArg V.int ?_⟩
                have : (0 : Int) ≤ (10 : Int) ^ (9 : Int).toNat := by decide
                omega
            refine ⟨l3, rfl, for_sq (xs := rgV 0 120 ++ [.int ((10 : Int) ^ (9 : Int).toNat + d)]) (.l eL3) (fun i σ Hc => ∃ (v9 v13 v16 : Option V), σ = [some (.ref a), v1, some (.ref b), some (.int (j : Int)), some (.ref D), some (.ref M), some (.ref Hd), some (.ref xh), some (.ref xl), v9, v10, v11, v12, v13, v14, v15, v16, v17, v18] ∧ Same H15 Hc) ⟨_, _, _, rfl, Same.refl H15⟩ (fun i σ Hc p => ?_) ?_ ?_⟩
            · obtain ⟨_, _, _, _, sc⟩ := p
              exact ⟨Evl.ex_l sc, Evl.ex_t sc⟩
            · rintro i y σ Hc hy ⟨v9, v13, v16, rfl, sc⟩
              obtain ⟨n, rfl⟩ := hI y (List.mem_of_getElem? hy)
              have sbc : SameBut b H12 Hc := sb15.trans (.of sc)
              refine q_name ?_
              refine q_seq (q_asg ?_)
              dsimp only [List.map_cons, List.map_nil]
              refine lc_sqI (K := K) (xs := (p0 :: pt).map rowRef) (fun i acc _ => acc = ((p0 :: pt).take i).map (fun z => z.2.T n)) (fun R r => ⟨_, rfl, r D Hc (Same.refl Hc) (.l (sbc _ _ nDb hD12))⟩) (by rw [List.length_map]; omega) (fun H' _ => rfl) (fun i acc Hc L ls ls' _ hL iv => iv) (fun i y acc H6 hy s6 la iv R k => ?_) fun L H16 acc s16 nL hL la iv => ?_
              · rw [List.getElem?_map] at hy
                obtain ⟨z, hz, rfl⟩ := Option.map_eq_some_iff.mp hy
                have hz' := told12 z (List.mem_of_getElem? hz)
                refine ⟨_, rfl, _, rfl, z.1, z.2, n, rfl, (hz'.2.sb sbc).told.ex s6, hz'.1.pre, k _ H6 (Same.refl H6) ?_⟩
                rw [iv, List.take_add_one, hz, List.map_append]
                rfl
              rw [List.length_map, List.take_length] at iv
              subst iv
              have s1516 := sc.trans s16
              have sbC : SameBut b H12 H16 := sb15.trans (.of s1516)
              have rxh : RowR (He.ga K "Row") H16 xh rh := RowAt.sb hb12 sbC hxh12
              have rxl : RowR (He.ga K "Row") H16 xl rl := RowAt.sb hb12 sbC hxl12
              obtain ⟨dh, h1, h2, hh1, hh2, hh3⟩ := id rxh
              have thP : ∀ x ∈ (p0 :: pt).map (fun z => z.2.T n), isThingV x = true := fun x hx => by
                obtain ⟨z, hz, rfl⟩ := List.mem_map.mp hx
                have pre := (hps z hz).1.pre
                show isThingV (z.2.T n) = true
                rw [← pre.T]
                exact RV.thing pre.ok n
              have eH : rh.T n = highV ((p0 :: pt).map (fun z => z.2.T n)) := by
                rw [eh, high_fold, ← eTz n, List.map_cons, List.map_map]
                rfl
              have eL : rl.T n = lowV ((p0 :: pt).map (fun z => z.2.T n)) := by
                rw [el, low_fold, ← eTz n, List.map_cons, List.map_map]
                rfl
              refine q_name ?_
              refine q_if ?_
              refine ⟨_, rfl, xh, dh, _, rfl, hh1, rfl, _, rfl, xh, rh, n, rfl, rxh, okh, _, rfl, L, _, rfl, .l hL, by rw [List.length_map]; omega, thP, fun H17 s17 => ?_⟩
              rw [← eH]
              refine ⟨scal_self (RV.thing okh n), _, rfl, ?_⟩
              rw [decide_eq_true rfl]
              have rxl17 := RowAt.ex s17 rxl
              obtain ⟨dl', g1, g2, hl1, hl2, hl3⟩ := id rxl17
              refine ⟨_, rfl, xl, dl', _, rfl, hl1, rfl, _, rfl, xl, rl, n, rfl, rxl17, okl, _, rfl, L, _, _, rfl, .l (s17 _ _ hL), by show (pt.map _).length ≤ 1000; rw [List.length_map]; have : pt.length + 1 ≤ 4 := lp4; omega, thP, fun H18 s18 => ?_⟩
              have eL : rl.T n = lowV (p0.2.T n :: pt.map (fun z => z.2.T n)) := eL
              rw [← eL]
              refine ⟨scal_self (RV.thing okl n), _, rfl, ?_⟩
              rw [decide_eq_true rfl]
              exact q_no rfl ⟨_, _, _, rfl, (s1516.trans s17).trans s18⟩
            · rintro σ Hc ⟨v9, v13, v16, rfl, sc⟩
              exact ⟨_, _, _, _, _, _, _, _, _, _, rfl, sb15.trans (.of sc), hb15.ex sc⟩
          rintro σ H13 ⟨v9, v10, v11, v12, v13, v14, v15, v16, v17, v18, rfl, sb13, hb13⟩
          -- pairs
          refine q_seq (q_if ?_)
          have hD13 := sb13 _ _ nDb hD12
          have told13 : ∀ z ∈ p0 :: pt, ToldR H13 z.1 z.2 := fun z hz => ((told12 z hz).2.sb sb13).told
          obtain ⟨pl, hpl, hatl⟩ : ∃ pl ∈ p0 :: pt, atI ((p0 :: pt).map rowRef) (-1) = some (rowRef pl) := row_last p0 pt
          have hp0 : p0 ∈ p0 :: pt := List.mem_cons_self
          refine ⟨_, rfl, D, _, _, _, rfl, rfl, .l hD13, at_hd, _, rfl, 1, rfl, D, _, _, _, rfl, rfl, .l hD13, hatl, p0.1, pl.1, p0.2, pl.2, rfl, told13 p0 hp0, told13 pl hpl, (told12 p0 hp0).1.pre, (told12 pl hpl).1.pre, fun H14 s14 => ⟨true, rfl, ?_⟩⟩
          refine ⟨_, rfl, 1, rfl, D, _, _, _, rfl, rfl, .l (s14 _ _ hD13), hatl, _, rfl, D, _, _, _, rfl, rfl, .l (s14 _ _ hD13), at_hd, pl.1, p0.1, pl.2, p0.2, rfl, (told13 pl hpl).ex s14, (told13 p0 hp0).ex s14, (told12 pl hpl).1.pre, (told12 p0 hp0).1.pre, fun H15 s15 => ⟨true, rfl, ?_⟩⟩
          refine q_no rfl ?_
          dsimp only
          have sb15 : SameBut b H12 H15 := sb13.trans (.of (s14.trans s15))
          have hb15 := hb13.ex (s14.trans s15)
          refine q_seq ?_
          refine ⟨_, rfl, b, 4, rfl, hb15, by decide, by decide, fun x y z d dl du => ?_⟩
          have hb16 : Box (upd H15 b (bx x y z)) b := ⟨_, _, _, upd_same⟩
          have sb16 : SameBut b H12 (upd H15 b (bx x y z)) := sb15.trans (SameBut.upd b _ _)
          generalize upd H15 b (bx x y z) = H16 at hb16 sb16
          refine ⟨_, rfl, b, 9, rfl, hb16, by decide, by decide, fun x' y' z' t tl tu => ⟨_, _, rfl, ?_⟩⟩
          have hb17 : Box (upd H16 b (bx x' y' z')) b := ⟨_, _, _, upd_same⟩
          have sb17 : SameBut b H12 (upd H16 b (bx x' y' z')) := sb16.trans (SameBut.upd b _ _)
          generalize upd H16 b (bx x' y' z') = H17 at hb17 sb17
          have nMb : M ≠ b := fun z => by
            have := Box.ne hb5 nM
            exact this z
          have hM17 := sb17 _ _ nMb hM12
          obtain ⟨g, rfl⟩ : ∃ g : Nat, d = (g : Int) := ⟨d.toNat, by omega⟩
          have rz0 : RowR (He.ga K "Row") H17 z0.1 z0.2 := RowAt.sb hb12 sb17 (rows12 z0 List.mem_cons_self)
          have nz0 := nz z0 List.mem_cons_self
          have lz0 := nz0.le
          have ez0 : ∀ n, z0.2.T n = p0.2.T n := fun n => by
            have := eTz n
            rw [List.map_cons, List.map_cons] at this
            exact (List.cons.inj this).1
          dsimp only
          refine ⟨_, rfl, M, _, _, _, rfl, rfl, .l hM17, at_hd, _, rfl, _, rfl, z0.1, z0.2, g, t, rfl, rz0, nz0.ok, by omega, by omega, fun xm H18 rm s18 hxm okm em => ?_⟩
          have sb18 : SameBut b H12 H18 := sb17.trans (.of s18)
          have hb18 := hb17.ex s18
          refine q_name ?_
          refine ⟨40, rfl, by decide, by decide, ?_⟩
          refine for_range (fun i σ Hc => ∃ (v9 v14 : Option V), σ = [some (.ref a), v1, some (.ref b), some (.int (j : Int)), some (.ref D), some (.ref M), some (.ref Hd), some (.ref xh), some (.ref xl), v9, some (.int (g : Int)), some (.int t), some (.ref xm), v13, v14, v15, v16, v17, v18] ∧ Same H18 Hc) ⟨_, _, rfl, Same.refl H18⟩ ?_ ?_
          · rintro n σ Hc hn ⟨v9, v14, rfl, sc⟩
            rw [show (0 : Int) + (n : Int) = (n : Int) by omega]
            have sbc : SameBut b H12 Hc := sb18.trans (.of sc)
            have hDc := sbc _ _ nDb hD12
            have t0 := ((told12 p0 hp0).2.sb sbc).told
            have rmc := RowAt.ex sc hxm
            obtain ⟨dm, m1, m2, hm1, hm2, hm3⟩ := id rmc
            have th0' : isThingV (rm.T n) = true := RV.thing okm n
            have em' : rm.T n = if n < g then .non else addV t (p0.2.T (n - g)) := by
              rw [em]
              unfold mvT
              rw [ez0]
            have pre0 := (told12 p0 hp0).1.pre
            have thp : isThingV (p0.2.T (n - g)) = true := by
              rw [← pre0.T]
              exact RV.thing pre0.ok _
            refine q_name ?_
            refine q_seq (q_asg ?_)
            refine ⟨_, rfl, _, rfl, _, _, rfl, rfl, _, rfl, ?_⟩
            by_cases c : n < g
            · rw [decide_eq_false (show ¬ (g : Int) ≤ (n : Int) by omega)]
              rw [if_pos c] at em'
              refine ⟨_, rfl, xm, dm, _, rfl, hm1, rfl, _, rfl, xm, rm, n, rfl, rmc, okm, _, rfl, rfl, _, rfl, ?_⟩
              rw [em']
              exact ⟨rfl, _, rfl, q_no rfl ⟨_, _, rfl, sc⟩⟩
            · rw [decide_eq_true (show (g : Int) ≤ (n : Int) by omega)]
              rw [if_neg c] at em'
              refine ⟨_, rfl, D, _, _, _, rfl, rfl, .l hDc, at_hd, _, rfl, _, rfl, _, _, rfl, rfl, p0.1, p0.2, n - g, ?_, t0, pre0, ?_⟩
              · rw [show ((n - g : Nat) : Int) = (n : Int) - (g : Int) by omega]
                rfl
              refine ⟨_, rfl, xm, dm, _, rfl, hm1, rfl, _, rfl, xm, rm, n, rfl, rmc, okm, _, rfl, rfl, _, rfl, ?_⟩
              rw [em']
              revert thp
              cases p0.2.T (n - g) with
              | non => exact fun _ => ⟨rfl, _, rfl, q_no rfl ⟨_, _, rfl, sc⟩⟩
              | int v =>
                intro _
                refine ⟨_, rfl, _, rfl, _, _, rfl, rfl, rfl, _, rfl, ?_⟩
                rw [decide_eq_true (show addV t (V.int v) = V.int (v + t) from rfl)]
                exact q_no rfl ⟨_, _, rfl, sc⟩
              | _ => exact fun z => nomatch z
          · rintro σ Hc ⟨v9, v14, rfl, sc⟩
            exact ⟨_, _, _, _, _, _, _, _, _, _, _, _, _, _, _, _, _, rfl, (sb2.trans sbA).trans (sb18.trans (.of sc)), hb18.ex sc⟩
        · rintro σ Hc ⟨v1, v3, v4, v5, v6, v7, v8, v9, v10, v11, v12, v13, v14, v15, v16, v17, v18, rfl, sbc, hbc⟩
          refine ⟨_, _, _, _, _, _, _, _, _, _, _, _, _, _, _, _, _, _, rfl, ?_⟩
          intro a' o' ha'
          have h1' := s1 a' o' (sH a' o' ha')
          exact sbc a' o' (ne_of_none (sH a' o' ha') nb) h1'
      · rintro σ Hc ⟨v1, v2, v3, v4, v5, v6, v7, v8, v9, v10, v11, v12, v13, v14, v15, v16, v17, v18, rfl, sH⟩
        exact ⟨_, _, _, _, _, _, _, _, _, _, _, _, _, _, _, _, _, _, rfl⟩
    · rintro σ Hc ⟨v1, v2, v3, v4, v5, v6, v7, v8, v9, v10, v11, v12, v13, v14, v15, v16, v17, v18, rfl⟩
      have th0 : ∀ y ∈ ([] : List V), isTh y = true := fun y hy => nomatch hy
      have thN : ∀ y ∈ [V.non], isTh y = true := fun y hy => by
        rw [List.mem_singleton.mp hy]
        rfl
      refine q_seq (q_if ?_)
      -- first_above
      refine ⟨by show 0 ≤ sizeLine; decide, fun l1 nl1 => ?_⟩
      have s1 := same_new (o := .lst []) nl1
      have e1 : (upd Hc l1 (.lst [])) l1 = some (.lst []) := upd_same
      generalize upd Hc l1 (.lst []) = H1 at s1 e1
      refine ⟨_, _, rfl, rfl, by show 1 ≤ sizeLine; decide, fun l2 nl2 => ?_⟩
      have e2 : (upd H1 l2 (.lst [.int (0 - 99)])) l2 = some (.lst [.int (0 - 99)]) := upd_same
      have s2 := same_new (o := .lst [.int (0 - 99)]) nl2
      generalize upd H1 l2 (.lst [.int (0 - 99)]) = H2 at s2 e2
      refine ⟨l2, _, _, rfl, rfl, e2, by decide, by decide, by show 1 * 12 ≤ sizeLine; decide, fun l3 nl3 => ?_⟩
      have eR : (List.replicate (Int.toNat 12) [V.int (0 - 99)]).flatten = (List.replicate 12 (-99 : Int)).map V.int := by decide
      rw [eR]
      have e3 : (upd H2 l3 (.lst ((List.replicate 12 (-99 : Int)).map V.int))) l3 = some (.lst ((List.replicate 12 (-99 : Int)).map V.int)) := upd_same
      have s3 := same_new (o := .lst ((List.replicate 12 (-99 : Int)).map V.int)) nl3
      generalize upd H2 l3 (.lst ((List.replicate 12 (-99 : Int)).map V.int)) = H3 at s3 e3
      refine fun x dx nx ndx hn => init_mk (gs := []) (zs := List.replicate 12 (-99)) (k := 1) (.l (s3 _ _ (s2 _ _ e1))) (.l e3) (by decide) (by decide) (by decide) (by decide) (fun y hy => nomatch hy) risA nx ndx hn fun H4 s4 hx => ⟨rfl, ?_⟩
      refine ⟨by show 0 ≤ sizeLine; decide, fun l4 nl4 => ⟨by show 1 ≤ sizeLine; decide, fun l5 nl5 => ?_⟩⟩
      have s5 := same_new (o := .lst []) nl4
      have s6 := same_new (o := .lst [.int 99]) nl5
      have e4 := s6 _ _ (upd_same (H := H4) (a := l4) (o := .lst []))
      have e5 : (upd (upd H4 l4 (.lst [])) l5 (.lst [.int 99])) l5 = some (.lst [.int 99]) := upd_same
      have s56 := s5.trans s6
      generalize upd (upd H4 l4 (.lst [])) l5 (.lst [.int 99]) = H5 at s56 e4 e5
      refine fun y dy ny ndy hny => init_mk (gs := []) (zs := [99]) (k := 0) (.l e4) (.l e5) (by decide) (by decide) (by decide) (by decide) (fun y hy => nomatch hy) risB ny ndy hny fun H6 s7 hy => ⟨rfl, ?_⟩
      have okA : (RV.mk [] (List.replicate 12 (-99)) 1).Ok := RV.mk_ok (by decide) (by decide) (by decide) (by decide) (by decide) (fun y hy => nomatch hy) risA
      have okB : (RV.mk [] [99] 0).Ok := RV.mk_ok (by decide) (by decide) (by decide) (by decide) (by decide) (fun y hy => nomatch hy) risB
      have hx6 := RowAt.ex (s56.trans s7) hx
      have d1 : (RV.mk [] (List.replicate 12 (-99)) 1).n ∣ Nat.lcm (RV.mk [] (List.replicate 12 (-99)) 1).n (RV.mk [] [99] 0).n := Nat.dvd_lcm_left _ _
      have d2 : (RV.mk [] [99] 0).n ∣ Nat.lcm (RV.mk [] (List.replicate 12 (-99)) 1).n (RV.mk [] [99] 0).n := Nat.dvd_lcm_right _ _
      have t0 : 0 < Nat.lcm (RV.mk [] (List.replicate 12 (-99)) 1).n (RV.mk [] [99] 0).n := Nat.lcm_pos okA.n0 okB.n0
      refine ⟨x, y, RV.mk [] (List.replicate 12 (-99)) 1, RV.mk [] [99] 0, _, _, rfl, hx6, hy, okA, okB, rfl, rfl, abv_wit okA okB t0 d1 d2, fun v H7 s8 hv => ?_⟩
      have ev : v = .int 2388 := by
        rcases hv with ⟨n, rfl, a1, a2⟩ | ⟨_, h2, h3⟩
        · rw [abvAB] at a1
          have a1 := of_decide_eq_true a1
          have c : ¬ 2388 < n := fun z => by
            have := a2 2388 z
            rw [abvAB] at this
            exact absurd this (by decide)
          rw [show n = 2388 by omega]
          rfl
        · have := abv_none okA okB t0 d1 d2 rfl h2 h3 2388
          rw [abvAB] at this
          exact absurd this (by decide)
      rw [ev]
      refine ⟨rfl, _, rfl, ?_⟩
      rw [decide_eq_true rfl]
      refine q_no rfl ?_
      dsimp only
      refine ⟨rfl, fun y1 H8 s9 hy1 => ⟨y1, .emp, 3, 4, rfl, hy1, emp_ok, by decide, by decide, fun y2 H9 r2 s10 hy2 ok2 er2 => ⟨rfl, fun y3 H10 s11 hy3 => ?_⟩⟩⟩
      have r2e : r2 = .emp := all_non ok2 fun n => by
        rw [er2]
        unfold mvT
        split <;> rfl
      subst r2e
      have hy2' : RowAt (He.ga K "Row") H10 y2 [] [.non] 0 := RowAt.ex s11 hy2
      obtain ⟨dy2, a1, a2, ha0, ha1, ha2⟩ := id hy2'
      refine .mk y2 dy2 _ (.ref _) rfl ha0 (RowAt.ty RR T hy3) notFirst_self ⟨y2, .ref y3, _, _, _, rfl, hy2', .inr ⟨y3, _, _, _, rfl, hy3, th0, thN, th0, thN, fun H11 s12 => ⟨_, rfl, true, ?_, ?_⟩⟩⟩
      · rw [decide_eq_true ⟨rfl, rfl, rfl⟩]
        rfl
      refine ⟨rfl, fun y4 H12 s13 hy4 => ⟨by show 1 ≤ sizeLine; decide, fun l6 nl6 => ?_⟩⟩
      have s14 := same_new (o := .lst [.ref y4]) nl6
      have e14 : (upd H12 l6 (.lst [.ref y4])) l6 = some (.lst [.ref y4]) := upd_same
      generalize upd H12 l6 (.lst [.ref y4]) = H13 at s14 e14
      have hy4' : RowAt (He.ga K "Row") H13 y4 [] [.non] 0 := RowAt.ex s14 hy4
      refine ⟨l6, (y4, .emp), [], rfl, .l e14, by decide, fun z hz => ?_, fun y5 H14 r5 s15 hy5 ok5 e5 _ => ⟨rfl, fun y6 H15 s16 hy6 => ?_⟩⟩
      · rw [List.mem_singleton.mp hz]
        exact ⟨hy4', .inl rfl⟩
      have r5e : r5 = .emp := e5 rfl
      subst r5e
      have hy5' : RowAt (He.ga K "Row") H15 y5 [] [.non] 0 := RowAt.ex s16 hy5
      obtain ⟨dy5, b1, b2, hb0, hb1, hb2⟩ := id hy5'
      refine .mk y5 dy5 _ (.ref _) rfl hb0 (RowAt.ty RR T hy6) notFirst_self ⟨y5, .ref y6, _, _, _, rfl, hy5', .inr ⟨y6, _, _, _, rfl, hy6, th0, thN, th0, thN, fun H16 s17 => ⟨_, rfl, true, ?_, ?_⟩⟩⟩
      · rw [decide_eq_true ⟨rfl, rfl, rfl⟩]
        rfl
      refine ⟨rfl, fun y7 H17 s18 hy7 => ⟨rfl, fun y8 H18 s19 hy8 => ?_⟩⟩
      have hy7' : RowR (He.ga K "Row") H18 y7 .emp := RowAt.ex s19 hy7
      refine ⟨y7, y8, .emp, .emp, _, _, rfl, hy7', hy8, emp_ok, emp_ok, rfl, rfl, (fun h => absurd h (by decide)), fun v H19 s20 hv => ?_⟩
      rcases hv with ⟨_, n, h⟩ | ⟨rfl, _⟩
      · cases h
      · exact q H19
end
end WW

set_option Elab.async false
set_option linter.all false
set_option maxRecDepth 100000
set_option maxHeartbeats 0
namespace WW
open PySem PySem.Spec PyProof.Rows L2
def d_l_take : He5.DefA := ⟨fun K => He.fAd K ("_law_take", none), "_law_take", "_law_take", defArgs s_l_take, defBody s_l_take, defScope s_l_take, [], []⟩
def d_l_pick : He5.DefA := ⟨fun K => He.fAd K ("_law_pick", none), "_law_pick", "_law_pick", defArgs s_l_pick, defBody s_l_pick, defScope s_l_pick, [], []⟩
def d_is_integer : He5.DefA := ⟨fun K => He.fAd K ("is_integer", none), "is_integer", "is_integer", defArgs s_is_integer, defBody s_is_integer, defScope s_is_integer, [], []⟩
def d_is_number : He5.DefA := ⟨fun K => He.fAd K ("is_number", none), "is_number", "is_number", defArgs s_is_number, defBody s_is_number, defScope s_is_number, [], []⟩
def d_is_sequence : He5.DefA := ⟨fun K => He.fAd K ("is_sequence", none), "is_sequence", "is_sequence", defArgs s_is_sequence, defBody s_is_sequence, defScope s_is_sequence, [], []⟩
def d_is_thing : He5.DefA := ⟨fun K => He.fAd K ("is_thing", none), "is_thing", "is_thing", defArgs s_is_thing, defBody s_is_thing, defScope s_is_thing, [], []⟩
def d_is_below : He5.DefA := ⟨fun K => He.fAd K ("is_below", none), "is_below", "is_below", defArgs s_is_below, defBody s_is_below, defScope s_is_below, [], []⟩
def d_are_rising : He5.DefA := ⟨fun K => He.fAd K ("are_rising", none), "are_rising", "are_rising", defArgs s_are_rising, defBody s_are_rising, defScope s_are_rising, [], []⟩
def d_wrong_word : He5.DefA := ⟨fun K => He.fAd K ("wrong_word", none), "wrong_word", "wrong_word", defArgs s_wrong_word, defBody s_wrong_word, defScope s_wrong_word, [], []⟩
def d_is_turn : He5.DefA := ⟨fun K => He.fAd K ("is_turn", none), "is_turn", "is_turn", defArgs s_is_turn, defBody s_is_turn, defScope s_is_turn, [], []⟩
def d_least_form : He5.DefA := ⟨fun K => He.fAd K ("least_form", none), "least_form", "least_form", defArgs s_least_form, defBody s_least_form, defScope s_least_form, [], []⟩
def d_Row___init__ : He5.DefA := ⟨fun K => He.fAd K ("Row", some "__init__"), "__init__", "Row.__init__", defArgs s_Row___init__, defBody s_Row___init__, defScope s_Row___init__, [.int 0], []⟩
def d_l_box : He5.DefA := ⟨fun K => He.fAd K ("_law_box", none), "_law_box", "_law_box", defArgs s_l_box, defBody s_l_box, defScope s_l_box, [], []⟩
def d_l_row : He5.DefA := ⟨fun K => He.fAd K ("_law_row", none), "_law_row", "_law_row", defArgs s_l_row, defBody s_l_row, defScope s_l_row, [], []⟩
def d_l_time : He5.DefA := ⟨fun K => He.fAd K ("_law_time", none), "_law_time", "_law_time", defArgs s_l_time, defBody s_l_time, defScope s_l_time, [], []⟩
def d_l_made : He5.DefA := ⟨fun K => He.fAd K ("_law_made", none), "_law_made", "_law_made", defArgs s_l_made, defBody s_l_made, defScope s_l_made, [], []⟩
def d_divisor : He5.DefA := ⟨fun K => He.fAd K ("divisor", none), "divisor", "divisor", defArgs s_divisor, defBody s_divisor, defScope s_divisor, [], []⟩
def d_common : He5.DefA := ⟨fun K => He.fAd K ("common", none), "common", "common", defArgs s_common, defBody s_common, defScope s_common, [], []⟩
def d_ceiling : He5.DefA := ⟨fun K => He.fAd K ("ceiling", none), "ceiling", "ceiling", defArgs s_ceiling, defBody s_ceiling, defScope s_ceiling, [], []⟩
def d_Row_is_empty : He5.DefA := ⟨fun K => He5.wf K (He.ga K "Row") "property" "is_empty", "is_empty", "Row.is_empty", defArgs s_Row_is_empty, defBody s_Row_is_empty, defScope s_Row_is_empty, [], []⟩
def d_Row_time : He5.DefA := ⟨fun K => He.fAd K ("Row", some "time"), "time", "Row.time", defArgs s_Row_time, defBody s_Row_time, defScope s_Row_time, [], []⟩
def d_Row_parts : He5.DefA := ⟨fun K => He.fAd K ("Row", some "parts"), "parts", "Row.parts", defArgs s_Row_parts, defBody s_Row_parts, defScope s_Row_parts, [], []⟩
def d_Row___eq__ : He5.DefA := ⟨fun K => He.fAd K ("Row", some "__eq__"), "__eq__", "Row.__eq__", defArgs s_Row___eq__, defBody s_Row___eq__, defScope s_Row___eq__, [], []⟩
def d_empty : He5.DefA := ⟨fun K => He.fAd K ("empty", none), "empty", "empty", defArgs s_empty, defBody s_empty, defScope s_empty, [], []⟩
def d_moved : He5.DefA := ⟨fun K => He.fAd K ("moved", none), "moved", "moved", defArgs s_moved, defBody s_moved, defScope s_moved, [], []⟩
def d_later : He5.DefA := ⟨fun K => He.fAd K ("later", none), "later", "later", defArgs s_later, defBody s_later, defScope s_later, [], []⟩
def d_window : He5.DefA := ⟨fun K => He.fAd K ("window", none), "window", "window", defArgs s_window, defBody s_window, defScope s_window, [], []⟩
def d_growth : He5.DefA := ⟨fun K => He.fAd K ("growth", none), "growth", "growth", defArgs s_growth, defBody s_growth, defScope s_growth, [], []⟩
def d_first_above : He5.DefA := ⟨fun K => He.fAd K ("first_above", none), "first_above", "first_above", defArgs s_first_above, defBody s_first_above, defScope s_first_above, [], []⟩
def d_is_at_most : He5.DefA := ⟨fun K => He.fAd K ("is_at_most", none), "is_at_most", "is_at_most", defArgs s_is_at_most, defBody s_is_at_most, defScope s_is_at_most, [], []⟩
def d_row_of_values : He5.DefA := ⟨fun K => He.fAd K ("row_of_values", none), "row_of_values", "row_of_values", defArgs s_row_of_values, defBody s_row_of_values, defScope s_row_of_values, [], []⟩
def d_greater : He5.DefA := ⟨fun K => He.fAd K ("greater", none), "greater", "greater", defArgs s_greater, defBody s_greater, defScope s_greater, [], []⟩
def d_lesser : He5.DefA := ⟨fun K => He.fAd K ("lesser", none), "lesser", "lesser", defArgs s_lesser, defBody s_lesser, defScope s_lesser, [], []⟩
def d_parted : He5.DefA := ⟨fun K => He.fAd K ("parted", none), "parted", "parted", defArgs s_parted, defBody s_parted, defScope s_parted, [], []⟩
def d_greatest_of_two : He5.DefA := ⟨fun K => He.fAd K ("greatest_of_two", none), "greatest_of_two", "greatest_of_two", defArgs s_greatest_of_two, defBody s_greatest_of_two, defScope s_greatest_of_two, [], []⟩
def d_least_of_two : He5.DefA := ⟨fun K => He.fAd K ("least_of_two", none), "least_of_two", "least_of_two", defArgs s_least_of_two, defBody s_least_of_two, defScope s_least_of_two, [], []⟩
def d_greatest : He5.DefA := ⟨fun K => He.fAd K ("greatest", none), "greatest", "greatest", defArgs s_greatest, defBody s_greatest, defScope s_greatest, [], []⟩
def d_least : He5.DefA := ⟨fun K => He.fAd K ("least", none), "least", "least", defArgs s_least, defBody s_least, defScope s_least, [], []⟩
def d_l_high : He5.DefA := ⟨fun K => He.fAd K ("_law_high", none), "_law_high", "_law_high", defArgs s_l_high, defBody s_l_high, defScope s_l_high, [], []⟩
def d_l_low : He5.DefA := ⟨fun K => He.fAd K ("_law_low", none), "_law_low", "_law_low", defArgs s_l_low, defBody s_l_low, defScope s_l_low, [], []⟩
def d_l_is_above : He5.DefA := ⟨fun K => He.fAd K ("_law_is_above", none), "_law_is_above", "_law_is_above", defArgs s_l_is_above, defBody s_l_is_above, defScope s_l_is_above, [], []⟩
def d_l_pair_right : He5.DefA := ⟨fun K => He.fAd K ("_law_pair_right", none), "_law_pair_right", "_law_pair_right", defArgs s_l_pair_right, defBody s_l_pair_right, defScope s_l_pair_right, [], []⟩
def d_law : He5.DefA := ⟨fun K => He.fAd K ("law", none), "law", "law", defArgs s_law, defBody s_law, defScope s_law, [], []⟩
def steps : Nat := 4000
def fn : List He5.DefA := ([d_l_take, d_l_pick, d_is_integer, d_is_number, d_is_sequence, d_is_thing, d_is_below, d_are_rising, d_wrong_word, d_is_turn, d_least_form, d_Row___init__] : List He5.DefA) ++ ([d_l_box, d_l_row, d_l_time, d_l_made, d_divisor, d_common, d_ceiling, d_Row_is_empty, d_Row_time, d_Row_parts, d_Row___eq__, d_empty] : List He5.DefA) ++ ([d_moved, d_later, d_window, d_growth, d_first_above, d_is_at_most, d_row_of_values, d_greater, d_lesser, d_parted, d_greatest_of_two, d_least_of_two] : List He5.DefA) ++ ([d_greatest, d_least, d_l_high, d_l_low, d_l_is_above, d_l_pair_right, d_law] : List He5.DefA)
def fa : List He.Fa := ([.glo "_law_take", .glo "_law_pick", .glo "is_integer", .glo "is_number", .glo "is_sequence", .glo "is_thing", .glo "is_below", .glo "are_rising", .glo "wrong_word", .glo "is_turn", .glo "least_form", .glo "_law_box"] : List He.Fa) ++ ([.glo "_law_row", .glo "_law_time", .glo "_law_made", .glo "divisor", .glo "common", .glo "ceiling", .glo "empty", .glo "moved", .glo "later", .glo "window", .glo "growth", .glo "first_above"] : List He.Fa) ++ ([.glo "is_at_most", .glo "row_of_values", .glo "greater", .glo "lesser", .glo "parted", .glo "greatest_of_two", .glo "least_of_two", .glo "greatest", .glo "least", .glo "_law_high", .glo "_law_low", .glo "_law_is_above"] : List He.Fa) ++ ([.glo "_law_pair_right", .glo "law", .free "int", .free "len", .free "isinstance", .free "bool", .free "list", .free "tuple", .free "any", .free "all", .free "range", .free "abs"] : List He.Fa) ++ ([.free "max", .free "min", .free "zip", .cls "Row", .noat "Row" "first", .noat "Row" "again", .noat "Row" "more", .meth "Row" "time", .meth "Row" "parts", .mkr "Row", .glo "Row"] : List He.Fa)
def loose : List Str := (["_wall", "WaitError", "InvalidRow", "InvalidText", "DIGITS", "is_integer", "is_number", "is_sequence", "number_in", "integer_in", "divisor", "common"] : List Str) ++ (["ceiling", "MOST_DIGITS", "is_thing", "is_below", "are_rising", "wrong_word", "is_turn", "least_form", "Row", "word_of", "things_in", "empty"] : List Str) ++ (["moved", "later", "window", "growth", "first_above", "is_at_most", "row_of_values", "greater", "lesser", "parted", "greatest_of_two", "least_of_two"] : List Str) ++ (["greatest", "least", "_law_box", "_law_take", "_law_pick", "_law_mixed", "_law_row", "_law_time", "_law_times", "_law_made", "_law_high", "_law_low"] : List Str) ++ (["_law_is_above", "_law_pair_right"] : List Str)
abbrev R : PySem.W.OpenRow := PySem.W.OpenLaw.row PySem.Challenge.rw_waitworks_k06_greatest_and_least_rows
def exK (K : PySem.W.Frag) : Bool := tyB K (He.ga K "Row") && (propB K (He.ga K "Row") "is_empty" && (eqB K (He.ga K "Row")))
abbrev hk : PySem.W.Hook := hookW 9 fa fn exK
def ob (s : PySem.W.SharedT) : He.AlD × Bool := obsW 9 fa fn exK (HandSHeadRun.getT s)
theorem ob_eq (s : PySem.W.SharedT) : ob s = hk.obs s.abs := obsW_eq (HandSHeadRun.getT_eq s)
theorem run (w : World) : HandSHeadRun.RunEq R (PySem.W.view R.prog [55]) hk ob steps loose w := by
  intro os
  kernel_rfl
/-- Row(a, b, c): every parameter is written, a default stands behind -/
theorem init_binds {K : PySem.W.Frag} {f : Addr} {fd : FuncData} (F : FunD K "__init__" "Row.__init__" (defArgs s_Row___init__) (defBody s_Row___init__) (defScope s_Row___init__) [.int 0] [] f fd) : Binds K fd ["self", "first", "again", "more"] [] := by
  obtain ⟨ds, v, b⟩ := F.binds1 (ps := ["self", "first", "again", "more"]) 4 1 (List.cons_ne_nil _ _) rfl fun T kV doc pm an cdv ct us its hu hi => by
    match us, hu, its, hi with
    | [u1, u2, u3, u4], _, [i1], _ => exact ⟨_, rfl, rfl⟩
  cases v
  exact b
theorem facts {P : Program} {w : World} {K : PySem.W.Frag} {h : Heap} {mg : Str → Option Value} {f : Addr} (X : K.In h) (G : h.Ns mainGlobals mg) (hfa : mg ("law" : Str) = some (.ref f)) (c : SaysW fa fn exK K) :
    ∃ fd : FuncData, (∀ (s : Shared) (v : Value), BindsTo s fd ⟨[v], []⟩ [("_law_script", v)]) ∧ ∀ base : Heap, K.In base → base.Ns mainGlobals mg → FnOk P w K mg base CX0 9 f fd ["_law_script"] (spLaw K) := by
  obtain ⟨c, cx⟩ := c
  obtain ⟨x_ty, cx⟩ := He.ba cx
  obtain ⟨x_is_empty, cx⟩ := He.ba cx
  have x_eq := cx
  have m_int := He.free_ok X G (c.fact 38 (f := .free "int") rfl)
  have m_len := He.free_ok X G (c.fact 39 (f := .free "len") rfl)
  have m_isinstance := He.free_ok X G (c.fact 40 (f := .free "isinstance") rfl)
  have m_bool := He.free_ok X G (c.fact 41 (f := .free "bool") rfl)
  have m_list := He.free_ok X G (c.fact 42 (f := .free "list") rfl)
  have m_tuple := He.free_ok X G (c.fact 43 (f := .free "tuple") rfl)
  have m_any := He.free_ok X G (c.fact 44 (f := .free "any") rfl)
  have m_all := He.free_ok X G (c.fact 45 (f := .free "all") rfl)
  have m_range := He.free_ok X G (c.fact 46 (f := .free "range") rfl)
  have m_abs := He.free_ok X G (c.fact 47 (f := .free "abs") rfl)
  have m_max := He.free_ok X G (c.fact 48 (f := .free "max") rfl)
  have m_min := He.free_ok X G (c.fact 49 (f := .free "min") rfl)
  have m_zip := He.free_ok X G (c.fact 50 (f := .free "zip") rfl)
  have m_Row := He.glo_ok X G (c.fact 58 (f := .glo "Row") rfl)
  have RR : RowC K (He.ga K "Row") := ⟨He.cls_ok (c.fact 51 (f := .cls "Row") rfl), He.noat_ok (c.fact 52 (f := .noat "Row" "first") rfl), He.noat_ok (c.fact 53 (f := .noat "Row" "again") rfl), He.noat_ok (c.fact 54 (f := .noat "Row" "more") rfl)⟩
  have tyc := tyB_ok x_ty
  obtain ⟨fd_l_take, F_l_take⟩ := c.def_ 0 (d := d_l_take) rfl
  obtain ⟨fd_l_pick, F_l_pick⟩ := c.def_ 1 (d := d_l_pick) rfl
  obtain ⟨fd_is_integer, F_is_integer⟩ := c.def_ 2 (d := d_is_integer) rfl
  obtain ⟨fd_is_number, F_is_number⟩ := c.def_ 3 (d := d_is_number) rfl
  obtain ⟨fd_is_sequence, F_is_sequence⟩ := c.def_ 4 (d := d_is_sequence) rfl
  obtain ⟨fd_is_thing, F_is_thing⟩ := c.def_ 5 (d := d_is_thing) rfl
  obtain ⟨fd_is_below, F_is_below⟩ := c.def_ 6 (d := d_is_below) rfl
  obtain ⟨fd_are_rising, F_are_rising⟩ := c.def_ 7 (d := d_are_rising) rfl
  obtain ⟨fd_wrong_word, F_wrong_word⟩ := c.def_ 8 (d := d_wrong_word) rfl
  obtain ⟨fd_is_turn, F_is_turn⟩ := c.def_ 9 (d := d_is_turn) rfl
  obtain ⟨fd_least_form, F_least_form⟩ := c.def_ 10 (d := d_least_form) rfl
  obtain ⟨fd_Row___init__, F_Row___init__⟩ := c.def_ 11 (d := d_Row___init__) rfl
  obtain ⟨fd_l_box, F_l_box⟩ := c.def_ 12 (d := d_l_box) rfl
  obtain ⟨fd_l_row, F_l_row⟩ := c.def_ 13 (d := d_l_row) rfl
  obtain ⟨fd_l_time, F_l_time⟩ := c.def_ 14 (d := d_l_time) rfl
  obtain ⟨fd_l_made, F_l_made⟩ := c.def_ 15 (d := d_l_made) rfl
  obtain ⟨fd_divisor, F_divisor⟩ := c.def_ 16 (d := d_divisor) rfl
  obtain ⟨fd_common, F_common⟩ := c.def_ 17 (d := d_common) rfl
  obtain ⟨fd_ceiling, F_ceiling⟩ := c.def_ 18 (d := d_ceiling) rfl
  obtain ⟨fd_Row_is_empty, F_Row_is_empty⟩ := c.def_ 19 (d := d_Row_is_empty) rfl
  obtain ⟨fd_Row_time, F_Row_time⟩ := c.def_ 20 (d := d_Row_time) rfl
  obtain ⟨fd_Row_parts, F_Row_parts⟩ := c.def_ 21 (d := d_Row_parts) rfl
  obtain ⟨fd_Row___eq__, F_Row___eq__⟩ := c.def_ 22 (d := d_Row___eq__) rfl
  obtain ⟨fd_empty, F_empty⟩ := c.def_ 23 (d := d_empty) rfl
  obtain ⟨fd_moved, F_moved⟩ := c.def_ 24 (d := d_moved) rfl
  obtain ⟨fd_later, F_later⟩ := c.def_ 25 (d := d_later) rfl
  obtain ⟨fd_window, F_window⟩ := c.def_ 26 (d := d_window) rfl
  obtain ⟨fd_growth, F_growth⟩ := c.def_ 27 (d := d_growth) rfl
  obtain ⟨fd_first_above, F_first_above⟩ := c.def_ 28 (d := d_first_above) rfl
  obtain ⟨fd_is_at_most, F_is_at_most⟩ := c.def_ 29 (d := d_is_at_most) rfl
  obtain ⟨fd_row_of_values, F_row_of_values⟩ := c.def_ 30 (d := d_row_of_values) rfl
  obtain ⟨fd_greater, F_greater⟩ := c.def_ 31 (d := d_greater) rfl
  obtain ⟨fd_lesser, F_lesser⟩ := c.def_ 32 (d := d_lesser) rfl
  obtain ⟨fd_parted, F_parted⟩ := c.def_ 33 (d := d_parted) rfl
  obtain ⟨fd_greatest_of_two, F_greatest_of_two⟩ := c.def_ 34 (d := d_greatest_of_two) rfl
  obtain ⟨fd_least_of_two, F_least_of_two⟩ := c.def_ 35 (d := d_least_of_two) rfl
  obtain ⟨fd_greatest, F_greatest⟩ := c.def_ 36 (d := d_greatest) rfl
  obtain ⟨fd_least, F_least⟩ := c.def_ 37 (d := d_least) rfl
  obtain ⟨fd_l_high, F_l_high⟩ := c.def_ 38 (d := d_l_high) rfl
  obtain ⟨fd_l_low, F_l_low⟩ := c.def_ 39 (d := d_l_low) rfl
  obtain ⟨fd_l_is_above, F_l_is_above⟩ := c.def_ 40 (d := d_l_is_above) rfl
  obtain ⟨fd_l_pair_right, F_l_pair_right⟩ := c.def_ 41 (d := d_l_pair_right) rfl
  obtain ⟨fd_law, F_law⟩ := c.def_ 42 (d := d_law) rfl
  have e := hfa.symm.trans (He.glo_ok X G (c.fact 37 (f := .glo "law") rfl))
  cases e
  have bL := FunD.bindsA (ps := ["_law_script"]) F_law fun _ _ _ _ _ _ us hl => match us, hl with | [_], _ => rfl
  refine ⟨fd_law, fun s v => bL s [v] rfl, fun base _ _ => ?_⟩
  have g__law_take : FnAt P w K mg base CX0 1 "_law_take" ["_law_box_here", "_law_many"] (spTake) := ⟨⟨_, ok_take F_l_take m_int, F_l_take.bindsN fun _ _ _ _ _ _ us hl => match us, hl with | [_, _], _ => rfl⟩, F_l_take.kp, He.glo_ok X G (c.fact 0 (f := .glo "_law_take") rfl)⟩
  have g__law_pick : FnAt P w K mg base CX0 2 "_law_pick" ["_law_box_here", "_law_some"] (spPick K) := ⟨⟨_, ok_pick F_l_pick m_len g__law_take, F_l_pick.bindsN fun _ _ _ _ _ _ us hl => match us, hl with | [_, _], _ => rfl⟩, F_l_pick.kp, He.glo_ok X G (c.fact 1 (f := .glo "_law_pick") rfl)⟩
  have g_is_integer : FnAt P w K mg base CX0 1 "is_integer" ["value"] (spInteger K) := ⟨⟨_, ok_is_integer F_is_integer m_isinstance m_int m_bool, F_is_integer.bindsN fun _ _ _ _ _ _ us hl => match us, hl with | [_], _ => rfl⟩, F_is_integer.kp, He.glo_ok X G (c.fact 2 (f := .glo "is_integer") rfl)⟩
  have g_is_number : FnAt P w K mg base CX0 2 "is_number" ["value"] (spNumber K) := ⟨⟨_, ok_is_number F_is_number g_is_integer, F_is_number.bindsN fun _ _ _ _ _ _ us hl => match us, hl with | [_], _ => rfl⟩, F_is_number.kp, He.glo_ok X G (c.fact 3 (f := .glo "is_number") rfl)⟩
  have g_is_sequence : FnAt P w K mg base CX0 1 "is_sequence" ["value"] (spSequence K) := ⟨⟨_, ok_is_sequence F_is_sequence m_isinstance m_list m_tuple, F_is_sequence.bindsN fun _ _ _ _ _ _ us hl => match us, hl with | [_], _ => rfl⟩, F_is_sequence.kp, He.glo_ok X G (c.fact 4 (f := .glo "is_sequence") rfl)⟩
  have g_is_thing : FnAt P w K mg base CX0 2 "is_thing" ["value"] (spThing K) := ⟨⟨_, ok_is_thing F_is_thing g_is_integer, F_is_thing.bindsN fun _ _ _ _ _ _ us hl => match us, hl with | [_], _ => rfl⟩, F_is_thing.kp, He.glo_ok X G (c.fact 5 (f := .glo "is_thing") rfl)⟩
  have g_is_below : FnAt P w K mg base CX0 1 "is_below" ["one", "other"] (spBelow) := ⟨⟨_, ok_is_below F_is_below , F_is_below.bindsN fun _ _ _ _ _ _ us hl => match us, hl with | [_, _], _ => rfl⟩, F_is_below.kp, He.glo_ok X G (c.fact 6 (f := .glo "is_below") rfl)⟩
  have g_are_rising : FnAt P w K mg base CX0 2 "are_rising" ["some"] (spRising K) := ⟨⟨_, ok_are_rising F_are_rising m_any m_len m_range g_is_below, F_are_rising.bindsN fun _ _ _ _ _ _ us hl => match us, hl with | [_], _ => rfl⟩, F_are_rising.kp, He.glo_ok X G (c.fact 7 (f := .glo "are_rising") rfl)⟩
  have g_wrong_word : FnAt P w K mg base CX0 3 "wrong_word" ["first", "again", "more"] (spWrong K) := ⟨⟨_, ok_wrong_word F_wrong_word m_all m_len g_is_sequence g_is_thing g_is_number g_are_rising, F_wrong_word.bindsN fun _ _ _ _ _ _ us hl => match us, hl with | [_, _, _], _ => rfl⟩, F_wrong_word.kp, He.glo_ok X G (c.fact 8 (f := .glo "wrong_word") rfl)⟩
  have g_is_turn : FnAt P w K mg base CX0 1 "is_turn" ["again", "more", "turn"] (spTurn K) := ⟨⟨_, ok_is_turn F_is_turn m_all m_len m_range, F_is_turn.bindsN fun _ _ _ _ _ _ us hl => match us, hl with | [_, _, _], _ => rfl⟩, F_is_turn.kp, He.glo_ok X G (c.fact 9 (f := .glo "is_turn") rfl)⟩
  have g_least_form : FnAt P w K mg base CX0 2 "least_form" ["first", "again", "more"] (spLeast K) := ⟨⟨_, ok_least_form F_least_form m_list m_len m_range m_tuple g_is_turn, F_least_form.bindsN fun _ _ _ _ _ _ us hl => match us, hl with | [_, _, _], _ => rfl⟩, F_least_form.kp, He.glo_ok X G (c.fact 10 (f := .glo "least_form") rfl)⟩
  have b_init := init_binds F_Row___init__
  have g_Row : MkAt P w K mg base CX0 4 "Row" ["self", "first", "again", "more"] (spInit K (He.ga K "Row")) [] := ⟨⟨_, _, [], He.mkr_ok (c.fact 57 (f := .mkr "Row") rfl), ok_Row_init F_Row___init__ RR m_tuple g_wrong_word g_least_form, .nil, b_init⟩, m_Row⟩
  have g__law_box : FnAt P w K mg base CX0 1 "_law_box" ["_law_script", "_law_k"] (spBox K) := ⟨⟨_, ok_box F_l_box m_int m_len m_abs, F_l_box.bindsN fun _ _ _ _ _ _ us hl => match us, hl with | [_, _], _ => rfl⟩, F_l_box.kp, He.glo_ok X G (c.fact 11 (f := .glo "_law_box") rfl)⟩
  have g__law_row : FnAt P w K mg base CX0 3 "_law_row" ["_law_box_here", "_law_is_low"] (spRowF) := ⟨⟨_, ok_rowF F_l_row m_int m_range g__law_take g__law_pick, F_l_row.bindsN fun _ _ _ _ _ _ us hl => match us, hl with | [_, _], _ => rfl⟩, F_l_row.kp, He.glo_ok X G (c.fact 12 (f := .glo "_law_row") rfl)⟩
  have g__law_time : FnAt P w K mg base CX0 1 "_law_time" ["_law_told", "_law_n"] (spTimeR) := ⟨⟨_, ok_timeR F_l_time m_len, F_l_time.bindsN fun _ _ _ _ _ _ us hl => match us, hl with | [_, _], _ => rfl⟩, F_l_time.kp, He.glo_ok X G (c.fact 13 (f := .glo "_law_time") rfl)⟩
  have g__law_made : FnAt P w K mg base CX0 6 "_law_made" ["_law_told"] (spMadeR (He.ga K "Row")) := ⟨⟨_, ok_madeR F_l_made g_Row, F_l_made.bindsN fun _ _ _ _ _ _ us hl => match us, hl with | [_], _ => rfl⟩, F_l_made.kp, He.glo_ok X G (c.fact 14 (f := .glo "_law_made") rfl)⟩
  have g_divisor : FnAt P w K mg base CX0 1 "divisor" ["one", "other"] (spDiv) := ⟨⟨_, ok_divisor F_divisor , F_divisor.bindsN fun _ _ _ _ _ _ us hl => match us, hl with | [_, _], _ => rfl⟩, F_divisor.kp, He.glo_ok X G (c.fact 15 (f := .glo "divisor") rfl)⟩
  have g_common : FnAt P w K mg base CX0 2 "common" ["one", "other"] (spCommon) := ⟨⟨_, ok_common F_common g_divisor, F_common.bindsN fun _ _ _ _ _ _ us hl => match us, hl with | [_, _], _ => rfl⟩, F_common.kp, He.glo_ok X G (c.fact 16 (f := .glo "common") rfl)⟩
  have g_ceiling : FnAt P w K mg base CX0 1 "ceiling" ["upper", "lower"] (spCeil) := ⟨⟨_, ok_ceiling F_ceiling , F_ceiling.bindsN fun _ _ _ _ _ _ us hl => match us, hl with | [_, _], _ => rfl⟩, F_ceiling.kp, He.glo_ok X G (c.fact 17 (f := .glo "ceiling") rfl)⟩
  have g_Row_is_empty : PrpAt P w K mg base CX0 1 (He.ga K "Row") "is_empty" ["self"] (spIsE (He.ga K "Row")) := ⟨_, _, _, propB_ok x_is_empty, ok_isE F_Row_is_empty RR, F_Row_is_empty.bindsN fun _ _ _ _ _ _ us hl => match us, hl with | [_], _ => rfl⟩
  have g_Row_time : MthAt P w K mg base CX0 1 (He.ga K "Row") "time" ["self", "n"] (spRT (He.ga K "Row")) := ⟨_, _, He.meth_ok (c.fact 55 (f := .meth "Row" "time") rfl), ok_rt F_Row_time RR m_len, F_Row_time.bindsN fun _ _ _ _ _ _ us hl => match us, hl with | [_, _], _ => rfl⟩
  have g_Row_parts : MthAt P w K mg base CX0 1 (He.ga K "Row") "parts" ["self"] (spParts (He.ga K "Row")) := ⟨_, _, He.meth_ok (c.fact 56 (f := .meth "Row" "parts") rfl), ok_parts F_Row_parts RR, F_Row_parts.bindsN fun _ _ _ _ _ _ us hl => match us, hl with | [_], _ => rfl⟩
  have g_eq : EqAtC P w K mg base CX0 2 (He.ga K "Row") ["self", "other"] (spEq K (He.ga K "Row")) := ⟨_, _, eqB_ok x_eq, ok_eq F_Row___eq__ RR tyc m_Row m_isinstance g_Row_parts, F_Row___eq__.bindsN fun _ _ _ _ _ _ us hl => match us, hl with | [_, _], _ => rfl⟩
  have g_empty : FnAt P w K mg base CX0 6 "empty" [] (spConst (He.ga K "Row") [] [.non] 0) := ⟨⟨_, ok_empty F_empty g_Row, F_empty.bindsN fun _ _ _ _ _ _ us hl => match us, hl with | [], _ => rfl⟩, F_empty.kp, He.glo_ok X G (c.fact 18 (f := .glo "empty") rfl)⟩
  have g_moved : FnAt P w K mg base CX0 7 "moved" ["row", "goings", "time"] (spMoved (He.ga K "Row")) := ⟨⟨_, ok_moved F_moved RR g_Row_is_empty g_empty g_Row, F_moved.bindsN fun _ _ _ _ _ _ us hl => match us, hl with | [_, _, _], _ => rfl⟩, F_moved.kp, He.glo_ok X G (c.fact 19 (f := .glo "moved") rfl)⟩
  have g_later : FnAt P w K mg base CX0 8 "later" ["row", "marks", "lasts"] (spMoved (He.ga K "Row")) := ⟨⟨_, ok_later F_later g_moved, F_later.bindsN fun _ _ _ _ _ _ us hl => match us, hl with | [_, _, _], _ => rfl⟩, F_later.kp, He.glo_ok X G (c.fact 20 (f := .glo "later") rfl)⟩
  have g_window : FnAt P w K mg base CX0 3 "window" ["one", "other"] (spWin (He.ga K "Row")) := ⟨⟨_, ok_window F_window RR m_len m_max g_common, F_window.bindsN fun _ _ _ _ _ _ us hl => match us, hl with | [_, _], _ => rfl⟩, F_window.kp, He.glo_ok X G (c.fact 21 (f := .glo "window") rfl)⟩
  have g_growth : FnAt P w K mg base CX0 1 "growth" ["row", "turn"] (spGrow (He.ga K "Row")) := ⟨⟨_, ok_growth F_growth RR m_len, F_growth.bindsN fun _ _ _ _ _ _ us hl => match us, hl with | [_, _], _ => rfl⟩, F_growth.kp, He.glo_ok X G (c.fact 22 (f := .glo "growth") rfl)⟩
  have g_first_above : FnAt P w K mg base CX0 4 "first_above" ["one", "other"] (spAbove (He.ga K "Row")) := ⟨⟨_, ok_above F_first_above RR g_window g_growth g_is_below g_Row_time g_Row_is_empty, F_first_above.bindsN fun _ _ _ _ _ _ us hl => match us, hl with | [_, _], _ => rfl⟩, F_first_above.kp, He.glo_ok X G (c.fact 23 (f := .glo "first_above") rfl)⟩
  have g_is_at_most : FnAt P w K mg base CX0 5 "is_at_most" ["one", "other"] (spAtMost (He.ga K "Row")) := ⟨⟨_, ok_atmost F_is_at_most g_first_above, F_is_at_most.bindsN fun _ _ _ _ _ _ us hl => match us, hl with | [_, _], _ => rfl⟩, F_is_at_most.kp, He.glo_ok X G (c.fact 24 (f := .glo "is_at_most") rfl)⟩
  have g_row_of_values : FnAt P w K mg base CX0 6 "row_of_values" ["values", "start", "turn", "more"] (spVals K (He.ga K "Row")) := ⟨⟨_, ok_vals F_row_of_values g_Row, F_row_of_values.bindsN fun _ _ _ _ _ _ us hl => match us, hl with | [_, _, _, _], _ => rfl⟩, F_row_of_values.kp, He.glo_ok X G (c.fact 25 (f := .glo "row_of_values") rfl)⟩
  have g_greater : FnAt P w K mg base CX0 1 "greater" ["one", "other"] (spGreater) := ⟨⟨_, ok_greater F_greater m_max m_int, F_greater.bindsN fun _ _ _ _ _ _ us hl => match us, hl with | [_, _], _ => rfl⟩, F_greater.kp, He.glo_ok X G (c.fact 26 (f := .glo "greater") rfl)⟩
  have g_lesser : FnAt P w K mg base CX0 1 "lesser" ["one", "other"] (spLesser) := ⟨⟨_, ok_lesser F_lesser m_min m_int, F_lesser.bindsN fun _ _ _ _ _ _ us hl => match us, hl with | [_, _], _ => rfl⟩, F_lesser.kp, He.glo_ok X G (c.fact 27 (f := .glo "lesser") rfl)⟩
  have g_parted : FnAt P w K mg base CX0 4 "parted" ["fast", "slow"] (spParted (He.ga K "Row")) := ⟨⟨_, ok_parted F_parted RR m_max m_range m_int g_window g_growth g_Row_time g_ceiling, F_parted.bindsN fun _ _ _ _ _ _ us hl => match us, hl with | [_, _], _ => rfl⟩, F_parted.kp, He.glo_ok X G (c.fact 28 (f := .glo "parted") rfl)⟩
  have g_greatest_of_two : FnAt P w K mg base CX0 7 "greatest_of_two" ["one", "other"] (spG2 (He.ga K "Row")) := ⟨⟨_, ok_g2 F_greatest_of_two RR m_max m_int m_len m_range g_window g_growth g_parted g_greater g_Row_time g_Row_is_empty g_row_of_values, F_greatest_of_two.bindsN fun _ _ _ _ _ _ us hl => match us, hl with | [_, _], _ => rfl⟩, F_greatest_of_two.kp, He.glo_ok X G (c.fact 29 (f := .glo "greatest_of_two") rfl)⟩
  have g_least_of_two : FnAt P w K mg base CX0 7 "least_of_two" ["one", "other"] (spL2 (He.ga K "Row")) := ⟨⟨_, ok_l2 F_least_of_two RR m_max m_int m_len m_range g_window g_growth g_parted g_lesser g_Row_time g_Row_is_empty g_empty g_row_of_values, F_least_of_two.bindsN fun _ _ _ _ _ _ us hl => match us, hl with | [_, _], _ => rfl⟩, F_least_of_two.kp, He.glo_ok X G (c.fact 30 (f := .glo "least_of_two") rfl)⟩
  have g_greatest : FnAt P w K mg base CX0 8 "greatest" ["rows"] (spMost K (He.ga K "Row") maxV) := ⟨⟨_, ok_greatest F_greatest g_greatest_of_two, F_greatest.bindsN fun _ _ _ _ _ _ us hl => match us, hl with | [_], _ => rfl⟩, F_greatest.kp, He.glo_ok X G (c.fact 31 (f := .glo "greatest") rfl)⟩
  have g_least : FnAt P w K mg base CX0 8 "least" ["rows"] (spMost K (He.ga K "Row") minV) := ⟨⟨_, ok_leastR F_least g_least_of_two, F_least.bindsN fun _ _ _ _ _ _ us hl => match us, hl with | [_], _ => rfl⟩, F_least.kp, He.glo_ok X G (c.fact 32 (f := .glo "least") rfl)⟩
  have g__law_high : FnAt P w K mg base CX0 1 "_law_high" ["_law_things"] (spHigh K) := ⟨⟨_, ok_high F_l_high m_max m_int, F_l_high.bindsN fun _ _ _ _ _ _ us hl => match us, hl with | [_], _ => rfl⟩, F_l_high.kp, He.glo_ok X G (c.fact 33 (f := .glo "_law_high") rfl)⟩
  have g__law_low : FnAt P w K mg base CX0 1 "_law_low" ["_law_things"] (spLow K) := ⟨⟨_, ok_low F_l_low m_min m_int, F_l_low.bindsN fun _ _ _ _ _ _ us hl => match us, hl with | [_], _ => rfl⟩, F_l_low.kp, He.glo_ok X G (c.fact 34 (f := .glo "_law_low") rfl)⟩
  have g__law_is_above : FnAt P w K mg base CX0 1 "_law_is_above" ["_law_one", "_law_other"] (spIsAbove) := ⟨⟨_, ok_isabove F_l_is_above , F_l_is_above.bindsN fun _ _ _ _ _ _ us hl => match us, hl with | [_, _], _ => rfl⟩, F_l_is_above.kp, He.glo_ok X G (c.fact 35 (f := .glo "_law_is_above") rfl)⟩
  have g__law_pair_right : FnAt P w K mg base CX0 7 "_law_pair_right" ["_law_one", "_law_other"] (spPair) := ⟨⟨_, ok_pair F_l_pair_right m_range g__law_made g__law_is_above g__law_time g_first_above g_is_at_most, F_l_pair_right.bindsN fun _ _ _ _ _ _ us hl => match us, hl with | [_, _], _ => rfl⟩, F_l_pair_right.kp, He.glo_ok X G (c.fact 36 (f := .glo "_law_pair_right") rfl)⟩
  exact ok_law F_law m_range m_max m_min m_len m_list m_tuple m_zip RR tyc g__law_box g__law_take g__law_row g_Row g__law_made g__law_time g__law_high g__law_low g__law_pair_right g_greatest g_least g_later g_first_above g_is_at_most g_Row_time g_eq g_empty
end WW

open PySem PySem.W PySem.Calls PyProof.Rows
set_option maxRecDepth 100000 in
set_option maxHeartbeats 0 in
theorem PySem.Challenge.cw_waitworks_k06_greatest_and_least_rows_holds : PySem.Challenge.rw_waitworks_k06_greatest_and_least_rows.Holds := by
  w_on; o_law
  refine HandSHeadRun.head_any (r := OpenLaw.row PySem.Challenge.rw_waitworks_k06_greatest_and_least_rows) (q := view (OpenLaw.row PySem.Challenge.rw_waitworks_k06_greatest_and_least_rows).prog [55]) (H := WW.hk) (ob := WW.ob) (M := WW.steps) (loose := WW.loose) (d := HandSHeadRun.topDef (OpenLaw.row PySem.Challenge.rw_waitworks_k06_greatest_and_least_rows).prog 55) (kwd := []) WW.ob_eq
    (by kernel_rfl) (fun s => by kernel_rfl) WW.run (by kernel_rfl) (by kernel_rfl) (by kernel_rfl) (by rfl) (by first | assumption | decide +kernel) (by decide +kernel) ⟨rfl, rfl, rfl, rfl, rfl, by decide +kernel⟩ ?hw ?hc
  case hw => w_witness2
  case hc =>
    refine L2.walk_ofE (l := PySem.Challenge.rw_waitworks_k06_greatest_and_least_rows) (n := 63) (k := 9) (x := "_law_script") (CX := L2.CX0) rfl (by decide) (by kernel_rfl) ⟨rfl, by decide, by decide⟩ ?F (fun _ _ _ _ z => z)
    intro w mg fa h Y G hmg0
    obtain ⟨K, KX, c⟩ := Y
    have hmg : mg ("law" : PySem.Str) = some (.ref fa) := by
      have e : (HandSHeadRun.topDef (OpenLaw.row PySem.Challenge.rw_waitworks_k06_greatest_and_least_rows).prog 55).name = ("law" : PySem.Str) := by kernel_rfl
      rw [← e]
      exact hmg0
    obtain ⟨fd, hb, hF⟩ := WW.facts (P := (PySem.Challenge.rw_waitworks_k06_greatest_and_least_rows).prog) (w := w) KX G hmg c
    exact ⟨K, fd, WW.spLaw K, KX, hb, fun H a ns hl _ hS => ⟨a, ns, rfl, hS, hl, fun _ => rfl⟩, hF⟩

