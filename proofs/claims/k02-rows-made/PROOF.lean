import PyProof.Rows.All
import Wide.All
import OpenK.AllK
import Wide.FinOn
import KE.KStateDown
import HandS.ForMost
import HandS.Defaults
import HandS.Property
import HandS.IsInst
import HandS.Star
import HandS.Evl
import HandS.Steps
import HandS.More
import HandS.Head0
import HandS.Head1
import HandS.Head2
import HandS.HeadEnd
import HandS.HeadHook1
import HandS.HeadHook2
import HandS.HeadHook3
import HandS.HeadHook4
import HandS.HeadNt
import KE.KCallOwn
import HandS.Text
import PySem.Challenge.RW_waitworks_k02_rows_made
set_option Elab.async false
set_option linter.all false
set_option maxRecDepth 100000
set_option maxHeartbeats 4000000
namespace WW
open PySem PySem.Spec PyProof.Rows L2

/-! ### defs of the module by name -/
structure FnAt (P : Program) (w : World) (K : PySem.W.Frag) (mg : Str → Option Value) (base : Heap) (CX : CXT) (k : Nat) (x : Str) (ps : List Str) (sp : Sp) : Prop where
  ex : ∃ fd, FnOk P w K mg base CX k (He.ga K x) fd ps sp ∧ Binds K fd ps []
  kp : PySem.W.keepIn K (.ref (He.ga K x)) = true
  g : mg x = some (.ref (He.ga K x))
section
variable {X : Cx} {CX : CXT} {k j : Nat} {x : Str} {ps : List Str} {sp : Sp} {e : Expr} {es : List Expr} {t : TA} {p pos : Pos}
theorem pe_fn (F : FnAt X.prog X.w X.K X.mg X.base CX0 k x ps sp) (hr : Room j X.A) (hg : Gl X x) (ha : PA X (e :: es) t) (hk : k ≤ j := by decide)
    (hdb : (x == ("__debug__" : Str)) = false := by decide) (he : starEach (e :: es) X.env = (false, eval e X.env) :: starEach es X.env := by rfl) (hpl : (backTo pos (starEach es X.env)).any (·.1) = false := by rfl) :
    PE X (.Call (.Name x p) (e :: es) [] pos) (tCall sp [] E0 t) := by
  obtain ⟨fd, F1, b⟩ := F.ex
  exact pe_call F1 (hr.mono hk) hg F.g F.kp b .nil pass0 ha hdb he hpl
theorem pe_fn0 (F : FnAt X.prog X.w X.K X.mg X.base CX0 k x ps sp) (hr : Room j X.A) (hg : Gl X x) (hk : k ≤ j := by decide)
    (hdb : (x == ("__debug__" : Str)) = false := by decide) :
    PE X (.Call (.Name x p) [] [] pos) (tCall sp [] E0 tNil) := by
  obtain ⟨fd, F1, b⟩ := F.ex
  exact pe_call0 F1 (hr.mono hk) hg F.g F.kp b .nil pass0 hdb
end
/-! ### lists or tuples -/
def Sq (K : PySem.W.Frag) (H : Hp) (a : Addr) (xs : List V) : Prop := SqL K H a xs ∨ SqT K H a xs
theorem Sq.ex {K : PySem.W.Frag} {H H' : Hp} {a : Addr} {xs : List V} (e : Same H H') (h : Sq K H a xs) : Sq K H' a xs := by
  rcases h with h | h
  · exact .inl (Evl.ex_l e h)
  · exact .inr (Evl.ex_t e h)
theorem Sq.l {K : PySem.W.Frag} {H : Hp} {a : Addr} {xs : List V} (h : H a = some (.lst xs)) : Sq K H a xs := .inl (Evl.sq_of h)
theorem Sq.t {K : PySem.W.Frag} {H : Hp} {a : Addr} {xs : List V} (h : H a = some (.tup xs)) : Sq K H a xs := .inr (Evl.st_of h)
def rIxQ (K : PySem.W.Frag) : R2 := fun x y H Q => ∃ p xs i v, x = .ref p ∧ y = .int i ∧ Sq K H p xs ∧ atI xs i = some v ∧ Q v H
section
variable {X : Cx}
theorem ix_sq : IxR X (rIxQ X.K) := by
  intro value slice pins s σ H x y v u Q I rx ry h hs
  obtain ⟨p, xs, i, z, ex, ey, hq | hq, he, q⟩ := h
  · exact ix_list value slice pins s σ H x y v u Q I rx ry ⟨p, xs, i, z, ex, ey, hq, he, q⟩ hs
  · exact ix_tup value slice pins s σ H x y v u Q I rx ry ⟨p, xs, i, z, ex, ey, hq, he, q⟩ hs
/-- for .. in a list or a tuple -/
def iSeq (K : PySem.W.Frag) (tl : TE) : TI := fun σ H R => tl σ H fun x H1 => ∃ a, x = .ref a ∧ (((∃ xs, SqL K H1 a xs) ∧ R (Itl K a) H1) ∨ ((∃ xs, SqT K H1 a xs) ∧ R (Itt K a) H1))
theorem pi_seq {tg l : Expr} {tl : TE} (hl : PE X l tl) : PI X tg l (iSeq X.K tl) := by
  refine ⟨fun pins s0 σ H R I0 h0 => thn (hl.run pins s0 σ H _ I0 h0) fun v s ⟨x, Hx, I, rx, a, ex, qa⟩ => ?_⟩
  subst ex
  cases rx
  have sz : ∀ b ∈ [s.heap.objs.size], FpOk X pins Hx b := fun b hb => by
    rw [List.mem_singleton.mp hb]
    exact I.fpOk (Nat.le_refl _) (I.hok.fresh (Nat.le_refl _))
  rcases qa with ⟨⟨xs, hq⟩, qa⟩ | ⟨⟨xs, hq⟩, qa⟩
  · obtain ⟨its, _, pl, _⟩ := I.list hq
    exact wpAny_pyIter_list pl.isList ⟨_, [s.heap.objs.size], _, _, Hx, rfl, I.kept (t' := s.toks) fun b o eo => Heap.get?_push_of_some _ eo, turn_list a _, ⟨_, Heap.get?_push_size _ rfl, rfl, rfl⟩, sz, qa⟩
  · obtain ⟨its, _, pl, _⟩ := I.tuple hq
    exact wpAny_pyIter_tuple (show s.heap.IsTuple a its.toArray from pl) ⟨_, [s.heap.objs.size], _, _, Hx, rfl, I.kept (t' := s.toks) fun b o eo => Heap.get?_push_of_some _ eo, turn_tuple a _, ⟨_, Heap.get?_push_size _ rfl, rfl, rfl⟩, sz, qa⟩
end
theorem at_toNat {α : Type} {xs : List α} {d : Int} (h0 : 0 ≤ d) (h : d.toNat < xs.length) : atI xs d = some xs[d.toNat] := by
  have e : d = (d.toNat : Int) := by omega
  have q : atI xs (d.toNat : Int) = some xs[d.toNat] := atI_nat (List.getElem?_eq_getElem h)
  rw [← e] at q
  exact q
/-! ### a tuple's whole slice is the tuple -/
section
variable {prog : Program} {w : World} {A : Around} {E : Value → Shared → Prop} {s : Shared}
theorem tup_all {a c : Addr} {its : Array Value} {u1 u2 : Value} {lo hi : Option Int} {R : Value → Shared → Prop} (hT : IsTup s.heap a its) (hc : s.heap.IsSliceOf c u1 u2 .none) (p1 : IsPart u1 lo) (p2 : IsPart u2 hi)
    (hall : HT.sIx its.size 0 lo = 0 ∧ HT.sIx its.size its.size hi = its.size) (q : R (.ref a) s) : wpAny (model prog w) A (getItem (.ref a) (.ref c)) R E s := by
  obtain ⟨oc, e1, e2, e3⟩ := id hc
  have tc : s.TypeIs (.ref c) "slice" := ⟨oc, e1, e2⟩
  unfold getItem
  try with_reducible refine wpAny_holding ?_
  first | (refine wpAny_bind (wpAny_pure ?_)) | skip
  refine wpAny_bind (wpAny_sequenceKey hT.typeIs (by decide) ?_)
  refine wpAny_bind (wpAny_callSpecial?_slot (name := Str.ofString "__getitem__") hT.typeIs slot_tuple_getitem
    (wpAny_call_entry slot_tuple_getitem hT.typeIs PyProof.Rows.entry_tuple_getitem ?_ (PyProof.Rows.args_tuple_getitem _ _)))
  show wpAny _ _ (Builtin.Tuple.tupleItemsOf (.ref a) >>= _) _ _ s
  refine wpAny_bind (tupleItemsOf_ hT (wpAny_bind (wpAny_typeOf tc ?_)))
  rw [if_pos (by decide)]
  refine wpAny_bind (HT.sliceApplied_gen hc p1 p2 ?_)
  have hy : (((HT.sIx its.size 0 lo : Nat) : Int) == 0 && (1 : Int) == 1 && (HT.sIx its.size its.size hi - HT.sIx its.size 0 lo) == its.size) = true := by
    rw [hall.1, hall.2]
    simp
  show wpAny _ _ (if (((HT.sIx its.size 0 lo : Nat) : Int) == 0 && (1 : Int) == 1 && (HT.sIx its.size its.size hi - HT.sIx its.size 0 lo) == its.size) = true then _ else _) _ _ s
  rw [if_pos hy]
  unfold Builtin.Tuple.tupleIsExact
  refine wpAny_bind (wpAny_bind (wpAny_typeOf hT.typeIs (wpAny_pure ?_)))
  rw [if_pos (by decide)]
  refine wpAny_bind (wpAny_rule ?_)
  exact wpAny_pure ⟨_, rfl, wpAny_pure q⟩
end
/-! ### rules with the written part named -/
def rSlW (K : PySem.W.Frag) : V → Option Int → Option Int → Hp → VK → Prop := fun x lo hi H Q => ∃ a xs, x = .ref a ∧ SqT K H a xs ∧
  (HT.sIx xs.length 0 lo = 0 ∧ HT.sIx xs.length xs.length hi = xs.length) ∧ Q (.ref a) H
def rSlQ (K : PySem.W.Frag) : V → Option Int → Option Int → Hp → VK → Prop := fun x lo hi H Q => rSlL K x lo hi H Q ∨ rSlT K x lo hi H Q ∨ rSlW K x lo hi H Q
def rLenQ (K : PySem.W.Frag) : List V → Hp → VK → Prop := fun xs H Q => ∃ p ys, xs = [.ref p] ∧ Sq K H p ys ∧ Q (.int ys.length) H
def rListQ (K : PySem.W.Frag) : List V → Hp → VK → Prop := fun xs H Q => ∃ p ys, xs = [.ref p] ∧ Sq K H p ys ∧ ∀ l, H l = none → Q (.ref l) (upd H l (.lst ys))
inductive rTupQ (K : PySem.W.Frag) (xs : List V) (H : Hp) (Q : VK) : Prop
  | mk (h : ∃ p ys, xs = [.ref p] ∧ ((SqL K H p ys ∧ ∀ l, H l = none → Q (.ref l) (upd H l (.tup ys))) ∨ (SqT K H p ys ∧ Q (.ref p) H))) : rTupQ K xs H Q
section
variable {X : Cx}
theorem sl_whole : SlR X (rSlW X.K) := by
  intro pins s σ H x v vl vu lo hi sl Q I rx hs pl pu h
  obtain ⟨a, xs, rfl, hx, hw, q⟩ := h
  cases rx
  obtain ⟨its, r, hT, hz⟩ := I.tuple hx
  have hn : its.toArray.size = xs.length := by rw [List.size_toArray]; exact r.length.symm
  refine ⟨"tuple", _, slot_tuple_getitem.lookup, hT.typeIs, ?_⟩
  exact tup_all hT hs pl pu (by rw [hn]; exact hw) ⟨.ref a, H, I, rfl, q⟩
variable (K : PySem.W.Frag)
theorem ix_sqK (h : X.K = K := by rfl) : IxR X (rIxQ K) := by
  subst h
  exact ix_sq
theorem sl_sqK (h : X.K = K := by rfl) : SlR X (rSlQ K) := by
  subst h
  exact sl_list.or (sl_tup.or sl_whole)
theorem pi_seqK {tg l : Expr} {tl : TE} (hl : PE X l tl) (h : X.K = K := by rfl) : PI X tg l (iSeq K tl) := by
  subst h
  exact pi_seq hl
theorem call_lenK (h : X.K = K := by rfl) : CallR X (.builtin "len") (rLenQ K) := by
  subst h
  exact call_len_seq
theorem call_listK (h : X.K = K := by rfl) : CallR X (.type "list") (rListQ K) := by
  subst h
  exact call_list_of
theorem call_tupleK (h : X.K = K := by rfl) : CallR X (.type "tuple") (rTupQ K) := by
  subst h
  intro pins s σ H xs us Q I r ⟨q⟩
  exact call_tuple_of pins s σ H xs us Q I r q
theorem call_isiK1 (h : X.K = K := by rfl) : CallR X (.builtin "isinstance") (rIsi K) := by
  subst h
  exact call_isi
theorem call_isiTK (h : X.K = K := by rfl) : CallR X (.builtin "isinstance") (rIsiT K) := by
  subst h
  exact call_isiT
theorem cr_anyK (hc : X.calm = true := by rfl) (h : X.K = K := by rfl) : CallR X (.builtin "any") (rAny K) := by
  subst h
  exact cr_any hc
theorem cr_allK (hc : X.calm = true := by rfl) (h : X.K = K := by rfl) : CallR X (.builtin "all") (rAll K) := by
  subst h
  exact cr_all hc
theorem cr_maxK (hc : X.calm = true := by rfl) (h : X.K = K := by rfl) : CallR X (.builtin "max") (rMax K) := by
  subst h
  exact cr_max hc
theorem pa_starK {e : Expr} {es : List Expr} {p : Pos} {te : TE} {t : TA} (he : PE X e te) (hr : PA X es t) (h : X.K = K := by rfl) (hs : starEach (.Starred e p :: es) X.env = (true, eval e X.env) :: starEach es X.env := by rfl) : PA X (.Starred e p :: es) (StX.tStar K te t) := by
  subst h
  exact StX.pa_star he hr hs
theorem pe_fldK {e : Expr} {f : Str} {pos : Pos} {ta : TE} (he : PE X e ta) (hb : attributeBase e f X.env (eval e X.env) = eval e X.env) (h : X.K = K := by rfl) : PE X (.Attribute e f pos) (tFld K ta f) := by
  subst h
  exact pe_fld he hb
end
/-- o.f = .., as a target -/
def gFld (K : PySem.W.Frag) (ta : TE) (f : Str) : TG := fun v σ H Q => ta σ H fun x H1 => ∃ a C dx fs, x = .ref a ∧ H1 a = some (.ins C dx fs) ∧ Cls K C ∧ NoAttr K C f ∧ fs.length < 1000 ∧ Q σ (upd H1 a (.ins C dx (putF f v fs)))
theorem pg_fld {X : Cx} (K : PySem.W.Frag) {o : Expr} {f : Str} {pos : Pos} {ta : TE} (ho : PE X o ta) (hK : X.K = K := by rfl) : PG X (.Attribute o f pos) (gFld K ta f) := by
  subst hK
  refine ⟨fun pins s σ H v u Q I r h => ?_⟩
  rw [assign_Attribute]
  refine wpAny_bind (wpAny_holding (thn (ho.run pins s σ H _ I h) fun ov s1 ⟨x, H1, I1, r1, a, C, dx, fs, ex, ea, c, n, l, q⟩ => ?_))
  subst ex
  cases r1
  refine wpAny_bind (wpAny_standAt (wpAny_bind (wpAny_holding (setattr_ok I1 ea c n l r fun s2 I2 => ?_))))
  exact wpAny_release ⟨σ, _, I2, q⟩
theorem pg_tupK {X : Cx} (K : PySem.W.Frag) {es : List Expr} {k : Nat} {t : TGs} {n : Nat} {pos : Pos} (hc : X.calm = true) (h : PGs X es t)
    (hn : (assignEach es X.env).length = n := by rfl) (hst : (assignEach es X.env).findIdx? (·.1) = none := by rfl) (hK : X.K = K := by rfl) : PG X (.Tuple es k pos) (gTup K n t) := by
  subst hK
  exact pg_tup hc h hn hst
/-! ### making an object -/
structure MkAt (P : Program) (w : World) (K : PySem.W.Frag) (mg : Str → Option Value) (base : Heap) (CX : CXT) (k : Nat) (x : Str) (ps : List Str) (sp : Sp) (dvs : List V) : Prop where
  ex : ∃ f fd ds, Mk K (He.ga K x) f ∧ FnOk P w K mg base CX k f fd ps sp ∧ Vals dvs ds ∧ Binds K fd ps ds
  g : mg x = some (.ref (He.ga K x))
section
variable {X : Cx} {CX : CXT} {k j : Nat} {x : Str} {ps : List Str} {sp : Sp} {e : Expr} {es : List Expr} {t : TA} {p pos : Pos} {dvs : List V}
theorem pe_mkr (F : MkAt X.prog X.w X.K X.mg X.base CX0 k x ps sp dvs) (hr : Room j X.A) (hg : Gl X x) (ha : PA X (e :: es) t) (hk : k + 1 ≤ j := by decide)
    (hdb : (x == ("__debug__" : Str)) = false := by decide) (he : starEach (e :: es) X.env = (false, eval e X.env) :: starEach es X.env := by rfl) (hpl : (backTo pos (starEach es X.env)).any (·.1) = false := by rfl) :
    PE X (.Call (.Name x p) (e :: es) [] pos) (tMake (He.ga X.K x) sp dvs E0 t) := by
  obtain ⟨f, fd, ds, M, F1, v, b⟩ := F.ex
  exact pe_make M F1 (hr.mono hk) hg F.g b v pass0 ha hdb he hpl
end
/-! ### methods, properties -/
structure MthAt (P : Program) (w : World) (K : PySem.W.Frag) (mg : Str → Option Value) (base : Heap) (CX : CXT) (k : Nat) (C : Addr) (m : Str) (ps : List Str) (sp : Sp) : Prop where
  ex : ∃ f fd, Meth K C m f ∧ FnOk P w K mg base CX k f fd ps sp ∧ Binds K fd ps []
structure PrpAt (P : Program) (w : World) (K : PySem.W.Frag) (mg : Str → Option Value) (base : Heap) (CX : CXT) (k : Nat) (C : Addr) (m : Str) (ps : List Str) (sp : Sp) : Prop where
  ex : ∃ pr f fd, PropOf K C m pr f ∧ FnOk P w K mg base CX k f fd ps sp ∧ Binds K fd ps []
section
variable {X : Cx} {CX : CXT} {k j : Nat} {C : Addr} {m : Str} {ps : List Str} {sp : Sp} {o e : Expr} {es : List Expr} {ta : TE} {t : TA} {apos pos : Pos}
theorem pe_mth {pl : Sem Bool} (c : Cls X.K C) (F : MthAt X.prog X.w X.K X.mg X.base CX0 k C m ps sp) (hr : Room j X.A) (ho : PE X o ta) (ha : PA X (e :: es) t) (hk : k ≤ j := by decide)
    (hst : starEach (e :: es) X.env = (false, eval e X.env) :: starEach es X.env := by rfl) (hpl : (backTo pos (starEach es X.env)).any (·.1) = false := by rfl)
    (ht : eval (.Call (.Attribute o m apos) (e :: es) [] pos) X.env = (do let ov ← eval o X.env; standAt apos.atName; let (f, first) ← holding [ov] (getMethod ov m pl); callWith pos f first (backTo pos (starEach (e :: es) X.env)) (backToKw pos (keywordEach [] X.env))) := by rfl) : PE X (.Call (.Attribute o m apos) (e :: es) [] pos) (tMeth C m sp [] E0 ta t) := by
  obtain ⟨f, fd, M, F1, b⟩ := F.ex
  exact pe_meth ho c M F1 (hr.mono hk) b .nil pass0 ha hst hpl ht
theorem pe_mth0 {pl : Sem Bool} (c : Cls X.K C) (F : MthAt X.prog X.w X.K X.mg X.base CX0 k C m ps sp) (hr : Room j X.A) (ho : PE X o ta) (hk : k ≤ j := by decide)
    (ht : eval (.Call (.Attribute o m apos) [] [] pos) X.env = (do let ov ← eval o X.env; standAt apos.atName; let (f, first) ← holding [ov] (getMethod ov m pl); callWith pos f first (backTo pos (starEach [] X.env)) (backToKw pos (keywordEach [] X.env))) := by rfl) : PE X (.Call (.Attribute o m apos) [] [] pos) (tMeth C m sp [] E0 ta tNil) := by
  obtain ⟨f, fd, M, F1, b⟩ := F.ex
  exact pe_meth0 ho c M F1 (hr.mono hk) b .nil pass0 ht
theorem pe_prp (c : Cls X.K C) (F : PrpAt X.prog X.w X.K X.mg X.base CX0 k C m ps sp) (hr : Room j X.A) (ho : PE X o ta) (hk : k + 1 ≤ j := by decide)
    (hab : attributeBase o m X.env (eval o X.env) = eval o X.env := by rfl) : PE X (.Attribute o m pos) (tProp C sp [] E0 ta) := by
  obtain ⟨pr, f, fd, M, F1, b⟩ := F.ex
  exact pe_prop ho c M F1 (hr.mono hk) b .nil pass0 hab
theorem op_neDK (K : PySem.W.Frag) (hr : Room j X.A) (h : X.K = K := by rfl) : OpR X (compareOp .NotEq) (rNeD K) := by
  subst h
  exact op_neD (by have := hr.un; omega)
theorem op_eqDK (K : PySem.W.Frag) (hr : Room j X.A) (h : X.K = K := by rfl) : OpR X (compareOp .Eq) (rEqD K) := by
  subst h
  exact op_eqD (by have := hr.un; omega)
/-- repr of an integer, of nothing -/
inductive rRepr (xs : List V) (H : Hp) (Q : VK) : Prop
  | int (i : Int) (h : xs = [.int i]) (hz : i.natAbs.log2 < 1920) (q : Q (.str (toString i)) H) : rRepr xs H Q
  | non (h : xs = [.non]) (q : Q (.str "None") H) : rRepr xs H Q
theorem call_repr : CallR X (.builtin "repr") rRepr := by
  intro pins s σ H xs us Q I r h
  cases h with
  | int i h hz q =>
    subst h
    obtain ⟨u, rfl, t, rfl⟩ := vals1 r
    exact PySem.P.repr_of_int hz ⟨.str _, H, I.tok _, ⟨_, rfl⟩, q⟩
  | non h q =>
    subst h
    obtain ⟨u, rfl, rfl⟩ := vals1 r
    exact PySem.P.repr_of_none ⟨.str _, H, I.tok _, ⟨_, rfl⟩, q⟩
end
/-- a slice of a list or a tuple: some sequence of these items -/
theorem slq {K : PySem.W.Frag} {H : Hp} {a : Addr} {xs : List V} {lo hi : Option Int} {Q : VK} (h : Sq K H a xs) (k : ∀ p H', Same H H' → Sq K H' p (cutV xs lo hi) → Q (.ref p) H') : rSlQ K (.ref a) lo hi H Q := by
  have new : ∀ {o : HO} {p : Addr}, H p = none → Same H (upd H p o) := fun hp b u hb => (upd_ne (ne_of_none hb hp)).trans hb
  rcases h with h | h
  · exact .inl ⟨a, xs, rfl, h, fun p hp => k p _ (new hp) (.l upd_same)⟩
  · by_cases hw : HT.sIx xs.length 0 lo = 0 ∧ HT.sIx xs.length xs.length hi = xs.length
    · refine .inr (.inr ⟨a, xs, rfl, h, hw, k a H (Same.refl H) ?_⟩)
      have e : cutV xs lo hi = xs := by
        unfold cutV
        rw [hw.1, hw.2]
        simp
      rw [e]
      exact .inr h
    · exact .inr (.inl ⟨a, xs, rfl, h, hw, fun p hp => k p _ (new hp) (.t upd_same)⟩)
/-! ### the box of draws -/
def bx (x y z : Int) : HO := .lst [.int x, .int y, .int z]
def Box (H : Hp) (b : Addr) : Prop := ∃ x y z : Int, H b = some (bx x y z)
/-- take(box, many): a number below many; the box is another one -/
def spTake : Sp := fun vs H Q _ => ∃ (b : Addr) (m : Int), vs = [.ref b, .int m] ∧ Box H b ∧ 0 < m ∧ m < 1073741824 ∧
  ∀ x y z d : Int, 0 ≤ d → d < m → Q (.int d) (upd H b (bx x y z))
/-- pick(box, some) -/
def spPick (K : PySem.W.Frag) : Sp := fun vs H Q _ => ∃ (b l : Addr) (xs : List V), vs = [.ref b, .ref l] ∧ Box H b ∧ Sq K H l xs ∧ l ≠ b ∧ 0 < xs.length ∧ xs.length < 1000 ∧
  ∀ (x y z : Int) (v : V), v ∈ xs → Q v (upd H b (bx x y z))
theorem Sq.upd {K : PySem.W.Frag} {H : Hp} {a b : Addr} {o : HO} {xs : List V} (hn : a ≠ b) (h : Sq K H a xs) : Sq K (upd H b o) a xs := by
  rcases h with h | h
  · rcases h with h | h
    · refine .inl (.inl ?_)
      rcases h with h | ⟨u, h⟩
      · exact .inl ((upd_ne hn).trans h)
      · exact .inr ⟨u, (upd_ne hn).trans h⟩
    · exact .inl (.inr h)
  · rcases h with h | h
    · refine .inr (.inl ?_)
      rcases h with h | ⟨u, h⟩
      · exact .inl ((upd_ne hn).trans h)
      · exact .inr ⟨u, (upd_ne hn).trans h⟩
    · exact .inr (.inr h)

/-! ### values -/
def isIntV : V → Bool
  | .int _ => true
  | _ => false
/-- what isinstance tells of a value: whether it is an integer, whether it is a list or a tuple -/
def HasT (K : PySem.W.Frag) (H : Hp) (x : V) (sq : Bool) : Prop := ∃ (t : Value) (b1 b2 : Bool), TyX K H x t ∧ PySem.W.kitOne K t (.type "int") = some b1 ∧ PySem.W.kitOne K t (.type "bool") = some b2 ∧ (b1 && !b2) = isIntV x ∧
  PySem.W.kitAny K t [.type "list", .type "tuple"] = some sq
section
variable {K : PySem.W.Frag} {H : Hp}
theorem hasT_non : HasT K H .non false := ⟨_, false, false, .base .non, kit_ty (by decide +kernel), kit_ty (by decide +kernel), rfl, by rw [kitAny_cons (kit_ty (b := "list") (r := false) (by decide +kernel)) (fun _ => kitAny_cons (kit_ty (b := "tuple") (r := false) (by decide +kernel)) (fun _ => rfl) (fun z => nomatch z)) (fun z => nomatch z)]⟩
theorem hasT_bl (b : Bool) : HasT K H (.bl b) false := ⟨_, true, true, .base (.bl b), kit_ty (by decide +kernel), kit_ty (by decide +kernel), rfl, by rw [kitAny_cons (kit_ty (b := "list") (r := false) (by decide +kernel)) (fun _ => kitAny_cons (kit_ty (b := "tuple") (r := false) (by decide +kernel)) (fun _ => rfl) (fun z => nomatch z)) (fun z => nomatch z)]⟩
theorem hasT_int (i : Int) : HasT K H (.int i) false := ⟨_, true, false, .base (.int i), kit_ty (by decide +kernel), kit_ty (by decide +kernel), rfl, by rw [kitAny_cons (kit_ty (b := "list") (r := false) (by decide +kernel)) (fun _ => kitAny_cons (kit_ty (b := "tuple") (r := false) (by decide +kernel)) (fun _ => rfl) (fun z => nomatch z)) (fun z => nomatch z)]⟩
theorem hasT_str (z : Str) : HasT K H (.str z) false := ⟨_, false, false, .base (.str z), kit_ty (by decide +kernel), kit_ty (by decide +kernel), rfl, by rw [kitAny_cons (kit_ty (b := "list") (r := false) (by decide +kernel)) (fun _ => kitAny_cons (kit_ty (b := "tuple") (r := false) (by decide +kernel)) (fun _ => rfl) (fun z => nomatch z)) (fun z => nomatch z)]⟩
theorem hasT_l {x : V} (h : TyX K H x (.type "list")) (hx : isIntV x = false) : HasT K H x true := ⟨_, false, false, h, kit_ty (by decide +kernel), kit_ty (by decide +kernel), hx.symm, by rw [kitAny_cons (kit_ty (b := "list") (r := true) (by decide +kernel)) (fun z => nomatch z) (fun z => rfl)]⟩
theorem hasT_t {x : V} (h : TyX K H x (.type "tuple")) (hx : isIntV x = false) : HasT K H x true := ⟨_, false, false, h, kit_ty (by decide +kernel), kit_ty (by decide +kernel), hx.symm, by rw [kitAny_cons (kit_ty (b := "list") (r := false) (by decide +kernel)) (fun _ => kitAny_cons (kit_ty (b := "tuple") (r := true) (by decide +kernel)) (fun z => nomatch z) (fun z => rfl)) (fun z => nomatch z)]⟩
theorem Sq.hasT {a : Addr} {xs : List V} (h : Sq K H a xs) : HasT K H (.ref a) true := by
  rcases h with h | h
  · refine hasT_l ?_ rfl
    rcases h with (h | ⟨o, h⟩) | ⟨o, its, n, h1, h2, _⟩
    · exact .base (.lst h)
    · exact .base (.frz h)
    · exact .kList h1 h2
  · refine hasT_t ?_ rfl
    rcases h with (h | ⟨o, h⟩) | ⟨o, its, n, h1, h2, _⟩
    · exact .base (.tup h)
    · exact .fTuple h
    · exact .kTuple h1 h2
end
theorem tyx_same {K : PySem.W.Frag} {H H' : Hp} {x : V} {t : Value} (e : Same H H') (h : TyX K H x t) : TyX K H' x t := by
  cases h with
  | base b =>
    cases b with
    | non => exact .base .non
    | bl y => exact .base (.bl y)
    | int i => exact .base (.int i)
    | str y => exact .base (.str y)
    | flt y => exact .base (.flt y)
    | lst ea => exact .base (.lst (e _ _ ea))
    | frz ea => exact .base (.frz (e _ _ ea))
    | tup ea => exact .base (.tup (e _ _ ea))
    | dK ea => exact .base (.dK (e _ _ ea))
    | dT ea => exact .base (.dT (e _ _ ea))
    | ins ea cl ha hn htk hm => exact .base (.ins (e _ _ ea) cl ha hn htk hm)
  | byt y => exact .byt y
  | set ea => exact .set (e _ _ ea)
  | kList a c => exact .kList a c
  | kTuple a c => exact .kTuple a c
  | kDict a c => exact .kDict a c
  | fTuple ea => exact .fTuple (e _ _ ea)
  | fDict ea => exact .fDict (e _ _ ea)
theorem HasT.ex {K : PySem.W.Frag} {H H' : Hp} {x : V} {sq : Bool} (e : Same H H') (h : HasT K H x sq) : HasT K H' x sq := by
  obtain ⟨t, b1, b2, ty, r⟩ := h
  exact ⟨t, b1, b2, tyx_same e ty, r⟩
/-! ### readings opened one step -/
section
variable {σ : L2.St} {H : Hp} {Q : VK} {D : Ends} {te : TE} {t : TA} {tu tz : TS} {g : TG} {r : List V → Hp → VK → Prop}
theorem q_seq (h : tu { D with nx := tz D } σ H) : tSeq tu tz D σ H := h
theorem q_asg (h : te σ H (fun x H1 => g x σ H1 D.nx)) : tAsg te g D σ H := h
theorem q_if {tc : TT} (h : tc σ H (fun c H1 => if c = true then tu D σ H1 else tz D σ H1)) : tIfS tc tu tz D σ H := h
theorem q_name {i : Nat} {v : V} {R : L2.St → Hp → Prop} (h : R (σ.set i (some v)) H) : gName i v σ H R := h
theorem q_ret (h : te σ H D.rt) : tRet te D σ H := h
theorem q_cb (h : t σ H (fun vs H1 => r vs H1 Q)) : tCB r t σ H Q := h
theorem q_one {R : List V → Hp → Prop} (h : te σ H (fun x H1 => R [x] H1)) : tCons te tNil σ H R := h
theorem q_cons {R : List V → Hp → Prop} (h : te σ H (fun x H1 => t σ H1 fun xs H2 => R (x :: xs) H2)) : tCons te t σ H R := h
theorem q_call {sp : Sp} {dvs : List V} {E : XK} (h : t σ H (fun vs H1 => sp (vs ++ dvs) H1 Q E)) : tCall sp dvs E t σ H Q := h
end
/-! ### comprehensions -/
theorem wipe1 {σ : L2.St} {j : Nat} {x : Option V} : wipe ((wipe σ [j]).set j x) [j] = wipe σ [j] := by
  show ((σ.set j none).set j x).set j none = σ.set j none
  rw [List.set_set, List.set_set]
theorem same_app {H H' : Hp} {D : Addr} {xs : List V} (e : Same H H') (h : H D = none) : Same H (upd H' D (.lst xs)) := fun a o ha => by
  rw [upd_ne (ne_of_none ha h)]
  exact e a o ha
/-- [e for x in xs], e a value of x; xs evaluated on the way -/
theorem lc_sqG {K : PySem.W.Frag} {σ : L2.St} {H : Hp} {Q : VK} {tl te : TE} {j : Nat} {xs : List V} (φ : V → V) (hv : ∀ R : VK, (∀ a H', Same H H' → Sq K H' a xs → R (.ref a) H') → tl σ H R) (hl : xs.length ≤ 100000)
    (he : ∀ x ∈ xs, ∀ H1, Same H H1 → ∀ R : VK, (∀ H2, Same H1 H2 → R (φ x) H2) → te ((wipe σ [j]).set j (some x)) H1 R)
    (k : ∀ D H', Same H H' → H D = none → H' D = some (.lst (xs.map φ)) → Q (.ref D) H') : tLc (iSeq K tl) (gName j) tYes te [j] σ H Q := by
  refine hv _ fun a H0 s0 hq => ⟨a, rfl, ?_⟩
  have turn : ∀ (D : Addr), H0 D = none → ∀ i x Hc, xs[i]? = some x → (Same H0 Hc ∧ Hc D = some (.lst ((xs.take i).map φ))) → gName j x (wipe σ [j]) Hc fun σ2 H2 => wipe σ2 [j] = wipe σ [j] ∧ tYes σ2 H2 fun b H3 =>
      if b = true then te σ2 H3 fun y H4 => ∃ acc, H4 D = some (.lst acc) ∧ acc.length < sizeLine ∧ (Same H0 (upd H4 D (.lst (acc ++ [y]))) ∧ (upd H4 D (.lst (acc ++ [y]))) D = some (.lst ((xs.take (i + 1)).map φ))) else (Same H0 H3 ∧ H3 D = some (.lst ((xs.take (i + 1)).map φ))) := by
    intro D hD i x Hc hx ⟨sm, hd⟩
    refine ⟨wipe1, ?_⟩
    refine he x (List.mem_of_getElem? hx) Hc (s0.trans sm) _ fun H2 s2 => ⟨_, s2 _ _ hd, ?_, same_app (sm.trans s2) hD, ?_⟩
    · rw [List.length_map, List.length_take]
      exact Nat.lt_of_le_of_lt (Nat.le_trans (Nat.min_le_right _ _) hl) (by decide)
    · rw [upd_same, List.take_add_one, hx, List.map_append]
      rfl
  rcases hq with hq | hq
  · refine .inl ⟨⟨xs, hq⟩, fun D hD => ?_⟩
    refine lc_list (K := K) (a := a) (xs := xs) (fun i Hc => Same H0 Hc ∧ Hc D = some (.lst ((xs.take i).map φ))) ⟨same_app (Same.refl H0) hD, upd_same⟩ (fun i Hc _ p => Evl.ex_l p.1 hq) (turn D hD) fun Hc p => ?_
    rw [List.take_length] at p
    exact k D Hc (s0.trans p.1) (s0.free hD) p.2
  · refine .inr ⟨⟨xs, hq⟩, fun D hD => ?_⟩
    refine lc_tup (K := K) (a := a) (xs := xs) (fun i Hc => Same H0 Hc ∧ Hc D = some (.lst ((xs.take i).map φ))) ⟨same_app (Same.refl H0) hD, upd_same⟩ (fun i Hc _ p => Evl.ex_t p.1 hq) (turn D hD) fun Hc p => ?_
    rw [List.take_length] at p
    exact k D Hc (s0.trans p.1) (s0.free hD) p.2
theorem lc_sq {K : PySem.W.Frag} {σ : L2.St} {H : Hp} {Q : VK} {tl te : TE} {a : Addr} {j : Nat} {xs : List V} (φ : V → V) (hv : ∀ R : VK, R (.ref a) H → tl σ H R) (hq : Sq K H a xs) (hl : xs.length ≤ 100000)
    (he : ∀ x ∈ xs, ∀ H1, Same H H1 → ∀ R : VK, (∀ H2, Same H1 H2 → R (φ x) H2) → te ((wipe σ [j]).set j (some x)) H1 R)
    (k : ∀ D H', Same H H' → H D = none → H' D = some (.lst (xs.map φ)) → Q (.ref D) H') : tLc (iSeq K tl) (gName j) tYes te [j] σ H Q :=
  lc_sqG φ (fun R r => hv R (r a H (Same.refl H) hq)) hl he k
/-- [e for x in range(..)] -/
theorem lc_rg {σ : L2.St} {H : Hp} {Qd : Hp → Prop} {te : TE} {j n : Nat} {lo : Int} {D : Addr} (φ : Nat → V) (hl : n ≤ 100000) (hD : H D = none)
    (he : ∀ i, i < n → ∀ H1, Same H H1 → ∀ R : VK, (∀ H2, Same H1 H2 → R (φ i) H2) → te ((wipe σ [j]).set j (some (.int (lo + i)))) H1 R)
    (k : ∀ H', Same H H' → H' D = some (.lst ((List.range n).map φ)) → Qd H') :
    ∃ W : Nat → Nat → Hp → Prop, (∃ m, W 0 m (upd H D (.lst []))) ∧ ∀ i m H, W i m H →
      ((Itr lo n).stop i H ∧ Qd H) ∨ ((Itr lo n).go i H ∧ ∃ Nx : Hp → Prop, (∀ H', Nx H' → ∃ m', m' < m ∧ W (i + 1) m' H') ∧ ∀ x H', (Itr lo n).yld i H x H' → gName j x (wipe σ [j]) H' fun σ2 H2 => wipe σ2 [j] = wipe σ [j] ∧ tYes σ2 H2 fun b H3 =>
        if b = true then te σ2 H3 fun y H4 => ∃ acc, H4 D = some (.lst acc) ∧ acc.length < sizeLine ∧ Nx (upd H4 D (.lst (acc ++ [y]))) else Nx H3) := by
  refine lc_range (fun i Hc => Same H Hc ∧ Hc D = some (.lst ((List.range i).map φ))) ⟨same_app (Same.refl H) hD, upd_same⟩ (fun i Hc hi ⟨sm, hd⟩ => ⟨wipe1, ?_⟩) fun Hc p => k Hc p.1 p.2
  refine he i hi Hc sm _ fun H2 s2 => ⟨_, s2 _ _ hd, ?_, same_app (sm.trans s2) hD, ?_⟩
  · rw [List.length_map, List.length_range]
    exact Nat.lt_of_lt_of_le (Nat.lt_of_lt_of_le hi hl) (by decide)
  · rw [upd_same, List.range_succ, List.map_append]
    rfl
/-- [e for x in range(..) if test] -/
theorem lc_rgF {σ : L2.St} {H : Hp} {Qd : Hp → Prop} {tt : TT} {te : TE} {j n : Nat} {lo : Int} {D : Addr} (p : Nat → Bool) (φ : Nat → V) (hl : n ≤ 100000) (hD : H D = none)
    (ht : ∀ i, i < n → ∀ H1, Same H H1 → ∀ R : Bool → Hp → Prop, (∀ H2, Same H1 H2 → R (p i) H2) → tt ((wipe σ [j]).set j (some (.int (lo + i)))) H1 R)
    (he : ∀ i, i < n → ∀ H1, Same H H1 → ∀ R : VK, (∀ H2, Same H1 H2 → R (φ i) H2) → te ((wipe σ [j]).set j (some (.int (lo + i)))) H1 R)
    (k : ∀ H', Same H H' → H' D = some (.lst (((List.range n).filter p).map φ)) → Qd H') :
    ∃ W : Nat → Nat → Hp → Prop, (∃ m, W 0 m (upd H D (.lst []))) ∧ ∀ i m H, W i m H →
      ((Itr lo n).stop i H ∧ Qd H) ∨ ((Itr lo n).go i H ∧ ∃ Nx : Hp → Prop, (∀ H', Nx H' → ∃ m', m' < m ∧ W (i + 1) m' H') ∧ ∀ x H', (Itr lo n).yld i H x H' → gName j x (wipe σ [j]) H' fun σ2 H2 => wipe σ2 [j] = wipe σ [j] ∧ tt σ2 H2 fun b H3 =>
        if b = true then te σ2 H3 fun y H4 => ∃ acc, H4 D = some (.lst acc) ∧ acc.length < sizeLine ∧ Nx (upd H4 D (.lst (acc ++ [y]))) else Nx H3) := by
  refine lc_range (fun i Hc => Same H Hc ∧ Hc D = some (.lst (((List.range i).filter p).map φ))) ⟨same_app (Same.refl H) hD, upd_same⟩ (fun i Hc hi ⟨sm, hd⟩ => ⟨wipe1, ?_⟩) fun Hc q => k Hc q.1 q.2
  refine ht i hi Hc sm _ fun H1 s1 => ?_
  cases hp : p i with
  | false =>
    refine ⟨sm.trans s1, ?_⟩
    rw [List.range_succ, List.filter_append, List.filter_cons, if_neg (by rw [hp]; decide), List.filter_nil, List.append_nil]
    exact s1 _ _ hd
  | true =>
    refine he i hi H1 (sm.trans s1) _ fun H2 s2 => ⟨_, s2 _ _ (s1 _ _ hd), ?_, same_app ((sm.trans s1).trans s2) hD, ?_⟩
    · rw [List.length_map]
      have e := List.length_filter_le p (List.range i)
      rw [List.length_range] at e
      exact Nat.lt_of_le_of_lt e (Nat.lt_of_lt_of_le (Nat.lt_of_lt_of_le hi hl) (by decide))
    · rw [upd_same, List.range_succ, List.filter_append, List.filter_cons, if_pos hp, List.filter_nil, List.map_append]
      rfl
/-- [x for x in xs if test] -/
theorem lc_sqF {K : PySem.W.Frag} {σ : L2.St} {H : Hp} {Q : VK} {tl te : TE} {tt : TT} {j : Nat} {xs : List V} (p : V → Bool) (hv : ∀ R : VK, (∀ a H', Same H H' → Sq K H' a xs → R (.ref a) H') → tl σ H R) (hl : xs.length ≤ 100000)
    (ht : ∀ x ∈ xs, ∀ H1, Same H H1 → ∀ R : Bool → Hp → Prop, (∀ H2, Same H1 H2 → R (p x) H2) → tt ((wipe σ [j]).set j (some x)) H1 R)
    (he : ∀ x ∈ xs, ∀ H1, Same H H1 → ∀ R : VK, (∀ H2, Same H1 H2 → R x H2) → te ((wipe σ [j]).set j (some x)) H1 R)
    (k : ∀ D H', Same H H' → H D = none → H' D = some (.lst (xs.filter p)) → Q (.ref D) H') : tLc (iSeq K tl) (gName j) tt te [j] σ H Q := by
  refine hv _ fun a H0 s0 hq => ⟨a, rfl, ?_⟩
  have turn : ∀ (D : Addr), H0 D = none → ∀ i x Hc, xs[i]? = some x → (Same H0 Hc ∧ Hc D = some (.lst ((xs.take i).filter p))) → gName j x (wipe σ [j]) Hc fun σ2 H2 => wipe σ2 [j] = wipe σ [j] ∧ tt σ2 H2 fun b H3 =>
      if b = true then te σ2 H3 fun y H4 => ∃ acc, H4 D = some (.lst acc) ∧ acc.length < sizeLine ∧ (Same H0 (upd H4 D (.lst (acc ++ [y]))) ∧ (upd H4 D (.lst (acc ++ [y]))) D = some (.lst ((xs.take (i + 1)).filter p))) else (Same H0 H3 ∧ H3 D = some (.lst ((xs.take (i + 1)).filter p))) := by
    intro D hD i x Hc hx ⟨sm, hd⟩
    refine ⟨wipe1, ?_⟩
    have mx := List.mem_of_getElem? hx
    refine ht x mx Hc (s0.trans sm) _ fun H1 s1 => ?_
    cases hp : p x with
    | false =>
      refine ⟨sm.trans s1, ?_⟩
      rw [List.take_add_one, hx, List.filter_append]
      show H1 D = some (.lst ((xs.take i).filter p ++ [x].filter p))
      rw [List.filter_cons, if_neg (by rw [hp]; decide), List.filter_nil, List.append_nil]
      exact s1 _ _ hd
    | true =>
      refine he x mx H1 (s0.trans (sm.trans s1)) _ fun H2 s2 => ⟨_, s2 _ _ (s1 _ _ hd), ?_, same_app ((sm.trans s1).trans s2) hD, ?_⟩
      · have e := List.length_filter_le p (xs.take i)
        rw [List.length_take] at e
        exact Nat.lt_of_le_of_lt (Nat.le_trans e (Nat.le_trans (Nat.min_le_right _ _) hl)) (by decide)
      · rw [upd_same, List.take_add_one, hx, List.filter_append]
        show some (HO.lst ((xs.take i).filter p ++ [x])) = some (.lst ((xs.take i).filter p ++ [x].filter p))
        rw [List.filter_cons, if_pos hp, List.filter_nil]
  rcases hq with hq | hq
  · refine .inl ⟨⟨xs, hq⟩, fun D hD => ?_⟩
    refine lc_list (K := K) (a := a) (xs := xs) (fun i Hc => Same H0 Hc ∧ Hc D = some (.lst ((xs.take i).filter p))) ⟨same_app (Same.refl H0) hD, upd_same⟩ (fun i Hc _ r => Evl.ex_l r.1 hq) (turn D hD) fun Hc r => ?_
    rw [List.take_length] at r
    exact k D Hc (s0.trans r.1) (s0.free hD) r.2
  · refine .inr ⟨⟨xs, hq⟩, fun D hD => ?_⟩
    refine lc_tup (K := K) (a := a) (xs := xs) (fun i Hc => Same H0 Hc ∧ Hc D = some (.lst ((xs.take i).filter p))) ⟨same_app (Same.refl H0) hD, upd_same⟩ (fun i Hc _ r => Evl.ex_t r.1 hq) (turn D hD) fun Hc r => ?_
    rw [List.take_length] at r
    exact k D Hc (s0.trans r.1) (s0.free hD) r.2
theorem same_new {H : Hp} {p : Addr} {o : HO} (h : H p = none) : Same H (upd H p o) := fun _ _ ha => (upd_ne (ne_of_none ha h)).trans ha
/-! ### the head's facts -/
section
def obsW (n : Nat) (fa : List He.Fa) (fn : List He5.DefA) (ex : PySem.W.Frag → Bool) (g : Addr → Option Obj) : He.AlD × Bool := (He5.obsA fa fn (He.frG g (He.asD g n)), ex (He.frG g (He.asD g n)))
def SaysW (fa : List He.Fa) (fn : List He5.DefA) (ex : PySem.W.Frag → Bool) (K : PySem.W.Frag) : Prop := He5.SaysA fa fn K ∧ ex K = true
def hookW (n : Nat) (fa : List He.Fa) (fn : List He5.DefA) (ex : PySem.W.Frag → Bool) : PySem.W.Hook where
  α := He.AlD × Bool
  obs := fun s => obsW n fa fn ex s.heap.get?
  val := fun _ => (He5.valA fn, true)
  says := fun _ h => ∃ K : PySem.W.Frag, K.In h ∧ SaysW fa fn ex K
  of := fun _ s e => ⟨He.frG s.heap.get? (He.asD s.heap.get? n), He.frG_in, congrArg Prod.fst e, congrArg Prod.snd e⟩
  keeps := fun _ _ _ ⟨K, hK, c⟩ k => ⟨K, PySem.W.Frag.In.keeps hK k, c⟩
theorem obsW_eq {n : Nat} {fa : List He.Fa} {fn : List He5.DefA} {ex : PySem.W.Frag → Bool} {g : Addr → Option Obj} {s : Shared} (h : ∀ a, g a = s.heap.get? a) : obsW n fa fn ex g = (hookW n fa fn ex).obs s := by
  rw [show g = s.heap.get? from funext h]
  rfl
/-- a property of a class, as the head tells it -/
def propB (K : PySem.W.Frag) (C : Addr) (f : Str) : Bool :=
  He.eqO (PySem.W.findIn K (.ref C) f) (some (some (.ref (He.ma K C f)))) && (He.eqO (PySem.W.specialIn K (.ref (He.ma K C f)) "__get__") (some (some (.builtin "property.__get__"))) && (decide (PySem.W.takesIn K (.ref (He.ma K C f)) = some true) &&
    (match PySem.W.recIn K (He.ma K C f) "property" with
      | some (.ref _ :: _) => true
      | _ => false)))
theorem propB_ok {K : PySem.W.Frag} {C : Addr} {f : Str} (h : propB K C f = true) : PropOf K C f (He.ma K C f) (He5.wf K C "property" f) := by
  obtain ⟨h1, h⟩ := He.ba h
  obtain ⟨h2, h⟩ := He.ba h
  obtain ⟨h3, h4⟩ := He.ba h
  refine ⟨He.eqO_ok h1, He.eqO_ok h2, of_decide_eq_true h3, ?_⟩
  unfold He5.wf
  revert h4
  cases e : PySem.W.recIn K (He.ma K C f) "property" with
  | none => exact fun z => nomatch z
  | some l =>
    cases l with
    | nil => exact fun z => nomatch z
    | cons v r =>
      cases v with
      | ref g => exact fun _ => ⟨r, rfl⟩
      | _ => exact fun z => nomatch z
end
end WW

set_option Elab.async false
set_option linter.all false
set_option maxRecDepth 100000
set_option maxHeartbeats 4000000
namespace WW
open PySem PySem.Spec PyProof.Rows L2
/-! ### == and != by an own __eq__ -/
section
variable {X : Cx} {CX : CXT} {k : Nat} {C f : Addr} {fd : FuncData} {ps : List Str} {sp : Sp}
/-- the def at f called with two values, somewhere below the body -/
theorem run2 {A : Around} {pins : List (Addr × Obj)} {σ : L2.St} {H : Hp} {s : Shared} {Q : VK} {x y : V} {u v : Value} (F : FnOk X.prog X.w X.K X.mg X.base CX0 k f fd ps sp) (hA : Room k A) (hf : A.frames = X.A.frames) (b : Binds X.K fd ps [])
    (I : Inv X pins σ H s) (rx : RelV x u) (ry : RelV y v) (h : sp [x, y] H Q E0) : wpAny (model X.prog X.w) A (call (.ref f) [u, v]) (EP X pins σ Q) X.xe s := by
  have i0 := I.env0
  have i1 : Env0 X.prog X.w X.K X.mg X.base A X.stack s H := ⟨hf.trans i0.frames, i0.mod, i0.bs, i0.bsz, i0.funs, i0.frf, i0.hok, i0.bare⟩
  have n2 : [u, v].length = ps.length := (show [u, v].length = [x, y].length from rfl).trans (F.len _ _ _ _ h)
  have bt : BindsTo s fd ⟨[u, v], []⟩ (ps.zip [u, v]) := by
    have z := b s [u, v] I.kIn (by rw [List.append_nil]; exact n2)
    rw [List.append_nil] at z
    exact z
  refine wpAny_call (codeAny_mono (F.run A X.stack s H ⟨[u, v], []⟩ [u, v] [x, y] Q E0 hA i1 bt (.cons rx (.cons ry .nil)) h) fun r s' hq => ?_)
  cases r with
  | error e => exact (pass0 (X := X) pins σ H s e s' I hq)
  | ok fl =>
    cases fl with
    | ret z => exact I.after hq
    | next => exact hq.elim
    | brk => exact hq.elim
    | cont => exact hq.elim
/-- the class at C has its own __eq__ (at f) and no __ne__ -/
structure EqC (K : PySem.W.Frag) (C f : Addr) : Prop where
  eq : PySem.W.findIn K (.ref C) "__eq__" = some (some (.ref f))
  fn : PySem.W.isFn K (.ref f) = true
  ne : PySem.W.findIn K (.ref C) "__ne__" = some (some (.builtin "object.__ne__"))
  ob : PySem.W.mroIn K C (.type "object") = some true
structure EqAtC (P : Program) (w : World) (K : PySem.W.Frag) (mg : Str → Option Value) (base : Heap) (CX : CXT) (k : Nat) (C : Addr) (ps : List Str) (sp : Sp) : Prop where
  ex : ∃ f fd, EqC K C f ∧ FnOk P w K mg base CX k f fd ps sp ∧ Binds K fd ps []
/-- x == y, x != y, x an instance of the class at C -/
inductive rOwn (K : PySem.W.Frag) (C : Addr) (sp : Sp) (neg : Bool) (x y : V) (H : Hp) (Q : VK) : Prop
  | mk (a dx : Addr) (fs : List (Str × V)) (t : Value) (e : x = .ref a) (ha : H a = some (.ins C dx fs)) (ht : TyX K H y t) (hn : PySem.W.notFirst K C t = true) (h : sp [x, y] H (fun v H' => ∃ b, v = .bl b ∧ Q (.bl (if neg then !b else b)) H') E0) : rOwn K C sp neg x y H Q
theorem op_eqO (K : PySem.W.Frag) {j : Nat} (F : EqAtC X.prog X.w X.K X.mg X.base CX0 k C ps sp) (hr : Room j X.A) (hk : k ≤ j := by decide) (hK : X.K = K := by rfl) : OpR X (compareOp .Eq) (rOwn K C sp false) := by
  subst hK
  obtain ⟨f, fd, ec, FN, b⟩ := F.ex
  intro pins s σ H x y u v Q I rx ry h
  cases h with
  | mk a dx fs t e ha ht hn h =>
    subst e
    cases rx
    obtain ⟨mA, O, _⟩ := ins_get I.hok ha
    obtain ⟨od, J, _⟩ := O.look
    obtain ⟨Pk, Z, pz, _⟩ := kit_of I ry ht
    obtain ⟨m, hF⟩ := I.fr
    unfold compareOp
    refine PySem.W.cmp_K (op := .Eq) (tb := t) (by have := hr.un; omega) hF I.ok.mod.kin J (Z.ty _ _ I.kIn pz) hn ec.eq ec.fn (wpAny_mono (run2 (x := .ref a) FN (hr.mono hk) rfl b I rfl ry h) (fun z s' hz => ?_) fun _ _ e => e)
    obtain ⟨w1, H1, I1, r1, b1, rfl, q1⟩ := hz
    cases r1
    exact ⟨.bl b1, H1, I1, rfl, q1⟩
theorem ne_bound {M : Model} {A : Around} {E : Value → Shared → Prop} {s : Shared} {K : PySem.W.Frag} {x : Addr} {ox : Obj} {od : Option Obj} {rest : List Value} {R : Option Value → Shared → Prop} (hK : K.In s.heap) (J : PySem.W.InstAt s.heap x ox C od) (hc : PySem.W.findIn K (.ref C) "__ne__" = some (some (.builtin "object.__ne__")))
    (q : wpAny M A (call (.builtin "object.__ne__") (.ref x :: rest)) (fun v => R (some v)) E s) : wpAny M A (callSpecialIfBound? (.ref x) "__ne__" rest) R E s := by
  simp only [callSpecialIfBound?, bindSpecialIfBound?]
  refine wpAny_holding (wpAny_bind (wpAny_bind (wpAny_bind (J.type.here ((PySem.W.looks_findIn hK hc).here (wpAny_bind (wpAny_askSetting (wpAny_ite ?_))))))))
  have last : wpAny M A (call (.builtin "object.__ne__") ([.ref x] ++ rest) >>= fun v => pure (some v)) R E s := wpAny_bind (wpAny_mono q (fun v s' hv => wpAny_pure hv) fun _ _ z => z)
  split
  · exact wpAny_bind (wpAny_of_eq (F.cmp_object.ne.bind _) (wpAny_pure (by exact last)))
  · exact wpAny_tryCatch (wpAny_bind (wpAny_of_eq (F.cmp_object.ne.bind _) (wpAny_pure (by exact last))))
theorem ne_entry {prog : Program} {w : World} {A : Around} {E : Value → Shared → Prop} {s : Shared} {K : PySem.W.Frag} {x : Addr} {v : Value} {ox : Obj} {od : Option Obj} {R : Fin → Shared → Prop} (hu : A.units < cLine) (hK : K.In s.heap) (J : PySem.W.InstAt s.heap x ox C od) (ec : EqC K C f)
    (q : wpAny (model prog w) A (call (.ref f) [.ref x, v]) (fun r s' => ∃ b, r = .bool b ∧ R (.done (.ret (.bool (!b)))) s') E s) : wpAny (model prog w) A (Builtin.«object.__ne__» ⟨[.ref x, v], []⟩) R E s := by
  unfold Builtin.«object.__ne__»
  repeat (first
    | with_reducible refine wpAny_cRoomFor hu ?_
    | (refine wpAny_bind (m := callSpecialIfBound? (.ref x) (Str.ofString "__eq__") [v]) (PySem.W.ifBound_K hK J ec.eq ec.fn (wpAny_mono q (fun r s' hr => by
          obtain ⟨b, rfl, hq⟩ := hr
          repeat (first | exact hq | exact wpAny_pure hq | exact wpAny_truthy_bool hq | (refine wpAny_bind (m := truthy (.bool _)) (wpAny_truthy_bool ?_)) | wp_step)) fun _ _ e => e)))
    | wp_step)
theorem op_neO (K : PySem.W.Frag) {j : Nat} (F : EqAtC X.prog X.w X.K X.mg X.base CX0 k C ps sp) (hr : Room j X.A) (hk : k + 1 ≤ j := by decide) (hK : X.K = K := by rfl) : OpR X (compareOp .NotEq) (rOwn K C sp true) := by
  subst hK
  obtain ⟨f, fd, ec, FN, b⟩ := F.ex
  intro pins s σ H x y u v Q I rx ry h
  cases h with
  | mk a dx fs t e ha ht hn h =>
    subst e
    cases rx
    obtain ⟨mA, O, _⟩ := ins_get I.hok ha
    obtain ⟨od, J, _⟩ := O.look
    obtain ⟨Pk, Z, pz, _⟩ := kit_of I ry ht
    have hu : X.A.units + 1 < cLine := by have := hr.un; omega
    have go : wpAny (model X.prog X.w) X.A (tryCompare (.ref a) "__ne__" v) (fun r s' => ∃ b1, r = some (.bool (!b1)) ∧ EP X pins σ Q (.bool (!b1)) s') X.xe s := by
      unfold tryCompare
      refine wpAny_bind (ne_bound I.kIn J ec.ne (wpAny_call (codeAny_call_builtin PySem.F.cmp_object.ne.plain PySem.F.cmpEntry_ne (PySem.W.check_slot PySem.F.cmpKind_ne PySem.F.cmpSplit_ne (J.type.andThen (PySem.W.looks_mroIn I.kIn ec.ob)) (PySem.F.cmpArgs_ne _ _)
        (ne_entry (A := X.A.in1) hu I.kIn J ec (wpAny_mono (run2 (x := .ref a) FN (hr.mono hk).in1 rfl b I rfl ry h) (fun z s' hz => ?_) fun _ _ e => e))))))
      obtain ⟨w1, H1, I1, r1, b1, rfl, q1⟩ := hz
      cases r1
      exact ⟨b1, rfl, wpAny_pure ⟨b1, rfl, .bl (!b1), H1, I1, rfl, q1⟩⟩
    unfold compareOp richCompare
    simp only [oneThing_ref]
    refine wpAny_holding (wpAny_bind (wpAny_cRoomFor (by omega) ?_))
    refine wpAny_bind (J.type.here (wpAny_bind ((Z.ty _ _ I.kIn pz).here ?_)))
    split
    · rename_i c0
      have sf : PySem.W.subIn X.K t (.ref C) = some false := by
        rcases Bool.or_eq_true_iff.mp hn with e | e
        · rw [beq_iff_eq.mp e] at c0
          simp at c0
        · exact beq_iff_eq.mp e
      refine wpAny_bind ((PySem.W.looks_subIn I.kIn sf).here ?_)
      simp only [Bool.false_eq_true, if_false]
      refine wpAny_bind (wpAny_mono go (fun r s1 z => ?_) fun _ _ e => e)
      obtain ⟨b1, rfl, h1⟩ := z
      exact wpAny_pure h1
    · refine wpAny_bind (wpAny_pure ?_)
      simp only [Bool.false_eq_true, if_false]
      refine wpAny_bind (wpAny_mono go (fun r s1 z => ?_) fun _ _ e => e)
      obtain ⟨b1, rfl, h1⟩ := z
      exact wpAny_pure h1
end
end WW

set_option Elab.async false
set_option linter.all false
set_option maxRecDepth 100000
set_option maxHeartbeats 4000000
namespace WW
open PySem PySem.Spec PyProof.Rows L2
/-! ### str(x) by an own __str__ -/
section
variable {X : Cx} {CX : CXT} {k : Nat} {C f : Addr} {fd : FuncData} {ps : List Str} {sp : Sp}
theorem run1 {A : Around} {pins : List (Addr × Obj)} {σ : L2.St} {H : Hp} {s : Shared} {Q : VK} {x : V} {u : Value} (F : FnOk X.prog X.w X.K X.mg X.base CX0 k f fd ps sp) (hA : Room k A) (hf : A.frames = X.A.frames) (b : Binds X.K fd ps [])
    (I : Inv X pins σ H s) (rx : RelV x u) (h : sp [x] H Q E0) : wpAny (model X.prog X.w) A (call (.ref f) [u]) (EP X pins σ Q) X.xe s := by
  have i0 := I.env0
  have i1 : Env0 X.prog X.w X.K X.mg X.base A X.stack s H := ⟨hf.trans i0.frames, i0.mod, i0.bs, i0.bsz, i0.funs, i0.frf, i0.hok, i0.bare⟩
  have n2 : [u].length = ps.length := (show [u].length = [x].length from rfl).trans (F.len _ _ _ _ h)
  have bt : BindsTo s fd ⟨[u], []⟩ (ps.zip [u]) := by
    have z := b s [u] I.kIn (by rw [List.append_nil]; exact n2)
    rw [List.append_nil] at z
    exact z
  refine wpAny_call (codeAny_mono (F.run A X.stack s H ⟨[u], []⟩ [u] [x] Q E0 hA i1 bt (.cons rx .nil) h) fun r s' hq => ?_)
  cases r with
  | error e => exact (pass0 (X := X) pins σ H s e s' I hq)
  | ok fl =>
    cases fl with
    | ret z => exact I.after hq
    | next => exact hq.elim
    | brk => exact hq.elim
    | cont => exact hq.elim
structure StrAtC (P : Program) (w : World) (K : PySem.W.Frag) (mg : Str → Option Value) (base : Heap) (CX : CXT) (k : Nat) (C : Addr) (ps : List Str) (sp : Sp) : Prop where
  ex : ∃ f fd, PySem.W.findIn K (.ref C) "__str__" = some (some (.ref f)) ∧ PySem.W.isFn K (.ref f) = true ∧ FnOk P w K mg base CX k f fd ps sp ∧ Binds K fd ps []
inductive rStrO (C : Addr) (sp : Sp) (xs : List V) (H : Hp) (Q : VK) : Prop
  | mk (a dx : Addr) (fs : List (Str × V)) (e : xs = [.ref a]) (ha : H a = some (.ins C dx fs)) (h : sp [.ref a] H (fun v H' => ∃ z, v = .str z ∧ Q (.str z) H') E0) : rStrO C sp xs H Q
theorem call_strO {j : Nat} (F : StrAtC X.prog X.w X.K X.mg X.base CX0 k C ps sp) (hr : Room j X.A) (hk : k + 2 ≤ j := by decide) : CallR X (.type "str") (rStrO C sp) := by
  obtain ⟨f, fd, e1, e2, FN, b⟩ := F.ex
  intro pins s σ H xs us Q I r h
  cases h with
  | mk a dx fs e ha h =>
    subst e
    obtain ⟨u, rfl, ru⟩ := vals1 r
    cases ru
    obtain ⟨mA, O, _⟩ := ins_get I.hok ha
    obtain ⟨od, J, _⟩ := O.look
    have r2 := (hr.mono hk).in1.in1
    refine PySem.W.kso_call (by have := r2.un; omega) I.kIn J e1 e2 (wpAny_mono (run1 (x := .ref a) FN r2 rfl b I rfl h) (fun z s' hz => ?_) fun _ _ e => e)
    obtain ⟨w1, H1, I1, r1, z1, rfl, q1⟩ := hz
    obtain ⟨t, rfl⟩ := r1
    exact ⟨.str z1, H1, I1, ⟨t, rfl⟩, q1⟩
end
/-! ### sep.join(..) with the written part named -/
inductive rJoin (K : PySem.W.Frag) (x : V) (xs : List V) (H : Hp) (Q : VK) : Prop
  | mk (a : Str) (p : Addr) (ys : List Str) (e : x = .str a) (e2 : xs = [.ref p]) (h : Sq K H p (ys.map V.str)) (hz : (ys.map (·.length)).sum + ys.length * a.length ≤ 16777216) (q : Q (.str (Txt.join a ys)) H) : rJoin K x xs H Q
theorem mt_joinK {X : Cx} (K : PySem.W.Frag) (h : X.K = K := by rfl) : MtR X "str.join" (rJoin K) := by
  subst h
  intro pins s σ H x xs v us Q I rx rs h
  cases h with
  | mk a p ys e e2 h hz q => exact mt_join pins s σ H x xs v us Q I rx rs ⟨a, p, ys, e, e2, h, hz, q⟩
theorem pe_joinK {X : Cx} (K : PySem.W.Frag) {o e : Expr} {to te : TE} {apos pos : Pos} (ho : PE X o to) (he : PE X e te) (hK : X.K = K := by rfl) (hs : starEach [e] X.env = [(false, eval e X.env)] := by rfl) (hbase : attributeBase o "join" X.env (eval o X.env) = eval o X.env := by rfl) (hline : (apos.endLine == pos.line) = true := by rfl) :
    PE X (.Call (.Attribute o "join" apos) [e] [] pos) (tM1 (rJoin K) to te) :=
  pe_m1 F.slot_str_join F.type_str_join (mt_joinK K hK) ho he hs hbase hline
theorem q_star {K : PySem.W.Frag} {σ : L2.St} {H : Hp} {te : TE} {t : TA} {R : List V → Hp → Prop} (h : te σ H fun x H1 => ∃ p xs, x = V.ref p ∧ (SqT K H1 p xs ∨ SqL K H1 p xs) ∧ t σ H1 fun ys H2 => R (xs ++ ys) H2) : StX.tStar K te t σ H R := h
theorem q_c {σ : L2.St} {H : Hp} {v : V} {R : VK} (h : R v H) : tC v σ H R := h
theorem q_ifE {σ : L2.St} {H : Hp} {R : VK} {tt : TT} {ta tb : TE} (h : tt σ H fun c H1 => if c = true then ta σ H1 R else tb σ H1 R) : tIf tt ta tb σ H R := h
theorem q_tst {σ : L2.St} {H : Hp} {te : TE} {R : Bool → Hp → Prop} (h : te σ H fun x H1 => ∃ b, x = .bl b ∧ R b H1) : tTest te σ H R := h
theorem q_op {σ : L2.St} {H : Hp} {ta tb : TE} {r : R2} {R : VK} (h : ta σ H fun x H1 => tb σ H1 fun y H2 => r x y H2 R) : tOp r ta tb σ H R := h
theorem q_next {D : Ends} {σ : L2.St} {H : Hp} (h : D.nx σ H) : tNext D σ H := h
/-- a test that fails -/
theorem q_no {D : Ends} {σ : L2.St} {H : Hp} {b : Bool} {u : Prop} (hb : b = false) (h : D.nx σ H) : if b = true then u else tNext D σ H := by
  subst hb
  exact h
/-! ### what the head tells of a class with its own __eq__ -/
structure TyC (K : PySem.W.Frag) (C : Addr) : Prop where
  cl : PySem.W.findIn K (.ref C) "__class__" = some (some (.builtin "object.__class__"))
  ge : PySem.W.specialIn K (.builtin "object.__class__") "__get__" = some (some (.builtin "getset_descriptor.__get__"))
  tk : PySem.W.takesIn K (.builtin "object.__class__") = some true
  ob : PySem.W.mroIn K C (.type "object") = some true
  own : PySem.W.kitOne K (.ref C) (.ref C) = some true
def tyB (K : PySem.W.Frag) (C : Addr) : Bool :=
  He.eqO (PySem.W.findIn K (.ref C) "__class__") (some (some (.builtin "object.__class__"))) && (He.eqO (PySem.W.specialIn K (.builtin "object.__class__") "__get__") (some (some (.builtin "getset_descriptor.__get__"))) && (decide (PySem.W.takesIn K (.builtin "object.__class__") = some true) &&
    (decide (PySem.W.mroIn K C (.type "object") = some true) && decide (PySem.W.kitOne K (.ref C) (.ref C) = some true))))
theorem tyB_ok {K : PySem.W.Frag} {C : Addr} (h : tyB K C = true) : TyC K C := by
  obtain ⟨h1, h⟩ := He.ba h
  obtain ⟨h2, h⟩ := He.ba h
  obtain ⟨h3, h⟩ := He.ba h
  obtain ⟨h4, h5⟩ := He.ba h
  exact ⟨He.eqO_ok h1, He.eqO_ok h2, of_decide_eq_true h3, of_decide_eq_true h4, of_decide_eq_true h5⟩
/-- a type that is not the class at C -/
structure Apart (K : PySem.W.Frag) (C : Addr) (t : String) : Prop where
  no : PySem.W.kitOne K (.type t) (.ref C) = some false
  nf : PySem.W.notFirst K C (.type t) = true
def apB (K : PySem.W.Frag) (C : Addr) (t : String) : Bool := decide (PySem.W.kitOne K (.type t) (.ref C) = some false) && PySem.W.notFirst K C (.type t)
theorem apB_ok {K : PySem.W.Frag} {C : Addr} {t : String} (h : apB K C t = true) : Apart K C t := by
  obtain ⟨h1, h2⟩ := He.ba h
  exact ⟨of_decide_eq_true h1, h2⟩
def eqB (K : PySem.W.Frag) (C : Addr) : Bool :=
  He.eqO (PySem.W.findIn K (.ref C) "__eq__") (some (some (.ref (He.ma K C "__eq__")))) && (PySem.W.isFn K (.ref (He.ma K C "__eq__")) && (He.eqO (PySem.W.findIn K (.ref C) "__ne__") (some (some (.builtin "object.__ne__"))) && decide (PySem.W.mroIn K C (.type "object") = some true)))
theorem eqB_ok {K : PySem.W.Frag} {C : Addr} (h : eqB K C = true) : EqC K C (He.ma K C "__eq__") := by
  obtain ⟨h1, h⟩ := He.ba h
  obtain ⟨h2, h⟩ := He.ba h
  obtain ⟨h3, h4⟩ := He.ba h
  exact ⟨He.eqO_ok h1, h2, He.eqO_ok h3, of_decide_eq_true h4⟩
def strB (K : PySem.W.Frag) (C : Addr) : Bool := He.eqO (PySem.W.findIn K (.ref C) "__str__") (some (some (.ref (He.ma K C "__str__")))) && PySem.W.isFn K (.ref (He.ma K C "__str__"))
theorem notFirst_self {K : PySem.W.Frag} {C : Addr} : PySem.W.notFirst K C (.ref C) = true := by
  unfold PySem.W.notFirst
  simp
/-! ### equal things -/
def dT : V → PyData
  | .int i => .int i
  | _ => .none
def isTh : V → Bool
  | .non => true
  | .int _ => true
  | _ => false
theorem dp_all {K : PySem.W.Frag} {H : Hp} : ∀ {xs : List V}, (∀ y ∈ xs, isTh y = true) → DpAll K H xs (xs.map dT)
  | [], _ => .nil
  | x :: r, h => by
    refine .cons ?_ (dp_all fun y hy => h y (List.mem_cons_of_mem _ hy))
    have := h x List.mem_cons_self
    revert this
    cases x with
    | non => exact fun _ => .non
    | int i => exact fun _ => .int i
    | _ => exact fun z => nomatch z
theorem eqv_th {x y : V} (hx : isTh x = true) (hy : isTh y = true) : PyData.eqv (dT x) (dT y) = decide (x = y) := by
  revert hx hy
  cases x with
  | non =>
    cases y with
    | non => exact fun _ _ => rfl
    | int j => exact fun _ _ => (decide_eq_false (p := V.non = V.int j) (fun z => by cases z)).symm
    | _ => exact fun _ z => nomatch z
  | int i =>
    cases y with
    | non => exact fun _ _ => (decide_eq_false (p := V.int i = V.non) (fun z => by cases z)).symm
    | int j =>
      intro _ _
      show (i == j) = decide (V.int i = V.int j)
      by_cases c : i = j
      · subst c
        simp
      · rw [decide_eq_false (fun z => c (by injection z)), beq_eq_false_iff_ne.mpr c]
    | _ => exact fun _ z => nomatch z
  | _ => exact fun z => nomatch z
theorem eqv_ths : ∀ {xs ys : List V}, (∀ y ∈ xs, isTh y = true) → (∀ y ∈ ys, isTh y = true) → PyData.eqvAll (xs.map dT) (ys.map dT) = decide (xs = ys)
  | [], [], _, _ => rfl
  | x :: r, y :: q, h, k => by
    show (PyData.eqv (dT x) (dT y) && PyData.eqvAll (r.map dT) (q.map dT)) = _
    rw [eqv_th (h x List.mem_cons_self) (k y List.mem_cons_self), eqv_ths (fun z hz => h z (List.mem_cons_of_mem _ hz)) fun z hz => k z (List.mem_cons_of_mem _ hz)]
    by_cases c1 : x = y
    · by_cases c2 : r = q
      · simp [c1, c2]
      · simp [c1, c2]
    · simp [c1]
  | [], y :: q, _, _ => by
    show false = _
    simp
  | x :: r, [], _, _ => by
    show false = _
    simp
theorem can_th (x : V) : PyData.canLay0 (dT x) = true := by
  cases x <;> simp [dT, PyData.canLay0]
theorem dep_th (x : V) : PyData.depth (dT x) = 0 := by
  cases x <;> simp [dT, PyData.depth]
theorem can_ths : ∀ xs : List V, PyData.canLayAll0 (xs.map dT) = true
  | [] => by simp [PyData.canLayAll0]
  | x :: r => by
    rw [List.map_cons, PyData.canLayAll0, can_th, can_ths r]
    rfl
theorem dep_ths : ∀ xs : List V, PyData.depthAll (xs.map dT) = 0
  | [] => by simp [PyData.depthAll]
  | x :: r => by
    rw [List.map_cons, PyData.depthAll, dep_th, dep_ths r]
    rfl
theorem shaped_list (xs : List V) : SeqAt.shaped (.list (xs.map dT)) = true := by
  unfold SeqAt.shaped
  rw [PyData.canLay0, PyData.depth, can_ths, dep_ths]
  rfl
theorem shaped_th (x : V) : SeqAt.shaped (dT x) = true := by
  unfold SeqAt.shaped
  rw [can_th, dep_th]
  rfl
/-- the parts of a row as data -/
def partsD (fs ys : List V) (m : Int) : PyData := .tuple [.tuple (fs.map dT), .tuple (ys.map dT), .int m]
theorem shaped_parts (fs ys : List V) (m : Int) : SeqAt.shaped (partsD fs ys m) = true := by
  unfold SeqAt.shaped partsD
  simp only [PyData.canLay0, PyData.canLayAll0, PyData.depth, PyData.depthAll, can_ths, dep_ths]
  rfl
theorem eqv_parts {fs ys gs zs : List V} {m k : Int} (h1 : ∀ y ∈ fs, isTh y = true) (h2 : ∀ y ∈ ys, isTh y = true) (h3 : ∀ y ∈ gs, isTh y = true) (h4 : ∀ y ∈ zs, isTh y = true) : PyData.eqv (partsD fs ys m) (partsD gs zs k) = decide (fs = gs ∧ ys = zs ∧ m = k) := by
  unfold partsD
  simp only [PyData.eqv, PyData.eqvAll]
  rw [eqv_ths h1 h3, eqv_ths h2 h4]
  by_cases c1 : fs = gs <;> by_cases c2 : ys = zs <;> by_cases c3 : m = k <;> simp [c1, c2, c3]
theorem dp_parts {K : PySem.W.Frag} {H : Hp} {p p1 p2 : Addr} {fs ys : List V} {m : Int} (h : H p = some (.tup [.ref p1, .ref p2, .int m])) (h1 : H p1 = some (.tup fs)) (h2 : H p2 = some (.tup ys)) (t1 : ∀ y ∈ fs, isTh y = true) (t2 : ∀ y ∈ ys, isTh y = true) : Dp K H (.ref p) (partsD fs ys m) :=
  .tup (.inl (.inl h)) (.cons (.tup (.inl (.inl h1)) (dp_all t1)) (.cons (.tup (.inl (.inl h2)) (dp_all t2)) (.cons (.int m) .nil)))
theorem dp_list {K : PySem.W.Frag} {H : Hp} {p : Addr} {xs : List V} (h : H p = some (.lst xs)) (t : ∀ y ∈ xs, isTh y = true) : Dp K H (.ref p) (.list (xs.map dT)) := .lst (.inl (.inl h)) (dp_all t)
theorem eqv_list {xs ys : List V} (h : ∀ y ∈ xs, isTh y = true) (k : ∀ y ∈ ys, isTh y = true) : PyData.eqv (.list (xs.map dT)) (.list (ys.map dT)) = decide (xs = ys) := by
  rw [PyData.eqv, eqv_ths h k]
theorem dp_th {K : PySem.W.Frag} {H : Hp} {x : V} (h : isTh x = true) : Dp K H x (dT x) := by
  revert h
  cases x with
  | non => exact fun _ => .non
  | int i => exact fun _ => .int i
  | _ => exact fun z => nomatch z
end WW

set_option Elab.async false
set_option linter.all false
set_option maxRecDepth 100000
set_option maxHeartbeats 4000000
namespace WW
open PySem PySem.Spec PyProof.Rows L2
def top (i : Nat) : Stmt := PySem.Challenge.pw_waitworks_k02_rows_made.main.body.getD i (.Pass ⟨0, 0, 0, 0⟩)
section
variable {P : Program} {w : World} {K : PySem.W.Frag} {mg : Str → Option Value} {base : Heap} {f : Addr} {fd : FuncData}
abbrev FnP (K : PySem.W.Frag) (x : Str) (st : Stmt) (f : Addr) (fd : FuncData) : Prop := FunD K x x (defArgs st) (defBody st) (defScope st) [] [] f fd
abbrev s_l_take : Stmt := top 27
abbrev N_l_take : List Str := ["_law_box_here", "_law_many", "_law_one", "_law_digit"]
theorem sc_l_take : FnScope N_l_take ["_law_box_here", "_law_many"] (defScope s_l_take) := ⟨rfl, rfl, rfl, by decide +kernel, rfl, by decide +kernel, by decide +kernel⟩

theorem ok_take (F : FnP K "_law_take" s_l_take f fd) (m_int : mg "int" = none) : FnOk P w K mg base CX0 1 f fd ["_law_box_here", "_law_many"] spTake := by
  refine F.ok sc_l_take (fun vs H Q E h => ?_) (fun cdv A outer s H vs Q E hr h => ?_)
  · obtain ⟨b, m, rfl, _⟩ := h
    rfl
  · obtain ⟨b, m, rfl, ⟨x, y, z, hb⟩, h0, h1, q⟩ := h
    refine ⟨_, PSs.nox (pss_cons (ps_if (pt_cmpR op_gt (pe_ix (ix_sqK K) (pv 0) (pe_int) (fun _ _ => rfl)) (pe_int) (nomark _)) (pss_cons (ps_set (i := 3) sc_l_take.nd rfl (.inl rfl) (pe_op op_mod (pe_callTy call_int1 rfl m_int (by decide +kernel) (pa_cons (pe_ix (ix_sqK K) (pv 0) (pe_int) (fun _ _ => rfl)) (pa_nil))) (pv 1)))
 (pss_cons (ps_asg (pe_op op_fdiv (pe_ix (ix_sqK K) (pv 0) (pe_int) (fun _ _ => rfl)) (pv 1)) (pg_sub (pv 0) (pe_int) set_list))
 (pss_one (ps_ret (pv 3))))) (pss_nil))
 (pss_cons (ps_asg (pe_op op_add (pe_ix (ix_sqK K) (pv 0) (pe_int) (fun _ _ => rfl)) (pe_int)) (pg_sub (pv 0) (pe_int) set_list))
 (pss_cons (ps_set (i := 2) sc_l_take.nd rfl (.inl rfl) (pe_op op_mod (pe_callTy call_int1 rfl m_int (by decide +kernel) (pa_cons (pe_op op_mul (pe_op op_add (pe_ix (ix_sqK K) (pv 0) (pe_int) (fun _ _ => rfl)) (pe_op op_mul (pe_int) (pe_ix (ix_sqK K) (pv 0) (pe_int) (fun _ _ => rfl)))) (pe_int)) (pa_nil))) (pe_int)))
 (pss_cons (ps_asg (pe_op op_add (pe_op op_mod (pe_callTy call_int1 rfl m_int (by decide +kernel) (pa_cons (pe_op op_add (pe_op op_mul (pv 2) (pe_int)) (pe_int)) (pa_nil))) (pe_int)) (pe_int)) (pg_sub (pv 0) (pe_int) set_list))
 (pss_one (ps_ret (pe_op op_mod (pe_callTy call_int1 rfl m_int (by decide +kernel) (pa_cons (pe_op op_fdiv (pe_op op_add (pe_op op_mul (pv 2) (pe_int)) (pe_ix (ix_sqK K) (pv 0) (pe_int) (fun _ _ => rfl))) (pe_int)) (pa_nil))) (pv 1)))))))), ?_⟩
    have a0 : ∀ {x y z : Int}, atI [V.int x, V.int y, V.int z] 0 = some (.int x) := rfl
    refine ⟨_, rfl, _, _, _, _, rfl, rfl, .l hb, a0, _, _, rfl, rfl, _, rfl, ite2 (fun c => ?_) (fun c => ?_)⟩
    · refine ⟨_, rfl, _, _, _, _, rfl, rfl, .l hb, a0, .inl ⟨_, rfl, _, rfl, _, _, rfl, rfl, h0, ?_⟩⟩
      refine ⟨_, rfl, _, _, _, _, rfl, rfl, .l hb, a0, _, rfl, _, _, rfl, rfl, ⟨h0, h1⟩, _, rfl, _, _, _, _, rfl, rfl, hb, rfl, ?_⟩
      exact ⟨_, rfl, q _ _ _ _ (Int.emod_nonneg _ (by omega)) (Int.emod_lt_of_pos _ h0)⟩
    · have hb2 : ∀ o, (upd H b o) b = some o := fun o => upd_same
      have a1 : ∀ {x y z : Int}, atI [V.int x, V.int y, V.int z] 1 = some (.int y) := rfl
      have a2 : ∀ {x y z : Int}, atI [V.int x, V.int y, V.int z] 2 = some (.int z) := rfl
      refine ⟨_, rfl, _, _, _, _, rfl, rfl, .l hb, a2, _, _, rfl, rfl, _, rfl, _, _, _, _, rfl, rfl, hb, rfl, ?_⟩
      refine ⟨_, rfl, _, _, _, _, rfl, rfl, .l upd_same, a1, _, rfl, _, _, _, _, rfl, rfl, .l upd_same, a2, _, _, rfl, rfl, .inl ⟨by decide, by decide⟩, _, _, rfl, rfl, _, _, rfl, rfl, .inr ⟨by decide, by decide⟩,
        .inl ⟨_, rfl, _, _, rfl, rfl, (by show (0 : Int) < _; decide), ?_⟩⟩
      refine ⟨_, rfl, _, _, rfl, rfl, .inr ⟨by decide, by decide⟩, _, _, rfl, rfl, .inl ⟨_, rfl, _, _, rfl, rfl, (by show (0 : Int) < _; decide), _, _, rfl, rfl, _, rfl, _, _, _, _, rfl, rfl, upd_same, rfl, ?_⟩⟩
      refine ⟨_, rfl, _, _, rfl, rfl, .inr ⟨by decide, by decide⟩, _, rfl, _, _, _, _, rfl, rfl, .l upd_same, a1, _, _, rfl, rfl, _, _, rfl, rfl, ⟨by decide, by decide⟩, .inl ⟨_, rfl, _, rfl, _, _, rfl, rfl, h0, ?_⟩⟩
      rw [upd_upd]
      exact q _ _ _ _ (Int.emod_nonneg _ (by omega)) (Int.emod_lt_of_pos _ h0)
abbrev s_l_pick : Stmt := top 28
abbrev N_l_pick : List Str := ["_law_box_here", "_law_some"]
theorem sc_l_pick : FnScope N_l_pick ["_law_box_here", "_law_some"] (defScope s_l_pick) := ⟨rfl, rfl, rfl, by decide +kernel, rfl, by decide +kernel, by decide +kernel⟩

theorem ok_pick (F : FnP K "_law_pick" s_l_pick f fd) (m_len : mg "len" = none) (g_l_take : FnAt P w K mg base CX0 1 "_law_take" ["_law_box_here", "_law_many"] spTake) : FnOk P w K mg base CX0 2 f fd ["_law_box_here", "_law_some"] (spPick K) := by
  refine F.ok sc_l_pick (fun vs H Q E h => ?_) (fun cdv A outer s H vs Q E hr h => ?_)
  · obtain ⟨b, l, xs, rfl, _⟩ := h
    rfl
  · obtain ⟨b, l, xs, rfl, hb, hl, hn, h0, h1, q⟩ := h
    refine ⟨_, PSs.nox (pss_one (ps_ret (pe_ix (ix_sqK K) (pv 1) (pe_fn g_l_take hr rfl (pa_cons (pv 0) (pa_cons (pe_callB (call_lenK K) rfl m_len (by decide +kernel) (pa_cons (pv 1) (pa_nil))) (pa_nil)))) (fun _ _ => rfl)))), ?_⟩
    refine ⟨_, rfl, _, rfl, _, rfl, _, _, rfl, hl, b, _, rfl, hb, by omega, by omega, fun x y z d d0 d1 => ?_⟩
    have hd : d.toNat < xs.length := by omega
    exact ⟨l, xs, _, xs[d.toNat], rfl, rfl, hl.upd hn, at_toNat d0 hd, q x y z _ (List.getElem_mem hd)⟩
end
end WW

set_option Elab.async false
set_option linter.all false
set_option maxRecDepth 100000
set_option maxHeartbeats 4000000
namespace WW
open PySem PySem.Spec PyProof.Rows L2
/-- what is told is a value; the heap grows -/
def spV (pre : List V → Hp → V → Prop) : Sp := fun vs H Q _ => ∃ v, pre vs H v ∧ ∀ H', Same H H' → Q v H'
def isThingV : V → Bool
  | .non => true
  | .int _ => true
  | _ => false
def belowV : V → V → Bool
  | .non, .int _ => true
  | .int i, .int j => decide (i < j)
  | _, _ => false
def risingV (xs : List V) : Bool := !((List.range (xs.length - 1)).map fun i => belowV (xs.getD (i + 1) .non) (xs.getD i .non)).any id
section
variable {P : Program} {w : World} {K : PySem.W.Frag} {mg : Str → Option Value} {base : Heap} {f : Addr} {fd : FuncData}
def spInteger (K : PySem.W.Frag) : Sp := spV fun vs H v => ∃ x sq, vs = [x] ∧ HasT K H x sq ∧ v = .bl (isIntV x)
abbrev s_is_integer : Stmt := top 7
abbrev N_is_integer : List Str := ["value"]
theorem sc_is_integer : FnScope N_is_integer ["value"] (defScope s_is_integer) := ⟨rfl, rfl, rfl, by decide +kernel, rfl, by decide +kernel, by decide +kernel⟩

theorem ok_is_integer (F : FnP K "is_integer" s_is_integer f fd) (m_isinstance : mg "isinstance" = none) (m_int : mg "int" = none) (m_bool : mg "bool" = none) : FnOk P w K mg base CX0 1 f fd ["value"] (spInteger K) := by
  refine F.ok sc_is_integer (fun vs H Q E h => ?_) (fun cdv A outer s H vs Q E hr h => ?_)
  · obtain ⟨v, ⟨x, sq, rfl, _⟩, _⟩ := h
    rfl
  · obtain ⟨v, ⟨x, sq, rfl, ⟨t, b1, b2, ty, k1, k2, e, k3⟩, rfl⟩, q⟩ := h
    refine ⟨_, PSs.nox (pss_one (ps_ret (pe_and (pe_callB (call_isiK1 K) rfl m_isinstance (by decide +kernel) (pa_cons (pv 0) (pa_cons (pe_bltn (v := .ty "int") (u := .type "int") rfl m_int (by decide +kernel) rfl) (pa_nil)))) (pe_one (pe_not (pe_callB (call_isiK1 K) rfl m_isinstance (by decide +kernel) (pa_cons (pv 0) (pa_cons (pe_bltn (v := .ty "bool") (u := .type "bool") rfl m_bool (by decide +kernel) rfl) (pa_nil))))))))), ?_⟩
    refine ⟨_, rfl, x, .ty "int", t, _, b1, rfl, .ty "int", ty, k1, b1, rfl, ?_⟩
    rw [← e] at q
    cases b1 with
    | false => exact q _ (Same.refl H)
    | true => exact ⟨_, rfl, x, .ty "bool", t, _, b2, rfl, .ty "bool", ty, k2, b2, rfl, q _ (Same.refl H)⟩
def isNumV : V → Bool
  | .int i => decide (0 ≤ i)
  | _ => false
def spNumber (K : PySem.W.Frag) : Sp := spV fun vs H v => ∃ x sq, vs = [x] ∧ HasT K H x sq ∧ v = .bl (isNumV x)
abbrev s_is_number : Stmt := top 8
abbrev N_is_number : List Str := ["value"]
theorem sc_is_number : FnScope N_is_number ["value"] (defScope s_is_number) := ⟨rfl, rfl, rfl, by decide +kernel, rfl, by decide +kernel, by decide +kernel⟩

theorem ok_is_number (F : FnP K "is_number" s_is_number f fd) (g_is_integer : FnAt P w K mg base CX0 1 "is_integer" ["value"] (spInteger K)) : FnOk P w K mg base CX0 2 f fd ["value"] (spNumber K) := by
  refine F.ok sc_is_number (fun vs H Q E h => ?_) (fun cdv A outer s H vs Q E hr h => ?_)
  · obtain ⟨v, ⟨x, sq, rfl, _⟩, _⟩ := h
    rfl
  · obtain ⟨v, ⟨x, sq, rfl, hx, rfl⟩, q⟩ := h
    refine ⟨_, PSs.nox (pss_one (ps_ret (pe_and (pe_fn g_is_integer hr rfl (pa_cons (pv 0) (pa_nil))) (pe_one (pe_cmpR op_ge (pv 0) (pe_int) (nomark _)))))), ?_⟩
    refine ⟨_, rfl, _, ⟨x, sq, rfl, hx, rfl⟩, fun H1 s1 => ⟨_, rfl, ?_⟩⟩
    cases x with
    | int i => exact ⟨_, rfl, _, _, rfl, rfl, q _ s1⟩
    | _ => exact q _ s1
def spSequence (K : PySem.W.Frag) : Sp := spV fun vs H v => ∃ x sq, vs = [x] ∧ HasT K H x sq ∧ v = .bl sq
abbrev s_is_sequence : Stmt := top 9
abbrev N_is_sequence : List Str := ["value"]
theorem sc_is_sequence : FnScope N_is_sequence ["value"] (defScope s_is_sequence) := ⟨rfl, rfl, rfl, by decide +kernel, rfl, by decide +kernel, by decide +kernel⟩

theorem ok_is_sequence (F : FnP K "is_sequence" s_is_sequence f fd) (m_isinstance : mg "isinstance" = none) (m_list : mg "list" = none) (m_tuple : mg "tuple" = none) : FnOk P w K mg base CX0 1 f fd ["value"] (spSequence K) := by
  refine F.ok sc_is_sequence (fun vs H Q E h => ?_) (fun cdv A outer s H vs Q E hr h => ?_)
  · obtain ⟨v, ⟨x, sq, rfl, _⟩, _⟩ := h
    rfl
  · obtain ⟨v, ⟨x, sq, rfl, ⟨t, b1, b2, ty, k1, k2, e, k3⟩, rfl⟩, q⟩ := h
    refine ⟨_, PSs.nox (pss_one (ps_ret (pe_callB (call_isiTK K) rfl m_isinstance (by decide +kernel) (pa_cons (pv 0) (pa_cons (pe_tup (pa_cons (pe_bltn (v := .ty "list") (u := .type "list") rfl m_list (by decide +kernel) rfl) (pa_cons (pe_bltn (v := .ty "tuple") (u := .type "tuple") rfl m_tuple (by decide +kernel) rfl) (pa_nil)))) (pa_nil)))))), ?_⟩
    refine ⟨_, rfl, by show 2 ≤ sizeLine; decide, fun p hp => ?_⟩
    have sm : Same H (upd H p (.tup [.ty "list", .ty "tuple"])) := fun a o ha => (upd_ne (ne_of_none ha hp)).trans ha
    exact ⟨x, p, _, t, _, sq, rfl, upd_same, .cons (.ty "list") (.cons (.ty "tuple") .nil), tyx_same sm ty, k3, q _ sm⟩
def spThing (K : PySem.W.Frag) : Sp := spV fun vs H v => ∃ x sq, vs = [x] ∧ HasT K H x sq ∧ v = .bl (isThingV x)
abbrev s_is_thing : Stmt := top 14
abbrev N_is_thing : List Str := ["value"]
theorem sc_is_thing : FnScope N_is_thing ["value"] (defScope s_is_thing) := ⟨rfl, rfl, rfl, by decide +kernel, rfl, by decide +kernel, by decide +kernel⟩

theorem ok_is_thing (F : FnP K "is_thing" s_is_thing f fd) (g_is_integer : FnAt P w K mg base CX0 1 "is_integer" ["value"] (spInteger K)) : FnOk P w K mg base CX0 2 f fd ["value"] (spThing K) := by
  refine F.ok sc_is_thing (fun vs H Q E h => ?_) (fun cdv A outer s H vs Q E hr h => ?_)
  · obtain ⟨v, ⟨x, sq, rfl, _⟩, _⟩ := h
    rfl
  · obtain ⟨v, ⟨x, sq, rfl, hx, rfl⟩, q⟩ := h
    refine ⟨_, PSs.nox (pss_one (ps_ret (pe_or (pe_cmpR op_isN (pv 0) (pe_non) (nomark _)) (pe_one (pe_fn g_is_integer hr rfl (pa_cons (pv 0) (pa_nil))))))), ?_⟩
    refine ⟨_, rfl, rfl, _, rfl, ?_⟩
    cases x with
    | non => exact q _ (Same.refl H)
    | _ => exact ⟨_, rfl, _, ⟨_, sq, rfl, hx, rfl⟩, fun H1 s1 => q _ s1⟩
def spBelow : Sp := spV fun vs H v => ∃ x y, vs = [x, y] ∧ isThingV x = true ∧ isThingV y = true ∧ v = .bl (belowV x y)
abbrev s_is_below : Stmt := top 15
abbrev N_is_below : List Str := ["one", "other"]
theorem sc_is_below : FnScope N_is_below ["one", "other"] (defScope s_is_below) := ⟨rfl, rfl, rfl, by decide +kernel, rfl, by decide +kernel, by decide +kernel⟩

theorem ok_is_below (F : FnP K "is_below" s_is_below f fd) : FnOk P w K mg base CX0 1 f fd ["one", "other"] spBelow := by
  refine F.ok sc_is_below (fun vs H Q E h => ?_) (fun cdv A outer s H vs Q E hr h => ?_)
  · obtain ⟨v, ⟨x, y, rfl, _⟩, _⟩ := h
    rfl
  · obtain ⟨v, ⟨x, y, rfl, hx, hy, rfl⟩, q⟩ := h
    have q := q _ (Same.refl H)
    refine ⟨_, PSs.nox (pss_cons (ps_if (pt_cmpR op_isN (pv 1) (pe_non) (nomark _)) (pss_one (ps_ret (pe_bl))) (pss_nil))
 (pss_one (ps_ret (pe_or (pe_cmpR op_isN (pv 0) (pe_non) (nomark _)) (pe_one (pe_cmpR op_lt (pv 0) (pv 1) (nomark _))))))), ?_⟩
    refine ⟨_, rfl, rfl, _, rfl, ?_⟩
    cases y with
    | non => cases x <;> exact q
    | int j =>
      refine ⟨_, rfl, rfl, _, rfl, ?_⟩
      cases x with
      | non => exact q
      | int i => exact ⟨_, rfl, _, rfl, _, _, rfl, rfl, q⟩
      | _ => cases hx
    | _ => cases hy
def spRising (K : PySem.W.Frag) : Sp := spV fun vs H v => ∃ a xs, vs = [.ref a] ∧ Sq K H a xs ∧ xs.length ≤ 1000 ∧ xs.all isThingV = true ∧ v = .bl (risingV xs)
theorem getD_at {xs : List V} {i : Nat} (h : i < xs.length) : atI xs (i : Int) = some (xs.getD i .non) := by
  rw [List.getD_eq_getElem?_getD, List.getElem?_eq_getElem h]
  exact atI_nat (List.getElem?_eq_getElem h)
theorem all_getD {xs : List V} {p : V → Bool} (h : xs.all p = true) {i : Nat} (hi : i < xs.length) : p (xs.getD i .non) = true := by
  rw [List.getD_eq_getElem?_getD, List.getElem?_eq_getElem hi]
  exact List.all_eq_true.mp h _ (List.getElem_mem hi)
abbrev s_are_rising : Stmt := top 16
abbrev N_are_rising : List Str := ["some", "at"]
theorem sc_are_rising : FnScope N_are_rising ["some"] (defScope s_are_rising) := ⟨rfl, rfl, rfl, by decide +kernel, rfl, by decide +kernel, by decide +kernel⟩

theorem ok_are_rising (F : FnP K "are_rising" s_are_rising f fd) (m_any : mg "any" = none) (m_len : mg "len" = none) (m_range : mg "range" = none) (g_is_below : FnAt P w K mg base CX0 1 "is_below" ["one", "other"] spBelow) : FnOk P w K mg base CX0 2 f fd ["some"] (spRising K) := by
  refine F.ok sc_are_rising (fun vs H Q E h => ?_) (fun cdv A outer s H vs Q E hr h => ?_)
  · obtain ⟨v, ⟨a, xs, rfl, _⟩, _⟩ := h
    rfl
  · obtain ⟨v, ⟨a, xs, rfl, hq, hl, hall, rfl⟩, q⟩ := h
    refine ⟨_, PSs.nox (pss_one (ps_ret (pe_not (pe_callB (cr_anyK K) rfl m_any (by decide +kernel) (pa_cons (pe_lc (own := [("at", 1)]) rfl sc_are_rising.nd (pi_range1 rfl m_range (pa_cons (pe_op op_sub (pe_callB (call_lenK K) rfl m_len (by decide +kernel) (pa_cons (pv 0) (pa_nil))) (pe_int)) (pa_nil))) (blkOk_by (N := N_are_rising) (sc := defScope s_are_rising) (by decide +kernel)) (fun _ _ _ _ _ => pg_name (i := 1) sc_are_rising.nd rfl (.inl rfl)) (fun _ _ _ _ _ => pts_nil) (fun _ _ _ _ _ => pe_fn g_is_below hr rfl (pa_cons (pe_ix (ix_sqK K) (pv 0) (pe_op op_add (pv 1) (pe_int)) (fun _ _ => rfl)) (pa_cons (pe_ix (ix_sqK K) (pv 0) (pv 1) (fun _ _ => rfl)) (pa_nil))))) (pa_nil)))))), ?_⟩
    refine ⟨_, rfl, a, xs, rfl, hq, _, _, rfl, rfl, _, rfl, by omega, by omega, fun D hD => ?_⟩
    have hn : ((xs.length : Int) - 1).toNat = xs.length - 1 := by omega
    rw [hn]
    refine lc_rg (fun i => .bl (belowV (xs.getD (i + 1) .non) (xs.getD i .non))) (by omega) hD (fun i hi H1 s1 R k => ?_) fun H' s1 hD' => ?_
    · have e0 : (0 : Int) + (i : Int) + 1 = ((i + 1 : Nat) : Int) := by omega
      have e1 : (0 : Int) + (i : Int) = ((i : Nat) : Int) := by omega
      refine ⟨_, rfl, _, rfl, _, _, rfl, rfl, a, xs, _, _, rfl, rfl, hq.ex s1, ?_, _, rfl, _, rfl, a, xs, _, _, rfl, rfl, hq.ex s1, ?_, _, ⟨_, _, rfl, ?_, ?_, rfl⟩, k⟩
      · rw [e0]
        exact getD_at (by omega)
      · rw [e1]
        exact getD_at (by omega)
      · exact all_getD hall (by omega)
      · exact all_getD hall (by omega)
    · refine ⟨D, (List.range (xs.length - 1)).map (fun i => belowV (xs.getD (i + 1) .non) (xs.getD i .non)), rfl, .inl (.inl ?_), _, rfl, q _ s1⟩
      rw [hD', List.map_map]
      rfl
end
end WW

set_option Elab.async false
set_option linter.all false
set_option maxRecDepth 100000
set_option maxHeartbeats 4000000
namespace WW
open PySem PySem.Spec PyProof.Rows L2
/-- an argument: no sequence, or a sequence of these -/
def Arg (K : PySem.W.Frag) (H : Hp) (x : V) : Option (List V) → Prop
  | none => HasT K H x false
  | some xs => ∃ a, x = .ref a ∧ Sq K H a xs ∧ xs.length ≤ 400 ∧ ∀ y ∈ xs, ∃ sq, HasT K H y sq
def intOf : V → Int
  | .int i => i
  | _ => 0
def hd (xs : List V) : V := xs.getD 0 .non
def lst (xs : List V) : V := xs.getD (xs.length - 1) .non
def wrongA (xs ys : List V) (m : V) : V :=
  if (ys.isEmpty || !ys.all isThingV) = true then .str "again"
  else if (!risingV (cutV xs (some (-1)) none ++ ys) || (decide (hd ys = .non) && !decide (lst ys = .non))) = true then .str "again"
  else if isNumV m = false then .str "more"
  else if hd ys = .non then (if m = .int 0 then .non else .str "more")
  else if intOf (lst ys) ≤ intOf (hd ys) + intOf m then .non else .str "more"
def wrongB (xs : List V) (m : V) : Option (List V) → V
  | none => .str "again"
  | some ys => wrongA xs ys m
def wrongW (o1 o2 : Option (List V)) (m : V) : V := match o1 with
  | none => .str "first"
  | some xs => if (xs.all isThingV && risingV xs) = true then wrongB xs m o2 else .str "first"
def spWrong (K : PySem.W.Frag) : Sp := spV fun vs H v => ∃ x y m o1 o2 sq, vs = [x, y, m] ∧ Arg K H x o1 ∧ Arg K H y o2 ∧ HasT K H m sq ∧ v = wrongW o1 o2 m
theorem Arg.ex {K : PySem.W.Frag} {H H' : Hp} {x : V} {o : Option (List V)} (e : Same H H') (h : Arg K H x o) : Arg K H' x o := by
  cases o with
  | none => exact HasT.ex e h
  | some xs =>
    obtain ⟨a, r, hq, hl, hy⟩ := h
    exact ⟨a, r, hq.ex e, hl, fun y m => ⟨_, (hy y m).choose_spec.ex e⟩⟩
theorem risingV_at {xs : List V} (h : risingV xs = true) {i : Nat} (hi : i + 1 < xs.length) : belowV (xs.getD (i + 1) .non) (xs.getD i .non) = false := by
  unfold risingV at h
  rw [Bool.not_eq_true', List.any_eq_false] at h
  have q := h (belowV (xs.getD (i + 1) .non) (xs.getD i .non)) (List.mem_map.mpr ⟨i, List.mem_range.mpr (by omega), rfl⟩)
  simpa using q
theorem risingV_of {xs : List V} (h : ∀ i, i + 1 < xs.length → belowV (xs.getD (i + 1) .non) (xs.getD i .non) = false) : risingV xs = true := by
  unfold risingV
  rw [Bool.not_eq_true', List.any_eq_false]
  intro b hb
  obtain ⟨i, hi, rfl⟩ := List.mem_map.mp hb
  rw [List.mem_range] at hi
  simpa using h i (by omega)
theorem rising_ints {xs : List V} (ht : xs.all isThingV = true) (h : risingV xs = true) (h0 : isIntV (xs.getD 0 .non) = true) : ∀ i, i < xs.length → isIntV (xs.getD i .non) = true
  | 0, _ => h0
  | i + 1, hi => by
    have ih := rising_ints ht h h0 i (by omega)
    have q := risingV_at h hi
    have t := all_getD ht hi
    revert q t ih
    cases xs.getD (i + 1) V.non <;> cases xs.getD i V.non <;> intro ih q t <;> first | rfl | (cases ih; done) | (cases t; done) | (cases q; done)
theorem rising_drop {xs ys : List V} (h : risingV (xs ++ ys) = true) : risingV ys = true := by
  refine risingV_of fun i hi => ?_
  have q := risingV_at (xs := xs ++ ys) h (i := xs.length + i) (by rw [List.length_append]; omega)
  simp only [List.getD_eq_getElem?_getD] at q ⊢
  rw [List.getElem?_append_right (by omega), List.getElem?_append_right (by omega)] at q
  rw [show xs.length + i + 1 - xs.length = i + 1 by omega, show xs.length + i - xs.length = i by omega] at q
  exact q
section
variable {P : Program} {w : World} {K : PySem.W.Frag} {mg : Str → Option Value} {base : Heap} {f : Addr} {fd : FuncData}
/-- all([is_thing(x) for x in xs]) -/
theorem all_things {σ : L2.St} {H : Hp} {Q : VK} {tl : TE} {a : Addr} {j : Nat} {xs : List V} (hj : j < σ.length) (hv : ∀ R : VK, R (.ref a) H → tl σ H R) (hq : Sq K H a xs) (hl : xs.length ≤ 400) (hy : ∀ y ∈ xs, ∃ sq, HasT K H y sq)
    (k : ∀ H', Same H H' → Q (.bl (xs.all isThingV)) H') : tCB (rAll K) (tCons (tLc (iSeq K tl) (gName j) tYes (tCall (spThing K) [] E0 (tCons (tVar j) tNil)) [j]) tNil) σ H Q := by
  show tLc (iSeq K tl) (gName j) tYes (tCall (spThing K) [] E0 (tCons (tVar j) tNil)) [j] σ H (fun x H1 => rAll K [x] H1 Q)
  refine lc_sq (K := K) (fun x => .bl (isThingV x)) hv hq (by omega) (fun x hx H1 s1 R r => ?_) fun D H' s1 _ hD => ?_
  · obtain ⟨sq, ht⟩ := hy x hx
    refine ⟨x, ?_, _, ⟨x, sq, rfl, ht.ex s1, rfl⟩, r⟩
    rw [List.getElem?_set_self]
    rw [wipe_length]
    exact hj
  · refine ⟨D, xs.map isThingV, rfl, .inl (.inl ?_), ?_⟩
    · rw [hD, List.map_map]
      rfl
    · have e : (xs.map isThingV).all id = xs.all isThingV := by rw [List.all_map]; rfl
      rw [e]
      exact k H' s1
abbrev s_wrong_word : Stmt := top 17
abbrev N_wrong_word : List Str := ["first", "again", "more", "thing"]
theorem sc_wrong_word : FnScope N_wrong_word ["first", "again", "more"] (defScope s_wrong_word) := ⟨rfl, rfl, rfl, by decide +kernel, rfl, by decide +kernel, by decide +kernel⟩

set_option maxHeartbeats 8000000 in
theorem ok_wrong_word (F : FnP K "wrong_word" s_wrong_word f fd) (m_all : mg "all" = none) (m_len : mg "len" = none) (g_is_sequence : FnAt P w K mg base CX0 1 "is_sequence" ["value"] (spSequence K)) (g_is_thing : FnAt P w K mg base CX0 2 "is_thing" ["value"] (spThing K))
    (g_is_number : FnAt P w K mg base CX0 2 "is_number" ["value"] (spNumber K)) (g_are_rising : FnAt P w K mg base CX0 2 "are_rising" ["some"] (spRising K)) : FnOk P w K mg base CX0 3 f fd ["first", "again", "more"] (spWrong K) := by
  refine F.ok sc_wrong_word (fun vs H Q E h => ?_) (fun cdv A outer s H vs Q E hr h => ?_)
  · obtain ⟨v, ⟨x, y, m, o1, o2, sq, rfl, _⟩, _⟩ := h
    rfl
  · obtain ⟨v, ⟨x, y, m, o1, o2, sq, rfl, h1, h2, h3, rfl⟩, q⟩ := h
    refine ⟨_, PSs.nox (pss_cons (ps_if (PW.pt (pw_or (pt_not (pt_val (pe_fn g_is_sequence hr rfl (pa_cons (pv 0) (pa_nil))))) (pw_or (pt_not (pt_val (pe_callB (cr_allK K) rfl m_all (by decide +kernel) (pa_cons (pe_lc (own := [("thing", 3)]) rfl sc_wrong_word.nd (pi_seqK K (pv 0)) (blkOk_by (N := N_wrong_word) (sc := defScope s_wrong_word) (by decide +kernel)) (fun _ _ _ _ _ => pg_name (i := 3) sc_wrong_word.nd rfl (.inl rfl)) (fun _ _ _ _ _ => pts_nil) (fun _ _ _ _ _ => pe_fn g_is_thing hr rfl (pa_cons (pv 3) (pa_nil)))) (pa_nil))))) (pw_or1 (pt_not (pt_val (pe_fn g_are_rising hr rfl (pa_cons (pv 0) (pa_nil))))))))) (pss_one (ps_ret (pe_str))) (pss_nil))
 (pss_cons (ps_if (PW.pt (pw_or (pt_not (pt_val (pe_fn g_is_sequence hr rfl (pa_cons (pv 1) (pa_nil))))) (pw_or (pt_cmpR op_eq (pe_callB (call_lenK K) rfl m_len (by decide +kernel) (pa_cons (pv 1) (pa_nil))) (pe_int) (nomark _)) (pw_or1 (pt_not (pt_val (pe_callB (cr_allK K) rfl m_all (by decide +kernel) (pa_cons (pe_lc (own := [("thing", 3)]) rfl sc_wrong_word.nd (pi_seqK K (pv 1)) (blkOk_by (N := N_wrong_word) (sc := defScope s_wrong_word) (by decide +kernel)) (fun _ _ _ _ _ => pg_name (i := 3) sc_wrong_word.nd rfl (.inl rfl)) (fun _ _ _ _ _ => pts_nil) (fun _ _ _ _ _ => pe_fn g_is_thing hr rfl (pa_cons (pv 3) (pa_nil)))) (pa_nil))))))))) (pss_one (ps_ret (pe_str))) (pss_nil))
 (pss_cons (ps_if (PW.pt (pw_or (pt_not (pt_val (pe_fn g_are_rising hr rfl (pa_cons (pe_lst (pa_starK K (pe_slice (sl_sqK K) (pv 0) (po_some (pe_un un_neg (pe_int))) (po_none)) (pa_starK K (pv 1) (pa_nil)))) (pa_nil))))) (pw_or1 (PW.pt (pw_and (pt_cmpR op_isN (pe_ix (ix_sqK K) (pv 1) (pe_int) (fun _ _ => rfl)) (pe_non) (nomark _)) (pw_and1 (pt_cmpR op_notN (pe_ix (ix_sqK K) (pv 1) (pe_un un_neg (pe_int)) (fun _ _ => rfl)) (pe_non) (nomark _)))))))) (pss_one (ps_ret (pe_str))) (pss_nil))
 (pss_cons (ps_if (pt_not (pt_val (pe_fn g_is_number hr rfl (pa_cons (pv 2) (pa_nil))))) (pss_one (ps_ret (pe_str))) (pss_nil))
 (pss_cons (ps_if (pt_cmpR op_isN (pe_ix (ix_sqK K) (pv 1) (pe_int) (fun _ _ => rfl)) (pe_non) (nomark _)) (pss_one (ps_ret (pe_ifExp (pt_cmpR op_eq (pv 2) (pe_int) (nomark _)) (pe_non) (pe_str)))) (pss_nil))
 (pss_one (ps_ret (pe_ifExp (pt_cmpR op_le (pe_ix (ix_sqK K) (pv 1) (pe_un un_neg (pe_int)) (fun _ _ => rfl)) (pe_op op_add (pe_ix (ix_sqK K) (pv 1) (pe_int) (fun _ _ => rfl)) (pv 2)) (nomark _)) (pe_non) (pe_str))))))))), ?_⟩
    cases o1 with
    | none => exact ⟨_, rfl, _, ⟨x, false, rfl, h1, rfl⟩, fun H1 s1 => ⟨_, rfl, q _ s1⟩⟩
    | some xs =>
      obtain ⟨a, rfl, hq, hl, hy⟩ := id h1
      refine ⟨_, rfl, _, ⟨_, true, rfl, hq.hasT, rfl⟩, fun H1 s1 => ⟨_, rfl, ?_⟩⟩
      refine all_things (show 3 < 4 by decide) (fun R r => ⟨_, rfl, r⟩) (hq.ex s1) hl (fun y my => ⟨_, (hy y my).choose_spec.ex s1⟩) fun H2 s2 => ⟨_, rfl, ?_⟩
      have s12 := s1.trans s2
      have q : ∀ H', Same H H' → Q (if (xs.all isThingV && risingV xs) = true then wrongB xs m o2 else V.str "first") H' := q
      cases ht : xs.all isThingV with
      | false =>
        rw [ht] at q
        exact q _ s12
      | true =>
        rw [ht, Bool.true_and] at q
        refine ⟨_, rfl, _, ⟨a, xs, rfl, hq.ex s12, by omega, ht, rfl⟩, fun H3 s3 => ⟨_, rfl, ?_⟩⟩
        have s13 := s12.trans s3
        cases hr1 : risingV xs with
        | false =>
          rw [hr1] at q
          exact q _ s13
        | true =>
          rw [hr1, if_pos rfl] at q
          cases o2 with
          | none => exact ⟨_, rfl, _, ⟨y, false, rfl, HasT.ex s13 h2, rfl⟩, fun H4 s4 => ⟨_, rfl, q _ (s13.trans s4)⟩⟩
          | some ys =>
            obtain ⟨b, rfl, kq, kl, ky⟩ := id h2
            refine ⟨_, rfl, _, ⟨_, true, rfl, (kq.ex s13).hasT, rfl⟩, fun H4 s4 => ⟨_, rfl, ?_⟩⟩
            have s14 := s13.trans s4
            refine ⟨_, rfl, b, ys, rfl, kq.ex s14, rfl, _, rfl, ?_⟩
            have q : ∀ H', Same H H' → Q (wrongA xs ys m) H' := q
            unfold wrongA at q
            cases hz : ys.isEmpty with
            | true =>
              have e0 : ys = [] := List.isEmpty_iff.mp hz
              subst e0
              exact q _ s14
            | false =>
              have e0 : ¬ V.int (ys.length : Int) = V.int 0 := fun z => by
                have z1 : (ys.length : Int) = 0 := V.int.inj z
                have z2 : ys = [] := List.eq_nil_of_length_eq_zero (by omega)
                rw [z2] at hz
                cases hz
              have hpos : 0 < ys.length := by
                cases ys with
                | nil => exact absurd rfl e0
                | cons _ _ => exact Nat.succ_pos _
              rw [decide_eq_false e0]
              refine all_things (show 3 < 4 by decide) (fun R r => ⟨_, rfl, r⟩) (kq.ex s14) kl (fun y my => ⟨_, (ky y my).choose_spec.ex s14⟩) fun H5 s5 => ⟨_, rfl, ?_⟩
              have s15 := s14.trans s5
              cases kt : ys.all isThingV with
              | false =>
                rw [hz, kt] at q
                exact q _ s15
              | true =>
                rw [hz, kt, if_neg (by decide)] at q
                refine ⟨_, rfl, 1, rfl, _, rfl, slq (hq.ex s15) fun c H6 s6 hc => ?_⟩
                have s16 := s15.trans s6
                refine ⟨c, _, rfl, hc.symm, _, rfl, b, ys, rfl, (kq.ex s16).symm, ?_⟩
                have hlen : (cutV xs (some (-1)) none ++ ys).length ≤ 1000 := by
                  rw [List.length_append]
                  have := cutV_length xs (some (-1)) none
                  omega
                have hall : (cutV xs (some (-1)) none ++ ys).all isThingV = true := by
                  rw [List.all_append, kt, Bool.and_true, List.all_eq_true]
                  intro z hz
                  unfold cutV at hz
                  exact List.all_eq_true.mp ht z (List.mem_of_mem_drop (List.mem_of_mem_take hz))
                simp only [tNil, List.append_nil]
                refine ⟨Nat.le_trans hlen (by decide), fun p hp => ?_⟩
                have s7 : Same H6 (upd H6 p (.lst (cutV xs (some (-1)) none ++ ys))) := fun a o ha => (upd_ne (ne_of_none ha hp)).trans ha
                refine ⟨_, ⟨p, _, rfl, .l upd_same, hlen, hall, rfl⟩, fun H8 s8 => ⟨_, rfl, ?_⟩⟩
                have s18 := (s16.trans s7).trans s8
                have at0 : atI ys 0 = some (hd ys) := getD_at (i := 0) hpos
                have atL : atI ys (-1) = some (lst ys) := by
                  have e : ys = ys.dropLast ++ [ys.getLast (List.ne_nil_of_length_pos hpos)] := (List.dropLast_concat_getLast _).symm
                  have z : lst ys = ys.getLast (List.ne_nil_of_length_pos hpos) := by
                    unfold lst
                    rw [List.getD_eq_getElem?_getD, List.getElem?_eq_getElem (by omega), List.getLast_eq_getElem]
                    rfl
                  rw [z]
                  conv => lhs; rw [e]
                  exact atI_last _ _
                cases kr : risingV (cutV xs (some (-1)) none ++ ys) with
                | false =>
                  rw [kr] at q
                  exact q _ s18
                | true =>
                  rw [kr] at q
                  refine ⟨_, rfl, b, ys, _, _, rfl, rfl, kq.ex s18, at0, rfl, _, rfl, ?_⟩
                  cases hd0 : decide (hd ys = .non) with
                  | true =>
                    refine ⟨_, rfl, 1, rfl, b, ys, _, _, rfl, rfl, kq.ex s18, atL, rfl, _, rfl, ?_⟩
                    rw [hd0] at q
                    cases l0 : decide (lst ys = .non) with
                    | false =>
                      rw [l0] at q
                      exact q _ s18
                    | true =>
                      rw [l0] at q
                      refine ⟨_, rfl, _, ⟨m, sq, rfl, h3.ex s18, rfl⟩, fun H9 s9 => ⟨_, rfl, ?_⟩⟩
                      have s19 := s18.trans s9
                      cases nm : isNumV m with
                      | false =>
                        rw [nm] at q
                        exact q _ s19
                      | true =>
                        rw [nm] at q
                        refine ⟨_, rfl, b, ys, _, _, rfl, rfl, kq.ex s19, at0, rfl, _, rfl, ?_⟩
                        rw [hd0]
                        rw [if_pos (of_decide_eq_true hd0)] at q
                        refine ⟨_, rfl, ?_⟩
                        cases m with
                        | int i =>
                          refine ⟨rfl, _, rfl, ?_⟩
                          by_cases hi : V.int i = V.int 0
                          · rw [decide_eq_true hi]
                            rw [if_pos hi] at q
                            exact q _ s19
                          · rw [decide_eq_false hi]
                            rw [if_neg hi] at q
                            exact q _ s19
                        | _ => cases nm
                  | false =>
                    rw [hd0] at q
                    refine ⟨_, rfl, _, ⟨m, sq, rfl, h3.ex s18, rfl⟩, fun H9 s9 => ⟨_, rfl, ?_⟩⟩
                    have s19 := s18.trans s9
                    cases nm : isNumV m with
                    | false =>
                      rw [nm] at q
                      exact q _ s19
                    | true =>
                      rw [nm] at q
                      refine ⟨_, rfl, b, ys, _, _, rfl, rfl, kq.ex s19, at0, rfl, _, rfl, ?_⟩
                      rw [hd0]
                      rw [if_neg (of_decide_eq_false hd0)] at q
                      have i0 : isIntV (hd ys) = true := by
                        have t := all_getD kt hpos
                        have n := of_decide_eq_false hd0
                        revert t n
                        unfold hd
                        cases ys.getD 0 V.non <;> intro t n <;> first | rfl | exact absurd rfl n | (cases t; done)
                      have iL : isIntV (lst ys) = true := rising_ints kt (rising_drop kr) i0 _ (by omega)
                      obtain ⟨u, eu⟩ : ∃ u, hd ys = .int u := by
                        revert i0
                        cases hd ys <;> intro i0 <;> first | exact ⟨_, rfl⟩ | cases i0
                      obtain ⟨t, et⟩ : ∃ t, lst ys = .int t := by
                        revert iL
                        cases lst ys <;> intro iL <;> first | exact ⟨_, rfl⟩ | cases iL
                      cases m with
                      | int i =>
                        refine ⟨_, rfl, 1, rfl, b, ys, _, _, rfl, rfl, kq.ex s19, atL, _, rfl, b, ys, _, _, rfl, rfl, kq.ex s19, at0, _, rfl, u, i, eu, rfl, t, _, et, rfl, _, rfl, ?_⟩
                        rw [eu, et] at q
                        have q : ∀ H', Same H H' → Q (if t ≤ u + i then .non else .str "more") H' := q
                        by_cases hi : t ≤ u + i
                        · rw [decide_eq_true hi]
                          rw [if_pos hi] at q
                          exact q _ s19
                        · rw [decide_eq_false hi]
                          rw [if_neg hi] at q
                          exact q _ s19
                      | _ => cases nm
end
end WW

set_option Elab.async false
set_option linter.all false
set_option maxRecDepth 100000
set_option maxHeartbeats 4000000
namespace WW
open PySem PySem.Spec PyProof.Rows L2
def wide (ag : List Int) (m : Int) (t : Nat) : List Int := ag ++ (ag.take t).map (· + m)
def isTurn (ag : List Int) (m : Int) (t : Nat) : Bool :=
  if (ag.length : Int) % (t : Int) ≠ 0 ∨ m * (t : Int) % (ag.length : Int) ≠ 0 then false
  else (List.range ag.length).all fun i => decide ((wide ag m t).getD (i + t) 0 - (wide ag m t).getD i 0 = m * (t : Int) / (ag.length : Int))
theorem cut_to {xs : List V} {t : Nat} : cutV xs none (some (t : Int)) = xs.take t := by
  unfold cutV
  rw [HT.sIx_none, HT.sIx_nat, List.drop_zero, Nat.sub_zero]
  by_cases h : t ≤ xs.length
  · rw [Nat.min_eq_left h]
  · rw [Nat.min_eq_right (by omega), List.take_length, List.take_of_length_le (by omega)]
theorem ints_at {ns : List Int} {i : Nat} (h : i < ns.length) : atI (ns.map V.int) (i : Int) = some (.int (ns.getD i 0)) := by
  refine atI_nat ?_
  rw [List.getElem?_map, List.getD_eq_getElem?_getD, List.getElem?_eq_getElem h]
  rfl
theorem dec_int {a b : Int} : decide (V.int a = V.int b) = decide (a = b) := by
  by_cases h : a = b
  · rw [decide_eq_true h, decide_eq_true (by rw [h])]
  · rw [decide_eq_false h, decide_eq_false (fun z => h (V.int.inj z))]
theorem wide_len {ag : List Int} {m : Int} {t : Nat} (h : t ≤ ag.length) : (wide ag m t).length = ag.length + t := by
  unfold wide
  rw [List.length_append, List.length_map, List.length_take, Nat.min_eq_left h]
section
variable {P : Program} {w : World} {K : PySem.W.Frag} {mg : Str → Option Value} {base : Heap} {f : Addr} {fd : FuncData}
def spTurn (K : PySem.W.Frag) : Sp := spV fun vs H v => ∃ (a : Addr) (ag : List Int) (m : Int) (t : Nat), vs = [.ref a, .int m, .int (t : Int)] ∧ Sq K H a (ag.map V.int) ∧ 0 < t ∧ t ≤ ag.length ∧ ag.length ≤ 400 ∧ v = .bl (isTurn ag m t)
abbrev s_is_turn : Stmt := top 18
abbrev N_is_turn : List Str := ["again", "more", "turn", "growth", "wide", "at", "thing"]
theorem sc_is_turn : FnScope N_is_turn ["again", "more", "turn"] (defScope s_is_turn) := ⟨rfl, rfl, rfl, by decide +kernel, rfl, by decide +kernel, by decide +kernel⟩

theorem ok_is_turn (F : FnP K "is_turn" s_is_turn f fd) (m_all : mg "all" = none) (m_len : mg "len" = none) (m_range : mg "range" = none) : FnOk P w K mg base CX0 1 f fd ["again", "more", "turn"] (spTurn K) := by
  refine F.ok sc_is_turn (fun vs H Q E h => ?_) (fun cdv A outer s H vs Q E hr h => ?_)
  · obtain ⟨v, ⟨a, ag, m, t, rfl, _⟩, _⟩ := h
    rfl
  · obtain ⟨v, ⟨a, ag, m, t, rfl, hq, h0, ht, hl, rfl⟩, q⟩ := h
    refine ⟨_, PSs.nox (pss_cons (ps_if (PW.pt (pw_or (pt_cmpR op_ne (pe_op op_mod (pe_callB (call_lenK K) rfl m_len (by decide +kernel) (pa_cons (pv 0) (pa_nil))) (pv 2)) (pe_int) (nomark _)) (pw_or1 (pt_cmpR op_ne (pe_op op_mod (pe_op op_mul (pv 1) (pv 2)) (pe_callB (call_lenK K) rfl m_len (by decide +kernel) (pa_cons (pv 0) (pa_nil)))) (pe_int) (nomark _))))) (pss_one (ps_ret (pe_bl))) (pss_nil))
 (pss_cons (ps_set (i := 3) sc_is_turn.nd rfl (.inr rfl) (pe_op op_fdiv (pe_op op_mul (pv 1) (pv 2)) (pe_callB (call_lenK K) rfl m_len (by decide +kernel) (pa_cons (pv 0) (pa_nil)))))
 (pss_cons (ps_set (i := 4) sc_is_turn.nd rfl (.inr rfl) (pe_lst (pa_starK K (pv 0) (pa_starK K (pe_lc (own := [("thing", 6)]) rfl sc_is_turn.nd (pi_seqK K (pe_slice (sl_sqK K) (pv 0) (po_none) (po_some (pv 2)))) (blkOk_by (N := N_is_turn) (sc := defScope s_is_turn) (by decide +kernel)) (fun _ _ _ _ _ => pg_name (i := 6) sc_is_turn.nd rfl (.inl rfl)) (fun _ _ _ _ _ => pts_nil) (fun _ _ _ _ _ => pe_op op_add (pv 6) (pv 1))) (pa_nil)))))
 (pss_one (ps_ret (pe_callB (cr_allK K) rfl m_all (by decide +kernel) (pa_cons (pe_lc (own := [("at", 5)]) rfl sc_is_turn.nd (pi_range1 rfl m_range (pa_cons (pe_callB (call_lenK K) rfl m_len (by decide +kernel) (pa_cons (pv 0) (pa_nil))) (pa_nil))) (blkOk_by (N := N_is_turn) (sc := defScope s_is_turn) (by decide +kernel)) (fun _ _ _ _ _ => pg_name (i := 5) sc_is_turn.nd rfl (.inl rfl)) (fun _ _ _ _ _ => pts_nil) (fun _ _ _ _ _ => pe_cmpR op_eq (pe_op op_sub (pe_ix (ix_sqK K) (pv 4) (pe_op op_add (pv 5) (pv 2)) (fun _ _ => rfl)) (pe_ix (ix_sqK K) (pv 4) (pv 5) (fun _ _ => rfl))) (pv 3) (nomark _))) (pa_nil)))))))), ?_⟩
    have hlen : ((ag.map V.int).length : Int) = (ag.length : Int) := by rw [List.length_map]
    have hpos : (0 : Int) < ((ag.map V.int).length : Int) := by rw [hlen]; omega
    have t0 : (0 : Int) < (t : Int) := by omega
    refine ⟨_, rfl, a, _, rfl, hq, _, rfl, _, _, rfl, rfl, t0, rfl, _, rfl, ?_⟩
    unfold isTurn at q
    rw [hlen, dec_int]
    by_cases c1 : (ag.length : Int) % (t : Int) = 0
    · rw [decide_eq_true c1]
      refine ⟨_, rfl, _, rfl, _, _, rfl, rfl, .inr ⟨by omega, by omega⟩, _, rfl, a, _, rfl, hq, _, _, rfl, rfl, hpos, rfl, _, rfl, ?_⟩
      rw [hlen, dec_int]
      by_cases c2 : m * (t : Int) % (ag.length : Int) = 0
      · rw [decide_eq_true c2]
        rw [if_neg (by rw [c1, c2]; simp)] at q
        refine ⟨_, rfl, _, rfl, _, _, rfl, rfl, .inr ⟨by omega, by omega⟩, _, rfl, a, _, rfl, hq, _, _, rfl, rfl, ⟨hpos, by rw [hlen]; omega⟩, ?_⟩
        refine ⟨_, rfl, a, _, rfl, hq.symm, ?_⟩
        refine lc_sqG (K := K) (xs := (ag.take t).map V.int) (fun x => .int (intOf x + m)) (fun R r => ⟨_, rfl, _, rfl, _, rfl, slq hq fun p H1 s1 h1 => ?_⟩) (by rw [List.length_map, List.length_take]; omega) (fun x hx H1 s1 R r => ?_) fun D H1 s1 hD hD1 => ?_
        · rw [cut_to, ← List.map_take] at h1
          exact r p H1 s1 h1
        · obtain ⟨i, _, rfl⟩ := List.mem_map.mp hx
          exact ⟨_, rfl, _, rfl, _, _, rfl, rfl, r H1 (Same.refl H1)⟩
        · refine ⟨D, _, rfl, .inr (.inl (.inl hD1)), ?_⟩
          have ew : (ag.map V.int ++ (((ag.take t).map V.int).map (fun x => V.int (intOf x + m)) ++ [])) = (wide ag m t).map V.int := by
            unfold wide
            rw [List.append_nil, List.map_append, List.map_map, List.map_map]
            rfl
          refine ⟨?_, fun p hp => ?_⟩
          · rw [ew, List.length_map, wide_len ht]
            exact Nat.le_trans (show ag.length + t ≤ 1000 by omega) (by decide)
          · rw [ew]
            have s2 := s1.trans (same_new (o := .lst ((wide ag m t).map V.int)) hp)
            refine ⟨_, rfl, a, _, rfl, hq.ex s2, _, rfl, by omega, by omega, fun D2 hD2 => ?_⟩
            rw [hlen, Int.toNat_natCast]
            refine lc_rg (fun i => .bl (decide ((wide ag m t).getD (i + t) 0 - (wide ag m t).getD i 0 = m * (t : Int) / (ag.length : Int)))) (by omega) hD2 (fun i hi H3 s3 R r => ?_) fun H3 s3 hD3 => ?_
            · have hw : Sq K H3 p ((wide ag m t).map V.int) := .l (s3 _ _ upd_same)
              have e0 : (0 : Int) + (i : Int) + (t : Int) = ((i + t : Nat) : Int) := by omega
              have e1 : (0 : Int) + (i : Int) = (i : Int) := by omega
              refine ⟨_, rfl, _, rfl, _, rfl, _, _, rfl, rfl, p, _, _, .int ((wide ag m t).getD (i + t) 0), rfl, rfl, hw, ?_, _, rfl, _, rfl, p, _, _, .int ((wide ag m t).getD i 0), rfl, rfl, hw, ?_, _, _, rfl, rfl, _, rfl, rfl, ?_⟩
              · rw [e0]
                exact ints_at (by rw [wide_len ht]; omega)
              · rw [e1]
                exact ints_at (by rw [wide_len ht]; omega)
              · rw [dec_int]
                exact r H3 (Same.refl H3)
            · refine ⟨D2, (List.range ag.length).map fun i => decide ((wide ag m t).getD (i + t) 0 - (wide ag m t).getD i 0 = m * (t : Int) / (ag.length : Int)), rfl, .inl (.inl ?_), ?_⟩
              · rw [hD3, List.map_map]
                rfl
              · rw [List.all_map]
                exact q _ (s2.trans s3)
      · rw [decide_eq_false c2]
        rw [if_pos (.inr c2)] at q
        exact q _ (Same.refl H)
    · rw [decide_eq_false c1]
      rw [if_pos (.inl c1)] at q
      exact q _ (Same.refl H)
end
end WW

set_option Elab.async false
set_option linter.all false
set_option maxRecDepth 100000
set_option maxHeartbeats 4000000
namespace WW
open PySem PySem.Spec PyProof.Rows L2
def turns (ag : List Int) (m : Int) : List Nat := (List.range ag.length).filter fun i => isTurn ag m (i + 1)
def turnOf (ag : List Int) (m : Int) : Nat := (turns ag m).headD 0 + 1
def lastI (ag : List Int) : Int := ag.getD (ag.length - 1) 0
def shrinkR (m : Int) : List V → List Int → List V × List Int
  | .int x :: r, ag => if x + m = lastI ag then shrinkR m r (x :: ag.dropLast) else (.int x :: r, ag)
  | r, ag => (r, ag)
def leastF (fs : List V) (ag : List Int) (m : Int) : List V × List Int × Int :=
  ((shrinkR (m * (turnOf ag m : Int) / (ag.length : Int)) fs.reverse (ag.take (turnOf ag m))).1.reverse, (shrinkR (m * (turnOf ag m : Int) / (ag.length : Int)) fs.reverse (ag.take (turnOf ag m))).2, m * (turnOf ag m : Int) / (ag.length : Int))
def leastV (fs ys : List V) (m : Int) : List V × List V × Int :=
  if hd ys = .non then ([], [.non], 0) else ((leastF fs (ys.map intOf) m).1, (leastF fs (ys.map intOf) m).2.1.map V.int, (leastF fs (ys.map intOf) m).2.2)
theorem isTurn_len {ag : List Int} {m : Int} (h : 0 < ag.length) : isTurn ag m ag.length = true := by
  unfold isTurn
  rw [if_neg (by simp)]
  rw [List.all_eq_true]
  intro i hi
  rw [List.mem_range] at hi
  refine decide_eq_true ?_
  have e : m * (ag.length : Int) / (ag.length : Int) = m := Int.mul_ediv_cancel _ (by omega)
  rw [e]
  unfold wide
  rw [List.take_length]
  simp only [List.getD_eq_getElem?_getD]
  rw [List.getElem?_append_right (by omega), List.getElem?_append_left hi, List.getElem?_map, show i + ag.length - ag.length = i by omega, List.getElem?_eq_getElem hi]
  simp only [Option.map_some, Option.getD_some]
  omega
theorem turns_ne {ag : List Int} {m : Int} (h : 0 < ag.length) : turns ag m ≠ [] := by
  have q : ag.length - 1 ∈ turns ag m := by
    unfold turns
    rw [List.mem_filter, List.mem_range]
    refine ⟨by omega, ?_⟩
    rw [show ag.length - 1 + 1 = ag.length by omega]
    exact isTurn_len h
  exact List.ne_nil_of_mem q
theorem turnOf_mem {ag : List Int} {m : Int} (h : 0 < ag.length) : turnOf ag m - 1 ∈ turns ag m := by
  unfold turnOf
  rw [Nat.add_sub_cancel]
  cases e : turns ag m with
  | nil => exact absurd e (turns_ne h)
  | cons x r => exact List.mem_cons_self
theorem turnOf_pos (ag : List Int) (m : Int) : 0 < turnOf ag m := Nat.succ_pos _
theorem turnOf_le {ag : List Int} {m : Int} (h : 0 < ag.length) : turnOf ag m ≤ ag.length := by
  have q := turnOf_mem (m := m) h
  unfold turns at q
  rw [List.mem_filter, List.mem_range] at q
  have := turnOf_pos ag m
  omega
theorem turnOf_is {ag : List Int} {m : Int} (h : 0 < ag.length) : isTurn ag m (turnOf ag m) = true := by
  have q := turnOf_mem (m := m) h
  unfold turns at q
  rw [List.mem_filter] at q
  rw [show turnOf ag m - 1 + 1 = turnOf ag m from Nat.succ_pred_eq_of_pos (turnOf_pos ag m)] at q
  exact q.2
theorem at_last {xs : List V} {v : V} : atI (xs ++ [v]) (-1) = some v := atI_last xs v
theorem ints_last {ag : List Int} (h : 0 < ag.length) : atI (ag.map V.int) (-1) = some (.int (lastI ag)) := by
  have hn : ag ≠ [] := List.ne_nil_of_length_pos h
  have e : ag = ag.dropLast ++ [ag.getLast hn] := (List.dropLast_concat_getLast hn).symm
  have z : lastI ag = ag.getLast hn := by
    unfold lastI
    rw [List.getD_eq_getElem?_getD, List.getElem?_eq_getElem (by omega), List.getLast_eq_getElem]
    rfl
  rw [z]
  conv => lhs; rw [e, List.map_append]
  exact at_last
theorem cut_but {xs : List V} (h : 0 < xs.length) : cutV xs none (some (-1)) = xs.dropLast := by
  unfold cutV
  rw [HT.sIx_none]
  have e : HT.sIx xs.length xs.length (some (-1)) = xs.length - 1 := by
    show (if (-1 : Int) < 0 then ((-1 : Int) + (xs.length : Int)).toNat else min (-1 : Int).toNat xs.length) = xs.length - 1
    rw [if_pos (by decide)]
    omega
  rw [e, List.drop_zero, Nat.sub_zero, List.dropLast_eq_take]
section
variable {P : Program} {w : World} {K : PySem.W.Frag} {mg : Str → Option Value} {base : Heap} {f : Addr} {fd : FuncData}
def spLeast (K : PySem.W.Frag) : Sp := fun vs H Q _ => ∃ (a b : Addr) (fs ys : List V) (m : Int), vs = [.ref a, .ref b, .int m] ∧ Sq K H a fs ∧ Sq K H b ys ∧ fs.length ≤ 400 ∧ ys.length ≤ 400 ∧ 0 < ys.length ∧ fs.all isThingV = true ∧ (hd ys = .non ∨ ∃ ag : List Int, ys = ag.map V.int) ∧
  ∀ p p1 p2 H', Same H H' → H' p = some (.tup [.ref p1, .ref p2, .int (leastV fs ys m).2.2]) → H' p1 = some (.tup (leastV fs ys m).1) → H' p2 = some (.tup (leastV fs ys m).2.1) → Q (.ref p) H'
/-- (tuple(a), tuple(b), m), of two lists -/
theorem ret3 {σ : L2.St} {H : Hp} {Q : VK} {f1 a1 : Addr} {xs ys : List V} {m : V} {r : L2.St} (e : σ = some (.ref f1) :: some (.ref a1) :: some m :: r) (h1 : H f1 = some (.lst xs)) (h2 : H a1 = some (.lst ys))
    (k : ∀ p p1 p2 H', Same H H' → H' p = some (.tup [.ref p1, .ref p2, m]) → H' p1 = some (.tup xs) → H' p2 = some (.tup ys) → Q (.ref p) H') :
    tTup (tCons (tCB (rTupQ K) (tCons (tVar 0) tNil)) (tCons (tCB (rTupQ K) (tCons (tVar 1) tNil)) (tCons (tVar 2) tNil))) σ H Q := by
  subst e
  refine ⟨_, rfl, ⟨f1, xs, rfl, .inl ⟨.inl (.inl h1), fun p1 n1 => ⟨_, rfl, ⟨a1, ys, rfl, .inl ⟨.inl (.inl (same_new n1 _ _ h2)), fun p2 n2 => ⟨_, rfl, by show 3 ≤ sizeLine; decide, fun p n3 => ?_⟩⟩⟩⟩⟩⟩⟩
  have n12 : p1 ≠ p2 := ne_of_none upd_same n2
  have h1' : (upd (upd (upd H p1 (.tup xs)) p2 (.tup ys)) p (.tup [.ref p1, .ref p2, m])) p1 = some (.tup xs) := same_new n3 _ _ ((upd_ne n12).trans upd_same)
  exact k p p1 p2 _ (((same_new n1).trans (same_new n2)).trans (same_new n3)) upd_same h1' (same_new n3 _ _ upd_same)
theorem shrink_nil {m : Int} {bg : List Int} : shrinkR m [] bg = ([], bg) := rfl
theorem shrink_go {m x : Int} {r : List V} {bg : List Int} (h : x + m = lastI bg) : shrinkR m (.int x :: r) bg = shrinkR m r (x :: bg.dropLast) := by
  show (if x + m = lastI bg then shrinkR m r (x :: bg.dropLast) else (.int x :: r, bg)) = _
  rw [if_pos h]
theorem shrink_no {m x : Int} {r : List V} {bg : List Int} (h : ¬ x + m = lastI bg) : shrinkR m (.int x :: r) bg = (.int x :: r, bg) := by
  show (if x + m = lastI bg then shrinkR m r (x :: bg.dropLast) else (.int x :: r, bg)) = _
  rw [if_neg h]
abbrev s_least_form : Stmt := top 19
abbrev N_least_form : List Str := ["first", "again", "more", "turn"]
theorem sc_least_form : FnScope N_least_form ["first", "again", "more"] (defScope s_least_form) := ⟨rfl, rfl, rfl, by decide +kernel, rfl, by decide +kernel, by decide +kernel⟩

theorem ok_least_form (F : FnP K "least_form" s_least_form f fd) (m_list : mg "list" = none) (m_len : mg "len" = none) (m_range : mg "range" = none) (m_tuple : mg "tuple" = none) (g_is_turn : FnAt P w K mg base CX0 1 "is_turn" ["again", "more", "turn"] (spTurn K)) : FnOk P w K mg base CX0 2 f fd ["first", "again", "more"] (spLeast K) := by
  refine F.ok sc_least_form (fun vs H Q E h => ?_) (fun cdv A outer s H vs Q E hr h => ?_)
  · obtain ⟨a, b, fs, ys, m, rfl, _⟩ := h
    rfl
  · obtain ⟨a, b, fs, ys, m, rfl, hq, kq, hl, kl, k0, ht, kt, q⟩ := h
    refine ⟨_, PSs.nox (pss_cons (ps_if (pt_cmpR op_isN (pe_ix (ix_sqK K) (pv 1) (pe_int) (fun _ _ => rfl)) (pe_non) (nomark _)) (pss_one (ps_ret (pe_tup (pa_cons (pe_tup (pa_nil)) (pa_cons (pe_tup (pa_cons (pe_non) (pa_nil))) (pa_cons (pe_int) (pa_nil))))))) (pss_nil))
 (pss_cons (ps_set (i := 3) sc_least_form.nd rfl (.inl rfl) (pe_ix (ix_sqK K) (pe_lc (own := [("turn", 3)]) rfl sc_least_form.nd (pi_range2 rfl m_range (pa_cons (pe_int) (pa_cons (pe_op op_add (pe_callB (call_lenK K) rfl m_len (by decide +kernel) (pa_cons (pv 1) (pa_nil))) (pe_int)) (pa_nil)))) (blkOk_by (N := N_least_form) (sc := defScope s_least_form) (by decide +kernel)) (fun _ _ _ _ _ => pg_name (i := 3) sc_least_form.nd rfl (.inl rfl)) (fun _ _ _ _ _ => pts_one (pt_val (pe_fn g_is_turn hr rfl (pa_cons (pv 1) (pa_cons (pv 2) (pa_cons (pv 3) (pa_nil))))))) (fun _ _ _ _ _ => pv 3)) (pe_int) (fun _ _ => rfl)))
 (pss_cons (ps_set (i := 2) sc_least_form.nd rfl (.inr rfl) (pe_op op_fdiv (pe_op op_mul (pv 2) (pv 3)) (pe_callB (call_lenK K) rfl m_len (by decide +kernel) (pa_cons (pv 1) (pa_nil)))))
 (pss_cons (ps_asg (pe_tup (pa_cons (pe_callTy (call_listK K) rfl m_list (by decide +kernel) (pa_cons (pv 0) (pa_nil))) (pa_cons (pe_callTy (call_listK K) rfl m_list (by decide +kernel) (pa_cons (pe_slice (sl_sqK K) (pv 1) (po_none) (po_some (pv 3))) (pa_nil))) (pa_nil)))) (pg_tupK K rfl (pgs_cons (pg_name (i := 0) sc_least_form.nd rfl (.inl rfl)) (pgs_cons (pg_name (i := 1) sc_least_form.nd rfl (.inr rfl)) (pgs_nil)))))
 (pss_cons (ps_while PassesOwn.never (PW.pt (pw_and (pt_cmpR op_gt (pe_callB (call_lenK K) rfl m_len (by decide +kernel) (pa_cons (pv 0) (pa_nil))) (pe_int) (nomark _)) (pw_and (pt_cmpR op_notN (pe_ix (ix_sqK K) (pv 0) (pe_un un_neg (pe_int)) (fun _ _ => rfl)) (pe_non) (nomark _)) (pw_and1 (pt_cmpR op_eq (pe_op op_add (pe_ix (ix_sqK K) (pv 0) (pe_un un_neg (pe_int)) (fun _ _ => rfl)) (pv 2)) (pe_ix (ix_sqK K) (pv 1) (pe_un un_neg (pe_int)) (fun _ _ => rfl)) (nomark _)))))) (pss_one (ps_set (i := 1) sc_least_form.nd rfl (.inr rfl) (pe_lst (pa_cons (pe_bm0 PySem.F.plainAttrs_list PySem.F.slot_list_pop PySem.F.type_list_pop mt_pop (pv 0)) (pa_starK K (pe_slice (sl_sqK K) (pv 1) (po_none) (po_some (pe_un un_neg (pe_int)))) (pa_nil)))))))
 (pss_one (ps_ret (pe_tup (pa_cons (pe_callTy (call_tupleK K) rfl m_tuple (by decide +kernel) (pa_cons (pv 0) (pa_nil))) (pa_cons (pe_callTy (call_tupleK K) rfl m_tuple (by decide +kernel) (pa_cons (pv 1) (pa_nil))) (pa_cons (pv 2) (pa_nil)))))))))))), ?_⟩
    have at0 : atI ys 0 = some (hd ys) := getD_at (i := 0) k0
    refine ⟨_, rfl, b, ys, _, _, rfl, rfl, kq, at0, rfl, _, rfl, ?_⟩
    by_cases c0 : hd ys = .non
    · rw [decide_eq_true c0]
      unfold leastV at q
      rw [if_pos c0] at q
      refine ⟨by decide, fun p1 n1 => ⟨by decide, fun p2 n2 => ⟨by show 3 ≤ sizeLine; decide, fun p n3 => ?_⟩⟩⟩
      have n12 : p1 ≠ p2 := ne_of_none upd_same n2
      have n13 : p1 ≠ p := ne_of_none (H := upd (upd H p1 _) p2 _) (by rw [upd_ne n12]; exact upd_same) n3
      have n23 : p2 ≠ p := ne_of_none (H := upd (upd H p1 _) p2 _) upd_same n3
      exact q p p1 p2 _ (((same_new n1).trans (same_new n2)).trans (same_new n3)) upd_same (by rw [upd_ne n13, upd_ne n12, upd_same]) (by rw [upd_ne n23, upd_same])
    · rw [decide_eq_false c0]
      obtain ⟨ag, rfl⟩ : ∃ ag : List Int, ys = ag.map V.int := kt.resolve_left c0
      have eag : (ag.map V.int).map intOf = ag := by
        rw [List.map_map]
        exact List.map_id'' (fun _ => rfl) ag
      unfold leastV at q
      rw [if_neg c0, eag] at q
      have gl : ag.length ≤ 400 := by rw [List.length_map] at kl; exact kl
      have g0 : 0 < ag.length := by rw [List.length_map] at k0; exact k0
      have hlen : ((ag.map V.int).length : Int) = (ag.length : Int) := by rw [List.length_map]
      refine ⟨_, rfl, b, _, rfl, kq, _, _, rfl, rfl, _, _, rfl, ⟨by omega, by omega, by omega, by omega⟩, fun D hD => ?_⟩
      have en : ((((ag.map V.int).length : Int) + 1) - 1).toNat = ag.length := by rw [hlen]; omega
      rw [en]
      refine lc_rgF (fun i => isTurn ag m (i + 1)) (fun i => .int ((i : Int) + 1)) (by omega) hD (fun i hi H1 s1 R r => ?_) (fun i hi H1 s1 R r => ?_) fun H1 s1 hD1 => ?_
      · refine ⟨_, rfl, _, rfl, _, rfl, _, ⟨b, ag, m, i + 1, ?_, kq.ex s1, by omega, by omega, gl, rfl⟩, fun H2 s2 => ⟨_, rfl, r H2 s2⟩⟩
        have e : (1 : Int) + (i : Int) = ((i + 1 : Nat) : Int) := by omega
        rw [e]
        rfl
      · have e : (1 : Int) + (i : Int) = (i : Int) + 1 := by omega
        refine ⟨_, rfl, ?_⟩
        rw [e]
        exact r H1 (Same.refl H1)
      · have hts : 0 < (turns ag m).length := List.length_pos_iff.mpr (turns_ne g0)
        have e0 : atI ((turns ag m).map fun i : Nat => V.int ((i : Int) + 1)) 0 = some (.int (turnOf ag m : Int)) := by
          unfold turnOf
          cases e : turns ag m with
          | nil => exact absurd e (turns_ne g0)
          | cons x r =>
            have e2 : V.int ((x : Int) + 1) = V.int (((x + 1 : Nat)) : Int) := by rw [Int.natCast_add]; rfl
            have e3 : atI ((x :: r).map fun i : Nat => V.int ((i : Int) + 1)) ((0 : Nat) : Int) = some (V.int ((x : Int) + 1)) := atI_nat (j := 0) rfl
            rw [e2] at e3
            exact e3
        refine ⟨D, _, _, _, rfl, rfl, .l hD1, e0, ?_⟩
        have t0 := turnOf_pos ag m
        have tl := turnOf_le (m := m) g0
        unfold leastF at q
        dsimp only at q
        generalize turnOf ag m = t at t0 tl q ⊢
        refine ⟨_, rfl, _, rfl, _, _, rfl, rfl, .inr ⟨by omega, by omega⟩, _, rfl, b, _, rfl, kq.ex s1, _, _, rfl, rfl, ⟨by rw [hlen]; omega, by rw [hlen]; omega⟩, ?_⟩
        rw [hlen]
        obtain ⟨m2, em⟩ : ∃ m2, m2 = m * (t : Int) / (ag.length : Int) := ⟨_, rfl⟩
        rw [← em] at q
        refine ⟨_, rfl, a, fs, rfl, hq.ex s1, fun f1 n1 => ⟨_, rfl, _, rfl, _, rfl, slq (kq.ex (s1.trans (same_new n1))) fun c H2 s2 h2 => ?_⟩⟩
        rw [cut_to, ← List.map_take] at h2
        have s12 : Same H H2 := (s1.trans (same_new n1)).trans s2
        have hf1 : H2 f1 = some (.lst fs) := s2 _ _ upd_same
        refine ⟨c, _, rfl, h2, fun a1 n2 => ⟨by show 2 ≤ sizeLine; decide, fun pz n3 => ?_⟩⟩
        have s14 : Same H (upd (upd H2 a1 (.lst ((ag.take t).map V.int))) pz (.tup [.ref f1, .ref a1])) := (s12.trans (same_new n2)).trans (same_new n3)
        refine ⟨pz, _, rfl, .inl (.inl upd_same), rfl, .ref f1, _, rfl, .ref a1, _, rfl, rfl, ?_⟩
        have nfa : f1 ≠ a1 := ne_of_none hf1 n2
        have nfz : f1 ≠ pz := ne_of_none (H := upd H2 a1 (.lst ((ag.take t).map V.int))) ((upd_ne nfa).trans hf1) n3
        have naz : a1 ≠ pz := ne_of_none (H := upd H2 a1 (.lst ((ag.take t).map V.int))) upd_same n3
        refine ⟨fun k σ Hc => ∃ (f1 a1 : Addr) (gs : List V) (bg : List Int), σ = [some (.ref f1), some (.ref a1), some (.int m2), some (.int (t : Int))] ∧ k = gs.length ∧ Same H Hc ∧ H f1 = none ∧ f1 ≠ a1 ∧ Hc f1 = some (.lst gs) ∧ Hc a1 = some (.lst (bg.map V.int)) ∧
          0 < bg.length ∧ bg.length ≤ 400 ∧ gs.length ≤ 400 ∧ gs.all isThingV = true ∧ shrinkR m2 gs.reverse bg = shrinkR m2 fs.reverse (ag.take t), ⟨fs.length, f1, a1, fs, ag.take t, by rw [em]; rfl, rfl, s14, s1.free n1, nfa, ?_, ?_, ?_, ?_, hl, ht, rfl⟩, ?_⟩
        · rw [upd_ne nfz, upd_ne nfa]
          exact hf1
        · rw [upd_ne naz]
          exact upd_same
        · rw [List.length_take]
          omega
        · rw [List.length_take]
          omega
        · rintro k σ Hc ⟨f1, a1, gs, bg, rfl, rfl, sc, nf, nfa, hf, ha, b0, bl, gl2, gt, eR⟩
          refine ⟨_, rfl, f1, gs, rfl, .l hf, _, _, rfl, rfl, _, rfl, ?_⟩
          rw [← eR] at q
          rcases List.eq_nil_or_concat gs with eg | ⟨gi, x, eg⟩
          · subst eg
            exact ret3 rfl hf ha fun p p1 p2 H' s' e1 e2 e3 => q p p1 p2 H' (sc.trans s') e1 e2 e3
          · rw [List.concat_eq_append] at eg
            subst eg
            have hp : decide ((0 : Int) < ((gi ++ [x]).length : Int)) = true := decide_eq_true (by rw [List.length_append]; simp)
            rw [hp]
            refine ⟨_, rfl, 1, rfl, f1, _, _, _, rfl, rfl, .l hf, at_last, rfl, _, rfl, ?_⟩
            have xt : isThingV x = true := List.all_eq_true.mp gt x (List.mem_append_right _ (List.mem_singleton.mpr rfl))
            rw [List.reverse_append, List.reverse_singleton, List.singleton_append] at q eR
            cases x with
            | non => exact ret3 rfl hf ha fun p p1 p2 H' s' e1 e2 e3 => q p p1 p2 H' (sc.trans s') e1 (by rw [e2]; exact congrArg (fun z => some (HO.tup z)) (by simp [shrinkR])) (by rw [e3]; rfl)
            | int i =>
              refine ⟨_, rfl, 1, rfl, f1, _, _, _, rfl, rfl, .l hf, at_last, _, rfl, _, _, rfl, rfl, _, rfl, 1, rfl, a1, _, _, _, rfl, rfl, .l ha, ints_last b0, rfl, _, rfl, ?_⟩
              rw [dec_int]
              by_cases ci : i + m2 = lastI bg
              · rw [decide_eq_true ci]
                rw [shrink_go ci] at eR
                refine ⟨fun σ' H' => ∃ a2, σ' = [some (.ref f1), some (.ref a2), some (.int m2), some (.int (t : Int))] ∧ Same H H' ∧ f1 ≠ a2 ∧ H' f1 = some (.lst gi) ∧ H' a2 = some (.lst ((i :: bg.dropLast).map V.int)), ?_, ?_⟩
                · rintro σ' H' ⟨a2, rfl, s2, n2, h2, h3⟩
                  refine ⟨gi.length, by rw [List.length_append]; simp, f1, a2, gi, i :: bg.dropLast, rfl, rfl, s2, nf, n2, h2, h3, by simp, ?_, ?_, ?_, eR⟩
                  · rw [List.length_cons, List.length_dropLast]
                    omega
                  · rw [List.length_append] at gl2
                    omega
                  · rw [List.all_append, Bool.and_eq_true] at gt
                    exact gt.1
                · refine ⟨_, rfl, .inl ⟨rfl, _, .inl (.inl hf)⟩, f1, _, .int i, rfl, rfl, hf, ?_, ?_⟩
                  · rw [List.length_append, List.length_singleton, Nat.add_sub_cancel, List.getElem?_append_right (Nat.le_refl _), Nat.sub_self]
                    rfl
                  · rw [List.dropLast_concat]
                    have ha' : (upd Hc f1 (.lst gi)) a1 = some (.lst (bg.map V.int)) := (upd_ne (Ne.symm nfa)).trans ha
                    refine ⟨_, rfl, 1, rfl, _, rfl, slq (K := K) (.l ha') fun c H2 s2 h2 => ⟨c, _, rfl, h2.symm, ?_⟩⟩
                    rw [cut_but (by rw [List.length_map]; exact b0), ← List.map_dropLast]
                    simp only [tNil, List.append_nil]
                    have el : (V.int i :: (bg.dropLast).map V.int) = (i :: bg.dropLast).map V.int := rfl
                    refine ⟨?_, fun p np => ⟨p, rfl, ?_, ?_, ?_, ?_⟩⟩
                    · show (V.int i :: (bg.dropLast).map V.int).length ≤ sizeLine
                      rw [el, List.length_map, List.length_cons, List.length_dropLast]
                      exact Nat.le_trans (show bg.length - 1 + 1 ≤ 1000 by omega) (by decide)
                    · exact ((same_app sc nf).trans s2).trans (same_new np)
                    · exact ne_of_none (s2 _ _ upd_same) np
                    · exact same_new np _ _ (s2 _ _ upd_same)
                    · exact upd_same
              · rw [decide_eq_false ci]
                rw [shrink_no ci] at q
                exact ret3 rfl hf ha fun p p1 p2 H' s' e1 e2 e3 => q p p1 p2 H' (sc.trans s') e1 (by rw [e2]; simp) (by rw [e3])
            | _ => cases xt
end
end WW

set_option Elab.async false
set_option linter.all false
set_option maxRecDepth 100000
set_option maxHeartbeats 4000000
namespace WW
open PySem PySem.Spec PyProof.Rows L2
def SameBut (x : Addr) (H H' : Hp) : Prop := ∀ a o, a ≠ x → H a = some o → H' a = some o
/-- a row stands at x -/
def RowAt (C : Addr) (H : Hp) (x : Addr) (fs ys : List V) (m : Int) : Prop := ∃ dx p1 p2, H x = some (.ins C dx [("first", .ref p1), ("again", .ref p2), ("more", .int m)]) ∧ H p1 = some (.tup fs) ∧ H p2 = some (.tup ys)
theorem RowAt.ex {C : Addr} {H H' : Hp} {x : Addr} {fs ys : List V} {m : Int} (e : Same H H') (h : RowAt C H x fs ys m) : RowAt C H' x fs ys m := by
  obtain ⟨dx, p1, p2, h1, h2, h3⟩ := h
  exact ⟨dx, p1, p2, e _ _ h1, e _ _ h2, e _ _ h3⟩
/-- the class of rows -/
structure RowC (K : PySem.W.Frag) (C : Addr) : Prop where
  cls : Cls K C
  nF : NoAttr K C "first"
  nA : NoAttr K C "again"
  nM : NoAttr K C "more"
theorem map_intOf {ys : List V} (h : ∀ i, i < ys.length → isIntV (ys.getD i .non) = true) : ys = (ys.map intOf).map V.int := by
  refine List.ext_getElem (by rw [List.length_map, List.length_map]) fun i h1 h2 => ?_
  have q := h i h1
  rw [List.getD_eq_getElem?_getD, List.getElem?_eq_getElem h1, Option.getD_some] at q
  rw [List.getElem_map, List.getElem_map]
  revert q
  cases ys[i] <;> intro q <;> first | rfl | (cases q; done)
theorem wrong_ok {fs ys : List V} {m : V} (h : wrongW (some fs) (some ys) m = .non) : fs.all isThingV = true ∧ risingV fs = true ∧ 0 < ys.length ∧ ys.all isThingV = true ∧ risingV (cutV fs (some (-1)) none ++ ys) = true ∧ isNumV m = true ∧ (hd ys = .non ∨ ∃ ag : List Int, ys = ag.map V.int) := by
  unfold wrongW at h
  dsimp only at h
  by_cases c1 : (fs.all isThingV && risingV fs) = true
  · rw [if_pos c1] at h
    have h : wrongA fs ys m = .non := h
    unfold wrongA at h
    by_cases c2 : (ys.isEmpty || !ys.all isThingV) = true
    · rw [if_pos c2] at h
      cases h
    · rw [if_neg c2] at h
      by_cases c3 : (!risingV (cutV fs (some (-1)) none ++ ys) || (decide (hd ys = .non) && !decide (lst ys = .non))) = true
      · rw [if_pos c3] at h
        cases h
      · rw [if_neg c3] at h
        by_cases c4 : isNumV m = false
        · rw [if_pos c4] at h
          cases h
        · have k1 := Bool.and_eq_true_iff.mp c1
          have k2 : ys.isEmpty = false ∧ ys.all isThingV = true := by
            revert c2
            cases ys.isEmpty <;> cases ys.all isThingV <;> simp
          have k3 : risingV (cutV fs (some (-1)) none ++ ys) = true := by
            revert c3
            cases risingV (cutV fs (some (-1)) none ++ ys) <;> simp
          have k4 : isNumV m = true := by
            revert c4
            cases isNumV m <;> simp
          have k5 : 0 < ys.length := by
            cases ys with
            | nil => cases k2.1
            | cons _ _ => exact Nat.succ_pos _
          refine ⟨k1.1, k1.2, k5, k2.2, k3, k4, ?_⟩
          by_cases c5 : hd ys = .non
          · exact .inl c5
          · refine .inr ⟨ys.map intOf, map_intOf (rising_ints k2.2 (rising_drop k3) ?_)⟩
            have t := all_getD k2.2 k5
            revert t c5
            unfold hd
            cases ys.getD 0 V.non <;> intro c5 t <;> first | rfl | exact absurd rfl c5 | (cases t; done)
  · rw [if_neg c1] at h
    cases h
section
variable {P : Program} {w : World} {K : PySem.W.Frag} {mg : Str → Option Value} {base : Heap} {f : Addr} {fd : FuncData}
def spInit (K : PySem.W.Frag) (C : Addr) : Sp := fun vs H Q _ => ∃ (x dx : Addr) (v1 v2 : V) (fs ys : List V) (m : Int), vs = [.ref x, v1, v2, .int m] ∧ H x = some (.ins C dx []) ∧ Arg K H v1 (some fs) ∧ Arg K H v2 (some ys) ∧ wrongW (some fs) (some ys) (.int m) = .non ∧
  ∀ H', SameBut x H H' → RowAt C H' x (leastV fs ys m).1 (leastV fs ys m).2.1 (leastV fs ys m).2.2 → Q .non H'
/-- tuple(x) of a sequence -/
theorem tupq {H : Hp} {a : Addr} {xs : List V} {Q : VK} (h : Sq K H a xs) (k : ∀ p H', Same H H' → Sq K H' p xs → Q (.ref p) H') : rTupQ K [.ref a] H Q := by
  rcases h with h | h
  · exact ⟨⟨a, xs, rfl, .inl ⟨h, fun l hl => k l _ (same_new hl) (.t upd_same)⟩⟩⟩
  · exact ⟨⟨a, xs, rfl, .inr ⟨h, k a H (Same.refl H) (.inr h)⟩⟩⟩
abbrev s_Row___init__ : Stmt := inClass (top 20) 0
abbrev N_Row___init__ : List Str := ["self", "first", "again", "more", "word"]
theorem sc_Row___init__ : FnScope N_Row___init__ ["self", "first", "again", "more"] (defScope s_Row___init__) := ⟨rfl, rfl, rfl, by decide +kernel, rfl, by decide +kernel, by decide +kernel⟩

theorem ok_Row_init {C : Addr} (F : FunD K "__init__" "Row.__init__" (defArgs s_Row___init__) (defBody s_Row___init__) (defScope s_Row___init__) [.int 0] [] f fd) (R : RowC K C) (m_tuple : mg "tuple" = none) (g_wrong_word : FnAt P w K mg base CX0 3 "wrong_word" ["first", "again", "more"] (spWrong K)) (g_least_form : FnAt P w K mg base CX0 2 "least_form" ["first", "again", "more"] (spLeast K)) :
    FnOk P w K mg base CX0 4 f fd ["self", "first", "again", "more"] (spInit K C) := by
  refine F.ok sc_Row___init__ (fun vs H Q E h => ?_) (fun cdv A outer s H vs Q E hr h => ?_)
  · obtain ⟨x, dx, v1, v2, fs, ys, m, rfl, _⟩ := h
    rfl
  · obtain ⟨x, dx, v1, v2, fs, ys, m, rfl, hx, h1, h2, hw, q⟩ := h
    obtain ⟨ht, hr1, k0, kt, kr, nm, kz⟩ := wrong_ok hw
    refine ⟨_, PSs.nox (pss_cons (ps_set (i := 4) sc_Row___init__.nd rfl (.inl rfl) (pe_fn g_wrong_word hr rfl (pa_cons (pv 1) (pa_cons (pv 2) (pa_cons (pv 3) (pa_nil))))))
 (pss_cons (ps_if (pt_cmpR op_notN (pv 4) (pe_non) (nomark _)) (pss_one (ps_never)) (pss_nil))
 (pss_one (ps_asg (pe_fn g_least_form hr rfl (pa_cons (pe_callTy (call_tupleK K) rfl m_tuple (by decide +kernel) (pa_cons (pv 1) (pa_nil))) (pa_cons (pe_callTy (call_tupleK K) rfl m_tuple (by decide +kernel) (pa_cons (pv 2) (pa_nil))) (pa_cons (pv 3) (pa_nil))))) (pg_tupK K rfl (pgs_cons (pg_fld K (pv 0)) (pgs_cons (pg_fld K (pv 0)) (pgs_cons (pg_fld K (pv 0)) (pgs_nil))))))))), ?_⟩
    refine ⟨_, rfl, _, rfl, _, rfl, _, ⟨v1, v2, .int m, some fs, some ys, false, rfl, h1, h2, hasT_int m, rfl⟩, fun H1 s1 => ?_⟩
    rw [hw]
    refine ⟨_, rfl, rfl, _, rfl, ?_⟩
    obtain ⟨a, rfl, hq, hl, _⟩ := h1
    obtain ⟨b, rfl, kq, kl, _⟩ := h2
    refine ⟨_, rfl, tupq (hq.ex s1) fun p1 H2 s2 h2 => ⟨_, rfl, tupq (kq.ex (s1.trans s2)) fun p2 H3 s3 h3 => ⟨_, rfl, p1, p2, fs, ys, m, rfl, h2.ex s3, h3, hl, kl, k0, ht, kz, fun p q1 q2 H4 s4 e1 e2 e3 => ?_⟩⟩⟩
    have s14 : Same H H4 := ((s1.trans s2).trans s3).trans s4
    have hx4 := s14 _ _ hx
    refine ⟨p, _, rfl, .inl (.inl e1), rfl, _, _, rfl, ⟨_, rfl, x, C, dx, _, rfl, hx4, R.cls, R.nF, by decide, _, _, rfl, ⟨_, rfl, x, C, dx, _, rfl, upd_same, R.cls, R.nA, (by show 1 < 1000; decide), _, _, rfl, ⟨_, rfl, x, C, dx, _, rfl, upd_same, R.cls, R.nM, (by show 2 < 1000; decide), rfl, ?_⟩⟩⟩⟩
    have n1 : q1 ≠ x := fun z => by
      rw [z, hx4] at e2
      cases e2
    have n2 : q2 ≠ x := fun z => by
      rw [z, hx4] at e3
      cases e3
    rw [upd_upd, upd_upd]
    refine q _ (fun a o n ha => (upd_ne n).trans (s14 a o ha)) ⟨dx, q1, q2, upd_same, (upd_ne n1).trans e2, (upd_ne n2).trans e3⟩
end
end WW

set_option Elab.async false
set_option linter.all false
set_option maxRecDepth 100000
set_option maxHeartbeats 4000000
namespace WW
open PySem PySem.Spec PyProof.Rows L2
theorem SameBut.refl (x : Addr) (H : Hp) : SameBut x H H := fun _ _ _ h => h
theorem SameBut.trans {x : Addr} {H H1 H2 : Hp} (a : SameBut x H H1) (b : SameBut x H1 H2) : SameBut x H H2 := fun c o n h => b c o n (a c o n h)
theorem SameBut.of {x : Addr} {H H' : Hp} (e : Same H H') : SameBut x H H' := fun a o _ h => e a o h
theorem SameBut.upd (x : Addr) (H : Hp) (o : HO) : SameBut x H (upd H x o) := fun _ _ n h => (upd_ne n).trans h
theorem SameBut.sq {x a : Addr} {K : PySem.W.Frag} {H H' : Hp} {xs : List V} (e : SameBut x H H') (n : a ≠ x) (h : Sq K H a xs) : Sq K H' a xs := by
  rcases h with ((h | ⟨u, h⟩) | h) | ((h | ⟨u, h⟩) | h)
  · exact .inl (.inl (.inl (e _ _ n h)))
  · exact .inl (.inl (.inr ⟨u, e _ _ n h⟩))
  · exact .inl (.inr h)
  · exact .inr (.inl (.inl (e _ _ n h)))
  · exact .inr (.inl (.inr ⟨u, e _ _ n h⟩))
  · exact .inr (.inr h)
/-- none of what was free is the box -/
theorem Box.ne {H : Hp} {b a : Addr} (h : Box H b) (n : H a = none) : a ≠ b := fun z => by
  obtain ⟨x, y, w, e⟩ := h
  rw [z, e] at n
  cases n
theorem Box.ex {H H' : Hp} {b : Addr} (e : Same H H') (h : Box H b) : Box H' b := by
  obtain ⟨x, y, z, h⟩ := h
  exact ⟨x, y, z, e _ _ h⟩
section
variable {P : Program} {w : World} {K : PySem.W.Frag} {mg : Str → Option Value} {base : Heap} {f : Addr} {fd : FuncData}
def spBox (K : PySem.W.Frag) : Sp := fun vs H Q _ => ∃ (a : Addr) (ns : List Int) (k : Int), vs = [.ref a, .int k] ∧ SqL K H a (ns.map V.int) ∧ 0 ≤ k ∧ ns.length ≤ 1000 ∧
  ∀ p H', Same H H' → H p = none → Box H' p → Q (.ref p) H'
abbrev s_l_box : Stmt := top 26
abbrev N_l_box : List Str := ["_law_script", "_law_k", "_law_cell", "_law_seed"]
theorem sc_l_box : FnScope N_l_box ["_law_script", "_law_k"] (defScope s_l_box) := ⟨rfl, rfl, rfl, by decide +kernel, rfl, by decide +kernel, by decide +kernel⟩

theorem ok_box (F : FnP K "_law_box" s_l_box f fd) (m_int : mg "int" = none) (m_len : mg "len" = none) (m_abs : mg "abs" = none) : FnOk P w K mg base CX0 1 f fd ["_law_script", "_law_k"] (spBox K) := by
  refine F.ok sc_l_box (fun vs H Q E h => ?_) (fun cdv A outer s H vs Q E hr h => ?_)
  · obtain ⟨a, ns, k, rfl, _⟩ := h
    rfl
  · obtain ⟨a, ns, k, rfl, hq, k0, hl, q⟩ := h
    refine ⟨_, PSs.nox (pss_cons (ps_set (i := 2) sc_l_box.nd rfl (.inl rfl) (pe_op op_add (pe_op op_mul (pe_int) (pv 1)) (pe_int)))
 (pss_cons (ps_if (pt_cmpR op_lt (pv 1) (pe_callB (call_lenK K) rfl m_len (by decide +kernel) (pa_cons (pv 0) (pa_nil))) (nomark _)) (pss_one (ps_set (i := 2) sc_l_box.nd rfl (.inl rfl) (pe_callB call_abs rfl m_abs (by decide +kernel) (pa_cons (pe_ix (ix_sqK K) (pv 0) (pv 1) (fun _ _ => rfl)) (pa_nil))))) (pss_one (ps_if (pt_cmpR op_gt (pe_callB (call_lenK K) rfl m_len (by decide +kernel) (pa_cons (pv 0) (pa_nil))) (pe_int) (nomark _)) (pss_one (ps_set (i := 2) sc_l_box.nd rfl (.inl rfl) (pe_op op_add (pv 2) (pe_op op_mul (pe_op op_mod (pe_callTy call_int1 rfl m_int (by decide +kernel) (pa_cons (pe_callB call_abs rfl m_abs (by decide +kernel) (pa_cons (pe_callTy call_int1 rfl m_int (by decide +kernel) (pa_cons (pe_ix (ix_sqK K) (pv 0) (pe_op op_mod (pe_callTy call_int1 rfl m_int (by decide +kernel) (pa_cons (pv 1) (pa_nil))) (pe_callB (call_lenK K) rfl m_len (by decide +kernel) (pa_cons (pv 0) (pa_nil)))) (fun _ _ => rfl)) (pa_nil))) (pa_nil))) (pa_nil))) (pe_int)) (pe_int))))) (pss_nil))))
 (pss_cons (ps_set (i := 3) sc_l_box.nd rfl (.inl rfl) (pe_op op_add (pe_op op_mod (pe_callTy call_int1 rfl m_int (by decide +kernel) (pa_cons (pe_op op_add (pe_op op_mul (pe_op op_mod (pe_callTy call_int1 rfl m_int (by decide +kernel) (pa_cons (pv 2) (pa_nil))) (pe_int)) (pe_int)) (pe_op op_mul (pe_int) (pv 1))) (pa_nil))) (pe_int)) (pe_int)))
 (pss_one (ps_ret (pe_lst (pa_cons (pe_ix (ix_sqK K) (pe_lst (pa_cons (pe_int) (pa_cons (pv 2) (pa_nil)))) (pe_callTy call_int1 rfl m_int (by decide +kernel) (pa_cons (pe_cmpR op_ge (pv 2) (pe_op op_pow (pe_int) (pe_int)) (nomark _)) (pa_nil))) (fun _ _ => rfl)) (pa_cons (pv 3) (pa_cons (pe_int) (pa_nil)))))))))), ?_⟩
    have hsq : Sq K H a (ns.map V.int) := .inl hq
    have hlen : ((ns.map V.int).length : Int) = (ns.length : Int) := by rw [List.length_map]
    -- what stands behind the cell
    refine ⟨_, rfl, _, _, rfl, rfl, .inl ⟨by decide, by decide⟩, _, _, rfl, rfl, ?_⟩
    refine ⟨_, rfl, _, rfl, a, _, rfl, hsq, _, _, rfl, rfl, _, rfl, ?_⟩
    have fin : ∀ c : Int, (tSeq
      (tAsg (tOp (rI0 fun i j => V.int (i + j)) (tOp (rI (fun _ j => 0 < j) fun i j => V.int (i % j)) (tCB (fun xs H Q => (∃ i, xs = [V.int i] ∧ Q (V.int i) H) ∨ ∃ k, xs = [V.bl k] ∧ Q (V.int (if k = true then 1 else 0)) H)
        (tCons (tOp (rI0 fun i j => V.int (i + j)) (tOp (rI CMul fun i j => V.int (i * j)) (tOp (rI (fun _ j => 0 < j) fun i j => V.int (i % j)) (tCB (fun xs H Q => (∃ i, xs = [V.int i] ∧ Q (V.int i) H) ∨ ∃ k, xs = [V.bl k] ∧ Q (V.int (if k = true then 1 else 0)) H) (tCons (tVar 2) tNil)) (tC (.int 2147483629))) (tC (.int 48271))) (tOp (rI CMul fun i j => V.int (i * j)) (tC (.int 42043)) (tVar 1))) tNil)) (tC (.int 2147483629))) (tC (.int 1))) (gName 3))
      (tRet (tLst (tCons (tOp (rIxQ K) (tLst (tCons (tC (.int 0)) (tCons (tVar 2) tNil))) (tCB (fun xs H Q => (∃ i, xs = [V.int i] ∧ Q (V.int i) H) ∨ ∃ k, xs = [V.bl k] ∧ Q (V.int (if k = true then 1 else 0)) H) (tCons (tOp (rI0 fun i j => V.bl (decide (j ≤ i))) (tVar 2) (tOp (rI CPow fun i j => V.int (i ^ j.toNat)) (tC (.int 10)) (tC (.int 18)))) tNil))) (tCons (tVar 3) (tCons (tC (.int 0)) tNil))))))
      { nx := fun _ H' => Q .non H', rt := Q } [some (.ref a), some (.int k), some (.int c), none] H := by
      intro c
      refine ⟨_, rfl, .inl ⟨_, rfl, _, _, rfl, rfl, (by show (0 : Int) < _; decide), _, _, rfl, rfl, .inr ⟨by decide, by decide⟩, _, rfl, _, _, rfl, rfl, .inl ⟨by decide, by decide⟩, _, _, rfl, rfl, .inl ⟨_, rfl, _, _, rfl, rfl, (by show (0 : Int) < _; decide), _, _, rfl, rfl, ?_⟩⟩⟩
      refine ⟨_, rfl, by show 2 ≤ sizeLine; decide, fun p np => ?_⟩
      refine ⟨_, rfl, _, _, rfl, rfl, ⟨by decide, by decide, by decide⟩, _, _, rfl, rfl, .inr ⟨_, rfl, ?_⟩⟩
      have s1 : Same H (upd H p (.lst [.int 0, .int c])) := same_new np
      by_cases hc : (10 : Int) ^ (18 : Int).toNat ≤ c
      · rw [decide_eq_true hc]
        refine ⟨p, _, 1, _, rfl, rfl, .l upd_same, rfl, _, rfl, by show 3 ≤ sizeLine; decide, fun p2 n2 => ?_⟩
        exact q p2 _ (s1.trans (same_new n2)) (s1.free n2) ⟨_, _, _, upd_same⟩
      · rw [decide_eq_false hc]
        refine ⟨p, _, 0, _, rfl, rfl, .l upd_same, rfl, _, rfl, by show 3 ≤ sizeLine; decide, fun p2 n2 => ?_⟩
        exact q p2 _ (s1.trans (same_new n2)) (s1.free n2) ⟨_, _, _, upd_same⟩
    refine ite2 (fun c => ?_) (fun c => ?_)
    · have c := of_decide_eq_true c
      rw [hlen] at c
      have hk : k.toNat < (ns.map V.int).length := by rw [List.length_map]; omega
      have e : (ns.map V.int)[k.toNat] = .int (ns[k.toNat]'(by omega)) := by rw [List.getElem_map]
      have ea := at_toNat (xs := ns.map V.int) k0 hk
      rw [e] at ea
      exact ⟨_, rfl, _, rfl, a, _, _, _, rfl, rfl, hsq, ea, _, rfl, fin _⟩
    · refine ⟨_, rfl, a, _, rfl, hsq, _, _, rfl, rfl, _, rfl, ite2 (fun c2 => ?_) (fun c2 => fin _)⟩
      have c2 := of_decide_eq_true c2
      rw [hlen] at c2
      have hp : (0 : Int) < ((ns.map V.int).length : Int) := by rw [hlen]; exact c2
      have h1 := Int.emod_nonneg k (b := ((ns.map V.int).length : Int)) (by omega)
      have h2 := Int.emod_lt_of_pos k hp
      have hk : (k % ((ns.map V.int).length : Int)).toNat < (ns.map V.int).length := by omega
      have hk2 : (k % ((ns.map V.int).length : Int)).toNat < ns.length := by rw [List.length_map] at hk; rw [List.length_map]; exact hk
      have e : (ns.map V.int)[(k % ((ns.map V.int).length : Int)).toNat] = .int (ns[(k % ((ns.map V.int).length : Int)).toNat]'hk2) := by rw [List.getElem_map]
      have ea := at_toNat (xs := ns.map V.int) h1 hk
      rw [e] at ea
      exact ⟨_, rfl, _, rfl, _, rfl, .inl ⟨_, rfl, _, rfl, a, _, rfl, hsq, _, _, rfl, rfl, hp, a, _, _, _, rfl, rfl, hsq, ea, .inl ⟨_, rfl, _, rfl, .inl ⟨_, rfl, _, _, rfl, rfl, (by show (0 : Int) < _; decide), _, _, rfl, rfl, .inr ⟨by decide, by decide⟩, _, _, rfl, rfl, fin _⟩⟩⟩⟩
end
end WW

set_option Elab.async false
set_option linter.all false
set_option maxRecDepth 100000
set_option maxHeartbeats 4000000
namespace WW
open PySem PySem.Spec PyProof.Rows L2
/-- a drawn row: nothing n times, times, times that come again, growth -/
structure Drawn (fs : List V) (ag : List Int) (m : Int) : Prop where
  ex : ∃ (n : Nat) (is : List Int), fs = List.replicate n V.non ++ is.map V.int ∧ n ≤ 2 ∧ is.length ≤ 3 ∧ (is ++ ag).Pairwise (· ≤ ·) ∧ ∀ v ∈ is ++ ag, -4 ≤ v ∧ v ≤ 40
  l1 : 1 ≤ ag.length
  l3 : ag.length ≤ 3
  m0 : lastI ag - ag.getD 0 0 ≤ m
  m1 : m ≤ 50
/-- what is drawn so far: times that rise up to here -/
def Up (is : List Int) (h c : Int) : Prop := (is ++ [h]).Pairwise (· ≤ ·) ∧ (∀ v ∈ is ++ [h], -4 ≤ v) ∧ h ≤ c
theorem Up.next {is : List Int} {h c d e : Int} (u : Up is h c) (h0 : 0 ≤ d) (h1 : d ≤ e) : Up (is ++ [h]) (h + d) (c + e) := by
  obtain ⟨p, b, l⟩ := u
  have bh := b h (List.mem_append_right _ (List.mem_singleton.mpr rfl))
  refine ⟨?_, fun v hv => ?_, by omega⟩
  · rw [List.pairwise_append]
    refine ⟨p, List.pairwise_singleton _ _, fun x hx y hy => ?_⟩
    rw [List.mem_singleton.mp hy]
    rw [List.pairwise_append] at p
    rcases List.mem_append.mp hx with hx | hx
    · have := p.2.2 x hx h (List.mem_singleton.mpr rfl)
      omega
    · rw [List.mem_singleton.mp hx]
      omega
  · rcases List.mem_append.mp hv with hv | hv
    · exact b v hv
    · rw [List.mem_singleton.mp hv]
      omega
theorem Up.le {is : List Int} {h c : Int} (u : Up is h c) : ∀ v ∈ is, v ≤ h := fun v hv => by
  have p := u.1
  rw [List.pairwise_append] at p
  exact p.2.2 v hv h (List.mem_singleton.mpr rfl)
section
variable {P : Program} {w : World} {K : PySem.W.Frag} {mg : Str → Option Value} {base : Heap} {f : Addr} {fd : FuncData}
/-- a told row at p: a tuple of two lists and a number -/
def Told (H : Hp) (p : Addr) (fs : List V) (ag : List Int) (m : Int) : Prop := ∃ p1 p2, H p = some (.tup [.ref p1, .ref p2, .int m]) ∧ H p1 = some (.lst fs) ∧ H p2 = some (.lst (ag.map V.int))
def spRow : Sp := fun vs H Q _ => ∃ (b : Addr) (lo : Bool), vs = [.ref b, .bl lo] ∧ Box H b ∧
  ∀ p H' fs ag m, Drawn fs ag m → SameBut b H H' → Box H' b → (∃ p1 p2, H' p = some (.tup [.ref p1, .ref p2, .int m]) ∧ H' p1 = some (.lst fs) ∧ H' p2 = some (.lst (ag.map V.int)) ∧ p ≠ b ∧ p1 ≠ b ∧ p2 ≠ b) → Q (.ref p) H'
theorem SameBut.app {b p : Addr} {H Hc : Hp} {o : HO} (h : SameBut b H Hc) (n : H p = none) : SameBut b H (L2.upd Hc p o) := fun a u na ha => by
  rw [upd_ne (ne_of_none ha n)]
  exact h a u na ha
theorem pick4 {a b c d : Int} {v : V} (h : v ∈ [V.int a, V.int b, V.int c, V.int d]) (ha : 0 ≤ a ∧ a ≤ d) (hb : 0 ≤ b ∧ b ≤ d) (hc : 0 ≤ c ∧ c ≤ d) (hd : 0 ≤ d) : ∃ i, v = .int i ∧ 0 ≤ i ∧ i ≤ d := by
  simp only [List.mem_cons, List.not_mem_nil, or_false] at h
  rcases h with rfl | rfl | rfl | rfl
  · exact ⟨a, rfl, ha⟩
  · exact ⟨b, rfl, hb⟩
  · exact ⟨c, rfl, hc⟩
  · exact ⟨d, rfl, hd, Int.le_refl d⟩
abbrev s_l_row : Stmt := top 30
abbrev N_l_row : List Str := ["_law_box_here", "_law_is_low", "_law_here", "_law_first", "_law_turn", "_law_again"]
theorem sc_l_row : FnScope N_l_row ["_law_box_here", "_law_is_low"] (defScope s_l_row) := ⟨rfl, rfl, rfl, by decide +kernel, rfl, by decide +kernel, by decide +kernel⟩

theorem ok_row (F : FnP K "_law_row" s_l_row f fd) (m_int : mg "int" = none) (m_range : mg "range" = none) (g_l_take : FnAt P w K mg base CX0 1 "_law_take" ["_law_box_here", "_law_many"] spTake) (g_l_pick : FnAt P w K mg base CX0 2 "_law_pick" ["_law_box_here", "_law_some"] (spPick K)) :
    FnOk P w K mg base CX0 3 f fd ["_law_box_here", "_law_is_low"] spRow := by
  refine F.ok sc_l_row (fun vs H Q E h => ?_) (fun cdv A outer s H vs Q E hr h => ?_)
  · obtain ⟨b, lo, rfl, _⟩ := h
    rfl
  · obtain ⟨b, lo, rfl, hb, q⟩ := h
    refine ⟨_, PSs.nox (pss_cons (ps_set (i := 2) sc_l_row.nd rfl (.inl rfl) (pe_op op_sub (pe_fn g_l_take hr rfl (pa_cons (pv 0) (pa_cons (pe_int) (pa_nil)))) (pe_op op_mul (pe_int) (pe_callTy call_int1 rfl m_int (by decide +kernel) (pa_cons (pv 1) (pa_nil))))))
 (pss_cons (ps_set (i := 3) sc_l_row.nd rfl (.inl rfl) (pe_lst (pa_nil)))
 (Evl.pss_cut (ps_for PassesOwn.never rfl (pi_range1 rfl m_range (pa_cons (pe_fn g_l_take hr rfl (pa_cons (pv 0) (pa_cons (pe_int) (pa_nil)))) (pa_nil))) (pg_name (i := 4) sc_l_row.nd rfl (.inl rfl)) (pss_cons (ps_expr (pe_bm PySem.F.plainAttrs_list PySem.F.slot_list_append PySem.F.type_list_append mt_append (pv 3) (pa_cons (pv 2) (pa_nil))))
 (pss_one (ps_set (i := 2) sc_l_row.nd rfl (.inl rfl) (pe_op op_add (pv 2) (pe_fn g_l_pick hr rfl (pa_cons (pv 0) (pa_cons (pe_lst (pa_cons (pe_int) (pa_cons (pe_int) (pa_cons (pe_int) (pa_cons (pe_int) (pa_nil)))))) (pa_nil)))))))))
 (Evl.pss_cut (ps_if (pt_cmpR op_eq (pe_fn g_l_take hr rfl (pa_cons (pv 0) (pa_cons (pe_int) (pa_nil)))) (pe_int) (nomark _)) (pss_one (ps_set (i := 3) sc_l_row.nd rfl (.inl rfl) (pe_op op_cat (pe_op op_rep (pe_lst (pa_cons (pe_non) (pa_nil))) (pe_op op_add (pe_int) (pe_fn g_l_take hr rfl (pa_cons (pv 0) (pa_cons (pe_int) (pa_nil)))))) (pv 3)))) (pss_nil))
 (pss_cons (ps_set (i := 5) sc_l_row.nd rfl (.inl rfl) (pe_lst (pa_nil)))
 (Evl.pss_cut (ps_for PassesOwn.never rfl (pi_range1 rfl m_range (pa_cons (pe_op op_add (pe_int) (pe_fn g_l_take hr rfl (pa_cons (pv 0) (pa_cons (pe_int) (pa_nil))))) (pa_nil))) (pg_name (i := 4) sc_l_row.nd rfl (.inl rfl)) (pss_cons (ps_expr (pe_bm PySem.F.plainAttrs_list PySem.F.slot_list_append PySem.F.type_list_append mt_append (pv 5) (pa_cons (pv 2) (pa_nil))))
 (pss_one (ps_set (i := 2) sc_l_row.nd rfl (.inl rfl) (pe_op op_add (pv 2) (pe_fn g_l_pick hr rfl (pa_cons (pv 0) (pa_cons (pe_lst (pa_cons (pe_int) (pa_cons (pe_int) (pa_cons (pe_int) (pa_cons (pe_int) (pa_nil)))))) (pa_nil)))))))))
 (pss_one (ps_ret (pe_tup (pa_cons (pv 3) (pa_cons (pv 5) (pa_cons (pe_op op_add (pe_op op_sub (pe_ix (ix_sqK K) (pv 5) (pe_un un_neg (pe_int)) (fun _ _ => rfl)) (pe_ix (ix_sqK K) (pv 5) (pe_int) (fun _ _ => rfl))) (pe_fn g_l_take hr rfl (pa_cons (pv 0) (pa_cons (pe_int) (pa_nil))))) (pa_nil))))))))))))), ?_⟩
    -- here
    refine ⟨_, rfl, b, 7, rfl, hb, by decide, by decide, fun x0 y0 z0 d0 l0 u0 => ?_⟩
    refine ⟨_, rfl, .inr ⟨_, rfl, _, _, rfl, rfl, .inl ⟨by decide, by decide⟩, _, _, rfl, rfl, ?_⟩⟩
    obtain ⟨h0, e0, l0', u0'⟩ : ∃ h0, h0 = d0 - 4 * (if lo = true then 1 else 0) ∧ -4 ≤ h0 ∧ h0 ≤ 6 := by
      cases lo
      · exact ⟨_, rfl, by simp; omega, by simp; omega⟩
      · exact ⟨_, rfl, by simp; omega, by simp; omega⟩
    -- first = []
    refine ⟨by decide, fun p1 n1 => ?_⟩
    have bx1 : Box (upd (upd H b (bx x0 y0 z0)) p1 (.lst [])) b := ⟨_, _, _, same_new n1 _ _ upd_same⟩
    have np1 : p1 ≠ b := Box.ne ⟨_, _, _, upd_same⟩ n1
    have sb1 : SameBut b H (upd (upd H b (bx x0 y0 z0)) p1 (.lst [])) := (SameBut.upd b H _).trans (.of (same_new n1))
    have hn1 : H p1 = none := by
      rw [upd_ne np1] at n1
      exact n1
    refine ⟨fun σ Hc => ∃ (h : Int) (is : List Int) (v4 : Option V), σ = [some (.ref b), some (.bl lo), some (.int h), some (.ref p1), v4, none] ∧ SameBut b H Hc ∧ Box Hc b ∧ Hc p1 = some (.lst (is.map V.int)) ∧ is.length ≤ 3 ∧ Up is h 21, ?_, ?_⟩
    · refine ⟨_, rfl, b, 4, rfl, bx1, by decide, by decide, fun x1 y1 z1 d1 l1 u1 => ⟨d1, rfl, by omega, by omega, ?_⟩⟩
      refine for_range (fun i σ Hc => ∃ (h : Int) (is : List Int) (v4 : Option V), σ = [some (.ref b), some (.bl lo), some (.int h), some (.ref p1), v4, none] ∧ SameBut b H Hc ∧ Box Hc b ∧ Hc p1 = some (.lst (is.map V.int)) ∧ is.length = i ∧ Up is h (6 + 5 * (i : Int))) ⟨h0, [], none, by rw [e0]; rfl, sb1.trans (SameBut.upd b _ _), ⟨_, _, _, upd_same⟩, (upd_ne np1).trans upd_same, rfl, ?_⟩ ?_ ?_
      · refine ⟨List.pairwise_singleton _ _, fun v hv => ?_, by omega⟩
        rw [List.mem_singleton.mp hv]
        omega
      · rintro i σ Hc hi ⟨h, is, v4, rfl, sb, bx2, hp1, hlen, up⟩
        refine ⟨_, rfl, .inl ⟨rfl, _, .inl (.inl hp1)⟩, _, rfl, p1, _, _, rfl, rfl, hp1, ?_, ?_⟩
        · rw [List.length_map]
          exact Nat.lt_of_lt_of_le (show is.length < 1000 by omega) (by decide)
        · have bx3 : Box (upd Hc p1 (.lst (is.map V.int ++ [.int h]))) b := by
            obtain ⟨x, y, z, e⟩ := bx2
            exact ⟨x, y, z, (upd_ne (Ne.symm np1)).trans e⟩
          refine ⟨_, rfl, _, rfl, by show 4 ≤ sizeLine; decide, fun l nl => ?_⟩
          refine ⟨b, l, [.int 0, .int 1, .int 2, .int 5], rfl, bx3.ex (same_new nl), .l upd_same, Box.ne bx3 nl, by show 0 < 4; decide, by show 4 < 1000; decide, fun x y z v hv => ?_⟩
          obtain ⟨d, rfl, hd0, hd1⟩ := pick4 hv (by decide) (by decide) (by decide) (by decide)
          have hl1 : p1 ≠ l := ne_of_none upd_same nl
          refine ⟨_, _, rfl, rfl, h + d, is ++ [h], some (.int (0 + (i : Int))), rfl, ?_, ⟨_, _, _, upd_same⟩, ?_, by rw [List.length_append, hlen]; rfl, ?_⟩
          · exact ((sb.app hn1).trans (.of (same_new nl))).trans (SameBut.upd b _ _)
          · rw [upd_ne np1, upd_ne hl1, upd_same, List.map_append]
            rfl
          · have := up.next hd0 hd1
            rw [show (6 : Int) + 5 * (i : Int) + 5 = 6 + 5 * ((i + 1 : Nat) : Int) by omega] at this
            exact this
      · rintro σ Hc ⟨h, is, v4, rfl, sb, bx2, hp1, hlen, a1, a2, a3⟩
        exact ⟨h, is, v4, rfl, sb, bx2, hp1, by omega, a1, a2, by omega⟩
    rintro σ Hc ⟨h, is, v4, rfl, sb, bx2, hp1, il, ub⟩
    -- nothing ahead
    refine ⟨fun σ H2 => ∃ (pf : Addr) (n : Nat), σ = [some (.ref b), some (.bl lo), some (.int h), some (.ref pf), v4, none] ∧ SameBut b H H2 ∧ Box H2 b ∧ pf ≠ b ∧ n ≤ 2 ∧ H2 pf = some (.lst (List.replicate n V.non ++ is.map V.int)), ?_, ?_⟩
    · refine ⟨_, rfl, b, 4, rfl, bx2, by decide, by decide, fun x y z d dl du => ⟨rfl, _, rfl, ite2 (fun c => ?_) (fun c => ?_)⟩⟩
      · have sb2 : SameBut b H (upd Hc b (bx x y z)) := sb.trans (SameBut.upd b _ _)
        refine ⟨by decide, fun l nl => ?_⟩
        have hlb : l ≠ b := Box.ne ⟨_, _, _, upd_same⟩ nl
        refine ⟨_, rfl, b, 2, rfl, ⟨_, _, _, same_new nl _ _ upd_same⟩, by decide, by decide, fun x2 y2 z2 d2 dl2 du2 => ⟨_, _, rfl, rfl, l, _, [.non], rfl, rfl, (upd_ne hlb).trans upd_same, by omega, by omega, ?_, fun l2 nl2 => ?_⟩⟩
        · show 1 * (1 + d2).toNat ≤ sizeLine
          exact Nat.le_trans (show 1 * (1 + d2).toNat ≤ 3 by omega) (by decide)
        · have er : (List.replicate (1 + d2).toNat [V.non]).flatten = List.replicate (1 + d2).toNat V.non := by
            generalize (1 + d2).toNat = k
            induction k with
            | zero => rfl
            | succ k ih => rw [List.replicate_succ, List.flatten_cons, ih]; rfl
          have hl2b : l2 ≠ b := Box.ne ⟨_, _, _, upd_same⟩ nl2
          have hp1b : (upd (upd (upd Hc b (bx x y z)) l (.lst [.non])) b (bx x2 y2 z2)) p1 = some (.lst (is.map V.int)) := by
            rw [upd_ne np1]
            refine same_new nl _ _ ?_
            rw [upd_ne np1]
            exact hp1
          refine ⟨_, rfl, l2, p1, _, _, rfl, rfl, upd_same, same_new nl2 _ _ hp1b, ?_, fun l3 nl3 => ⟨l3, (1 + d2).toNat, rfl, ?_, ?_, ?_, by omega, ?_⟩⟩
          · rw [er, List.length_replicate, List.length_map]
            exact Nat.le_trans (show (1 + d2).toNat + is.length ≤ 10 by omega) (by decide)
          · exact (((sb2.trans (.of (same_new nl))).trans (SameBut.upd b _ _)).trans (.of (same_new nl2))).trans (.of (same_new nl3))
          · exact Box.ex (same_new nl3) (Box.ex (same_new nl2) ⟨_, _, _, upd_same⟩)
          · exact Box.ne (Box.ex (same_new nl2) ⟨_, _, _, upd_same⟩) nl3
          · rw [upd_same, er]
      · exact ⟨p1, 0, rfl, sb.trans (SameBut.upd b _ _), ⟨_, _, _, upd_same⟩, np1, by omega, by rw [upd_ne np1, hp1]; rfl⟩
    rintro σ H2 ⟨pf, n, rfl, sb2, bx4, npf, hn2, hpf⟩
    -- again = []
    refine ⟨by decide, fun p2 n2 => ?_⟩
    have np2 : p2 ≠ b := Box.ne bx4 n2
    have sb3 : SameBut b H (upd H2 p2 (.lst [])) := sb2.trans (.of (same_new n2))
    have hpf3 : (upd H2 p2 (.lst [])) pf = some (.lst (List.replicate n V.non ++ is.map V.int)) := same_new n2 _ _ hpf
    have nf2 : pf ≠ p2 := ne_of_none hpf n2
    refine ⟨fun σ H3 => ∃ (h' : Int) (ag : List Int) (v4 : Option V), σ = [some (.ref b), some (.bl lo), some (.int h'), some (.ref pf), v4, some (.ref p2)] ∧ SameBut b H H3 ∧ Box H3 b ∧ H3 pf = some (.lst (List.replicate n V.non ++ is.map V.int)) ∧ H3 p2 = some (.lst (ag.map V.int)) ∧ 1 ≤ ag.length ∧ ag.length ≤ 3 ∧ Up (is ++ ag) h' 33, ?_, ?_⟩
    · refine ⟨_, rfl, b, 3, rfl, bx4.ex (same_new n2), by decide, by decide, fun x1 y1 z1 d1 l1 u1 => ⟨_, _, rfl, rfl, 1 + d1, rfl, by omega, by omega, ?_⟩⟩
      refine for_range (fun i σ Hc => ∃ (h' : Int) (ag : List Int) (v4 : Option V), σ = [some (.ref b), some (.bl lo), some (.int h'), some (.ref pf), v4, some (.ref p2)] ∧ SameBut b H Hc ∧ SameBut b H2 Hc ∧ Box Hc b ∧ Hc p2 = some (.lst (ag.map V.int)) ∧ ag.length = i ∧ Up (is ++ ag) h' (21 + 4 * (i : Int))) ⟨h, [], v4, rfl, sb3.trans (SameBut.upd b _ _), SameBut.trans (.of (same_new n2)) (SameBut.upd b _ _), ⟨_, _, _, upd_same⟩, (upd_ne np2).trans upd_same, rfl, by rw [List.append_nil]; exact ub⟩ ?_ ?_
      · rintro i σ Hc hi ⟨h', ag, v4, rfl, sb, sbb, bx5, hp2, hlen, up⟩
        refine ⟨_, rfl, .inl ⟨rfl, _, .inl (.inl hp2)⟩, _, rfl, p2, _, _, rfl, rfl, hp2, ?_, ?_⟩
        · rw [List.length_map]
          exact Nat.lt_of_lt_of_le (show ag.length < 1000 by omega) (by decide)
        · have bx3 : Box (upd Hc p2 (.lst (ag.map V.int ++ [.int h']))) b := by
            obtain ⟨x, y, z, e⟩ := bx5
            exact ⟨x, y, z, (upd_ne (Ne.symm np2)).trans e⟩
          refine ⟨_, rfl, _, rfl, by show 4 ≤ sizeLine; decide, fun l nl => ?_⟩
          refine ⟨b, l, [.int 0, .int 1, .int 2, .int 4], rfl, bx3.ex (same_new nl), .l upd_same, Box.ne bx3 nl, by show 0 < 4; decide, by show 4 < 1000; decide, fun x y z v hv => ?_⟩
          obtain ⟨d, rfl, hd0, hd1⟩ := pick4 hv (by decide) (by decide) (by decide) (by decide)
          have hl1 : p2 ≠ l := ne_of_none upd_same nl
          refine ⟨_, _, rfl, rfl, h' + d, ag ++ [h'], some (.int (0 + (i : Int))), rfl, ?_, ?_, ⟨_, _, _, upd_same⟩, ?_, by rw [List.length_append, hlen]; rfl, ?_⟩
          · refine (SameBut.trans ?_ (.of (same_new nl))).trans (SameBut.upd b _ _)
            refine fun a o na ha => ?_
            rw [upd_ne (ne_of_none (sb2 a o na ha) n2)]
            exact sb a o na ha
          · exact ((sbb.app n2).trans (.of (same_new nl))).trans (SameBut.upd b _ _)
          · rw [upd_ne np2, upd_ne hl1, upd_same, List.map_append]
            rfl
          · have := up.next hd0 hd1
            rw [show (21 : Int) + 4 * (i : Int) + 4 = 21 + 4 * ((i + 1 : Nat) : Int) by omega, List.append_assoc] at this
            exact this
      · rintro σ Hc ⟨h', ag, v4, rfl, sb, sbb, bx5, hp2, hlen, up⟩
        obtain ⟨a1, a2, a3⟩ := up
        exact ⟨h', ag, v4, rfl, sb, bx5, sbb _ _ npf hpf, hp2, by omega, by omega, a1, a2, by omega⟩
    rintro σ H3 ⟨h', ag, v4, rfl, sb4, bx6, hpf4, hp24, al1, al3, up⟩
    -- the end
    have at0 : atI (ag.map V.int) 0 = some (.int (ag.getD 0 0)) := ints_at (i := 0) (by omega)
    have atL := ints_last (ag := ag) (by omega)
    refine ⟨_, rfl, _, rfl, _, rfl, 1, rfl, p2, _, _, _, rfl, rfl, .l hp24, atL, _, rfl, p2, _, _, _, rfl, rfl, .l hp24, at0, _, _, rfl, rfl, _, rfl, b, 5, rfl, bx6, by decide, by decide, fun x y z d dl du => ⟨_, _, rfl, rfl, by show 3 ≤ sizeLine; decide, fun p np => ?_⟩⟩
    have nb : p ≠ b := Box.ne ⟨_, _, _, upd_same⟩ np
    refine q p _ (List.replicate n V.non ++ is.map V.int) ag (lastI ag - ag.getD 0 0 + d) ?_ ((sb4.trans (SameBut.upd b _ _)).trans (.of (same_new np))) (Box.ex (same_new np) ⟨_, _, _, upd_same⟩) ⟨pf, p2, upd_same, same_new np _ _ ((upd_ne npf).trans hpf4), same_new np _ _ ((upd_ne np2).trans hp24), nb, npf, np2⟩
    have hle := up.le
    obtain ⟨u1, u2, u3⟩ := up
    have bd : ∀ v ∈ is ++ ag, -4 ≤ v ∧ v ≤ 40 := fun v hv => ⟨u2 v (List.mem_append_left _ hv), by have := hle v hv; omega⟩
    have mem : ∀ i, i < ag.length → ag.getD i 0 ∈ is ++ ag := fun i hi => by
      rw [List.getD_eq_getElem?_getD, List.getElem?_eq_getElem hi]
      exact List.mem_append_right _ (List.getElem_mem hi)
    have b0 := bd _ (mem 0 (by omega))
    have bL := bd _ (mem (ag.length - 1) (by omega))
    refine ⟨⟨n, is, rfl, hn2, il, ?_, bd⟩, al1, al3, by omega, ?_⟩
    · rw [List.pairwise_append] at u1
      exact u1.1
    · have : lastI ag = ag.getD (ag.length - 1) 0 := rfl
      omega
end
end WW

set_option Elab.async false
set_option linter.all false
set_option maxRecDepth 100000
set_option maxHeartbeats 4000000
namespace WW
open PySem PySem.Spec PyProof.Rows L2
/-- the n-th time of a told row -/
def seqT (fs : List V) (ag : List Int) (m : Int) (n : Nat) : V :=
  if n < fs.length then fs.getD n .non else .int (ag.getD ((n - fs.length) % ag.length) 0 + ((n - fs.length) / ag.length : Nat) * m)
section
variable {P : Program} {w : World} {K : PySem.W.Frag} {mg : Str → Option Value} {base : Heap} {f : Addr} {fd : FuncData}
def spTime (K : PySem.W.Frag) : Sp := fun vs H Q _ => ∃ (p p1 p2 : Addr) (fs : List V) (ag : List Int) (m : Int) (n : Nat), vs = [.ref p, .int (n : Int)] ∧ H p = some (.tup [.ref p1, .ref p2, .int m]) ∧ H p1 = some (.lst fs) ∧ H p2 = some (.lst (ag.map V.int)) ∧ 0 < ag.length ∧ ag.length < 1000 ∧ -1000 < m ∧ m < 1000 ∧ Q (seqT fs ag m n) H
abbrev s_l_time : Stmt := top 31
abbrev N_l_time : List Str := ["_law_told", "_law_n", "_law_first", "_law_again", "_law_more", "_law_thing"]
theorem sc_l_time : FnScope N_l_time ["_law_told", "_law_n"] (defScope s_l_time) := ⟨rfl, rfl, rfl, by decide +kernel, rfl, by decide +kernel, by decide +kernel⟩

theorem ok_time (F : FnP K "_law_time" s_l_time f fd) (m_len : mg "len" = none) : FnOk P w K mg base CX0 1 f fd ["_law_told", "_law_n"] (spTime K) := by
  refine F.ok sc_l_time (fun vs H Q E h => ?_) (fun cdv A outer s H vs Q E hr h => ?_)
  · obtain ⟨p, p1, p2, fs, ag, m, n, rfl, _⟩ := h
    rfl
  · obtain ⟨p, p1, p2, fs, ag, m, n, rfl, hp, h1, h2, l0, l1, b0, b1, q⟩ := h
    refine ⟨_, PSs.nox (pss_cons (ps_asg (pv 0) (pg_tupK K rfl (pgs_cons (pg_name (i := 2) sc_l_time.nd rfl (.inl rfl)) (pgs_cons (pg_name (i := 3) sc_l_time.nd rfl (.inl rfl)) (pgs_cons (pg_name (i := 4) sc_l_time.nd rfl (.inl rfl)) (pgs_nil))))))
 (pss_cons (ps_if (pt_cmpR op_lt (pv 1) (pe_callB (call_lenK K) rfl m_len (by decide +kernel) (pa_cons (pv 2) (pa_nil))) (nomark _)) (pss_one (ps_ret (pe_ix (ix_sqK K) (pv 2) (pv 1) (fun _ _ => rfl)))) (pss_nil))
 (pss_cons (ps_set (i := 5) sc_l_time.nd rfl (.inl rfl) (pe_ix (ix_sqK K) (pv 3) (pe_op op_mod (pe_op op_sub (pv 1) (pe_callB (call_lenK K) rfl m_len (by decide +kernel) (pa_cons (pv 2) (pa_nil)))) (pe_callB (call_lenK K) rfl m_len (by decide +kernel) (pa_cons (pv 3) (pa_nil)))) (fun _ _ => rfl)))
 (pss_one (ps_ret (pe_ifExp (pt_cmpR op_isN (pv 5) (pe_non) (nomark _)) (pe_non) (pe_op op_add (pv 5) (pe_op op_mul (pe_op op_fdiv (pe_op op_sub (pv 1) (pe_callB (call_lenK K) rfl m_len (by decide +kernel) (pa_cons (pv 2) (pa_nil)))) (pe_callB (call_lenK K) rfl m_len (by decide +kernel) (pa_cons (pv 3) (pa_nil)))) (pv 4))))))))), ?_⟩
    refine ⟨_, rfl, p, _, rfl, .inl (.inl hp), rfl, _, _, rfl, _, _, rfl, _, _, rfl, rfl, ?_⟩
    refine ⟨_, rfl, _, rfl, p1, fs, rfl, .l h1, _, _, rfl, rfl, _, rfl, ?_⟩
    have hlen : ((ag.map V.int).length : Int) = (ag.length : Int) := by rw [List.length_map]
    unfold seqT at q
    by_cases hn : n < fs.length
    · rw [decide_eq_true (by omega)]
      rw [if_pos hn] at q
      exact ⟨_, rfl, _, rfl, p1, fs, _, _, rfl, rfl, .l h1, getD_at hn, q⟩
    · rw [decide_eq_false (by omega)]
      rw [if_neg hn] at q
      have e0 : ((n : Int) - (fs.length : Int)) % ((ag.map V.int).length : Int) = (((n - fs.length) % ag.length : Nat) : Int) := by
        rw [hlen, show (n : Int) - (fs.length : Int) = ((n - fs.length : Nat) : Int) by omega]
        rfl
      have e1 : ((n : Int) - (fs.length : Int)) / ((ag.map V.int).length : Int) = (((n - fs.length) / ag.length : Nat) : Int) := by
        rw [hlen, show (n : Int) - (fs.length : Int) = ((n - fs.length : Nat) : Int) by omega]
        rfl
      refine ⟨_, rfl, _, rfl, _, rfl, p1, fs, rfl, .l h1, _, _, rfl, rfl, _, rfl, p2, _, rfl, .l h2, _, _, rfl, rfl, by rw [hlen]; omega, p2, _, _, .int (ag.getD ((n - fs.length) % ag.length) 0), rfl, rfl, .l h2, ?_, ?_⟩
      · rw [e0]
        exact ints_at (Nat.mod_lt _ l0)
      · refine ⟨_, rfl, rfl, _, rfl, ?_⟩
        refine ⟨_, rfl, _, rfl, _, rfl, p1, fs, rfl, .l h1, _, _, rfl, rfl, _, rfl, p2, _, rfl, .l h2, _, _, rfl, rfl, ⟨by rw [hlen]; omega, by rw [hlen]; omega⟩, _, rfl, _, _, rfl, rfl, .inr ⟨by omega, by omega⟩, _, _, rfl, rfl, ?_⟩
        rw [e1]
        exact q
def spTimes (K : PySem.W.Frag) : Sp := fun vs H Q _ => ∃ (p p1 p2 : Addr) (fs : List V) (ag : List Int) (m : Int) (n : Nat), vs = [.ref p, .int (n : Int)] ∧ H p = some (.tup [.ref p1, .ref p2, .int m]) ∧ H p1 = some (.lst fs) ∧ H p2 = some (.lst (ag.map V.int)) ∧ 0 < ag.length ∧ ag.length < 1000 ∧ -1000 < m ∧ m < 1000 ∧ n ≤ 1000 ∧
  ∀ D H', Same H H' → H D = none → H' D = some (.lst ((List.range n).map (seqT fs ag m))) → Q (.ref D) H'
abbrev s_l_times : Stmt := top 32
abbrev N_l_times : List Str := ["_law_told", "_law_many", "_law_n"]
theorem sc_l_times : FnScope N_l_times ["_law_told", "_law_many"] (defScope s_l_times) := ⟨rfl, rfl, rfl, by decide +kernel, rfl, by decide +kernel, by decide +kernel⟩

theorem ok_times (F : FnP K "_law_times" s_l_times f fd) (m_range : mg "range" = none) (g_l_time : FnAt P w K mg base CX0 1 "_law_time" ["_law_told", "_law_n"] (spTime K)) : FnOk P w K mg base CX0 2 f fd ["_law_told", "_law_many"] (spTimes K) := by
  refine F.ok sc_l_times (fun vs H Q E h => ?_) (fun cdv A outer s H vs Q E hr h => ?_)
  · obtain ⟨p, p1, p2, fs, ag, m, n, rfl, _⟩ := h
    rfl
  · obtain ⟨p, p1, p2, fs, ag, m, n, rfl, hp, h1, h2, l0, l1, b0, b1, hn, q⟩ := h
    refine ⟨_, PSs.nox (pss_one (ps_ret (pe_lc (own := [("_law_n", 2)]) rfl sc_l_times.nd (pi_range1 rfl m_range (pa_cons (pv 1) (pa_nil))) (blkOk_by (N := N_l_times) (sc := defScope s_l_times) (by decide +kernel)) (fun _ _ _ _ _ => pg_name (i := 2) sc_l_times.nd rfl (.inl rfl)) (fun _ _ _ _ _ => pts_nil) (fun _ _ _ _ _ => pe_fn g_l_time hr rfl (pa_cons (pv 0) (pa_cons (pv 2) (pa_nil))))))), ?_⟩
    refine ⟨_, rfl, _, rfl, by omega, by omega, fun D hD => ?_⟩
    rw [Int.toNat_natCast]
    refine lc_rg (seqT fs ag m) (by omega) hD (fun i hi H1 s1 R r => ?_) fun H1 s1 hD1 => q D H1 s1 hD hD1
    refine ⟨_, rfl, _, rfl, p, p1, p2, fs, ag, m, i, ?_, s1 _ _ hp, s1 _ _ h1, s1 _ _ h2, l0, l1, b0, b1, r H1 (Same.refl H1)⟩
    rw [show (0 : Int) + (i : Int) = (i : Int) by omega]
    rfl
def spMade (K : PySem.W.Frag) (C : Addr) : Sp := fun vs H Q _ => ∃ (p p1 p2 : Addr) (fs : List V) (ag : List Int) (m : Int), vs = [.ref p] ∧ H p = some (.tup [.ref p1, .ref p2, .int m]) ∧ H p1 = some (.lst fs) ∧ H p2 = some (.lst (ag.map V.int)) ∧ fs.length ≤ 400 ∧ ag.length ≤ 400 ∧ (∀ y ∈ fs, isThingV y = true) ∧ wrongW (some fs) (some (ag.map V.int)) (.int m) = .non ∧
  ∀ x H', Same H H' → RowAt C H' x (leastV fs (ag.map V.int) m).1 (leastV fs (ag.map V.int) m).2.1 (leastV fs (ag.map V.int) m).2.2 → Q (.ref x) H'
theorem hasT_thing {H : Hp} {y : V} (h : isThingV y = true) : HasT K H y false := by
  cases y with
  | non => exact hasT_non
  | int i => exact hasT_int i
  | _ => cases h
/-- what stands behind a made row -/
theorem made_row {C x dx : Addr} {H H' : Hp} {fs ys : List V} {m : Int} (nx : H x = none) (ndx : H dx = none) (hn : dx ≠ x) (sb : SameBut x (upd (upd H dx (.own x)) x (.ins C dx [])) H') : Same H H' := fun a o ha => by
  have n1 : a ≠ x := ne_of_none ha nx
  have n2 : a ≠ dx := ne_of_none ha ndx
  refine sb a o n1 ?_
  rw [upd_ne n1, upd_ne n2]
  exact ha
abbrev s_l_made : Stmt := top 33
abbrev N_l_made : List Str := ["_law_told"]
theorem sc_l_made : FnScope N_l_made ["_law_told"] (defScope s_l_made) := ⟨rfl, rfl, rfl, by decide +kernel, rfl, by decide +kernel, by decide +kernel⟩

theorem ok_made (F : FnP K "_law_made" s_l_made f fd) (g_Row : MkAt P w K mg base CX0 4 "Row" ["self", "first", "again", "more"] (spInit K (He.ga K "Row")) []) : FnOk P w K mg base CX0 6 f fd ["_law_told"] (spMade K (He.ga K "Row")) := by
  refine F.ok sc_l_made (fun vs H Q E h => ?_) (fun cdv A outer s H vs Q E hr h => ?_)
  · obtain ⟨p, p1, p2, fs, ag, m, rfl, _⟩ := h
    rfl
  · obtain ⟨p, p1, p2, fs, ag, m, rfl, hp, h1, h2, l0, l1, ht, hw, q⟩ := h
    refine ⟨_, PSs.nox (pss_one (ps_ret (pe_mkr g_Row hr rfl (pa_cons (pe_ix (ix_sqK K) (pv 0) (pe_int) (fun _ _ => rfl)) (pa_cons (pe_ix (ix_sqK K) (pv 0) (pe_int) (fun _ _ => rfl)) (pa_cons (pe_ix (ix_sqK K) (pv 0) (pe_int) (fun _ _ => rfl)) (pa_nil))))))), ?_⟩
    refine ⟨_, rfl, p, _, _, _, rfl, rfl, .t hp, rfl, _, rfl, p, _, _, _, rfl, rfl, .t hp, rfl, _, rfl, p, _, _, _, rfl, rfl, .t hp, rfl, fun x dx nx ndx hn => ?_⟩
    have s1 : Same H (upd (upd H dx (.own x)) x (.ins (He.ga K "Row") dx [])) := (same_new ndx).trans (same_new ((upd_ne (Ne.symm hn)).trans nx))
    refine ⟨x, dx, .ref p1, .ref p2, fs, ag.map V.int, m, rfl, upd_same, ⟨p1, rfl, .l (s1 _ _ h1), l0, fun y hy => ⟨false, hasT_thing (ht y hy)⟩⟩, ⟨p2, rfl, .l (s1 _ _ h2), by rw [List.length_map]; exact l1, fun y hy => ?_⟩, hw, fun H' sb hr => ⟨rfl, q x H' (made_row (fs := []) (ys := []) (m := 0) nx ndx hn sb) hr⟩⟩
    obtain ⟨i, _, rfl⟩ := List.mem_map.mp hy
    exact ⟨false, hasT_int i⟩
end
end WW

set_option Elab.async false
set_option linter.all false
set_option maxRecDepth 100000
set_option maxHeartbeats 4000000
namespace WW
open PySem L2
/-! ### a row whose turn is shorter -/
/-- the times that come again, without end -/
def ext (ag : List Int) (m : Int) (k : Nat) : Int := ag.getD (k % ag.length) 0 + ((k / ag.length : Nat) : Int) * m
theorem seqT_ge {fs : List V} {ag : List Int} {m : Int} {n : Nat} (h : ¬ n < fs.length) : seqT fs ag m n = .int (ext ag m (n - fs.length)) := by
  unfold seqT
  rw [if_neg h]
  rfl
theorem ext_add {ag : List Int} {m : Int} (h : 0 < ag.length) (k q : Nat) : ext ag m (k + ag.length * q) = ext ag m k + (q : Int) * m := by
  unfold ext
  rw [Nat.add_mul_mod_self_left, Nat.add_mul_div_left _ _ h, Int.natCast_add, Int.add_mul, Int.add_assoc]
theorem ext_lt {ag : List Int} {m : Int} {k : Nat} (h : k < ag.length) : ext ag m k = ag.getD k 0 := by
  unfold ext
  rw [Nat.mod_eq_of_lt h, Nat.div_eq_of_lt h]
  simp
theorem wide_ext {ag : List Int} {m : Int} {t i : Nat} (ht : t ≤ ag.length) (h : i < ag.length + t) (h0 : 0 < ag.length) : (wide ag m t).getD i 0 = ext ag m i := by
  unfold wide
  rw [List.getD_eq_getElem?_getD]
  by_cases c : i < ag.length
  · rw [List.getElem?_append_left c, ext_lt c, List.getD_eq_getElem?_getD]
  · rw [List.getElem?_append_right (by omega), List.getElem?_map, List.getElem?_take, if_pos (by omega)]
    have e : i = (i - ag.length) + ag.length * 1 := by omega
    have e2 : ext ag m i = ag.getD (i - ag.length) 0 + m := by
      rw [e, ext_add h0, ext_lt (by omega)]
      simp
    rw [e2, List.getElem?_eq_getElem (by omega), List.getD_eq_getElem?_getD, List.getElem?_eq_getElem (by omega)]
    rfl
theorem isTurn_split {ag : List Int} {m : Int} {t : Nat} (h : isTurn ag m t = true) : (ag.length : Int) % (t : Int) = 0 ∧ m * (t : Int) % (ag.length : Int) = 0 ∧ ∀ i, i < ag.length → (wide ag m t).getD (i + t) 0 - (wide ag m t).getD i 0 = m * (t : Int) / (ag.length : Int) := by
  unfold isTurn at h
  by_cases c : (ag.length : Int) % (t : Int) ≠ 0 ∨ m * (t : Int) % (ag.length : Int) ≠ 0
  · rw [if_pos c] at h
    cases h
  · rw [if_neg c] at h
    rw [not_or] at c
    refine ⟨Decidable.not_not.mp c.1, Decidable.not_not.mp c.2, fun i hi => ?_⟩
    exact of_decide_eq_true (List.all_eq_true.mp h i (List.mem_range.mpr hi))
theorem ext_turn {ag : List Int} {m : Int} {t : Nat} (h0 : 0 < ag.length) (ht : t ≤ ag.length) (h : isTurn ag m t = true) (k : Nat) : ext ag m (k + t) = ext ag m k + m * (t : Int) / (ag.length : Int) := by
  obtain ⟨_, _, h3⟩ := isTurn_split h
  have e : k = k % ag.length + ag.length * (k / ag.length) := (Nat.mod_add_div k ag.length).symm
  have hlt := Nat.mod_lt k h0
  have q := h3 (k % ag.length) hlt
  rw [wide_ext ht (by omega) h0, wide_ext ht (by omega) h0] at q
  rw [e, show k % ag.length + ag.length * (k / ag.length) + t = k % ag.length + t + ag.length * (k / ag.length) by omega, ext_add h0, ext_add h0]
  omega
theorem ext_turns {ag : List Int} {m : Int} {t : Nat} (h0 : 0 < ag.length) (ht : t ≤ ag.length) (h : isTurn ag m t = true) (k q : Nat) : ext ag m (k + t * q) = ext ag m k + (q : Int) * (m * (t : Int) / (ag.length : Int)) := by
  induction q with
  | zero => simp
  | succ q ih =>
    rw [show k + t * (q + 1) = k + t * q + t by rw [Nat.mul_succ]; omega, ext_turn h0 ht h, ih, Int.natCast_add, Int.add_mul, Int.add_assoc]
    simp
theorem turn_keeps {fs : List V} {ag : List Int} {m : Int} {t : Nat} (h0 : 0 < ag.length) (t0 : 0 < t) (ht : t ≤ ag.length) (h : isTurn ag m t = true) (n : Nat) : seqT fs (ag.take t) (m * (t : Int) / (ag.length : Int)) n = seqT fs ag m n := by
  by_cases c : n < fs.length
  · unfold seqT
    rw [if_pos c, if_pos c]
  · rw [seqT_ge c, seqT_ge c]
    congr 1
    generalize n - fs.length = k
    have lt : (ag.take t).length = t := by rw [List.length_take]; omega
    have e : k = k % t + t * (k / t) := (Nat.mod_add_div k t).symm
    have hlt := Nat.mod_lt k t0
    have e2 : ext ag m k = ext ag m (k % t) + ((k / t : Nat) : Int) * (m * (t : Int) / (ag.length : Int)) := by
      rw [← ext_turns h0 ht h]
      rw [← e]
    rw [e2, ext_lt (ag := ag) (show k % t < ag.length by omega)]
    unfold ext
    rw [lt]
    congr 1
    rw [List.getD_eq_getElem?_getD, List.getD_eq_getElem?_getD, List.getElem?_take, if_pos hlt]
/-! ### a beginning that is shorter -/
theorem lastI_eq {ag : List Int} (h : ag ≠ []) : lastI ag = ag.getLast h := by
  unfold lastI
  have : 0 < ag.length := List.length_pos_iff.mpr h
  rw [List.getD_eq_getElem?_getD, List.getElem?_eq_getElem (by omega), List.getLast_eq_getElem]
  rfl
theorem pop_keeps {r : List V} {x m : Int} {ag : List Int} (h0 : 0 < ag.length) (hx : x + m = lastI ag) (n : Nat) : seqT r (x :: ag.dropLast) m n = seqT (r ++ [V.int x]) ag m n := by
  have hl : (x :: ag.dropLast).length = ag.length := by rw [List.length_cons, List.length_dropLast]; omega
  by_cases c : n < r.length
  · unfold seqT
    rw [if_pos c, if_pos (by rw [List.length_append]; simp; omega)]
    simp only [List.getD_eq_getElem?_getD]
    rw [List.getElem?_append_left c]
  · rw [seqT_ge c]
    by_cases c1 : n = r.length
    · subst c1
      unfold seqT
      rw [if_pos (by rw [List.length_append]; simp), Nat.sub_self, ext_lt (by rw [hl]; exact h0)]
      simp
    · have c2 : ¬ n < (r ++ [V.int x]).length := by rw [List.length_append]; simp; omega
      rw [seqT_ge c2]
      congr 1
      have e : n - r.length = (n - (r ++ [V.int x]).length) + 1 := by rw [List.length_append]; simp; omega
      rw [e]
      generalize n - (r ++ [V.int x]).length = k
      unfold ext
      rw [hl]
      have hlt := Nat.mod_lt k h0
      by_cases c3 : k % ag.length + 1 = ag.length
      · have e1 : (k + 1) % ag.length = 0 := by rw [← Nat.mod_add_mod, c3, Nat.mod_self]
        have e2 : (k + 1) / ag.length = k / ag.length + 1 := by
          have d := Nat.div_add_mod k ag.length
          have : k + 1 = ag.length * (k / ag.length + 1) := by rw [Nat.mul_add, Nat.mul_one]; omega
          rw [this, Nat.mul_div_cancel_left _ h0]
        rw [e1, e2, show k % ag.length = ag.length - 1 by omega]
        have : ag.getD (ag.length - 1) 0 = lastI ag := rfl
        rw [this, ← hx, Int.natCast_add, Int.add_mul]
        simp
        omega
      · have e1 : (k + 1) % ag.length = k % ag.length + 1 := by rw [← Nat.mod_add_mod, Nat.mod_eq_of_lt (by omega)]
        have e2 : (k + 1) / ag.length = k / ag.length := by
          have d := Nat.div_add_mod k ag.length
          have : k + 1 = (k % ag.length + 1) + ag.length * (k / ag.length) := by omega
          rw [this, Nat.add_mul_div_left _ _ h0, Nat.div_eq_of_lt (by omega), Nat.zero_add]
        rw [e1, e2]
        congr 1
        rw [List.getD_eq_getElem?_getD, List.getElem?_cons_succ, List.getElem?_dropLast, if_pos (by omega), List.getD_eq_getElem?_getD]
theorem shrink_keeps {m : Int} : ∀ (rf : List V) (ag : List Int), 0 < ag.length → (∀ n, seqT (shrinkR m rf ag).1.reverse (shrinkR m rf ag).2 m n = seqT rf.reverse ag m n) ∧ (shrinkR m rf ag).2.length = ag.length ∧ (∀ y ∈ (shrinkR m rf ag).1, y ∈ rf) ∧ (shrinkR m rf ag).1.length ≤ rf.length
  | [], ag, h => ⟨fun _ => rfl, rfl, fun _ h => h, Nat.le_refl _⟩
  | .int x :: r, ag, h => by
    by_cases c : x + m = lastI ag
    · rw [shrink_go c]
      have hl : (x :: ag.dropLast).length = ag.length := by rw [List.length_cons, List.length_dropLast]; omega
      obtain ⟨i1, i2, i3, i4⟩ := shrink_keeps r (x :: ag.dropLast) (by rw [hl]; exact h)
      refine ⟨fun n => ?_, i2.trans hl, fun y hy => List.mem_cons_of_mem _ (i3 y hy), Nat.le_succ_of_le i4⟩
      rw [i1, List.reverse_cons]
      exact pop_keeps h c n
    · rw [shrink_no c]
      exact ⟨fun _ => rfl, rfl, fun _ h => h, Nat.le_refl _⟩
  | .non :: r, ag, h => ⟨fun _ => rfl, rfl, fun _ h => h, Nat.le_refl _⟩
  | .bl _ :: r, ag, h => ⟨fun _ => rfl, rfl, fun _ h => h, Nat.le_refl _⟩
  | .str _ :: r, ag, h => ⟨fun _ => rfl, rfl, fun _ h => h, Nat.le_refl _⟩
  | .byt _ :: r, ag, h => ⟨fun _ => rfl, rfl, fun _ h => h, Nat.le_refl _⟩
  | .flt _ :: r, ag, h => ⟨fun _ => rfl, rfl, fun _ h => h, Nat.le_refl _⟩
  | .ref _ :: r, ag, h => ⟨fun _ => rfl, rfl, fun _ h => h, Nat.le_refl _⟩
  | .ty _ :: r, ag, h => ⟨fun _ => rfl, rfl, fun _ h => h, Nat.le_refl _⟩
/-- the least form: all times stay -/
theorem least_keeps {fs : List V} {ag : List Int} {m : Int} (h : 0 < ag.length) : (∀ n, seqT (leastF fs ag m).1 (leastF fs ag m).2.1 (leastF fs ag m).2.2 n = seqT fs ag m n) ∧ (leastF fs ag m).2.1.length = turnOf ag m ∧ (∀ y ∈ (leastF fs ag m).1, y ∈ fs) ∧ (leastF fs ag m).1.length ≤ fs.length := by
  have t0 := turnOf_pos ag m
  have tl := turnOf_le (m := m) h
  have ti := turnOf_is (m := m) h
  have lt : (ag.take (turnOf ag m)).length = turnOf ag m := by rw [List.length_take]; omega
  obtain ⟨i1, i2, i3, i4⟩ := shrink_keeps (m := m * (turnOf ag m : Int) / (ag.length : Int)) fs.reverse (ag.take (turnOf ag m)) (by rw [lt]; exact t0)
  refine ⟨fun n => ?_, ?_, fun y hy => ?_, ?_⟩
  · show seqT (shrinkR _ fs.reverse (ag.take (turnOf ag m))).1.reverse (shrinkR _ fs.reverse (ag.take (turnOf ag m))).2 (m * (turnOf ag m : Int) / (ag.length : Int)) n = _
    rw [i1, List.reverse_reverse]
    exact turn_keeps h t0 tl ti n
  · show (shrinkR _ fs.reverse (ag.take (turnOf ag m))).2.length = _
    rw [i2, lt]
  · have hy : y ∈ (shrinkR (m * (turnOf ag m : Int) / (ag.length : Int)) fs.reverse (ag.take (turnOf ag m))).1.reverse := hy
    rw [List.mem_reverse] at hy
    have := i3 y hy
    rw [List.mem_reverse] at this
    exact this
  · show (shrinkR (m * (turnOf ag m : Int) / (ag.length : Int)) fs.reverse (ag.take (turnOf ag m))).1.reverse.length ≤ _
    rw [List.length_reverse]
    rw [List.length_reverse] at i4
    exact i4
end WW

set_option Elab.async false
set_option linter.all false
set_option maxRecDepth 100000
set_option maxHeartbeats 4000000
namespace WW
open PySem L2
/-! ### the least form is told by the times alone -/
/-- from b on: t later is c more -/
def Lin (T : Nat → V) (b t : Nat) (c : Int) : Prop := ∀ n, b ≤ n → ∃ x, T n = .int x ∧ T (n + t) = .int (x + c)
structure Least (T : Nat → V) (b t : Nat) (c : Int) : Prop where
  t0 : 0 < t
  lin : Lin T b t c
  min : ∀ b' t' c', 0 < t' → Lin T b' t' c' → t ≤ t'
  stop : b = 0 ∨ T (b - 1) = .non ∨ ∃ x y, T (b - 1) = .int x ∧ T (b - 1 + t) = .int y ∧ y ≠ x + c
theorem V.int_inj {x y : Int} (h : V.int x = V.int y) : x = y := by
  injection h
theorem Lin.growth {T : Nat → V} {b b' t : Nat} {c c' : Int} (h : Lin T b t c) (h' : Lin T b' t c') : c = c' := by
  obtain ⟨x, e1, e2⟩ := h (max b b') (Nat.le_max_left _ _)
  obtain ⟨y, f1, f2⟩ := h' (max b b') (Nat.le_max_right _ _)
  have k1 := V.int_inj (e1.symm.trans f1)
  have k2 := V.int_inj (e2.symm.trans f2)
  omega
theorem Least.begin {T : Nat → V} {b b' t : Nat} {c : Int} (h : Lin T b t c) (k : Least T b' t c) : b' ≤ b := by
  rcases Nat.lt_or_ge b b' with l | l
  · exfalso
    obtain ⟨x, e1, e2⟩ := h (b' - 1) (by omega)
    rcases k.stop with z | z | ⟨u, v, z1, z2, z3⟩
    · omega
    · rw [e1] at z
      cases z
    · rw [e1] at z1
      rw [e2] at z2
      have k1 := V.int_inj z1
      have k2 := V.int_inj z2
      omega
  · exact l
theorem Least.uniq {T : Nat → V} {b b' t t' : Nat} {c c' : Int} (h : Least T b t c) (k : Least T b' t' c') : b = b' ∧ t = t' ∧ c = c' := by
  have e : t = t' := Nat.le_antisymm (h.min _ _ _ k.t0 k.lin) (k.min _ _ _ h.t0 h.lin)
  subst e
  have e : c = c' := h.lin.growth k.lin
  subst e
  exact ⟨Nat.le_antisymm (Least.begin k.lin h) (Least.begin h.lin k), rfl, rfl⟩
theorem Lin.sub {T : Nat → V} {b b' s t : Nat} {c d : Int} (h : Lin T b s c) (k : Lin T b' t d) (l : t ≤ s) : Lin T (max b b') (s - t) (c - d) := fun n hn => by
  obtain ⟨x, e1, e2⟩ := h n (by omega)
  obtain ⟨y, f1, f2⟩ := k (n + (s - t)) (by omega)
  rw [show n + (s - t) + t = n + s by omega, e2] at f2
  have := V.int_inj f2
  refine ⟨x, e1, ?_⟩
  rw [f1]
  congr 1
  omega
/-- the least turn divides every turn -/
theorem lin_dvd {T : Nat → V} {t : Nat} (t0 : 0 < t) {b : Nat} {c : Int} (h : Lin T b t c) (mn : ∀ b' t' c', 0 < t' → Lin T b' t' c' → t ≤ t') : ∀ (s b' : Nat) (d : Int), Lin T b' s d → ∃ q : Nat, s = t * q ∧ d = (q : Int) * c := by
  intro s
  induction s using Nat.strongRecOn with
  | _ s ih =>
    intro b' d k
    by_cases z : s = 0
    · subst z
      obtain ⟨x, e1, e2⟩ := k b' (Nat.le_refl _)
      rw [Nat.add_zero, e1] at e2
      have := V.int_inj e2
      exact ⟨0, rfl, by simp; omega⟩
    · have l := mn _ _ _ (by omega) k
      obtain ⟨q, e1, e2⟩ := ih (s - t) (by omega) _ _ (k.sub h l)
      refine ⟨q + 1, by rw [Nat.mul_succ]; omega, ?_⟩
      rw [Int.natCast_add, Int.add_mul]
      simp
      omega
theorem Lin.times {T : Nat → V} {b t : Nat} {c : Int} (h : Lin T b t c) (n : Nat) (hn : b ≤ n) (q : Nat) : ∃ x, T n = .int x ∧ T (n + t * q) = .int (x + (q : Int) * c) := by
  induction q with
  | zero =>
    obtain ⟨x, e1, e2⟩ := h n hn
    exact ⟨x, e1, by simpa using e1⟩
  | succ q ih =>
    obtain ⟨x, e1, e2⟩ := ih
    obtain ⟨y, f1, f2⟩ := h (n + t * q) (by omega)
    rw [e2] at f1
    have := V.int_inj f1
    refine ⟨x, e1, ?_⟩
    rw [show n + t * (q + 1) = n + t * q + t by rw [Nat.mul_succ]; omega, f2]
    congr 1
    rw [Int.natCast_add, Int.add_mul]
    simp
    omega
/-- a turn from somewhere on is one from the place on from which another one is -/
theorem Lin.back {T : Nat → V} {f p b t : Nat} {m c : Int} (h : Lin T f p m) (p0 : 0 < p) (k : Lin T b t c) : Lin T f t c := fun n hn => by
  obtain ⟨x, e1, e2⟩ := h.times n hn b
  obtain ⟨y, f1, f2⟩ := h.times (n + t) (by omega) b
  have hb : b ≤ p * b := Nat.le_mul_of_pos_left b p0
  obtain ⟨z, g1, g2⟩ := k (n + p * b) (by omega)
  rw [e2] at g1
  rw [show n + p * b + t = n + t + p * b by omega, f2] at g2
  have k1 := V.int_inj g1
  have k2 := V.int_inj g2
  refine ⟨x, e1, ?_⟩
  rw [f1]
  congr 1
  omega
theorem lin_seq {fs : List V} {ag : List Int} {m : Int} (h : 0 < ag.length) : Lin (seqT fs ag m) fs.length ag.length m := fun n hn => by
  refine ⟨_, seqT_ge (by omega), ?_⟩
  rw [seqT_ge (by omega), show n + ag.length - fs.length = (n - fs.length) + ag.length * 1 by omega, ext_add h]
  simp
theorem exists_least {P : Nat → Prop} : ∀ n, P n → ∃ t, P t ∧ ∀ t', P t' → t ≤ t' := by
  intro n
  induction n using Nat.strongRecOn with
  | _ n ih =>
    intro h
    by_cases c : ∃ k, k < n ∧ P k
    · obtain ⟨k, l, p⟩ := c
      exact ih k l p
    · refine ⟨n, h, fun t' p => ?_⟩
      rcases Nat.lt_or_ge t' n with l | l
      · exact absurd ⟨t', l, p⟩ c
      · exact l
theorem head_filter {p : Nat → Bool} : ∀ (n i : Nat), i < n → p i = true → ((List.range n).filter p).headD 0 ≤ i
  | 0, i, h, _ => absurd h (Nat.not_lt_zero i)
  | n + 1, i, h, hp => by
    rw [List.range_succ, List.filter_append]
    by_cases c : i < n
    · have := head_filter n i c hp
      cases e : (List.range n).filter p with
      | nil =>
        have hm : i ∈ (List.range n).filter p := List.mem_filter.mpr ⟨List.mem_range.mpr c, hp⟩
        rw [e] at hm
        cases hm
      | cons x r =>
        rw [e] at this
        exact this
    · have e : i = n := by omega
      subst e
      cases e : (List.range i).filter p with
      | nil =>
        rw [List.filter_cons, if_pos hp]
        exact Nat.le_refl _
      | cons x r =>
        have hm : x ∈ (List.range i).filter p := by rw [e]; exact List.mem_cons_self
        have := List.mem_range.mp (List.mem_filter.mp hm).1
        show x ≤ i
        omega
theorem turnOf_min {ag : List Int} {m : Int} {t : Nat} (t0 : 0 < t) (ht : t ≤ ag.length) (h : isTurn ag m t = true) : turnOf ag m ≤ t := by
  have := head_filter (p := fun i => isTurn ag m (i + 1)) ag.length (t - 1) (by omega) (by
    show isTurn ag m (t - 1 + 1) = true
    rw [show t - 1 + 1 = t by omega]
    exact h)
  unfold turnOf turns
  omega
theorem isTurn_of {fs : List V} {ag : List Int} {m c : Int} {t : Nat} (h : 0 < ag.length) (t0 : 0 < t) {q : Nat} (e1 : ag.length = t * q) (e2 : m = (q : Int) * c) (k : Lin (seqT fs ag m) fs.length t c) : isTurn ag m t = true := by
  have tl : t ≤ ag.length := by
    rw [e1]
    refine Nat.le_mul_of_pos_right t ?_
    rcases Nat.eq_zero_or_pos q with z | z
    · rw [z] at e1
      omega
    · exact z
  have e3 : m * (t : Int) = c * (ag.length : Int) := by
    rw [e1, e2, Int.natCast_mul, Int.mul_comm ((q : Int)) c, Int.mul_assoc, Int.mul_comm (q : Int) (t : Int)]
  have g : m * (t : Int) / (ag.length : Int) = c := by
    rw [e3]
    exact Int.mul_ediv_cancel _ (by omega)
  unfold isTurn
  rw [if_neg]
  · rw [List.all_eq_true]
    intro i hi
    rw [List.mem_range] at hi
    refine decide_eq_true ?_
    rw [wide_ext tl (by omega) h, wide_ext tl (by omega) h, g]
    obtain ⟨x, f1, f2⟩ := k (fs.length + i) (by omega)
    rw [seqT_ge (by omega)] at f1 f2
    rw [show fs.length + i - fs.length = i by omega] at f1
    rw [show fs.length + i + t - fs.length = i + t by omega] at f2
    have k1 := V.int_inj f1
    have k2 := V.int_inj f2
    omega
  · rw [not_or, Decidable.not_not, Decidable.not_not]
    constructor
    · rw [e1, Int.natCast_mul]
      exact Int.mul_emod_right _ _
    · rw [e3]
      exact Int.mul_emod_left _ _
theorem shrink_stop {m : Int} : ∀ (rf : List V) (ag : List Int), (∀ y ∈ rf, isThingV y = true) → (shrinkR m rf ag).1 = [] ∨ (∃ r, (shrinkR m rf ag).1 = .non :: r) ∨ ∃ x r, (shrinkR m rf ag).1 = .int x :: r ∧ x + m ≠ lastI (shrinkR m rf ag).2
  | [], ag, _ => .inl rfl
  | .int x :: r, ag, h => by
    by_cases c : x + m = lastI ag
    · rw [shrink_go c]
      exact shrink_stop r _ fun y hy => h y (List.mem_cons_of_mem _ hy)
    · rw [shrink_no c]
      exact .inr (.inr ⟨x, r, rfl, c⟩)
  | .non :: r, ag, h => .inr (.inl ⟨r, rfl⟩)
  | .bl _ :: r, ag, h => by cases h _ List.mem_cons_self
  | .str _ :: r, ag, h => by cases h _ List.mem_cons_self
  | .byt _ :: r, ag, h => by cases h _ List.mem_cons_self
  | .flt _ :: r, ag, h => by cases h _ List.mem_cons_self
  | .ref _ :: r, ag, h => by cases h _ List.mem_cons_self
  | .ty _ :: r, ag, h => by cases h _ List.mem_cons_self
theorem least_stop {fs : List V} {ag : List Int} {m : Int} (ht : ∀ y ∈ fs, isThingV y = true) : (leastF fs ag m).1 = [] ∨ (∃ r, (leastF fs ag m).1 = r ++ [.non]) ∨ ∃ x r, (leastF fs ag m).1 = r ++ [.int x] ∧ x + (leastF fs ag m).2.2 ≠ lastI (leastF fs ag m).2.1 := by
  rcases shrink_stop (m := m * (turnOf ag m : Int) / (ag.length : Int)) fs.reverse (ag.take (turnOf ag m)) (fun y hy => ht y (List.mem_reverse.mp hy)) with h | ⟨r, h⟩ | ⟨x, r, h, k⟩
  · left
    show (shrinkR _ fs.reverse (ag.take (turnOf ag m))).1.reverse = []
    rw [h]
    rfl
  · right
    left
    refine ⟨r.reverse, ?_⟩
    show (shrinkR _ fs.reverse (ag.take (turnOf ag m))).1.reverse = _
    rw [h, List.reverse_cons]
  · right
    right
    refine ⟨x, r.reverse, ?_, k⟩
    show (shrinkR _ fs.reverse (ag.take (turnOf ag m))).1.reverse = _
    rw [h, List.reverse_cons]
theorem least_is {fs : List V} {ag : List Int} {m : Int} (h : 0 < ag.length) (ht : ∀ y ∈ fs, isThingV y = true) : Least (seqT fs ag m) (leastF fs ag m).1.length (leastF fs ag m).2.1.length (leastF fs ag m).2.2 := by
  obtain ⟨i1, i2, i3, i4⟩ := least_keeps (fs := fs) (ag := ag) (m := m) h
  have st := least_stop (ag := ag) (m := m) ht
  have eT : seqT (leastF fs ag m).1 (leastF fs ag m).2.1 (leastF fs ag m).2.2 = seqT fs ag m := funext i1
  have t0 := turnOf_pos ag m
  have l0 : 0 < (leastF fs ag m).2.1.length := by rw [i2]; exact t0
  refine ⟨l0, ?_, ?_, ?_⟩
  · have := lin_seq (fs := (leastF fs ag m).1) (m := (leastF fs ag m).2.2) l0
    rw [eT] at this
    exact this
  · rw [i2]
    intro b' t' c' tp k
    obtain ⟨t, ⟨t1, b, c, L⟩, mn⟩ := exists_least (P := fun t => 0 < t ∧ ∃ b c, Lin (seqT fs ag m) b t c) t' ⟨tp, b', c', k⟩
    have hp := lin_seq (fs := fs) (m := m) h
    have L1 := hp.back h L
    obtain ⟨q, e1, e2⟩ := lin_dvd t1 L (fun b' t' c' a z => mn t' ⟨a, b', c', z⟩) ag.length _ _ hp
    have it := isTurn_of h t1 e1 e2 L1
    have tl : t ≤ ag.length := mn _ ⟨h, _, _, hp⟩
    exact Nat.le_trans (turnOf_min t1 tl it) (mn _ ⟨tp, b', c', k⟩)
  · rcases st with z | ⟨r, z⟩ | ⟨x, r, z, k⟩
    · left
      rw [z]
      rfl
    · right
      left
      rw [← eT, z, List.length_append]
      unfold seqT
      rw [if_pos (by rw [List.length_append]; simp)]
      simp
    · right
      right
      refine ⟨x, lastI (leastF fs ag m).2.1, ?_, ?_, fun w => k w.symm⟩
      · rw [← eT]
        generalize (leastF fs ag m).1 = F at z
        subst z
        unfold seqT
        rw [List.length_append, if_pos (by simp)]
        simp
      · rw [← eT]
        generalize (leastF fs ag m).1 = F at z
        subst z
        rw [seqT_ge (by rw [List.length_append]; simp only [List.length_cons, List.length_nil]; omega), List.length_append]
        simp only [List.length_cons, List.length_nil]
        rw [show r.length + (0 + 1) - 1 + (leastF fs ag m).2.1.length - (r.length + (0 + 1)) = (leastF fs ag m).2.1.length - 1 by omega, ext_lt (by omega)]
        rfl
/-- the attributes are cut out of the times -/
theorem least_parts {fs : List V} {ag : List Int} {m : Int} (h : 0 < ag.length) : (leastF fs ag m).1 = (List.range (leastF fs ag m).1.length).map (seqT fs ag m) ∧ (leastF fs ag m).2.1.map V.int = (List.range (leastF fs ag m).2.1.length).map fun i => seqT fs ag m ((leastF fs ag m).1.length + i) := by
  obtain ⟨i1, i2, i3, i4⟩ := least_keeps (fs := fs) (ag := ag) (m := m) h
  have eT : seqT (leastF fs ag m).1 (leastF fs ag m).2.1 (leastF fs ag m).2.2 = seqT fs ag m := funext i1
  constructor
  · rw [← eT]
    generalize (leastF fs ag m).1 = F
    refine List.ext_getElem (by simp) fun i h1 h2 => ?_
    rw [List.getElem_map, List.getElem_range]
    unfold seqT
    rw [if_pos h1, List.getD_eq_getElem?_getD, List.getElem?_eq_getElem h1]
    rfl
  · rw [← eT]
    generalize (leastF fs ag m).1 = F
    refine List.ext_getElem (by simp) fun i h1 h2 => ?_
    rw [List.length_map] at h1
    rw [List.getElem_map, List.getElem_map, List.getElem_range, seqT_ge (by omega), show F.length + i - F.length = i by omega, ext_lt h1, List.getD_eq_getElem?_getD, List.getElem?_eq_getElem h1]
    rfl
theorem map_int_inj : ∀ {a b : List Int}, a.map V.int = b.map V.int → a = b
  | [], [], _ => rfl
  | x :: r, y :: s, h => by
    rw [List.map_cons, List.map_cons] at h
    injection h with h1 h2
    rw [V.int_inj h1, map_int_inj h2]
  | [], _ :: _, h => by cases h
  | _ :: _, [], h => by cases h
/-- equal times: equal attributes -/
theorem least_same {fs fs' : List V} {ag ag' : List Int} {m m' : Int} (h : 0 < ag.length) (ht : ∀ y ∈ fs, isThingV y = true) (h' : 0 < ag'.length) (ht' : ∀ y ∈ fs', isThingV y = true) (e : ∀ n, seqT fs ag m n = seqT fs' ag' m' n) : leastF fs ag m = leastF fs' ag' m' := by
  have eT : seqT fs ag m = seqT fs' ag' m' := funext e
  have L1 := least_is (m := m) h ht
  have L2 := least_is (m := m') h' ht'
  rw [← eT] at L2
  obtain ⟨e1, e2, e3⟩ := L1.uniq L2
  obtain ⟨p1, p2⟩ := least_parts (fs := fs) (ag := ag) (m := m) h
  obtain ⟨q1, q2⟩ := least_parts (fs := fs') (ag := ag') (m := m') h'
  rw [← eT, ← e1] at q1
  rw [← eT, ← e1, ← e2] at q2
  have f1 : (leastF fs ag m).1 = (leastF fs' ag' m').1 := p1.trans q1.symm
  have f2 : (leastF fs ag m).2.1 = (leastF fs' ag' m').2.1 := map_int_inj (p2.trans q2.symm)
  exact Prod.ext f1 (Prod.ext f2 e3)
/-- equal for long enough: equal for ever -/
theorem seq_same {T U : Nat → V} {f p q N : Nat} {m k : Int} (p0 : 0 < p) (q0 : 0 < q) (h1 : Lin T f p m) (h2 : Lin U f q k) (hN : f + p + q ≤ N) (e : ∀ n, n < N → T n = U n) : ∀ n, T n = U n := by
  intro n
  induction n using Nat.strongRecOn with
  | _ n ih =>
    by_cases c : n < N
    · exact e n c
    · obtain ⟨x1, a1, a2⟩ := h1 (n - p) (by omega)
      obtain ⟨x2, b1, b2⟩ := h2 (n - q) (by omega)
      obtain ⟨x3, c1, c2⟩ := h1 (n - p - q) (by omega)
      obtain ⟨x4, d1, d2⟩ := h2 (n - p - q) (by omega)
      rw [show n - p + p = n by omega] at a2
      rw [show n - q + q = n by omega] at b2
      rw [show n - p - q + p = n - q by omega] at c2
      rw [show n - p - q + q = n - p by omega] at d2
      have i1 := ih (n - p) (by omega)
      have i2 := ih (n - q) (by omega)
      have i3 := ih (n - p - q) (by omega)
      rw [a1, d2] at i1
      rw [b1, c2] at i2
      rw [c1, d1] at i3
      have k1 := V.int_inj i1
      have k2 := V.int_inj i2
      have k3 := V.int_inj i3
      rw [a2, b2]
      congr 1
      omega
end WW

set_option Elab.async false
set_option linter.all false
set_option maxRecDepth 100000
set_option maxHeartbeats 4000000
namespace WW
open PySem L2
/-! ### rows that rise -/
def Ris (T : Nat → V) : Prop := ∀ n, belowV (T (n + 1)) (T n) = false
theorem pairI {xs : List Int} (h : xs.Pairwise (· ≤ ·)) {i j : Nat} (hij : i ≤ j) (hj : j < xs.length) : xs.getD i 0 ≤ xs.getD j 0 := by
  rcases Nat.lt_or_eq_of_le hij with l | rfl
  · rw [List.getD_eq_getElem?_getD, List.getD_eq_getElem?_getD, List.getElem?_eq_getElem hj, List.getElem?_eq_getElem (by omega)]
    exact List.pairwise_iff_getElem.mp h i j (by omega) hj l
  · exact Int.le_refl _
theorem ext_step {ag : List Int} {m : Int} (h0 : 0 < ag.length) (p : ag.Pairwise (· ≤ ·)) (hm : lastI ag - ag.getD 0 0 ≤ m) (k : Nat) : ext ag m k ≤ ext ag m (k + 1) := by
  unfold ext
  have hlt := Nat.mod_lt k h0
  by_cases c3 : k % ag.length + 1 = ag.length
  · have e1 : (k + 1) % ag.length = 0 := by rw [← Nat.mod_add_mod, c3, Nat.mod_self]
    have e2 : (k + 1) / ag.length = k / ag.length + 1 := by
      have d := Nat.div_add_mod k ag.length
      have : k + 1 = ag.length * (k / ag.length + 1) := by rw [Nat.mul_add, Nat.mul_one]; omega
      rw [this, Nat.mul_div_cancel_left _ h0]
    rw [e1, e2, show k % ag.length = ag.length - 1 by omega]
    have : ag.getD (ag.length - 1) 0 = lastI ag := rfl
    rw [this, Int.natCast_add, Int.add_mul]
    generalize ((k / ag.length : Nat) : Int) * m = z
    omega
  · have e1 : (k + 1) % ag.length = k % ag.length + 1 := by rw [← Nat.mod_add_mod, Nat.mod_eq_of_lt (by omega)]
    have e2 : (k + 1) / ag.length = k / ag.length := by
      have d := Nat.div_add_mod k ag.length
      have : k + 1 = (k % ag.length + 1) + ag.length * (k / ag.length) := by omega
      rw [this, Nat.add_mul_div_left _ _ h0, Nat.div_eq_of_lt (by omega), Nat.zero_add]
    rw [e1, e2]
    have := pairI p (i := k % ag.length) (j := k % ag.length + 1) (by omega) (by omega)
    omega
/-- nothing n times, times that rise, times that come again -/
structure UpR (fs : List V) (ag : List Int) (m : Int) : Prop where
  ex : ∃ (n : Nat) (is : List Int), fs = List.replicate n V.non ++ is.map V.int ∧ (is ++ ag).Pairwise (· ≤ ·)
  l1 : 0 < ag.length
  m0 : lastI ag - ag.getD 0 0 ≤ m
theorem UpR.things {fs : List V} {ag : List Int} {m : Int} (u : UpR fs ag m) : ∀ y ∈ fs, isThingV y = true := by
  obtain ⟨n, is, rfl, _⟩ := u.ex
  intro y hy
  rcases List.mem_append.mp hy with h | h
  · rw [List.eq_of_mem_replicate h]
    rfl
  · obtain ⟨i, _, rfl⟩ := List.mem_map.mp h
    rfl
theorem UpR.ris {fs : List V} {ag : List Int} {m : Int} (u : UpR fs ag m) : Ris (seqT fs ag m) := by
  obtain ⟨n, is, e, p⟩ := u.ex
  have fl : fs.length = n + is.length := by rw [e, List.length_append, List.length_replicate, List.length_map]
  have lo : ∀ k, k < n → seqT fs ag m k = .non := fun k hk => by
    unfold seqT
    rw [if_pos (by omega), e, List.getD_eq_getElem?_getD, List.getElem?_append_left (by rw [List.length_replicate]; exact hk), List.getElem?_replicate, if_pos hk]
    rfl
  have mi : ∀ j, j < is.length → seqT fs ag m (n + j) = .int (is.getD j 0) := fun j hj => by
    unfold seqT
    rw [if_pos (by omega), e, List.getD_eq_getElem?_getD, List.getElem?_append_right (by rw [List.length_replicate]; omega), List.length_replicate, show n + j - n = j by omega, List.getElem?_map, List.getElem?_eq_getElem hj, List.getD_eq_getElem?_getD, List.getElem?_eq_getElem hj]
    rfl
  have p1 := (List.pairwise_append.mp p).1
  have p2 := (List.pairwise_append.mp p).2.1
  have p3 := (List.pairwise_append.mp p).2.2
  have l1 := u.l1
  have mem : ∀ {l : List Int} {i : Nat}, i < l.length → l.getD i 0 ∈ l := fun {l i} hi => by
    rw [List.getD_eq_getElem?_getD, List.getElem?_eq_getElem hi]
    exact List.getElem_mem hi
  intro k
  by_cases c0 : k < n
  · rw [lo k c0]
    cases seqT fs ag m (k + 1) <;> rfl
  · obtain ⟨j, rfl⟩ : ∃ j, k = n + j := ⟨k - n, by omega⟩
    by_cases c1 : j + 1 < is.length
    · rw [mi j (by omega), show n + j + 1 = n + (j + 1) by omega, mi (j + 1) c1]
      have := pairI p1 (i := j) (j := j + 1) (by omega) c1
      exact decide_eq_false (by omega)
    · by_cases c2 : j < is.length
      · rw [mi j c2, seqT_ge (by omega), show n + j + 1 - fs.length = 0 by omega, ext_lt l1]
        have := p3 _ (mem c2) _ (mem l1)
        exact decide_eq_false (by omega)
      · rw [seqT_ge (by omega), seqT_ge (by omega), show n + j + 1 - fs.length = (n + j - fs.length) + 1 by omega]
        have := ext_step l1 p2 u.m0 (n + j - fs.length)
        exact decide_eq_false (by omega)
theorem Ris.non {T : Nat → V} (h : Ris T) {n : Nat} (e : T n = .non) (ht : ∀ n, isThingV (T n) = true) : ∀ k, k ≤ n → T k = .non := by
  induction n with
  | zero =>
    intro k hk
    rw [show k = 0 by omega]
    exact e
  | succ n ih =>
    intro k hk
    by_cases c : k = n + 1
    · rw [c]
      exact e
    · refine ih ?_ k (by omega)
      have q := h n
      have t := ht n
      rw [e] at q
      revert q t
      cases T n with
      | non => exact fun _ _ => rfl
      | int i => exact fun q _ => nomatch q
      | _ => exact fun _ t => nomatch t
theorem seqT_thg {fs : List V} {ag : List Int} {m : Int} (h : ∀ y ∈ fs, isThingV y = true) (n : Nat) : isThingV (seqT fs ag m n) = true := by
  by_cases c : n < fs.length
  · unfold seqT
    rw [if_pos c, List.getD_eq_getElem?_getD, List.getElem?_eq_getElem c]
    exact h _ (List.getElem_mem c)
  · rw [seqT_ge c]
    rfl
theorem seqT_fs {fs : List V} {ag : List Int} {m : Int} {n : Nat} (c : n < fs.length) : fs.getD n .non = seqT fs ag m n := by
  unfold seqT
  rw [if_pos c]
theorem cut_lastW {xs : List V} : cutV xs (some (-1)) none = xs.drop (xs.length - 1) := by
  unfold cutV
  rw [HT.sIx_none]
  have e : HT.sIx xs.length 0 (some (-1)) = xs.length - 1 := by
    cases xs with
    | nil => rfl
    | cons x r =>
      unfold HT.sIx
      simp
      try omega
  rw [e]
  exact List.take_of_length_le (by rw [List.length_drop]; omega)
/-- what rises is let -/
theorem ris_val {fs : List V} {ag : List Int} {m : Int} (h0 : 0 < ag.length) (ht : ∀ y ∈ fs, isThingV y = true) (hm : 0 ≤ m) (h : Ris (seqT fs ag m)) : wrongW (some fs) (some (ag.map V.int)) (.int m) = .non := by
  have r1 : risingV fs = true := risingV_of fun i hi => by
    rw [seqT_fs (ag := ag) (m := m) hi, seqT_fs (ag := ag) (m := m) (by omega)]
    exact h i
  have agD : ∀ {i : Nat}, i < ag.length → (ag.map V.int).getD i .non = seqT fs ag m (fs.length + i) := fun {i} hi => by
    rw [seqT_ge (by omega), show fs.length + i - fs.length = i by omega, ext_lt hi, List.getD_eq_getElem?_getD, List.getElem?_map, List.getElem?_eq_getElem hi, List.getD_eq_getElem?_getD, List.getElem?_eq_getElem hi]
    rfl
  have r2 : risingV (cutV fs (some (-1)) none ++ ag.map V.int) = true := risingV_of fun i hi => by
    rw [cut_lastW] at hi ⊢
    rw [List.length_append, List.length_drop, List.length_map] at hi
    have at_ : ∀ j, j < fs.length - (fs.length - 1) + ag.length → (fs.drop (fs.length - 1) ++ ag.map V.int).getD j .non = seqT fs ag m (fs.length - 1 + j) := fun j hj => by
      rw [List.getD_eq_getElem?_getD]
      by_cases c : j < (fs.drop (fs.length - 1)).length
      · rw [List.getElem?_append_left c, List.getElem?_drop, ← List.getD_eq_getElem?_getD]
        rw [List.length_drop] at c
        exact seqT_fs (by omega)
      · rw [List.getElem?_append_right (by omega), ← List.getD_eq_getElem?_getD]
        rw [List.length_drop] at c ⊢
        rw [agD (by omega)]
        congr 1
        omega
    rw [at_ _ hi, at_ _ (by omega)]
    exact h _
  have z0 : hd (ag.map V.int) = .int (ag.getD 0 0) := by
    unfold hd
    rw [List.getD_eq_getElem?_getD, List.getElem?_map, List.getElem?_eq_getElem h0, List.getD_eq_getElem?_getD, List.getElem?_eq_getElem h0]
    rfl
  have zL : lst (ag.map V.int) = .int (lastI ag) := by
    unfold lst lastI
    rw [List.length_map, List.getD_eq_getElem?_getD, List.getElem?_map, List.getElem?_eq_getElem (by omega), List.getD_eq_getElem?_getD, List.getElem?_eq_getElem (by omega)]
    rfl
  unfold wrongW
  dsimp only
  rw [if_pos (by rw [r1, List.all_eq_true.mpr ht]; rfl)]
  show wrongA fs (ag.map V.int) (.int m) = .non
  unfold wrongA
  rw [if_neg (by
    have : (ag.map V.int).all isThingV = true := List.all_eq_true.mpr fun y hy => by
      obtain ⟨i, _, rfl⟩ := List.mem_map.mp hy
      rfl
    rw [this]
    cases ag with
    | nil => cases h0
    | cons x r => exact fun z => by cases z)]
  rw [if_neg (by
    rw [r2, z0]
    exact fun z => by cases z)]
  rw [if_neg (by
    show ¬ decide (0 ≤ m) = false
    rw [decide_eq_true hm]
    exact fun z => by cases z), if_neg (by rw [z0]; exact fun z => by cases z), z0, zL]
  refine if_pos ?_
  show lastI ag ≤ ag.getD 0 0 + m
  have q := h (fs.length + (ag.length - 1))
  rw [seqT_ge (by omega), seqT_ge (by omega), show fs.length + (ag.length - 1) + 1 - fs.length = 0 + ag.length * 1 by omega, ext_add h0, ext_lt h0, show fs.length + (ag.length - 1) - fs.length = ag.length - 1 by omega, ext_lt (by omega)] at q
  have q := of_decide_eq_false q
  have : lastI ag = ag.getD (ag.length - 1) 0 := rfl
  omega
/-! ### told with a longer beginning and turn -/
def wideF (fs : List V) (ag : List Int) (m : Int) (d : Nat) : List V := (List.range (fs.length + d)).map (seqT fs ag m)
def wideA (ag : List Int) (m : Int) (d q : Nat) : List Int := (List.range (ag.length * q)).map fun i => ext ag m (d + i)
theorem wide_keeps {fs : List V} {ag : List Int} {m : Int} {d q : Nat} (h0 : 0 < ag.length) (q0 : 0 < q) (n : Nat) : seqT (wideF fs ag m d) (wideA ag m d q) (m * (q : Int)) n = seqT fs ag m n := by
  have fl : (wideF fs ag m d).length = fs.length + d := by unfold wideF; rw [List.length_map, List.length_range]
  have al : (wideA ag m d q).length = ag.length * q := by unfold wideA; rw [List.length_map, List.length_range]
  by_cases c : n < fs.length + d
  · rw [← seqT_fs (by rw [fl]; exact c)]
    unfold wideF
    rw [List.getD_eq_getElem?_getD, List.getElem?_map, List.getElem?_range c]
    rfl
  · rw [seqT_ge (by rw [fl]; exact c), seqT_ge (by omega), fl]
    congr 1
    obtain ⟨k, rfl⟩ : ∃ k, n = fs.length + d + k := ⟨n - (fs.length + d), by omega⟩
    rw [show fs.length + d + k - (fs.length + d) = k by omega, show fs.length + d + k - fs.length = d + k by omega]
    have p0 : 0 < ag.length * q := Nat.mul_pos h0 q0
    have e : k = k % (ag.length * q) + ag.length * (q * (k / (ag.length * q))) := by
      rw [← Nat.mul_assoc]
      exact (Nat.mod_add_div k _).symm
    have hlt := Nat.mod_lt k p0
    have e2 : ext ag m (d + k) = ext ag m (d + k % (ag.length * q)) + ((q * (k / (ag.length * q)) : Nat) : Int) * m := by
      rw [← ext_add h0, show d + k % (ag.length * q) + ag.length * (q * (k / (ag.length * q))) = d + (k % (ag.length * q) + ag.length * (q * (k / (ag.length * q)))) by omega, ← e]
    rw [e2]
    show (wideA ag m d q).getD (k % (wideA ag m d q).length) 0 + ((k / (wideA ag m d q).length : Nat) : Int) * (m * (q : Int)) = _
    rw [al]
    congr 1
    · unfold wideA
      rw [List.getD_eq_getElem?_getD, List.getElem?_map, List.getElem?_range hlt]
      rfl
    · rw [Int.natCast_mul, Int.mul_comm m (q : Int), ← Int.mul_assoc, Int.mul_comm ((k / (ag.length * q) : Nat) : Int) (q : Int)]
end WW

set_option Elab.async false
set_option linter.all false
set_option maxRecDepth 100000
set_option maxHeartbeats 4000000
namespace WW
open PySem L2
/-! ### the law's own search finds the least form -/
theorem srch_lin {T : Nat → V} {f p b t : Nat} {m c : Int} (hp : Lin T f p m) (p0 : 0 < p) (hf : f + p ≤ 50) (bf : b ≤ f) (hi : ∀ n, b ≤ n → T n = .int (intOf (T n))) (hc : ∀ n, b ≤ n → n < 50 → intOf (T (n + t)) - intOf (T n) = c) : Lin T f t c := fun n hn => by
  obtain ⟨k, rfl⟩ : ∃ k, n = f + k := ⟨n - f, by omega⟩
  have e : f + k = (f + k % p) + p * (k / p) := by
    have := Nat.mod_add_div k p
    omega
  have hlt := Nat.mod_lt k p0
  obtain ⟨x, e1, e2⟩ := hp.times (f + k % p) (by omega) (k / p)
  obtain ⟨y, f1, f2⟩ := hp.times (f + k % p + t) (by omega) (k / p)
  have q := hc (f + k % p) (by omega) (by omega)
  rw [e1, f1] at q
  have q : y - x = c := q
  rw [← e] at e2
  rw [show f + k % p + t + p * (k / p) = f + k + t by omega] at f2
  refine ⟨_, e2, ?_⟩
  rw [f2]
  congr 1
  omega
theorem srch_lt {T : Nat → V} {f p b t b0 t0 : Nat} {m c c0 : Int} (L : Least T b0 t0 c0) (hp : Lin T f p m) (p0 : 0 < p) (hf : f + p ≤ 50) (tp : 0 < t) (tl : t < t0) (bf : b ≤ f) (hi : ∀ n, b ≤ n → T n = .int (intOf (T n))) (hc : ∀ n, b ≤ n → n < 50 → intOf (T (n + t)) - intOf (T n) = c) : False := by
  have := L.min _ _ _ tp (srch_lin hp p0 hf bf hi hc)
  omega
theorem srch_eq {T : Nat → V} {b b0 t0 : Nat} {c c0 : Int} (L : Least T b0 t0 c0) (h0 : b0 < 50) (bl : b < b0) (hi : ∀ n, b ≤ n → T n = .int (intOf (T n))) (hc : ∀ n, b ≤ n → n < 50 → intOf (T (n + t0)) - intOf (T n) = c) : False := by
  obtain ⟨x, e1, e2⟩ := L.lin b0 (Nat.le_refl _)
  have q := hc b0 (by omega) h0
  rw [e1, e2] at q
  have q : x + c0 - x = c := q
  have r := hc (b0 - 1) (by omega) (by omega)
  rcases L.stop with z | z | ⟨u, v, z1, z2, z3⟩
  · omega
  · have := hi (b0 - 1) (by omega)
    rw [z] at this
    cases this
  · rw [z1, z2] at r
    have r : v - u = c := r
    omega
theorem Ris.ints {T : Nat → V} (h : Ris T) (ht : ∀ n, isThingV (T n) = true) {b : Nat} (hb : T b ≠ .non) : ∀ n, b ≤ n → T n = .int (intOf (T n)) := fun n hn => by
  have : T n ≠ .non := fun z => hb (h.non z ht b hn)
  have t := ht n
  revert this t
  cases T n with
  | non => exact fun z _ => absurd rfl z
  | int i => exact fun _ _ => rfl
  | _ => exact fun _ t => nomatch t
theorem at_range {T : Nat → V} {n N : Nat} (h : n < N) : atI ((List.range N).map T) (n : Int) = some (T n) := by
  refine atI_nat ?_
  rw [List.getElem?_map, List.getElem?_range h]
  rfl
end WW

set_option Elab.async false
set_option linter.all false
set_option maxRecDepth 100000
set_option maxHeartbeats 4000000
namespace WW
open PySem PySem.Spec PyProof.Rows L2
section
variable {P : Program} {w : World} {K : PySem.W.Frag} {mg : Str → Option Value} {base : Heap} {f : Addr} {fd : FuncData}
/-- the n-th time of a row -/
def spRTime (C : Addr) : Sp := fun vs H Q _ => ∃ (x : Addr) (fs : List V) (ag : List Int) (m : Int) (n : Nat), vs = [.ref x, .int (n : Int)] ∧ RowAt C H x fs (ag.map V.int) m ∧ 0 < ag.length ∧ ag.length < 1000 ∧ -1000 < m ∧ m < 1000 ∧ Q (seqT fs ag m n) H
abbrev s_Row_time : Stmt := inClass (top 20) 4
abbrev N_Row_time : List Str := ["self", "n", "far", "thing"]
theorem sc_Row_time : FnScope N_Row_time ["self", "n"] (defScope s_Row_time) := ⟨rfl, rfl, rfl, by decide +kernel, rfl, by decide +kernel, by decide +kernel⟩

theorem ok_rtime {C : Addr} (F : FunD K "time" "Row.time" (defArgs s_Row_time) (defBody s_Row_time) (defScope s_Row_time) [] [] f fd) (RR : RowC K C) (m_len : mg "len" = none) : FnOk P w K mg base CX0 1 f fd ["self", "n"] (spRTime C) := by
  refine F.ok sc_Row_time (fun vs H Q E h => ?_) (fun cdv A outer s H vs Q E hr h => ?_)
  · obtain ⟨x, fs, ag, m, n, rfl, _⟩ := h
    rfl
  · obtain ⟨x, fs, ag, m, n, rfl, ⟨dx, p1, p2, hx, h1, h2⟩, l0, l1, b0, b1, q⟩ := h
    refine ⟨_, PSs.nox (pss_cons (ps_if (pt_cmpR op_lt (pv 1) (pe_callB (call_lenK K) rfl m_len (by decide +kernel) (pa_cons (pe_fldK K (pv 0) rfl) (pa_nil))) (nomark _)) (pss_one (ps_ret (pe_ix (ix_sqK K) (pe_fldK K (pv 0) rfl) (pv 1) (fun _ _ => rfl)))) (pss_nil))
 (pss_cons (ps_set (i := 2) sc_Row_time.nd rfl (.inl rfl) (pe_op op_sub (pv 1) (pe_callB (call_lenK K) rfl m_len (by decide +kernel) (pa_cons (pe_fldK K (pv 0) rfl) (pa_nil)))))
 (pss_cons (ps_set (i := 3) sc_Row_time.nd rfl (.inl rfl) (pe_ix (ix_sqK K) (pe_fldK K (pv 0) rfl) (pe_op op_mod (pv 2) (pe_callB (call_lenK K) rfl m_len (by decide +kernel) (pa_cons (pe_fldK K (pv 0) rfl) (pa_nil)))) (fun _ _ => rfl)))
 (pss_one (ps_ret (pe_ifExp (pt_cmpR op_isN (pv 3) (pe_non) (nomark _)) (pe_non) (pe_op op_add (pv 3) (pe_op op_mul (pe_op op_fdiv (pv 2) (pe_callB (call_lenK K) rfl m_len (by decide +kernel) (pa_cons (pe_fldK K (pv 0) rfl) (pa_nil)))) (pe_fldK K (pv 0) rfl))))))))), ?_⟩
    refine ⟨_, rfl, _, rfl, x, C, dx, _, _, rfl, hx, RR.cls, RR.nF, rfl, p1, fs, rfl, .t h1, _, _, rfl, rfl, _, rfl, ?_⟩
    have hlen : ((ag.map V.int).length : Int) = (ag.length : Int) := by rw [List.length_map]
    unfold seqT at q
    by_cases hn : n < fs.length
    · rw [decide_eq_true (by omega)]
      rw [if_pos hn] at q
      exact ⟨_, rfl, x, C, dx, _, _, rfl, hx, RR.cls, RR.nF, rfl, _, rfl, p1, fs, _, _, rfl, rfl, .t h1, getD_at hn, q⟩
    · rw [decide_eq_false (by omega)]
      rw [if_neg hn] at q
      have e0 : ((n : Int) - (fs.length : Int)) % ((ag.map V.int).length : Int) = (((n - fs.length) % ag.length : Nat) : Int) := by
        rw [hlen, show (n : Int) - (fs.length : Int) = ((n - fs.length : Nat) : Int) by omega]
        rfl
      have e1 : ((n : Int) - (fs.length : Int)) / ((ag.map V.int).length : Int) = (((n - fs.length) / ag.length : Nat) : Int) := by
        rw [hlen, show (n : Int) - (fs.length : Int) = ((n - fs.length : Nat) : Int) by omega]
        rfl
      refine ⟨_, rfl, _, rfl, x, C, dx, _, _, rfl, hx, RR.cls, RR.nF, rfl, p1, fs, rfl, .t h1, _, _, rfl, rfl, ?_⟩
      refine ⟨_, rfl, x, C, dx, _, _, rfl, hx, RR.cls, RR.nA, rfl, _, rfl, _, rfl, x, C, dx, _, _, rfl, hx, RR.cls, RR.nA, rfl, p2, _, rfl, .t h2, _, _, rfl, rfl, by rw [hlen]; omega, p2, _, _, .int (ag.getD ((n - fs.length) % ag.length) 0), rfl, rfl, .t h2, ?_, ?_⟩
      · rw [e0]
        exact ints_at (Nat.mod_lt _ l0)
      · refine ⟨_, rfl, rfl, _, rfl, ?_⟩
        refine ⟨_, rfl, _, rfl, _, rfl, x, C, dx, _, _, rfl, hx, RR.cls, RR.nA, rfl, p2, _, rfl, .t h2, _, _, rfl, rfl, ⟨by rw [hlen]; omega, by rw [hlen]; omega⟩, _, rfl, x, C, dx, _, _, rfl, hx, RR.cls, RR.nM, rfl, _, _, rfl, rfl, .inr ⟨by omega, by omega⟩, _, _, rfl, rfl, ?_⟩
        rw [e1]
        exact q
/-- the parts of a row -/
def spParts (C : Addr) : Sp := fun vs H Q _ => ∃ (x dx p1 p2 : Addr) (m : Int), vs = [.ref x] ∧ H x = some (.ins C dx [("first", .ref p1), ("again", .ref p2), ("more", .int m)]) ∧ ∀ p H', Same H H' → H' p = some (.tup [.ref p1, .ref p2, .int m]) → Q (.ref p) H'
abbrev s_Row_parts : Stmt := inClass (top 20) 6
abbrev N_Row_parts : List Str := ["self"]
theorem sc_Row_parts : FnScope N_Row_parts ["self"] (defScope s_Row_parts) := ⟨rfl, rfl, rfl, by decide +kernel, rfl, by decide +kernel, by decide +kernel⟩

theorem ok_parts {C : Addr} (F : FunD K "parts" "Row.parts" (defArgs s_Row_parts) (defBody s_Row_parts) (defScope s_Row_parts) [] [] f fd) (RR : RowC K C) : FnOk P w K mg base CX0 1 f fd ["self"] (spParts C) := by
  refine F.ok sc_Row_parts (fun vs H Q E h => ?_) (fun cdv A outer s H vs Q E hr h => ?_)
  · obtain ⟨x, dx, p1, p2, m, rfl, _⟩ := h
    rfl
  · obtain ⟨x, dx, p1, p2, m, rfl, hx, q⟩ := h
    refine ⟨_, PSs.nox (pss_one (ps_ret (pe_tup (pa_cons (pe_fldK K (pv 0) rfl) (pa_cons (pe_fldK K (pv 0) rfl) (pa_cons (pe_fldK K (pv 0) rfl) (pa_nil))))))), ?_⟩
    refine ⟨_, rfl, x, C, dx, _, _, rfl, hx, RR.cls, RR.nF, rfl, _, rfl, x, C, dx, _, _, rfl, hx, RR.cls, RR.nA, rfl, _, rfl, x, C, dx, _, _, rfl, hx, RR.cls, RR.nM, rfl, by show 3 ≤ sizeLine; decide, fun p np => ?_⟩
    exact q p _ (same_new np) upd_same
/-- equal rows -/
def spEq (K : PySem.W.Frag) (C : Addr) : Sp := fun vs H Q _ => ∃ (x : Addr) (y : V) (fs ys : List V) (m : Int), vs = [.ref x, y] ∧ RowAt C H x fs ys m ∧
  ((∃ t, TyX K H y (.type t) ∧ PySem.W.kitOne K (.type t) (.ref C) = some false ∧ Q (.bl false) H) ∨
   ∃ (z : Addr) (gs zs : List V) (k : Int), y = .ref z ∧ RowAt C H z gs zs k ∧ (∀ y ∈ fs, isTh y = true) ∧ (∀ y ∈ ys, isTh y = true) ∧ (∀ y ∈ gs, isTh y = true) ∧ (∀ y ∈ zs, isTh y = true) ∧ ∀ H', Same H H' → Q (.bl (decide (fs = gs ∧ ys = zs ∧ m = k))) H')
theorem RowAt.ty {C : Addr} {H : Hp} {x : Addr} {fs ys : List V} {m : Int} (RR : RowC K C) (T : TyC K C) (h : RowAt C H x fs ys m) : TyX K H (.ref x) (.ref C) := by
  obtain ⟨dx, p1, p2, hx, _⟩ := h
  exact .base (.ins hx RR.cls T.cl T.ge T.tk T.ob)
abbrev s_Row___eq__ : Stmt := inClass (top 20) 8
abbrev N_Row___eq__ : List Str := ["self", "other"]
theorem sc_Row___eq__ : FnScope N_Row___eq__ ["self", "other"] (defScope s_Row___eq__) := ⟨rfl, rfl, rfl, by decide +kernel, rfl, by decide +kernel, by decide +kernel⟩

theorem ok_eq (F : FunD K "__eq__" "Row.__eq__" (defArgs s_Row___eq__) (defBody s_Row___eq__) (defScope s_Row___eq__) [] [] f fd) (RR : RowC K (He.ga K "Row")) (T : TyC K (He.ga K "Row")) (m_Row : mg "Row" = some (.ref (He.ga K "Row"))) (m_isinstance : mg "isinstance" = none) (g_Row_parts : MthAt P w K mg base CX0 1 (He.ga K "Row") "parts" ["self"] (spParts (He.ga K "Row"))) : FnOk P w K mg base CX0 2 f fd ["self", "other"] (spEq K (He.ga K "Row")) := by
  have c_Row := RR.cls
  refine F.ok sc_Row___eq__ (fun vs H Q E h => ?_) (fun cdv A outer s H vs Q E hr h => ?_)
  · obtain ⟨x, y, fs, ys, m, rfl, _⟩ := h
    rfl
  · obtain ⟨x, y, fs, ys, m, rfl, hx, q⟩ := h
    refine ⟨_, PSs.nox (pss_one (ps_ret (pe_and (pe_callB (call_isiK1 K) rfl m_isinstance (by decide +kernel) (pa_cons (pv 1) (pa_cons (pe_glob (v := .ref (He.ga K "Row")) rfl m_Row rfl) (pa_nil)))) (pe_one (pe_cmpR (op_eqDK K hr) (pe_mth0 c_Row g_Row_parts hr (pv 0)) (pe_mth0 c_Row g_Row_parts hr (pv 1)) (nomark _)))))), ?_⟩
    refine ⟨_, rfl, ?_⟩
    rcases q with ⟨t, ty, no, q⟩ | ⟨z, gs, zs, k, rfl, hz, t1, t2, t3, t4, q⟩
    · exact ⟨_, _, _, _, false, rfl, .own _, ty, no, false, rfl, q⟩
    · refine ⟨_, _, _, _, true, rfl, .own _, RowAt.ty RR T hz, T.own, true, rfl, ?_⟩
      obtain ⟨dx, p1, p2, hx, h1, h2⟩ := hx
      obtain ⟨dz, r1, r2, hz, k1, k2⟩ := hz
      refine ⟨_, rfl, x, dx, _, rfl, hx, rfl, x, dx, p1, p2, m, rfl, hx, fun p H1 s1 hp => ?_⟩
      refine ⟨_, rfl, z, dz, _, rfl, s1 _ _ hz, rfl, z, dz, r1, r2, k, rfl, s1 _ _ hz, fun p' H2 s2 hp' => ?_⟩
      have s12 := s1.trans s2
      refine ⟨_, _, dp_parts (s2 _ _ hp) (s12 _ _ h1) (s12 _ _ h2) t1 t2, dp_parts hp' (s12 _ _ k1) (s12 _ _ k2) t3 t4, shaped_parts _ _ _, shaped_parts _ _ _, ?_⟩
      rw [eqv_parts t1 t2 t3 t4]
      exact q H2 s12
/-! ### the text of a row -/
def wordOf : V → Str
  | .int i => Str.ofString (toString i)
  | _ => "-"
def rowWords (fs ys : List V) (m : Int) : List Str := fs.map wordOf ++ (("|" : Str) :: (ys.map wordOf ++ ([("+" : Str), Str.ofString (toString m)] : List Str)))
/-- a thing that is not too large for a text -/
def smallV : V → Bool
  | .non => true
  | .int i => decide (i.natAbs.log2 < 1920)
  | _ => false
def spWord : Sp := fun vs H Q _ => ∃ v, vs = [v] ∧ smallV v = true ∧ Q (.str (wordOf v)) H
abbrev s_word_of : Stmt := top 21
abbrev N_word_of : List Str := ["thing"]
theorem sc_word_of : FnScope N_word_of ["thing"] (defScope s_word_of) := ⟨rfl, rfl, rfl, by decide +kernel, rfl, by decide +kernel, by decide +kernel⟩

theorem ok_word (F : FnP K "word_of" s_word_of f fd) (m_str : mg "str" = none) : FnOk P w K mg base CX0 1 f fd ["thing"] spWord := by
  refine F.ok sc_word_of (fun vs H Q E h => ?_) (fun cdv A outer s H vs Q E hr h => ?_)
  · obtain ⟨v, rfl, _⟩ := h
    rfl
  · obtain ⟨v, rfl, hv, q⟩ := h
    refine ⟨_, PSs.nox (pss_one (ps_ret (pe_ifExp (pt_cmpR op_isN (pv 0) (pe_non) (nomark _)) (pe_str) (pe_callTy call_str_int rfl m_str (by decide +kernel) (pa_cons (pv 0) (pa_nil)))))), ?_⟩
    refine ⟨_, rfl, rfl, _, rfl, ?_⟩
    revert hv q
    cases v with
    | non => exact fun _ q => q
    | int i => exact fun hv q => ⟨_, rfl, i, rfl, of_decide_eq_true hv, q⟩
    | _ => exact fun z => nomatch z
theorem len_word {v : V} (h : smallV v = true) : (wordOf v).length ≤ 1921 := by
  revert h
  cases v with
  | non => exact fun _ => by decide
  | int i => exact fun h => PyProof.Rows.int_text_len_1921 (of_decide_eq_true h)
  | _ => exact fun z => nomatch z
theorem len_words : ∀ {xs : List V}, (∀ y ∈ xs, smallV y = true) → ((xs.map wordOf).map (·.length)).sum ≤ xs.length * 1921
  | [], _ => Nat.le_refl _
  | x :: r, h => by
    have h1 := len_word (h x List.mem_cons_self)
    have h2 := len_words (xs := r) fun y hy => h y (List.mem_cons_of_mem _ hy)
    simp only [List.map_cons, List.sum_cons, List.length_cons]
    omega
def spStr (C : Addr) : Sp := fun vs H Q _ => ∃ (x : Addr) (fs ys : List V) (m : Int), vs = [.ref x] ∧ RowAt C H x fs ys m ∧ fs.length ≤ 1000 ∧ ys.length ≤ 1000 ∧ (∀ y ∈ fs, smallV y = true) ∧ (∀ y ∈ ys, smallV y = true) ∧ m.natAbs.log2 < 1920 ∧ ∀ H', Same H H' → Q (.str (Txt.join " " (rowWords fs ys m))) H'
abbrev s_Row___str__ : Stmt := inClass (top 20) 9
abbrev N_Row___str__ : List Str := ["self", "words", "thing"]
theorem sc_Row___str__ : FnScope N_Row___str__ ["self"] (defScope s_Row___str__) := ⟨rfl, rfl, rfl, by decide +kernel, rfl, by decide +kernel, by decide +kernel⟩

theorem ok_str {C : Addr} (F : FunD K "__str__" "Row.__str__" (defArgs s_Row___str__) (defBody s_Row___str__) (defScope s_Row___str__) [] [] f fd) (RR : RowC K C) (m_str : mg "str" = none) (g_word_of : FnAt P w K mg base CX0 1 "word_of" ["thing"] spWord) : FnOk P w K mg base CX0 2 f fd ["self"] (spStr C) := by
  refine F.ok sc_Row___str__ (fun vs H Q E h => ?_) (fun cdv A outer s H vs Q E hr h => ?_)
  · obtain ⟨x, fs, ys, m, rfl, _⟩ := h
    rfl
  · obtain ⟨x, fs, ys, m, rfl, ⟨dx, p1, p2, hx, h1, h2⟩, l1, l2, t1, t2, t3, q⟩ := h
    refine ⟨_, PSs.nox (pss_cons (ps_setLc (i := 1) (own := [("thing", 2)]) rfl sc_Row___str__.nd rfl rfl (sw_true rfl rfl rfl (by decide +kernel)) (pi_seqK K (pe_fldK K (pv 0) rfl)) (blkOk_by (N := N_Row___str__) (sc := defScope s_Row___str__) (by decide +kernel)) (fun _ _ _ _ _ => pg_name (i := 2) sc_Row___str__.nd rfl (.inl rfl)) (fun _ _ _ _ _ => pts_nil) (fun _ _ _ _ _ => pe_fn g_word_of hr rfl (pa_cons (pv 2) (pa_nil))))
 (pss_one (ps_ret (pe_joinK K (pe_str) (pe_lst (pa_starK K (pv 1) (pa_cons (pe_str) (pa_starK K (pe_lc (own := [("thing", 2)]) rfl sc_Row___str__.nd (pi_seqK K (pe_fldK K (pv 0) rfl)) (blkOk_by (N := N_Row___str__) (sc := defScope s_Row___str__) (by decide +kernel)) (fun _ _ _ _ _ => pg_name (i := 2) sc_Row___str__.nd rfl (.inl rfl)) (fun _ _ _ _ _ => pts_nil) (fun _ _ _ _ _ => pe_fn g_word_of hr rfl (pa_cons (pv 2) (pa_nil)))) (pa_cons (pe_str) (pa_cons (pe_callTy call_str_int rfl m_str (by decide +kernel) (pa_cons (pe_fldK K (pv 0) rfl) (pa_nil))) (pa_nil))))))))))), ?_⟩
    refine q_seq (q_asg ?_)
    dsimp only [List.map_cons, List.map_nil]
    refine lc_sq (K := K) (a := p1) (xs := fs) (fun v => .str (wordOf v)) (fun R r => ⟨_, rfl, x, C, dx, _, _, rfl, hx, RR.cls, RR.nF, rfl, r⟩) (.t h1) (by omega) (fun y hy H1 s1 R r => ⟨_, rfl, y, rfl, t1 y hy, r H1 (Same.refl H1)⟩) fun D H1 s1 nD hD => ?_
    refine ⟨⟨_, rfl⟩, _, rfl, D, _, rfl, .inr (.inl (.inl hD)), ?_⟩
    refine q_cons (q_c (q_star ?_))
    dsimp only [List.map_cons, List.map_nil]
    refine lc_sq (K := K) (a := p2) (xs := ys) (fun v => .str (wordOf v)) (fun R r => ⟨_, rfl, x, C, dx, _, _, rfl, s1 _ _ hx, RR.cls, RR.nA, rfl, r⟩) (.t (s1 _ _ h2)) (by omega) (fun y hy H1 s1 R r => ⟨_, rfl, y, rfl, t2 y hy, r H1 (Same.refl H1)⟩) fun D2 H2 s2 nD2 hD2 => ?_
    refine ⟨D2, _, rfl, .inr (.inl (.inl hD2)), _, rfl, x, C, dx, _, _, rfl, s2 _ _ (s1 _ _ hx), RR.cls, RR.nM, rfl, m, rfl, t3, ?_, fun p np => ?_⟩
    · simp only [List.length_append, List.length_map, List.length_cons, List.length_nil]
      exact Nat.le_trans (show _ ≤ 3000 by omega) (by decide)
    · refine .mk " " p (rowWords fs ys m) rfl rfl (.l ?_) ?_ (q _ ((s1.trans s2).trans (same_new np)))
      · rw [upd_same]
        unfold rowWords
        simp only [List.map_append, List.map_cons, List.map_nil, List.map_map]
        rfl
      · have w1 := len_words t1
        have w2 := len_words t2
        have w3 := PyProof.Rows.int_text_len_1921 t3
        unfold rowWords
        simp only [List.map_append, List.map_cons, List.map_nil, List.sum_append, List.sum_cons, List.sum_nil, List.length_append, List.length_cons, List.length_nil, List.length_map]
        have e1 : (Str.ofString "|").length = 1 := by decide
        have e2 : (Str.ofString "+").length = 1 := by decide
        have e3 : (Str.ofString " ").length = 1 := by decide
        rw [e1, e2, e3]
        omega
end
end WW

set_option Elab.async false
set_option linter.all false
set_option maxRecDepth 100000
set_option maxHeartbeats 4000000
namespace WW
open PySem PySem.Spec PyProof.Rows L2
theorem cut_fromW {xs : List V} {t : Nat} : cutV xs (some (t : Int)) none = xs.drop t := by
  unfold cutV
  rw [HT.sIx_none, HT.sIx_nat]
  by_cases h : t ≤ xs.length
  · rw [Nat.min_eq_left h]
    exact List.take_of_length_le (by rw [List.length_drop]; omega)
  · rw [Nat.min_eq_right (by omega), List.drop_eq_nil_of_le (Nat.le_refl _), List.drop_eq_nil_of_le (by omega)]
    simp
section
variable {P : Program} {w : World} {K : PySem.W.Frag} {mg : Str → Option Value} {base : Heap} {f : Addr} {fd : FuncData}
def spWide : Sp := fun vs H Q _ => ∃ (b p p1 p2 : Addr) (fs : List V) (ag : List Int) (m : Int), vs = [.ref b, .ref p] ∧ Box H b ∧ H p = some (.tup [.ref p1, .ref p2, .int m]) ∧ H p1 = some (.lst fs) ∧ H p2 = some (.lst (ag.map V.int)) ∧ p ≠ b ∧ p1 ≠ b ∧ p2 ≠ b ∧ fs.length ≤ 100 ∧ 0 < ag.length ∧ ag.length ≤ 100 ∧ -1000 < m ∧ m < 1000 ∧
  ∀ (d q : Nat) w w1 w2 H', d < 4 → 0 < q → q ≤ 3 → SameBut b H H' → Box H' b → H' w = some (.tup [.ref w1, .ref w2, .int (m * (q : Int))]) → H' w1 = some (.lst (wideF fs ag m d)) → H' w2 = some (.lst ((wideA ag m d q).map V.int)) → w ≠ b → w1 ≠ b → w2 ≠ b → Q (.ref w) H'
abbrev s_l_wide : Stmt := top 34
abbrev N_l_wide : List Str := ["_law_box_here", "_law_told", "_law_begin", "_law_turn", "_law_some"]
theorem sc_l_wide : FnScope N_l_wide ["_law_box_here", "_law_told"] (defScope s_l_wide) := ⟨rfl, rfl, rfl, by decide +kernel, rfl, by decide +kernel, by decide +kernel⟩

theorem ok_wide (F : FnP K "_law_wide" s_l_wide f fd) (m_len : mg "len" = none) (g_l_take : FnAt P w K mg base CX0 1 "_law_take" ["_law_box_here", "_law_many"] spTake) (g_l_times : FnAt P w K mg base CX0 2 "_law_times" ["_law_told", "_law_many"] (spTimes K)) : FnOk P w K mg base CX0 3 f fd ["_law_box_here", "_law_told"] spWide := by
  refine F.ok sc_l_wide (fun vs H Q E h => ?_) (fun cdv A outer s H vs Q E hr h => ?_)
  · obtain ⟨b, p, p1, p2, fs, ag, m, rfl, _⟩ := h
    rfl
  · obtain ⟨b, p, p1, p2, fs, ag, m, rfl, hb, hp, h1, h2, np, np1, np2, fl, l0, l1, b0, b1, k⟩ := h
    refine ⟨_, PSs.nox (pss_cons (ps_par (i := 2) (j := 3) rfl sc_l_wide.nd rfl rfl (by decide) rfl rfl (pa_cons (pe_op op_add (pe_callB (call_lenK K) rfl m_len (by decide +kernel) (pa_cons (pe_ix (ix_sqK K) (pv 1) (pe_int) (fun _ _ => rfl)) (pa_nil))) (pe_fn g_l_take hr rfl (pa_cons (pv 0) (pa_cons (pe_int) (pa_nil))))) (pa_cons (pe_op op_mul (pe_callB (call_lenK K) rfl m_len (by decide +kernel) (pa_cons (pe_ix (ix_sqK K) (pv 1) (pe_int) (fun _ _ => rfl)) (pa_nil))) (pe_op op_add (pe_int) (pe_fn g_l_take hr rfl (pa_cons (pv 0) (pa_cons (pe_int) (pa_nil)))))) (pa_nil))) rfl)
 (pss_cons (ps_set (i := 4) sc_l_wide.nd rfl (.inl rfl) (pe_fn g_l_times hr rfl (pa_cons (pv 1) (pa_cons (pe_op op_add (pv 2) (pv 3)) (pa_nil)))))
 (pss_one (ps_ret (pe_tup (pa_cons (pe_slice (sl_sqK K) (pv 4) (po_none) (po_some (pv 2))) (pa_cons (pe_slice (sl_sqK K) (pv 4) (po_some (pv 2)) (po_none)) (pa_cons (pe_op op_mul (pe_ix (ix_sqK K) (pv 1) (pe_int) (fun _ _ => rfl)) (pe_op op_fdiv (pv 3) (pe_callB (call_lenK K) rfl m_len (by decide +kernel) (pa_cons (pe_ix (ix_sqK K) (pv 1) (pe_int) (fun _ _ => rfl)) (pa_nil))))) (pa_nil))))))))), ?_⟩
    have hlen : ((ag.map V.int).length : Int) = (ag.length : Int) := by rw [List.length_map]
    refine ⟨_, rfl, p, _, _, _, rfl, rfl, .t hp, rfl, p1, fs, rfl, .l h1, _, rfl, b, 4, rfl, hb, by decide, by decide, fun x y z d d0 d1 => ⟨_, _, rfl, rfl, ?_⟩⟩
    have sb1 := SameBut.upd b H (bx x y z)
    have hb1 : Box (upd H b (bx x y z)) b := ⟨_, _, _, upd_same⟩
    generalize upd H b (bx x y z) = H1 at sb1 hb1
    refine ⟨_, rfl, p, _, _, _, rfl, rfl, .t (sb1 _ _ np hp), rfl, p2, _, rfl, .l (sb1 _ _ np2 h2), _, rfl, b, 3, rfl, hb1, by decide, by decide, fun x y z e e0 e1 => ⟨_, _, rfl, rfl, _, _, rfl, rfl, .inr ⟨by omega, by omega⟩, ?_⟩⟩
    have sb2 := sb1.trans (SameBut.upd b H1 (bx x y z))
    have hb2 : Box (upd H1 b (bx x y z)) b := ⟨_, _, _, upd_same⟩
    generalize upd H1 b (bx x y z) = H2 at sb2 hb2
    obtain ⟨d, rfl⟩ : ∃ n : Nat, d = (n : Int) := ⟨d.toNat, by omega⟩
    obtain ⟨q, eq⟩ : ∃ n : Nat, 1 + e = (n : Int) := ⟨(1 + e).toNat, by omega⟩
    have en : ((fs.length : Int) + (d : Int)) + ((ag.map V.int).length : Int) * (1 + e) = ((fs.length + d + ag.length * q : Nat) : Int) := by
      rw [hlen, eq, Int.natCast_add, Int.natCast_add, Int.natCast_mul]
    have lq : ag.length * q ≤ 300 := Nat.mul_le_mul l1 (show q ≤ 3 by omega)
    refine ⟨_, _, rfl, _, rfl, _, rfl, _, rfl, _, _, rfl, rfl, ?_⟩
    refine ⟨p, p1, p2, fs, ag, m, fs.length + d + ag.length * q, congrArg (fun i => [V.ref p, V.int i]) en, sb2 _ _ np hp, sb2 _ _ np1 h1, sb2 _ _ np2 h2, l0, by omega, b0, b1, by omega, fun D H3 s3 nD hD => ?_⟩
    have sb3 := sb2.trans (.of s3)
    have hb3 := hb2.ex s3
    have c1 : cutV ((List.range (fs.length + d + ag.length * q)).map (seqT fs ag m)) none (some ((fs.length : Int) + (d : Int))) = wideF fs ag m d := by
      rw [show (fs.length : Int) + (d : Int) = ((fs.length + d : Nat) : Int) from rfl, cut_to, ← List.map_take, List.take_range, Nat.min_eq_left (by omega)]
      rfl
    have c2 : cutV ((List.range (fs.length + d + ag.length * q)).map (seqT fs ag m)) (some ((fs.length : Int) + (d : Int))) none = (wideA ag m d q).map V.int := by
      rw [show (fs.length : Int) + (d : Int) = ((fs.length + d : Nat) : Int) from rfl, cut_fromW]
      unfold wideA
      refine List.ext_getElem (by simp) fun i h1 h2 => ?_
      rw [List.getElem_drop, List.getElem_map, List.getElem_range, List.getElem_map, List.getElem_map, List.getElem_range, seqT_ge (by omega), show fs.length + d + i - fs.length = d + i by omega]
    refine ⟨_, rfl, _, rfl, _, rfl, .inl ⟨D, _, rfl, .inl (.inl hD), fun w1 nw1 => ?_⟩⟩
    rw [c1]
    have s4 := same_new (o := .lst (wideF fs ag m d)) nw1
    have e4 : (upd H3 w1 (.lst (wideF fs ag m d))) w1 = some (.lst (wideF fs ag m d)) := upd_same
    have n1 : w1 ≠ b := Box.ne hb3 nw1
    generalize upd H3 w1 (.lst (wideF fs ag m d)) = H4 at s4 e4
    refine ⟨_, rfl, _, rfl, _, rfl, .inl ⟨D, _, rfl, .inl (.inl (s4 _ _ hD)), fun w2 nw2 => ?_⟩⟩
    rw [c2]
    have s5 := same_new (o := .lst ((wideA ag m d q).map V.int)) nw2
    have e5 : (upd H4 w2 (.lst ((wideA ag m d q).map V.int))) w2 = some (.lst ((wideA ag m d q).map V.int)) := upd_same
    have n2 : w2 ≠ b := Box.ne (hb3.ex s4) nw2
    generalize upd H4 w2 (.lst ((wideA ag m d q).map V.int)) = H5 at s5 e5
    have sb5 := (sb3.trans (.of s4)).trans (.of s5)
    have ed : (ag.length : Int) * (1 + e) / (ag.length : Int) = (q : Int) := by
      rw [eq]
      exact Int.mul_ediv_cancel_left _ (by omega)
    refine ⟨_, rfl, p, _, _, _, rfl, rfl, .t (sb5 _ _ np hp), rfl, _, rfl, _, rfl, p, _, _, _, rfl, rfl, .t (sb5 _ _ np hp), rfl, p2, _, rfl, .l (sb5 _ _ np2 h2), _, _, rfl, rfl, ⟨by rw [hlen]; omega, by rw [hlen]; omega⟩, _, _, rfl, rfl, .inl ⟨by omega, by omega⟩, by show 3 ≤ sizeLine; decide, fun w0 nw0 => ?_⟩
    have s6 := same_new (o := .tup [.ref w1, .ref w2, .int (m * (((ag.map V.int).length : Int) * (1 + e) / ((ag.map V.int).length : Int)))]) nw0
    refine k d q w0 w1 w2 _ (by omega) (by omega) (by omega) (sb5.trans (.of s6)) (((hb3.ex s4).ex s5).ex s6) ?_ (s6 _ _ (s5 _ _ e4)) (s6 _ _ e5) (Box.ne ((hb3.ex s4).ex s5) nw0) n1 n2
    rw [hlen, ed]
    exact upd_same
/-! ### a great row -/
structure Gr (is : List Int) (h : Int) : Prop where
  p : (is ++ [h]).Pairwise (· ≤ ·)
  lo : ∀ v ∈ is ++ [h], -999 ≤ v
  hi : h ≤ -960 + 60 * (is.length : Int)
  gap : ∀ j, j < is.length → h - is.getD j 0 ≤ 60 * ((is.length : Int) - (j : Int))
theorem Gr.next {is : List Int} {h d : Int} (u : Gr is h) (h0 : 0 ≤ d) (h1 : d ≤ 60) : Gr (is ++ [h]) (h + d) := by
  obtain ⟨p, b, l, g⟩ := u
  have bh := b h (List.mem_append_right _ (List.mem_singleton.mpr rfl))
  refine ⟨?_, fun v hv => ?_, by rw [List.length_append]; simp only [List.length_cons, List.length_nil]; omega, fun j hj => ?_⟩
  · rw [List.pairwise_append]
    refine ⟨p, List.pairwise_singleton _ _, fun x hx y hy => ?_⟩
    rw [List.mem_singleton.mp hy]
    rw [List.pairwise_append] at p
    rcases List.mem_append.mp hx with hx | hx
    · have := p.2.2 x hx h (List.mem_singleton.mpr rfl)
      omega
    · rw [List.mem_singleton.mp hx]
      omega
  · rcases List.mem_append.mp hv with hv | hv
    · exact b v hv
    · rw [List.mem_singleton.mp hv]
      omega
  · rw [List.length_append] at hj ⊢
    simp only [List.length_cons, List.length_nil] at hj ⊢
    rw [List.getD_eq_getElem?_getD]
    by_cases c : j < is.length
    · rw [List.getElem?_append_left c, ← List.getD_eq_getElem?_getD]
      have := g j c
      omega
    · rw [List.getElem?_append_right (by omega), show j - is.length = 0 by omega]
      show h + d - h ≤ _
      omega
structure Great (fs : List V) (ag : List Int) (m : Int) : Prop where
  up : UpR fs ag m
  fl : fs.length = 20
  al : ag.length = 12
  m0 : 0 ≤ m
  m1 : m < 1000
  ex : ∃ is : List Int, fs = is.map V.int ∧ ∀ v ∈ is ++ ag, -1000 < v ∧ v < 1000
theorem great_of {is : List Int} {h t : Int} (u : Gr is h) (hl : is.length = 32) (h0 : 0 ≤ t) (h1 : t < 200) : Great ((is.take 20).map V.int) (is.drop 20) (is.getD 31 0 - is.getD 20 0 + t) ∧ is.getD 31 0 - is.getD 20 0 + t < 999 := by
  obtain ⟨p, b, hi, g⟩ := u
  have p1 := (List.pairwise_append.mp p).1
  have p2 := (List.pairwise_append.mp p).2.2
  have mem : ∀ {i : Nat}, i < is.length → is.getD i 0 ∈ is := fun {i} hi => by
    rw [List.getD_eq_getElem?_getD, List.getElem?_eq_getElem hi]
    exact List.getElem_mem hi
  have g20 := g 20 (by omega)
  have le := p2 _ (mem (i := 31) (by omega)) h (List.mem_singleton.mpr rfl)
  have mo := pairI p1 (i := 20) (j := 31) (by omega) (by omega)
  have al : (is.drop 20).length = 12 := by rw [List.length_drop]; omega
  have eL : lastI (is.drop 20) = is.getD 31 0 := by
    unfold lastI
    rw [al, List.getD_eq_getElem?_getD, List.getElem?_drop, List.getD_eq_getElem?_getD]
  have e0 : (is.drop 20).getD 0 0 = is.getD 20 0 := by
    rw [List.getD_eq_getElem?_getD, List.getElem?_drop, List.getD_eq_getElem?_getD]
  refine ⟨⟨⟨⟨0, is.take 20, rfl, by rw [List.take_append_drop]; exact p1⟩, by omega, by rw [eL, e0]; omega⟩, by rw [List.length_map, List.length_take]; omega, al, by omega, by omega, ⟨_, rfl, fun v hv => ?_⟩⟩, by omega⟩
  rw [List.take_append_drop] at hv
  have q1 := b v (List.mem_append_left _ hv)
  have q2 := p2 v hv h (List.mem_singleton.mpr rfl)
  rw [hl] at hi
  exact ⟨by omega, by omega⟩
def spGreat : Sp := fun vs H Q _ => ∃ (b : Addr), vs = [.ref b] ∧ Box H b ∧
  ∀ p H' fs ag m, Great fs ag m → SameBut b H H' → Box H' b → (∃ p1 p2, H' p = some (.tup [.ref p1, .ref p2, .int m]) ∧ H' p1 = some (.lst fs) ∧ H' p2 = some (.lst (ag.map V.int)) ∧ p ≠ b ∧ p1 ≠ b ∧ p2 ≠ b) → Q (.ref p) H'
abbrev s_l_great : Stmt := top 36
abbrev N_l_great : List Str := ["_law_box_here", "_law_here", "_law_some", "_law_n"]
theorem sc_l_great : FnScope N_l_great ["_law_box_here"] (defScope s_l_great) := ⟨rfl, rfl, rfl, by decide +kernel, rfl, by decide +kernel, by decide +kernel⟩

theorem ok_great (F : FnP K "_law_great" s_l_great f fd) (m_min : mg "min" = none) (m_range : mg "range" = none) (g_l_take : FnAt P w K mg base CX0 1 "_law_take" ["_law_box_here", "_law_many"] spTake) (g_l_pick : FnAt P w K mg base CX0 2 "_law_pick" ["_law_box_here", "_law_some"] (spPick K)) :
    FnOk P w K mg base CX0 3 f fd ["_law_box_here"] spGreat := by
  refine F.ok sc_l_great (fun vs H Q E h => ?_) (fun cdv A outer s H vs Q E hr h => ?_)
  · obtain ⟨b, rfl, _⟩ := h
    rfl
  · obtain ⟨b, rfl, hb, q⟩ := h
    refine ⟨_, PSs.nox (pss_cons (ps_par (i := 1) (j := 2) rfl sc_l_great.nd rfl rfl (by decide) rfl rfl (pa_cons (pe_op op_sub (pe_fn g_l_take hr rfl (pa_cons (pv 0) (pa_cons (pe_int) (pa_nil)))) (pe_int)) (pa_cons (pe_lst (pa_nil)) (pa_nil))) rfl)
 (Evl.pss_cut (ps_for PassesOwn.never rfl (pi_range1 rfl m_range (pa_cons (pe_int) (pa_nil))) (pg_name (i := 3) sc_l_great.nd rfl (.inl rfl)) (pss_cons (ps_expr (pe_bm PySem.F.plainAttrs_list PySem.F.slot_list_append PySem.F.type_list_append mt_append (pv 2) (pa_cons (pv 1) (pa_nil))))
 (pss_one (ps_set (i := 1) sc_l_great.nd rfl (.inl rfl) (pe_op op_add (pv 1) (pe_fn g_l_pick hr rfl (pa_cons (pv 0) (pa_cons (pe_lst (pa_cons (pe_int) (pa_cons (pe_int) (pa_cons (pe_int) (pa_cons (pe_int) (pa_nil)))))) (pa_nil)))))))))
 (pss_one (ps_ret (pe_tup (pa_cons (pe_slice (sl_sqK K) (pv 2) (po_none) (po_some (pe_int))) (pa_cons (pe_slice (sl_sqK K) (pv 2) (po_some (pe_int)) (po_none)) (pa_cons (pe_callB (call_min2 rfl) rfl m_min (by decide +kernel) (pa_cons (pe_int) (pa_cons (pe_op op_add (pe_op op_sub (pe_ix (ix_sqK K) (pv 2) (pe_int) (fun _ _ => rfl)) (pe_ix (ix_sqK K) (pv 2) (pe_int) (fun _ _ => rfl))) (pe_fn g_l_take hr rfl (pa_cons (pv 0) (pa_cons (pe_int) (pa_nil))))) (pa_nil)))) (pa_nil))))))))), ?_⟩
    refine ⟨_, rfl, b, 40, rfl, hb, by decide, by decide, fun x0 y0 z0 d0 l0 u0 => ⟨_, _, rfl, rfl, by decide, fun p1 n1 => ?_⟩⟩
    have bx1 : Box (upd (upd H b (bx x0 y0 z0)) p1 (.lst [])) b := ⟨_, _, _, same_new n1 _ _ upd_same⟩
    have np1 : p1 ≠ b := Box.ne ⟨_, _, _, upd_same⟩ n1
    have sb1 : SameBut b H (upd (upd H b (bx x0 y0 z0)) p1 (.lst [])) := (SameBut.upd b H _).trans (.of (same_new n1))
    have hn1 : H p1 = none := by
      rw [upd_ne np1] at n1
      exact n1
    refine ⟨_, _, rfl, ?_⟩
    refine ⟨fun σ Hc => ∃ (h : Int) (is : List Int) (v3 : Option V), σ = [some (.ref b), some (.int h), some (.ref p1), v3] ∧ SameBut b H Hc ∧ Box Hc b ∧ Hc p1 = some (.lst (is.map V.int)) ∧ is.length = 32 ∧ Gr is h, ?_, ?_⟩
    · refine ⟨32, rfl, by omega, by omega, ?_⟩
      refine for_range (fun i σ Hc => ∃ (h : Int) (is : List Int) (v3 : Option V), σ = [some (.ref b), some (.int h), some (.ref p1), v3] ∧ SameBut b H Hc ∧ Box Hc b ∧ Hc p1 = some (.lst (is.map V.int)) ∧ is.length = i ∧ Gr is h) ⟨d0 - 999, [], none, rfl, sb1, bx1, upd_same, rfl, ?_⟩ ?_ ?_
      · refine ⟨List.pairwise_singleton _ _, fun v hv => ?_, ?_, fun j hj => nomatch hj⟩
        · rw [List.mem_singleton.mp hv]
          omega
        · show d0 - 999 ≤ -960 + 60 * ((0 : Nat) : Int)
          omega
      · rintro i σ Hc hi ⟨h, is, v3, rfl, sb, bx2, hp1, hlen, up⟩
        refine ⟨_, rfl, .inl ⟨rfl, _, .inl (.inl hp1)⟩, _, rfl, p1, _, _, rfl, rfl, hp1, ?_, ?_⟩
        · rw [List.length_map]
          exact Nat.lt_of_lt_of_le (show is.length < 1000 by omega) (by decide)
        · have bx3 : Box (upd Hc p1 (.lst (is.map V.int ++ [.int h]))) b := by
            obtain ⟨x, y, z, e⟩ := bx2
            exact ⟨x, y, z, (upd_ne (Ne.symm np1)).trans e⟩
          refine ⟨_, rfl, _, rfl, by show 4 ≤ sizeLine; decide, fun l nl => ?_⟩
          refine ⟨b, l, [.int 0, .int 1, .int 7, .int 60], rfl, bx3.ex (same_new nl), .l upd_same, Box.ne bx3 nl, by show 0 < 4; decide, by show 4 < 1000; decide, fun x y z v hv => ?_⟩
          obtain ⟨d, rfl, hd0, hd1⟩ := pick4 hv (by decide) (by decide) (by decide) (by decide)
          have hl1 : p1 ≠ l := ne_of_none upd_same nl
          refine ⟨_, _, rfl, rfl, h + d, is ++ [h], some (.int (0 + (i : Int))), rfl, ?_, ⟨_, _, _, upd_same⟩, ?_, by rw [List.length_append, hlen]; rfl, up.next hd0 hd1⟩
          · exact ((sb.app hn1).trans (.of (same_new nl))).trans (SameBut.upd b _ _)
          · rw [upd_ne np1, upd_ne hl1, upd_same, List.map_append]
            rfl
      · rintro σ Hc ⟨h, is, v3, rfl, sb, bx2, hp1, hlen, u⟩
        exact ⟨h, is, v3, rfl, sb, bx2, hp1, hlen, u⟩
    rintro σ Hc ⟨h, is, v3, rfl, sb, bx2, hp1, hl, u⟩
    have c1 : cutV (is.map V.int) none (some 20) = (is.take 20).map V.int := by
      rw [show (20 : Int) = ((20 : Nat) : Int) from rfl, cut_to, List.map_take]
    have c2 : cutV (is.map V.int) (some 20) none = (is.drop 20).map V.int := by
      rw [show (20 : Int) = ((20 : Nat) : Int) from rfl, cut_fromW, List.map_drop]
    refine ⟨_, rfl, _, rfl, .inl ⟨p1, _, rfl, .inl (.inl hp1), fun w1 nw1 => ?_⟩⟩
    rw [c1]
    have s4 := same_new (o := .lst ((is.take 20).map V.int)) nw1
    have e4 : (upd Hc w1 (.lst ((is.take 20).map V.int))) w1 = some (.lst ((is.take 20).map V.int)) := upd_same
    have n1 : w1 ≠ b := Box.ne bx2 nw1
    generalize upd Hc w1 (.lst ((is.take 20).map V.int)) = H4 at s4 e4
    refine ⟨_, rfl, _, rfl, .inl ⟨p1, _, rfl, .inl (.inl (s4 _ _ hp1)), fun w2 nw2 => ?_⟩⟩
    rw [c2]
    have s5 := same_new (o := .lst ((is.drop 20).map V.int)) nw2
    have e5 : (upd H4 w2 (.lst ((is.drop 20).map V.int))) w2 = some (.lst ((is.drop 20).map V.int)) := upd_same
    have n2 : w2 ≠ b := Box.ne (bx2.ex s4) nw2
    generalize upd H4 w2 (.lst ((is.drop 20).map V.int)) = H5 at s5 e5
    have s45 := s4.trans s5
    have a31 : atI (is.map V.int) 31 = some (.int (is.getD 31 0)) := ints_at (i := 31) (by omega)
    have a20 : atI (is.map V.int) 20 = some (.int (is.getD 20 0)) := ints_at (i := 20) (by omega)
    refine ⟨_, rfl, p1, _, _, _, rfl, rfl, .l (s45 _ _ hp1), a31, _, rfl, p1, _, _, _, rfl, rfl, .l (s45 _ _ hp1), a20, _, _, rfl, rfl, _, rfl, b, 200, rfl, bx2.ex s45, by decide, by decide, fun x y z t t0 t1 => ⟨_, _, rfl, rfl, ?_⟩⟩
    obtain ⟨G, lt⟩ := great_of u hl t0 t1
    refine ⟨_, _, rfl, by show 3 ≤ sizeLine; decide, fun w0 nw0 => ?_⟩
    have s6 := same_new (o := .tup [.ref w1, .ref w2, .int (if is.getD 31 0 - is.getD 20 0 + t < 999 then is.getD 31 0 - is.getD 20 0 + t else 999)]) nw0
    have bx7 : Box (upd H5 b (bx x y z)) b := ⟨_, _, _, upd_same⟩
    refine q w0 _ _ _ _ G (((sb.trans (.of s45)).trans (SameBut.upd b _ _)).trans (.of s6)) (bx7.ex s6) ⟨w1, w2, ?_, s6 _ _ ((upd_ne n1).trans (s5 _ _ e4)), s6 _ _ ((upd_ne n2).trans e5), Box.ne bx7 nw0, n1, n2⟩
    rw [if_pos lt]
    exact upd_same
end
end WW

set_option Elab.async false
set_option linter.all false
set_option maxRecDepth 100000
set_option maxHeartbeats 4000000
namespace WW
open PySem PySem.Spec PyProof.Rows L2
theorem cut_mid {xs : List V} {a b : Nat} (h : a ≤ b) (hb : b ≤ xs.length) : cutV xs (some (a : Int)) (some (b : Int)) = (xs.drop a).take (b - a) := by
  unfold cutV
  rw [HT.sIx_nat, HT.sIx_nat, Nat.min_eq_left hb, Nat.min_eq_left (Nat.le_trans h hb)]
section
variable {P : Program} {w : World} {K : PySem.W.Frag} {mg : Str → Option Value} {base : Heap} {f : Addr} {fd : FuncData}
def spLst : Sp := fun vs H Q _ => ∃ (p p1 p2 : Addr) (fs : List V) (ag : List Int) (m : Int), vs = [.ref p] ∧ H p = some (.tup [.ref p1, .ref p2, .int m]) ∧ H p1 = some (.lst fs) ∧ H p2 = some (.lst (ag.map V.int)) ∧ UpR fs ag m ∧ fs.length ≤ 20 ∧ ag.length ≤ 12 ∧ -1000 < m ∧ m < 1000 ∧
  ∀ t t1 t2 H', Same H H' → H' t = some (.tup [.ref t1, .ref t2, .int (leastF fs ag m).2.2]) → H' t1 = some (.tup (leastF fs ag m).1) → H' t2 = some (.tup ((leastF fs ag m).2.1.map V.int)) → Q (.ref t) H'
abbrev s_l_least : Stmt := top 35
abbrev N_l_least : List Str := ["_law_told", "_law_some", "_law_turn", "_law_begin", "_law_more", "_law_n"]
theorem sc_l_least : FnScope N_l_least ["_law_told"] (defScope s_l_least) := ⟨rfl, rfl, rfl, by decide +kernel, rfl, by decide +kernel, by decide +kernel⟩

theorem ok_least (F : FnP K "_law_least" s_l_least f fd) (m_len : mg "len" = none) (m_range : mg "range" = none) (m_tuple : mg "tuple" = none) (g_l_times : FnAt P w K mg base CX0 2 "_law_times" ["_law_told", "_law_many"] (spTimes K)) : FnOk P w K mg base CX0 3 f fd ["_law_told"] spLst := by
  refine F.ok sc_l_least (fun vs H Q E h => ?_) (fun cdv A outer s H vs Q E hr h => ?_)
  · obtain ⟨p, p1, p2, fs, ag, m, rfl, _⟩ := h
    rfl
  · obtain ⟨p, p1, p2, fs, ag, m, rfl, hp, h1, h2, u, fl, al, b0, b1, k⟩ := h
    refine ⟨_, PSs.nox (pss_cons (ps_set (i := 1) sc_l_least.nd rfl (.inr rfl) (pe_fn g_l_times hr rfl (pa_cons (pv 0) (pa_cons (pe_int) (pa_nil)))))
 (pss_cons (ps_for PassesOwn.never rfl (pi_range2 rfl m_range (pa_cons (pe_int) (pa_cons (pe_op op_add (pe_callB (call_lenK K) rfl m_len (by decide +kernel) (pa_cons (pe_ix (ix_sqK K) (pv 0) (pe_int) (fun _ _ => rfl)) (pa_nil))) (pe_int)) (pa_nil)))) (pg_name (i := 2) sc_l_least.nd rfl (.inr rfl)) (pss_one (ps_for PassesOwn.never rfl (pi_range1 rfl m_range (pa_cons (pe_op op_add (pe_callB (call_lenK K) rfl m_len (by decide +kernel) (pa_cons (pe_ix (ix_sqK K) (pv 0) (pe_int) (fun _ _ => rfl)) (pa_nil))) (pe_int)) (pa_nil))) (pg_name (i := 3) sc_l_least.nd rfl (.inl rfl)) (pss_one (ps_if (pt_cmpR op_notN (pe_ix (ix_sqK K) (pv 1) (pv 3) (fun _ _ => rfl)) (pe_non) (nomark _)) (pss_cons (ps_set (i := 4) sc_l_least.nd rfl (.inr rfl) (pe_op op_sub (pe_ix (ix_sqK K) (pv 1) (pe_op op_add (pv 3) (pv 2)) (fun _ _ => rfl)) (pe_ix (ix_sqK K) (pv 1) (pv 3) (fun _ _ => rfl))))
 (pss_one (ps_if (pt_cmpR (op_eqDK K hr) (pe_lc (own := [("_law_n", 5)]) rfl sc_l_least.nd (pi_range2 rfl m_range (pa_cons (pv 3) (pa_cons (pe_int) (pa_nil)))) (blkOk_by (N := N_l_least) (sc := defScope s_l_least) (by decide +kernel)) (fun _ _ _ _ _ => pg_name (i := 5) sc_l_least.nd rfl (.inl rfl)) (fun _ _ _ _ _ => pts_one (pt_cmpR op_ne (pe_op op_sub (pe_ix (ix_sqK K) (pv 1) (pe_op op_add (pv 5) (pv 2)) (fun _ _ => rfl)) (pe_ix (ix_sqK K) (pv 1) (pv 5) (fun _ _ => rfl))) (pv 4) (nomark _))) (fun _ _ _ _ _ => pe_int)) (pe_lst (pa_nil)) (nomark _)) (pss_one (ps_ret (pe_tup (pa_cons (pe_callTy (call_tupleK K) rfl m_tuple (by decide +kernel) (pa_cons (pe_slice (sl_sqK K) (pv 1) (po_none) (po_some (pv 3))) (pa_nil))) (pa_cons (pe_callTy (call_tupleK K) rfl m_tuple (by decide +kernel) (pa_cons (pe_slice (sl_sqK K) (pv 1) (po_some (pv 3)) (po_some (pe_op op_add (pv 3) (pv 2)))) (pa_nil))) (pa_cons (pv 4) (pa_nil))))))) (pss_nil)))) (pss_nil))))))
 (pss_one (ps_ret (pe_non))))), ?_⟩
    have l1 := u.l1
    have hlen : ((ag.map V.int).length : Int) = (ag.length : Int) := by rw [List.length_map]
    refine ⟨_, rfl, p, p1, p2, fs, ag, m, 80, rfl, hp, h1, h2, l1, by omega, b0, b1, by decide, fun D H1 s1 nD hD => ?_⟩
    have L := least_is (m := m) l1 u.things
    obtain ⟨e1, e2⟩ := least_parts (fs := fs) (ag := ag) (m := m) l1
    have tpos := L.t0
    generalize hF : leastF fs ag m = Z at L e1 e2 tpos k
    obtain ⟨F1, A1, M1⟩ := Z
    dsimp only at L e1 e2 tpos k
    have hp0 := lin_seq (fs := fs) (m := m) l1
    have t0l : A1.length ≤ ag.length := L.min _ _ _ l1 hp0
    have b0l : F1.length ≤ fs.length := Least.begin (hp0.back l1 L.lin) L
    have RS := u.ris
    have TH := seqT_thg (ag := ag) (m := m) u.things
    generalize hT : seqT fs ag m = T at L e1 e2 hp0 RS TH hD
    refine ⟨_, rfl, p, _, _, _, rfl, rfl, .t (s1 _ _ hp), rfl, p2, _, rfl, .l (s1 _ _ h2), _, _, rfl, rfl, _, _, rfl, ⟨by decide, by decide, by rw [hlen]; omega, by rw [hlen]; omega⟩, ?_⟩
    rw [show (((ag.map V.int).length : Int) + 1 - 1).toNat = ag.length by rw [hlen]; omega]
    refine for_range (fun i σ Hc => ∃ (v2 v3 v4 v5 : Option V), σ = [some (.ref p), some (.ref D), v2, v3, v4, v5] ∧ Same H1 Hc ∧ i < A1.length) ⟨_, _, _, _, rfl, Same.refl H1, tpos⟩ ?_ ?_
    · rintro i σ Hc hi ⟨v2, v3, v4, v5, rfl, s2, it⟩
      have s12 := s1.trans s2
      refine ⟨_, rfl, p, _, _, _, rfl, rfl, .t (s12 _ _ hp), rfl, p1, _, rfl, .l (s12 _ _ h1), _, _, rfl, rfl, _, rfl, by omega, by omega, ?_⟩
      rw [show ((fs.length : Int) + 1).toNat = fs.length + 1 by omega]
      refine for_range (fun j σ Hd => ∃ (v3 v4 v5 : Option V), σ = [some (.ref p), some (.ref D), some (.int (1 + (i : Int))), v3, v4, v5] ∧ Same H1 Hd ∧ (i + 1 = A1.length → j ≤ F1.length)) ⟨_, _, _, rfl, s2, fun _ => Nat.zero_le _⟩ ?_ ?_
      · rintro j σ Hd hj ⟨v3, v4, v5, rfl, s3, jb⟩
        have hD3 := s3 _ _ hD
        rw [show (0 : Int) + (j : Int) = (j : Int) by omega]
        refine ⟨_, rfl, _, rfl, D, _, _, _, rfl, rfl, .l hD3, at_range (show j < 80 by omega), rfl, _, rfl, ?_⟩
        by_cases cn : T j = .non
        · rw [cn]
          refine ⟨_, _, _, rfl, s3, fun e => ?_⟩
          have := jb e
          rcases Nat.lt_or_ge j F1.length with z | z
          · exact z
          · exfalso
            obtain ⟨x, z1, _⟩ := L.lin j z
            rw [cn] at z1
            cases z1
        · have cd : decide (T j = V.non) = false := decide_eq_false cn
          have hi' := RS.ints TH cn
          have sh : ∀ n : Nat, (n : Int) + (1 + (i : Int)) = ((n + (i + 1) : Nat) : Int) := fun n => by omega
          rw [cd]
          refine ⟨_, rfl, _, rfl, _, rfl, _, _, rfl, rfl, D, _, _, _, rfl, rfl, .l hD3, (by rw [sh]; exact at_range (show j + (i + 1) < 80 by omega)), _, rfl, _, rfl, D, _, _, _, rfl, rfl, .l hD3, at_range (show j < 80 by omega), _, _, hi' _ (by omega), hi' _ (Nat.le_refl _), ?_⟩
          obtain ⟨c, hc⟩ : ∃ c, c = intOf (T (j + (i + 1))) - intOf (T j) := ⟨_, rfl⟩
          show gName 4 (V.int (intOf (T (j + (i + 1))) - intOf (T j))) _ _ _
          rw [← hc]
          refine q_name ?_
          dsimp only [List.map_cons, List.map_nil]
          refine q_if (q_tst (q_op ?_))
          refine ⟨_, rfl, _, _, rfl, ⟨by omega, by omega, by decide, by decide⟩, fun D2 nD2 => ?_⟩
          rw [show ((50 : Int) - (j : Int)).toNat = 50 - j by omega]
          refine lc_rgF (fun n => decide (intOf (T (j + n + (i + 1))) - intOf (T (j + n)) ≠ c)) (fun _ => .int 1) (by omega) nD2 (fun n hn H4 s4 R r => ?_) (fun n hn H4 s4 R r => r H4 (Same.refl H4)) fun H4 s4 hD4 => ?_
          · have hD5 := s4 _ _ hD3
            refine ⟨_, rfl, _, rfl, _, rfl, _, _, rfl, rfl, D, _, _, _, rfl, rfl, .l hD5, (by rw [show (j : Int) + (n : Int) + (1 + (i : Int)) = ((j + n + (i + 1) : Nat) : Int) by omega]; exact at_range (show j + n + (i + 1) < 80 by omega)), _, rfl, _, rfl, D, _, _, _, rfl, rfl, .l hD5, (by rw [show (j : Int) + (n : Int) = ((j + n : Nat) : Int) by omega]; exact at_range (show j + n < 80 by omega)), _, _, hi' _ (by omega), hi' _ (by omega), ?_⟩
            refine ⟨_, rfl, rfl, _, rfl, ?_⟩
            rw [dec_int, ← decide_not]
            exact r H4 (Same.refl H4)
          · have one : ∀ y ∈ ((List.range (50 - j)).filter fun n => decide (intOf (T (j + n + (i + 1))) - intOf (T (j + n)) ≠ c)).map (fun _ => V.int 1), isTh y = true := fun y hy => by
              obtain ⟨_, _, rfl⟩ := List.mem_map.mp hy
              rfl
            refine ⟨by decide, fun D3 nD3 => ⟨_, _, dp_list (xs := ((List.range (50 - j)).filter fun n => decide (intOf (T (j + n + (i + 1))) - intOf (T (j + n)) ≠ c)).map (fun _ => V.int 1)) (same_new nD3 _ _ hD4) one, dp_list (xs := []) upd_same (fun y hy => nomatch hy), shaped_list _, shaped_list _, _, rfl, ?_⟩⟩
            rw [eqv_list (ys := []) one (fun y hy => nomatch hy)]
            have s5 : Same Hd (upd H4 D3 (.lst [])) := s4.trans (same_new nD3)
            generalize upd H4 D3 (.lst []) = H5 at s5
            by_cases hx : ((List.range (50 - j)).filter fun n => decide (intOf (T (j + n + (i + 1))) - intOf (T (j + n)) ≠ c)).map (fun _ => V.int 1) = []
            · have hall : ∀ n, j ≤ n → n < 50 → intOf (T (n + (i + 1))) - intOf (T n) = c := fun n h1 h2 => by
                have q := List.filter_eq_nil_iff.mp (List.map_eq_nil_iff.mp hx) (n - j) (List.mem_range.mpr (by omega))
                rw [show j + (n - j) = n by omega] at q
                refine Decidable.byContradiction fun z => q (decide_eq_true z)
              rw [decide_eq_true hx]
              rcases Nat.lt_or_eq_of_le it with z | z
              · exact (srch_lt L hp0 l1 (by omega) (Nat.succ_pos i) z (by omega) hi' hall).elim
              · have z : i + 1 = A1.length := z
                rcases Nat.lt_or_eq_of_le (jb z) with y | y
                · rw [z] at hall
                  exact (srch_eq L (by omega) y hi' hall).elim
                · -- found
                  have cM : c = M1 := by
                    obtain ⟨x, g1, g2⟩ := L.lin j (by omega)
                    rw [z, g1, g2] at hc
                    have hc : c = x + M1 - x := hc
                    omega
                  have hD5 := s5 _ _ hD3
                  refine ⟨_, rfl, _, rfl, _, rfl, .inl ⟨D, _, rfl, .inl (.inl hD5), fun q1 nq1 => .mk ⟨q1, _, rfl, .inl ⟨.inl (.inl upd_same), fun t1 nt1 => ?_⟩⟩⟩⟩
                  have s6 : Same H5 (upd (upd H5 q1 (.lst (cutV ((List.range 80).map T) none (some (j : Int))))) t1 (.tup (cutV ((List.range 80).map T) none (some (j : Int))))) := (same_new nq1).trans (same_new nt1)
                  have e6 : (upd (upd H5 q1 (.lst (cutV ((List.range 80).map T) none (some (j : Int))))) t1 (.tup (cutV ((List.range 80).map T) none (some (j : Int))))) t1 = some (.tup F1) := by
                    rw [upd_same, cut_to, ← List.map_take, List.take_range, Nat.min_eq_left (by omega), y]
                    exact congrArg (fun l => some (HO.tup l)) e1.symm
                  generalize upd (upd H5 q1 (.lst (cutV ((List.range 80).map T) none (some (j : Int))))) t1 (.tup (cutV ((List.range 80).map T) none (some (j : Int)))) = H6 at s6 e6
                  refine ⟨_, rfl, _, rfl, _, rfl, _, rfl, _, rfl, _, _, rfl, rfl, _, rfl, .inl ⟨D, _, rfl, .inl (.inl (s6 _ _ hD5)), fun q2 nq2 => .mk ⟨q2, _, rfl, .inl ⟨.inl (.inl upd_same), fun t2 nt2 => ?_⟩⟩⟩⟩
                  have cA : cutV ((List.range 80).map T) (some (j : Int)) (some ((j : Int) + (1 + (i : Int)))) = A1.map V.int := by
                    rw [sh, cut_mid (by omega) (by rw [List.length_map, List.length_range]; omega), e2, ← z, ← y]
                    refine List.ext_getElem (by simp; omega) fun n h1 h2 => ?_
                    rw [List.getElem_take, List.getElem_drop, List.getElem_map, List.getElem_map, List.getElem_range, List.getElem_range]
                  have s7 : Same H6 (upd (upd H6 q2 (.lst (cutV ((List.range 80).map T) (some (j : Int)) (some ((j : Int) + (1 + (i : Int))))))) t2 (.tup (cutV ((List.range 80).map T) (some (j : Int)) (some ((j : Int) + (1 + (i : Int))))))) := (same_new nq2).trans (same_new nt2)
                  have e7 : (upd (upd H6 q2 (.lst (cutV ((List.range 80).map T) (some (j : Int)) (some ((j : Int) + (1 + (i : Int))))))) t2 (.tup (cutV ((List.range 80).map T) (some (j : Int)) (some ((j : Int) + (1 + (i : Int))))))) t2 = some (.tup (A1.map V.int)) := by
                    rw [upd_same, cA]
                  generalize upd (upd H6 q2 (.lst (cutV ((List.range 80).map T) (some (j : Int)) (some ((j : Int) + (1 + (i : Int))))))) t2 (.tup (cutV ((List.range 80).map T) (some (j : Int)) (some ((j : Int) + (1 + (i : Int)))))) = H7 at s7 e7
                  refine ⟨_, rfl, by show 3 ≤ sizeLine; decide, fun t3 nt3 => ?_⟩
                  have s8 := same_new (o := .tup [.ref t1, .ref t2, .int c]) nt3
                  refine k t3 t1 t2 _ (((((s1.trans s3).trans s5).trans s6).trans s7).trans s8) ?_ (s8 _ _ (s7 _ _ e6)) (s8 _ _ e7)
                  rw [← cM]
                  exact upd_same
            · rw [decide_eq_false hx]
              refine ⟨_, _, _, rfl, s3.trans s5, fun e => ?_⟩
              rcases Nat.lt_or_eq_of_le (jb e) with y | y
              · exact y
              · exfalso
                refine hx (List.map_eq_nil_iff.mpr (List.filter_eq_nil_iff.mpr fun n hn z => ?_))
                have z := of_decide_eq_true z
                obtain ⟨x, g1, g2⟩ := L.lin j (by omega)
                obtain ⟨x2, g3, g4⟩ := L.lin (j + n) (by omega)
                rw [e, g1, g2] at hc
                rw [e, g3, g4] at z
                have hc : c = x + M1 - x := hc
                have z : x2 + M1 - x2 ≠ c := z
                omega
      · rintro σ Hd ⟨v3, v4, v5, rfl, s3, jb⟩
        exact ⟨_, _, _, _, rfl, s3, by omega⟩
    · rintro σ Hc ⟨v2, v3, v4, v5, rfl, s2, it⟩
      omega
end
end WW

set_option Elab.async false
set_option linter.all false
set_option maxRecDepth 100000
set_option maxHeartbeats 4000000
namespace WW
open PySem L2
/-- what a turn of the law tells -/
structure Tld (fs : List V) (ag : List Int) (m : Int) : Prop where
  up : UpR fs ag m
  fl : fs.length ≤ 20
  al : ag.length ≤ 12
  m0 : 0 ≤ m
  m1 : m < 1000
  bd : ∀ v, (V.int v ∈ fs ∨ v ∈ ag) → -1000 < v ∧ v < 1000
theorem Drawn.tld {fs : List V} {ag : List Int} {m : Int} (d : Drawn fs ag m) : Tld fs ag m := by
  obtain ⟨n, is, e, hn, hi, p, b⟩ := d.ex
  have l1 := d.l1
  have l3 := d.l3
  have m0 := d.m0
  have m1 := d.m1
  have pa := (List.pairwise_append.mp p).2.1
  have q := pairI pa (i := 0) (j := ag.length - 1) (by omega) (by omega)
  have eL : lastI ag = ag.getD (ag.length - 1) 0 := rfl
  refine ⟨⟨⟨n, is, e, p⟩, by omega, m0⟩, ?_, by omega, by omega, by omega, fun v hv => ?_⟩
  · rw [e, List.length_append, List.length_replicate, List.length_map]
    omega
  · have : v ∈ is ++ ag := by
      rcases hv with h | h
      · rw [e] at h
        rcases List.mem_append.mp h with h | h
        · cases List.eq_of_mem_replicate h
        · obtain ⟨i, hi, z⟩ := List.mem_map.mp h
          rw [V.int_inj z] at hi
          exact List.mem_append_left _ hi
      · exact List.mem_append_right _ h
    have := b v this
    omega
theorem Great.tld {fs : List V} {ag : List Int} {m : Int} (g : Great fs ag m) : Tld fs ag m := by
  obtain ⟨is, e, b⟩ := g.ex
  refine ⟨g.up, by rw [g.fl]; omega, by rw [g.al]; omega, g.m0, g.m1, fun v hv => ?_⟩
  refine b v ?_
  rcases hv with h | h
  · rw [e] at h
    obtain ⟨i, hi, z⟩ := List.mem_map.mp h
    rw [V.int_inj z] at hi
    exact List.mem_append_left _ hi
  · exact List.mem_append_right _ h
theorem small_log {i : Int} (h : -1000000 < i) (k : i < 1000000) : i.natAbs.log2 < 1920 := by
  by_cases c : i.natAbs = 0
  · rw [c]
    decide
  · rw [Nat.log2_lt c]
    have e : (2 : Nat) ^ 20 = 1048576 := by decide
    have g : i.natAbs < 2 ^ 20 := by omega
    exact Nat.lt_of_lt_of_le g (Nat.pow_le_pow_right (by decide) (by decide))
theorem Tld.small {fs : List V} {ag : List Int} {m : Int} (t : Tld fs ag m) {n : Nat} (hn : n < 40) : smallV (seqT fs ag m n) = true := by
  have th := t.up.things
  have l1 := t.up.l1
  by_cases c : n < fs.length
  · rw [← seqT_fs c]
    have hm : fs.getD n .non ∈ fs := by
      rw [List.getD_eq_getElem?_getD, List.getElem?_eq_getElem c]
      exact List.getElem_mem c
    have h1 := th _ hm
    have h2 := t.bd
    revert h1 hm
    cases fs.getD n .non with
    | non => exact fun _ _ => rfl
    | int i =>
      intro hm _
      have := h2 i (.inl hm)
      exact decide_eq_true (small_log (by omega) (by omega))
    | _ => exact fun _ z => nomatch z
  · rw [seqT_ge c]
    refine decide_eq_true ?_
    unfold ext
    have hlt := Nat.mod_lt (n - fs.length) l1
    have hm : ag.getD ((n - fs.length) % ag.length) 0 ∈ ag := by
      rw [List.getD_eq_getElem?_getD, List.getElem?_eq_getElem hlt]
      exact List.getElem_mem hlt
    have b := t.bd _ (.inr hm)
    have q : (n - fs.length) / ag.length ≤ n - fs.length := Nat.div_le_self _ _
    have m0 := t.m0
    have m1 := t.m1
    generalize (n - fs.length) / ag.length = r at q
    have z1 : 0 ≤ (r : Int) * m := Int.mul_nonneg (by omega) m0
    have z2 : (r : Int) * m ≤ 40 * 1000 := Int.mul_le_mul (by omega) (by omega) m0 (by omega)
    generalize (r : Int) * m = z at z1 z2
    exact small_log (by omega) (by omega)
theorem Tld.least {fs : List V} {ag : List Int} {m : Int} (t : Tld fs ag m) : 0 < (leastF fs ag m).2.1.length ∧ (leastF fs ag m).2.1.length ≤ 12 ∧ (leastF fs ag m).1.length ≤ 20 ∧ (∀ y ∈ (leastF fs ag m).1, smallV y = true) ∧ (∀ y ∈ (leastF fs ag m).2.1.map V.int, smallV y = true) ∧ 0 ≤ (leastF fs ag m).2.2 ∧ (leastF fs ag m).2.2 < 1000 := by
  have l1 := t.up.l1
  have L := least_is (m := m) l1 t.up.things
  have hp := lin_seq (fs := fs) (m := m) l1
  have t0l := L.min _ _ _ l1 hp
  have b0l := Least.begin (hp.back l1 L.lin) L
  obtain ⟨e1, e2⟩ := least_parts (fs := fs) (ag := ag) (m := m) l1
  have al := t.al
  have fl := t.fl
  have m0 := t.m0
  have m1 := t.m1
  obtain ⟨q, eq1, eq2⟩ := lin_dvd L.t0 L.lin L.min _ _ _ hp
  have q0 : 0 < q := by
    rcases Nat.eq_zero_or_pos q with z | z
    · rw [z, Nat.mul_zero] at eq1
      omega
    · exact z
  have mm : 0 ≤ (leastF fs ag m).2.2 ∧ (leastF fs ag m).2.2 ≤ m := by
    generalize (leastF fs ag m).2.2 = c at eq2
    have c0 : 0 ≤ c := by
      rcases Int.lt_or_le c 0 with z | z
      · have : (q : Int) * c < 0 := Int.mul_neg_of_pos_of_neg (by omega) z
        omega
      · exact z
    have : 1 * c ≤ (q : Int) * c := Int.mul_le_mul_of_nonneg_right (by omega) c0
    omega
  refine ⟨L.t0, by omega, by omega, fun y hy => ?_, fun y hy => ?_, mm.1, by omega⟩
  · rw [e1] at hy
    obtain ⟨n, hn, rfl⟩ := List.mem_map.mp hy
    exact t.small (by have := List.mem_range.mp hn; omega)
  · rw [e2] at hy
    obtain ⟨n, hn, rfl⟩ := List.mem_map.mp hy
    exact t.small (by have := List.mem_range.mp hn; omega)
theorem small_th {y : V} (h : smallV y = true) : isTh y = true := by
  revert h
  cases y with
  | non => exact fun _ => rfl
  | int i => exact fun _ => rfl
  | _ => exact fun z => nomatch z
theorem thing_th {y : V} (h : isThingV y = true) : isTh y = true := by
  revert h
  cases y with
  | non => exact fun _ => rfl
  | int i => exact fun _ => rfl
  | _ => exact fun z => nomatch z
/-- equal attributes: equal times -/
theorem times_of_least {fs fs' : List V} {ag ag' : List Int} {m m' : Int} (h : 0 < ag.length) (h' : 0 < ag'.length) (e : leastF fs ag m = leastF fs' ag' m') : ∀ n, seqT fs ag m n = seqT fs' ag' m' n := fun n => by
  rw [← (least_keeps (fs := fs) (m := m) h).1 n, ← (least_keeps (fs := fs') (m := m') h').1 n, e]
/-- rows are equal exactly if sixty times are -/
theorem same60 {fs fs' : List V} {ag ag' : List Int} {m m' : Int} (t : Tld fs ag m) (t' : Tld fs' ag' m') : ((List.range 60).map (seqT fs ag m) = (List.range 60).map (seqT fs' ag' m')) ↔ ((leastF fs ag m).1 = (leastF fs' ag' m').1 ∧ (leastF fs ag m).2.1.map V.int = (leastF fs' ag' m').2.1.map V.int ∧ (leastF fs ag m).2.2 = (leastF fs' ag' m').2.2) := by
  have l1 := t.up.l1
  have l1' := t'.up.l1
  constructor
  · intro e
    have e60 : ∀ n, n < 60 → seqT fs ag m n = seqT fs' ag' m' n := fun n hn => by
      have := congrArg (fun l => l[n]?) e
      simp only [List.getElem?_map, List.getElem?_range hn, Option.map_some] at this
      exact Option.some.inj this
    have h1 := lin_seq (fs := fs) (m := m) l1
    have h2 := lin_seq (fs := fs') (m := m') l1'
    have a1 := t.al
    have a2 := t'.al
    have b1 := t.fl
    have b2 := t'.fl
    have all := seq_same (f := max fs.length fs'.length) (N := 60) l1 l1' (fun n hn => h1 n (by omega)) (fun n hn => h2 n (by omega)) (by omega) e60
    have := least_same l1 t.up.things l1' t'.up.things all
    rw [this]
    exact ⟨rfl, rfl, rfl⟩
  · rintro ⟨e1, e2, e3⟩
    have e : leastF fs ag m = leastF fs' ag' m' := Prod.ext e1 (Prod.ext (map_int_inj e2) e3)
    have := times_of_least l1 l1' e
    exact List.map_congr_left fun n _ => this n
end WW

set_option Elab.async false
set_option linter.all false
set_option maxRecDepth 100000
set_option maxHeartbeats 4000000
namespace WW
open PySem PySem.Spec PyProof.Rows L2
section
variable {P : Program} {w : World} {K : PySem.W.Frag} {mg : Str → Option Value} {base : Heap} {f : Addr} {fd : FuncData}
/-- a written row -/
def spConst (C : Addr) (fs ys : List V) (m : Int) : Sp := fun vs H Q _ => vs = [] ∧ ∀ x H', Same H H' → RowAt C H' x fs ys m → Q (.ref x) H'
abbrev s_unit : Stmt := top 23
abbrev N_unit : List Str := []
theorem sc_unit : FnScope N_unit [] (defScope s_unit) := ⟨rfl, rfl, rfl, by decide +kernel, rfl, by decide +kernel, by decide +kernel⟩

theorem ok_unit (F : FnP K "unit" s_unit f fd) (g_Row : MkAt P w K mg base CX0 4 "Row" ["self", "first", "again", "more"] (spInit K (He.ga K "Row")) []) : FnOk P w K mg base CX0 6 f fd [] (spConst (He.ga K "Row") [] [.int 0] 0) := by
  refine F.ok sc_unit (fun vs H Q E h => ?_) (fun cdv A outer s H vs Q E hr h => ?_)
  · obtain ⟨rfl, _⟩ := h
    rfl
  · obtain ⟨rfl, q⟩ := h
    refine ⟨_, PSs.nox (pss_one (ps_ret (pe_mkr g_Row hr rfl (pa_cons (pe_tup (pa_nil)) (pa_cons (pe_tup (pa_cons (pe_int) (pa_nil))) (pa_cons (pe_int) (pa_nil))))))), ?_⟩
    refine ⟨by decide, fun p1 n1 => ⟨by decide, fun p2 n2 x dx nx ndx hn => ?_⟩⟩
    have s0 : Same H (upd (upd H p1 (.tup [])) p2 (.tup [.int 0])) := (same_new n1).trans (same_new n2)
    have s1 : Same (upd (upd H p1 (.tup [])) p2 (.tup [.int 0])) (upd (upd (upd (upd H p1 (.tup [])) p2 (.tup [.int 0])) dx (.own x)) x (.ins (He.ga K "Row") dx [])) := (same_new ndx).trans (same_new ((upd_ne (Ne.symm hn)).trans nx))
    have h1 := s1 _ _ (same_new n2 _ _ (upd_same (H := H) (a := p1) (o := .tup [])))
    have h2 := s1 _ _ (upd_same (H := upd H p1 (.tup [])) (a := p2) (o := .tup [.int 0]))
    refine ⟨x, dx, .ref p1, .ref p2, [], [.int 0], 0, rfl, upd_same, ⟨p1, rfl, .t h1, by decide, fun y hy => nomatch hy⟩, ⟨p2, rfl, .t h2, by decide, fun y hy => ?_⟩, by decide +kernel, fun H' sb hr => ⟨rfl, q x H' (s0.trans (made_row (fs := []) (ys := []) (m := 0) nx ndx hn sb)) ?_⟩⟩
    · rw [List.mem_singleton.mp hy]
      exact ⟨false, hasT_int 0⟩
    · have e : leastV [] [.int 0] 0 = ([], [.int 0], 0) := by decide +kernel
      rw [e] at hr
      exact hr
abbrev s_empty : Stmt := top 24
abbrev N_empty : List Str := []
theorem sc_empty : FnScope N_empty [] (defScope s_empty) := ⟨rfl, rfl, rfl, by decide +kernel, rfl, by decide +kernel, by decide +kernel⟩

theorem ok_empty (F : FnP K "empty" s_empty f fd) (g_Row : MkAt P w K mg base CX0 4 "Row" ["self", "first", "again", "more"] (spInit K (He.ga K "Row")) []) : FnOk P w K mg base CX0 6 f fd [] (spConst (He.ga K "Row") [] [.non] 0) := by
  refine F.ok sc_empty (fun vs H Q E h => ?_) (fun cdv A outer s H vs Q E hr h => ?_)
  · obtain ⟨rfl, _⟩ := h
    rfl
  · obtain ⟨rfl, q⟩ := h
    refine ⟨_, PSs.nox (pss_one (ps_ret (pe_mkr g_Row hr rfl (pa_cons (pe_tup (pa_nil)) (pa_cons (pe_tup (pa_cons (pe_non) (pa_nil))) (pa_cons (pe_int) (pa_nil))))))), ?_⟩
    refine ⟨by decide, fun p1 n1 => ⟨by decide, fun p2 n2 x dx nx ndx hn => ?_⟩⟩
    have s0 : Same H (upd (upd H p1 (.tup [])) p2 (.tup [.non])) := (same_new n1).trans (same_new n2)
    have s1 : Same (upd (upd H p1 (.tup [])) p2 (.tup [.non])) (upd (upd (upd (upd H p1 (.tup [])) p2 (.tup [.non])) dx (.own x)) x (.ins (He.ga K "Row") dx [])) := (same_new ndx).trans (same_new ((upd_ne (Ne.symm hn)).trans nx))
    have h1 := s1 _ _ (same_new n2 _ _ (upd_same (H := H) (a := p1) (o := .tup [])))
    have h2 := s1 _ _ (upd_same (H := upd H p1 (.tup [])) (a := p2) (o := .tup [.non]))
    refine ⟨x, dx, .ref p1, .ref p2, [], [.non], 0, rfl, upd_same, ⟨p1, rfl, .t h1, by decide, fun y hy => nomatch hy⟩, ⟨p2, rfl, .t h2, by decide, fun y hy => ?_⟩, by decide +kernel, fun H' sb hr => ⟨rfl, q x H' (s0.trans (made_row (fs := []) (ys := []) (m := 0) nx ndx hn sb)) ?_⟩⟩
    · rw [List.mem_singleton.mp hy]
      exact ⟨false, hasT_non⟩
    · have e : leastV [] [.non] 0 = ([], [.non], 0) := by decide +kernel
      rw [e] at hr
      exact hr
theorem RowAt.sb {C : Addr} {H H' : Hp} {x b : Addr} {fs ys : List V} {m : Int} (hb : Box H b) (e : SameBut b H H') (h : RowAt C H x fs ys m) : RowAt C H' x fs ys m := by
  obtain ⟨dx, p1, p2, h1, h2, h3⟩ := h
  obtain ⟨u, v, z, hb⟩ := hb
  have n : ∀ {a o}, H a = some o → (∀ xs, o ≠ .lst xs) → a ≠ b := fun ha hn z => by
    rw [z, hb] at ha
    exact hn _ (Option.some.inj ha).symm
  exact ⟨dx, p1, p2, e _ _ (n h1 fun _ z => nomatch z) h1, e _ _ (n h2 fun _ z => nomatch z) h2, e _ _ (n h3 fun _ z => nomatch z) h3⟩
end
end WW

set_option Elab.async false
set_option linter.all false
set_option maxRecDepth 100000
set_option maxHeartbeats 4000000
namespace WW
open PySem PySem.Spec PyProof.Rows L2
theorem leastV_ints {fs : List V} {ag : List Int} {m : Int} (h : 0 < ag.length) : leastV fs (ag.map V.int) m = ((leastF fs ag m).1, (leastF fs ag m).2.1.map V.int, (leastF fs ag m).2.2) := by
  have hd0 : ¬ hd (ag.map V.int) = .non := by
    unfold hd
    rw [List.getD_eq_getElem?_getD, List.getElem?_map, List.getElem?_eq_getElem h]
    exact fun z => nomatch z
  have eag : (ag.map V.int).map intOf = ag := by
    rw [List.map_map]
    exact List.map_id'' (fun _ => rfl) ag
  unfold leastV
  rw [if_neg hd0, eag]
theorem ten15 : (10 : Int) ^ (15 : Int).toNat = ((1000000000000000 : Nat) : Int) := by decide
section
variable {P : Program} {w : World} {K : PySem.W.Frag} {mg : Str → Option Value} {base : Heap} {f : Addr} {fd : FuncData}
/-- a told row, away from the box -/
def ToldB (H : Hp) (b p : Addr) (fs : List V) (ag : List Int) (m : Int) : Prop := ∃ p1 p2, H p = some (.tup [.ref p1, .ref p2, .int m]) ∧ H p1 = some (.lst fs) ∧ H p2 = some (.lst (ag.map V.int)) ∧ p ≠ b ∧ p1 ≠ b ∧ p2 ≠ b
theorem ToldB.sb {H H' : Hp} {b p : Addr} {fs : List V} {ag : List Int} {m : Int} (h : ToldB H b p fs ag m) (e : SameBut b H H') : ToldB H' b p fs ag m := by
  obtain ⟨p1, p2, a1, a2, a3, n, n1, n2⟩ := h
  exact ⟨p1, p2, e _ _ n a1, e _ _ n1 a2, e _ _ n2 a3, n, n1, n2⟩
/-- what is told otherwise: the same times -/
structure Oth (fs : List V) (ag : List Int) (m : Int) (gs : List V) (zs : List Int) (k : Int) : Prop where
  eq : ∀ n, seqT gs zs k n = seqT fs ag m n
  z0 : 0 < zs.length
  z1 : zs.length ≤ 400
  g1 : gs.length ≤ 400
  k0 : 0 ≤ k
  th : ∀ y ∈ gs, isThingV y = true
theorem Oth.let_ {fs gs : List V} {ag zs : List Int} {m k : Int} (o : Oth fs ag m gs zs k) (t : Tld fs ag m) : wrongW (some gs) (some (zs.map V.int)) (.int k) = .non := by
  refine ris_val o.z0 o.th o.k0 ?_
  rw [show seqT gs zs k = seqT fs ag m from funext o.eq]
  exact t.up.ris
theorem Oth.least {fs gs : List V} {ag zs : List Int} {m k : Int} (o : Oth fs ag m gs zs k) (t : Tld fs ag m) : leastF gs zs k = leastF fs ag m := least_same o.z0 o.th t.up.l1 t.up.things o.eq
theorem Tld.oth {fs : List V} {ag : List Int} {m : Int} (t : Tld fs ag m) : Oth fs ag m fs ag m := ⟨fun _ => rfl, t.up.l1, by have := t.al; omega, by have := t.fl; omega, t.m0, t.up.things⟩
theorem Tld.wide {fs : List V} {ag : List Int} {m : Int} {d q : Nat} (t : Tld fs ag m) (hd : d < 4) (q0 : 0 < q) (q3 : q ≤ 3) : Oth fs ag m (wideF fs ag m d) (wideA ag m d q) (m * (q : Int)) := by
  have a := t.al
  have f := t.fl
  have l1 := t.up.l1
  have al : (wideA ag m d q).length = ag.length * q := by unfold wideA; rw [List.length_map, List.length_range]
  have lq : ag.length * q ≤ 12 * 3 := Nat.mul_le_mul a q3
  refine ⟨wide_keeps l1 q0, by rw [al]; exact Nat.mul_pos l1 q0, by rw [al]; omega, by unfold wideF; rw [List.length_map, List.length_range]; omega, Int.mul_nonneg t.m0 (by omega), fun y hy => ?_⟩
  unfold wideF at hy
  obtain ⟨n, _, rfl⟩ := List.mem_map.mp hy
  exact seqT_thg t.up.things n
/-- the row made of a told one -/
def RowL (C : Addr) (H : Hp) (x : Addr) (fs : List V) (ag : List Int) (m : Int) : Prop := RowAt C H x (leastF fs ag m).1 ((leastF fs ag m).2.1.map V.int) (leastF fs ag m).2.2
theorem RowAt.upl {C : Addr} {H : Hp} {x l : Addr} {o : HO} {ls fs ys : List V} {m : Int} (hl : H l = some (.lst ls)) (h : RowAt C H x fs ys m) : RowAt C (upd H l o) x fs ys m := by
  obtain ⟨dx, p1, p2, h1, h2, h3⟩ := h
  have n : ∀ {a u}, H a = some u → (∀ xs, u ≠ .lst xs) → a ≠ l := fun ha hn z => by
    rw [z, hl] at ha
    exact hn _ (Option.some.inj ha).symm
  exact ⟨dx, p1, p2, (upd_ne (n h1 fun _ z => nomatch z)).trans h1, (upd_ne (n h2 fun _ z => nomatch z)).trans h2, (upd_ne (n h3 fun _ z => nomatch z)).trans h3⟩
/-- the row ahead, if there is one -/
def Bef (C : Addr) (H : Hp) (b : Addr) (v : V) : Prop := v = .non ∨ ∃ q x p fs ag m, v = .ref q ∧ H q = some (.tup [.ref x, .ref p]) ∧ q ≠ b ∧ Tld fs ag m ∧ RowL C H x fs ag m ∧ ToldB H b p fs ag m
theorem Bef.sb {C : Addr} {H H' : Hp} {b : Addr} {v : V} (hb : Box H b) (h : Bef C H b v) (e : SameBut b H H') : Bef C H' b v := by
  rcases h with h | ⟨q, x, p, fs, ag, m, rfl, hq, n, t, r, d⟩
  · exact .inl h
  · exact .inr ⟨q, x, p, fs, ag, m, rfl, e _ _ n hq, n, t, RowAt.sb hb e r, d.sb e⟩
def spLaw (K : PySem.W.Frag) : Sp := fun vs H Q _ => ∃ (a : Addr) (ns : List Int), vs = [.ref a] ∧ SqL K H a (ns.map V.int) ∧ ns.length ≤ 63 ∧ ∀ H', Q (.bl true) H'
abbrev s_law : Stmt := top 37
abbrev N_law : List Str := ["_law_script", "_law_k", "_law_nothing", "_law_bare", "_law_box_here", "_law_before", "_law_turn", "_law_told", "_law_wide_here", "_law_first", "_law_again", "_law_made_here", "_law_same", "_law_n"]
theorem sc_law : FnScope N_law ["_law_script"] (defScope s_law) := ⟨rfl, rfl, rfl, by decide +kernel, rfl, by decide +kernel, by decide +kernel⟩

theorem ok_law (F : FnP K "law" s_law f fd) (m_range : mg "range" = none) (m_max : mg "max" = none) (m_min : mg "min" = none) (m_len : mg "len" = none) (m_list : mg "list" = none) (m_tuple : mg "tuple" = none) (m_str : mg "str" = none) (RR : RowC K (He.ga K "Row")) (T : TyC K (He.ga K "Row")) (apT : Apart K (He.ga K "Row") "tuple") (apS : Apart K (He.ga K "Row") "str")
    (g_l_box : FnAt P w K mg base CX0 1 "_law_box" ["_law_script", "_law_k"] (spBox K)) (g_l_row : FnAt P w K mg base CX0 3 "_law_row" ["_law_box_here", "_law_is_low"] spRow) (g_l_great : FnAt P w K mg base CX0 3 "_law_great" ["_law_box_here"] spGreat) (g_l_wide : FnAt P w K mg base CX0 3 "_law_wide" ["_law_box_here", "_law_told"] spWide)
    (g_Row : MkAt P w K mg base CX0 4 "Row" ["self", "first", "again", "more"] (spInit K (He.ga K "Row")) []) (g_Row2 : MkAt P w K mg base CX0 4 "Row" ["self", "first", "again", "more"] (spInit K (He.ga K "Row")) [.int 0])
    (g_l_made : FnAt P w K mg base CX0 6 "_law_made" ["_law_told"] (spMade K (He.ga K "Row"))) (g_l_least : FnAt P w K mg base CX0 3 "_law_least" ["_law_told"] spLst) (g_l_times : FnAt P w K mg base CX0 2 "_law_times" ["_law_told", "_law_many"] (spTimes K)) (g_l_time : FnAt P w K mg base CX0 1 "_law_time" ["_law_told", "_law_n"] (spTime K))
    (g_Row_time : MthAt P w K mg base CX0 1 (He.ga K "Row") "time" ["self", "n"] (spRTime (He.ga K "Row"))) (g_eq : EqAtC P w K mg base CX0 2 (He.ga K "Row") ["self", "other"] (spEq K (He.ga K "Row"))) (g_str : StrAtC P w K mg base CX0 2 (He.ga K "Row") ["self"] (spStr (He.ga K "Row")))
    (g_empty : FnAt P w K mg base CX0 6 "empty" [] (spConst (He.ga K "Row") [] [.non] 0)) (g_unit : FnAt P w K mg base CX0 6 "unit" [] (spConst (He.ga K "Row") [] [.int 0] 0)) : FnOk P w K mg base CX0 7 f fd ["_law_script"] (spLaw K) := by
  have c_Row := RR.cls
  refine F.ok sc_law (fun vs H Q E h => ?_) (fun cdv A outer s H vs Q E hr h => ?_)
  · obtain ⟨a, ns, rfl, _⟩ := h
    rfl
  · obtain ⟨a, ns, rfl, hq, hl, q⟩ := h
    refine ⟨_, PSs.nox (pss_cons (ps_for PassesOwn.never rfl (pi_range1 rfl m_range (pa_cons (pe_callB (call_max2 rfl) rfl m_max (by decide +kernel) (pa_cons (pe_int) (pa_cons (pe_callB (call_min2 rfl) rfl m_min (by decide +kernel) (pa_cons (pe_int) (pa_cons (pe_callB (call_lenK K) rfl m_len (by decide +kernel) (pa_cons (pv 0) (pa_nil))) (pa_nil)))) (pa_nil)))) (pa_nil))) (pg_name (i := 1) sc_law.nd rfl (.inl rfl)) (pss_cons (ps_par (i := 4) (j := 5) rfl sc_law.nd rfl rfl (by decide) rfl rfl (pa_cons (pe_fn g_l_box hr rfl (pa_cons (pv 0) (pa_cons (pv 1) (pa_nil)))) (pa_cons (pe_non) (pa_nil))) rfl)
 (pss_one (ps_for PassesOwn.never rfl (pi_range1 rfl m_range (pa_cons (pe_int) (pa_nil))) (pg_name (i := 6) sc_law.nd rfl (.inl rfl)) (Evl.pss_cut (ps_set (i := 7) sc_law.nd rfl (.inl rfl) (pe_ifExp (pt_cmpR op_lt (pv 6) (pe_int) (nomark _)) (pe_fn g_l_row hr rfl (pa_cons (pv 4) (pa_cons (pe_cmpR op_eq (pe_op op_mod (pv 6) (pe_int)) (pe_int) (nomark _)) (pa_nil)))) (pe_fn g_l_great hr rfl (pa_cons (pv 4) (pa_nil)))))
 (Evl.pss_cut (ps_set (i := 8) sc_law.nd rfl (.inl rfl) (pe_ifExp (pt_cmpR op_lt (pv 6) (pe_int) (nomark _)) (pe_fn g_l_wide hr rfl (pa_cons (pv 4) (pa_cons (pv 7) (pa_nil)))) (pe_tup (pa_cons (pe_callTy (call_listK K) rfl m_list (by decide +kernel) (pa_cons (pe_ix (ix_sqK K) (pv 7) (pe_int) (fun _ _ => rfl)) (pa_nil))) (pa_cons (pe_callTy (call_listK K) rfl m_list (by decide +kernel) (pa_cons (pe_ix (ix_sqK K) (pv 7) (pe_int) (fun _ _ => rfl)) (pa_nil))) (pa_cons (pe_ix (ix_sqK K) (pv 7) (pe_int) (fun _ _ => rfl)) (pa_nil)))))))
 (pss_cons (ps_par (i := 9) (j := 10) rfl sc_law.nd rfl rfl (by decide) rfl rfl (pa_cons (pe_callTy (call_listK K) rfl m_list (by decide +kernel) (pa_cons (pe_ix (ix_sqK K) (pv 8) (pe_int) (fun _ _ => rfl)) (pa_nil))) (pa_cons (pe_callTy (call_listK K) rfl m_list (by decide +kernel) (pa_cons (pe_ix (ix_sqK K) (pv 8) (pe_int) (fun _ _ => rfl)) (pa_nil))) (pa_nil))) rfl)
 (pss_cons (ps_set (i := 11) sc_law.nd rfl (.inr rfl) (pe_mkr g_Row hr rfl (pa_cons (pv 9) (pa_cons (pv 10) (pa_cons (pe_ix (ix_sqK K) (pv 8) (pe_int) (fun _ _ => rfl)) (pa_nil))))))
 (pss_cons (ps_expr (pe_bm PySem.F.plainAttrs_list PySem.F.slot_list_append PySem.F.type_list_append mt_append (pv 9) (pa_cons (pe_op op_pow (pe_int) (pe_int)) (pa_nil))))
 (pss_cons (ps_expr (pe_bm PySem.F.plainAttrs_list PySem.F.slot_list_append PySem.F.type_list_append mt_append (pv 10) (pa_cons (pe_op op_pow (pe_int) (pe_int)) (pa_nil))))
 (pss_cons (ps_if (PW.pt (pw_or (pt_cmpR (op_neDK K hr) (pe_tup (pa_cons (pe_fldK K (pv 11) rfl) (pa_cons (pe_fldK K (pv 11) rfl) (pa_cons (pe_fldK K (pv 11) rfl) (pa_nil))))) (pe_fn g_l_least hr rfl (pa_cons (pv 7) (pa_nil))) (nomark _)) (pw_or1 (pt_cmpR (op_neO K g_eq hr) (pv 11) (pe_fn g_l_made hr rfl (pa_cons (pv 7) (pa_nil))) (nomark _))))) (pss_one (ps_ret (pe_bl))) (pss_nil))
 (pss_cons (ps_if (pt_cmpR (op_neDK K hr) (pe_lc (own := [("_law_n", 13)]) rfl sc_law.nd (pi_range1 rfl m_range (pa_cons (pe_int) (pa_nil))) (blkOk_by (N := N_law) (sc := defScope s_law) (by decide +kernel)) (fun _ _ _ _ _ => pg_name (i := 13) sc_law.nd rfl (.inl rfl)) (fun _ _ _ _ _ => pts_nil) (fun _ _ _ _ _ => pe_mth c_Row g_Row_time hr (pv 11) (pa_cons (pv 13) (pa_nil)))) (pe_fn g_l_times hr rfl (pa_cons (pv 7) (pa_cons (pe_int) (pa_nil)))) (nomark _)) (pss_one (ps_ret (pe_bl))) (pss_nil))
 (pss_cons (ps_if (pt_cmpR op_ne (pe_mth c_Row g_Row_time hr (pv 11) (pa_cons (pe_op op_pow (pe_int) (pe_int)) (pa_nil))) (pe_fn g_l_time hr rfl (pa_cons (pv 7) (pa_cons (pe_op op_pow (pe_int) (pe_int)) (pa_nil)))) (nomark _)) (pss_one (ps_ret (pe_bl))) (pss_nil))
 (pss_cons (ps_if (PW.pt (pw_or (pt_cmpR (op_eqO K g_eq hr) (pv 11) (pe_fn g_l_least hr rfl (pa_cons (pv 7) (pa_nil))) (nomark _)) (pw_or (pt_cmpR (op_eqO K g_eq hr) (pv 11) (pe_callTy (call_strO g_str hr) rfl m_str (by decide +kernel) (pa_cons (pv 11) (pa_nil))) (nomark _)) (pw_or1 (pt_cmpR (op_neO K g_eq hr) (pv 11) (pe_mkr g_Row hr rfl (pa_cons (pe_callTy (call_tupleK K) rfl m_tuple (by decide +kernel) (pa_cons (pe_ix (ix_sqK K) (pv 8) (pe_int) (fun _ _ => rfl)) (pa_nil))) (pa_cons (pe_callTy (call_tupleK K) rfl m_tuple (by decide +kernel) (pa_cons (pe_ix (ix_sqK K) (pv 8) (pe_int) (fun _ _ => rfl)) (pa_nil))) (pa_cons (pe_ix (ix_sqK K) (pv 8) (pe_int) (fun _ _ => rfl)) (pa_nil))))) (nomark _)))))) (pss_one (ps_ret (pe_bl))) (pss_nil))
 (pss_cons (ps_set (i := 12) sc_law.nd rfl (.inl rfl) (pe_and (pe_cmpR op_notN (pv 5) (pe_non) (nomark _)) (pe_one (pe_cmpR (op_eqDK K hr) (pe_fn g_l_times hr rfl (pa_cons (pv 7) (pa_cons (pe_int) (pa_nil)))) (pe_fn g_l_times hr rfl (pa_cons (pe_ix (ix_sqK K) (pv 5) (pe_int) (fun _ _ => rfl)) (pa_cons (pe_int) (pa_nil)))) (nomark _)))))
 (pss_cons (ps_if (PW.pt (pw_and (pt_cmpR op_notN (pv 5) (pe_non) (nomark _)) (pw_and1 (pt_cmpR op_ne (pe_cmpR (op_eqO K g_eq hr) (pv 11) (pe_ix (ix_sqK K) (pv 5) (pe_int) (fun _ _ => rfl)) (nomark _)) (pv 12) (nomark _))))) (pss_one (ps_ret (pe_bl))) (pss_nil))
 (pss_one (ps_set (i := 5) sc_law.nd rfl (.inl rfl) (pe_tup (pa_cons (pv 11) (pa_cons (pv 7) (pa_nil))))))))))))))))))))))
 (pss_cons (ps_set (i := 2) sc_law.nd rfl (.inl rfl) (pe_mkr g_Row2 hr rfl (pa_cons (pe_lst (pa_cons (pe_non) (pa_cons (pe_non) (pa_nil)))) (pa_cons (pe_lst (pa_cons (pe_non) (pa_cons (pe_non) (pa_cons (pe_non) (pa_nil))))) (pa_nil)))))
 (pss_cons (ps_set (i := 3) sc_law.nd rfl (.inl rfl) (pe_fn0 g_empty hr rfl))
 (pss_cons (ps_if (PW.pt (pw_or (pt_cmpR (op_neO K g_eq hr) (pv 2) (pv 3) (nomark _)) (pw_or1 (pt_cmpR (op_neDK K hr) (pe_tup (pa_cons (pe_fldK K (pv 3) rfl) (pa_cons (pe_fldK K (pv 3) rfl) (pa_cons (pe_fldK K (pv 3) rfl) (pa_nil))))) (pe_tup (pa_cons (pe_tup (pa_nil)) (pa_cons (pe_tup (pa_cons (pe_non) (pa_nil))) (pa_cons (pe_int) (pa_nil))))) (nomark _))))) (pss_one (ps_ret (pe_bl))) (pss_nil))
 (pss_one (ps_ret (pe_and (pe_cmpR (op_eqO K g_eq hr) (pe_fn0 g_unit hr rfl) (pe_mkr g_Row hr rfl (pa_cons (pe_lst (pa_cons (pe_int) (pa_cons (pe_int) (pa_nil)))) (pa_cons (pe_lst (pa_cons (pe_int) (pa_cons (pe_int) (pa_nil)))) (pa_cons (pe_int) (pa_nil))))) (nomark _)) (pe_one (pe_cmpR (op_neO K g_eq hr) (pe_fn0 g_unit hr rfl) (pv 3) (nomark _)))))))))), ?_⟩
    have hlen : ((ns.map V.int).length : Int) = (ns.length : Int) := by rw [List.length_map]
    refine ⟨_, rfl, a, _, rfl, .inl hq, _, _, rfl, _, _, rfl, _, rfl, ?_, ?_, ?_⟩
    · rw [hlen]
      split <;> split <;> omega
    · rw [hlen]
      split <;> split <;> omega
    refine for_range (fun i σ Hc => ∃ (v1 v2 v3 v4 v5 v6 v7 v8 v9 v10 v11 v12 v13 : Option V), σ = [some (.ref a), v1, v2, v3, v4, v5, v6, v7, v8, v9, v10, v11, v12, v13] ∧ Same H Hc) ⟨none, none, none, none, none, none, none, none, none, none, none, none, none, rfl, Same.refl H⟩ ?_ ?_
    · rintro i σ Hc hi ⟨v1, v2, v3, v4, v5, v6, v7, v8, v9, v10, v11, v12, v13, rfl, sH⟩
      refine ⟨_, rfl, _, rfl, a, ns, (0 : Int) + (i : Int), rfl, Evl.ex_l sH hq, by omega, by omega, fun b H1 s1 nb hb => ⟨_, _, rfl, ?_⟩⟩
      refine ⟨6, rfl, by decide, by decide, ?_⟩
      refine for_range (fun i σ Hc => ∃ (v1 v2 v3 v6 v7 v8 v9 v10 v11 v12 v13 : Option V) (bf : V), σ = [some (.ref a), v1, v2, v3, some (.ref b), some bf, v6, v7, v8, v9, v10, v11, v12, v13] ∧ SameBut b H1 Hc ∧ Box Hc b ∧ Bef (He.ga K "Row") Hc b bf) ⟨_, _, _, _, _, _, _, _, _, _, _, .non, rfl, SameBut.refl b H1, hb, .inl rfl⟩ ?_ ?_
      · rintro j σ H2 hj ⟨v1, v2, v3, v6, v7, v8, v9, v10, v11, v12, v13, bf, rfl, sb2, hb2, bef⟩
        rw [show (0 : Int) + (j : Int) = (j : Int) by omega]
        -- told
        refine ⟨fun σ H3 => ∃ p fs ag m, σ = [some (.ref a), v1, v2, v3, some (.ref b), some bf, some (.int (j : Int)), some (.ref p), v8, v9, v10, v11, v12, v13] ∧ SameBut b H2 H3 ∧ Box H3 b ∧ Tld fs ag m ∧ ToldB H3 b p fs ag m, ?_, ?_⟩
        · refine ⟨_, rfl, _, _, rfl, rfl, _, rfl, ?_⟩
          by_cases c : (j : Int) < 5
          · rw [decide_eq_true c]
            refine ⟨_, rfl, _, rfl, _, _, rfl, rfl, (by show (0 : Int) < 2; decide), rfl, b, _, rfl, hb2, fun p H3 fs ag m dr sb3 hb3 t => ?_⟩
            exact ⟨p, fs, ag, m, rfl, sb3, hb3, dr.tld, t⟩
          · rw [decide_eq_false c]
            refine ⟨_, rfl, b, rfl, hb2, fun p H3 fs ag m g sb3 hb3 t => ?_⟩
            exact ⟨p, fs, ag, m, rfl, sb3, hb3, g.tld, t⟩
        rintro σ H3 ⟨p, fs, ag, m, rfl, sb3, hb3, tl, tb⟩
        -- wide
        refine ⟨fun σ H4 => ∃ w w1 w2 gs zs k, σ = [some (.ref a), v1, v2, v3, some (.ref b), some bf, some (.int (j : Int)), some (.ref p), some (.ref w), v9, v10, v11, v12, v13] ∧ SameBut b H3 H4 ∧ Box H4 b ∧ Oth fs ag m gs zs k ∧ H4 w = some (.tup [.ref w1, .ref w2, .int k]) ∧ H4 w1 = some (.lst gs) ∧ H4 w2 = some (.lst (zs.map V.int)) ∧ w ≠ b ∧ w1 ≠ b ∧ w2 ≠ b, ?_, ?_⟩
        · refine ⟨_, rfl, _, _, rfl, rfl, _, rfl, ?_⟩
          have tb' := tb
          obtain ⟨p1, p2, hp, hp1, hp2, np, np1, np2⟩ := tb'
          have fl := tl.fl
          have al := tl.al
          have m0 := tl.m0
          have m1 := tl.m1
          have l1 := tl.up.l1
          by_cases c : (j : Int) < 5
          · rw [decide_eq_true c]
            refine ⟨_, rfl, _, rfl, b, p, p1, p2, fs, ag, m, rfl, hb3, hp, hp1, hp2, np, np1, np2, by omega, l1, by omega, by omega, m1, fun d q w w1 w2 H4 hd q0 q3 sb4 hb4 e1 e2 e3 n0 n1 n2 => ?_⟩
            exact ⟨w, w1, w2, _, _, _, rfl, sb4, hb4, tl.wide hd q0 q3, e1, e2, e3, n0, n1, n2⟩
          · rw [decide_eq_false c]
            refine ⟨_, rfl, p, _, _, _, rfl, rfl, .t hp, rfl, p1, _, rfl, .l hp1, fun w1 nw1 => ?_⟩
            refine ⟨_, rfl, p, _, _, _, rfl, rfl, .t (same_new nw1 _ _ hp), rfl, p2, _, rfl, .l (same_new nw1 _ _ hp2), fun w2 nw2 => ?_⟩
            refine ⟨_, rfl, p, _, _, _, rfl, rfl, .t (same_new nw2 _ _ (same_new nw1 _ _ hp)), rfl, by show 3 ≤ sizeLine; decide, fun w0 nw0 => ?_⟩
            have s4 := ((same_new (o := .lst fs) nw1).trans (same_new (o := .lst (ag.map V.int)) nw2)).trans (same_new (o := .tup [.ref w1, .ref w2, .int m]) nw0)
            exact ⟨w0, w1, w2, fs, ag, m, rfl, .of s4, hb3.ex s4, tl.oth, upd_same, same_new nw0 _ _ (same_new nw2 _ _ upd_same), same_new nw0 _ _ upd_same, Box.ne ((hb3.ex (same_new nw1)).ex (same_new nw2)) nw0, Box.ne hb3 nw1, Box.ne (hb3.ex (same_new nw1)) nw2⟩
        rintro σ H4 ⟨w, w1, w2, gs, zs, k, rfl, sb4, hb4, ot, hw, hw1, hw2, nw, nw1, nw2⟩
        -- first, again
        refine ⟨_, rfl, w, _, _, _, rfl, rfl, .t hw, rfl, w1, _, rfl, .l hw1, fun l1 nl1 => ?_⟩
        have s5 := same_new (o := .lst gs) nl1
        have e5 : (upd H4 l1 (.lst gs)) l1 = some (.lst gs) := upd_same
        have nb1 : l1 ≠ b := Box.ne hb4 nl1
        generalize upd H4 l1 (.lst gs) = H5 at s5 e5
        refine ⟨_, rfl, w, _, _, _, rfl, rfl, .t (s5 _ _ hw), rfl, w2, _, rfl, .l (s5 _ _ hw2), fun l2 nl2 => ⟨_, _, rfl, ?_⟩⟩
        have s6 := same_new (o := .lst (zs.map V.int)) nl2
        have e6 : (upd H5 l2 (.lst (zs.map V.int))) l2 = some (.lst (zs.map V.int)) := upd_same
        have nb2 : l2 ≠ b := Box.ne (hb4.ex s5) nl2
        have n12 : l1 ≠ l2 := ne_of_none e5 nl2
        generalize upd H5 l2 (.lst (zs.map V.int)) = H6 at s6 e6
        -- made
        refine ⟨_, rfl, _, rfl, _, rfl, w, _, _, _, rfl, rfl, .t (s6 _ _ (s5 _ _ hw)), rfl, fun x dx nx ndx hn => ?_⟩
        have s7 : Same H6 (upd (upd H6 dx (.own x)) x (.ins (He.ga K "Row") dx [])) := (same_new ndx).trans (same_new ((upd_ne (Ne.symm hn)).trans nx))
        refine ⟨x, dx, .ref l1, .ref l2, gs, zs.map V.int, k, rfl, upd_same, ⟨l1, rfl, .l (s7 _ _ (s6 _ _ e5)), ot.g1, fun y hy => ⟨false, hasT_thing (ot.th y hy)⟩⟩, ⟨l2, rfl, .l (s7 _ _ e6), by rw [List.length_map]; exact ot.z1, fun y hy => ?_⟩, ot.let_ tl, fun H7 sb7 hr7 => ⟨rfl, ?_⟩⟩
        · obtain ⟨i, _, rfl⟩ := List.mem_map.mp hy
          exact ⟨false, hasT_int i⟩
        have s67 := made_row (fs := []) (ys := []) (m := 0) nx ndx hn sb7
        rw [leastV_ints ot.z0, ot.least tl] at hr7
        have rw7 : RowL (He.ga K "Row") H7 x fs ag m := hr7
        -- changed behind
        have e7 := s67 _ _ (s6 _ _ e5)
        have f7 := s67 _ _ e6
        have g1 := ot.g1
        have z1 := ot.z1
        refine ⟨_, rfl, .inl ⟨rfl, _, .inl (.inl e7)⟩, _, _, rfl, rfl, ⟨by decide, by decide, by decide⟩, l1, _, _, rfl, rfl, e7, Nat.lt_of_le_of_lt g1 (by decide), ?_⟩
        have f8 := (upd_ne (o := .lst (gs ++ [V.int ((10 : Int) ^ (6 : Int).toNat)])) (Ne.symm n12)).trans f7
        have rw8 := RowAt.upl (o := .lst (gs ++ [V.int ((10 : Int) ^ (6 : Int).toNat)])) e7 rw7
        refine ⟨_, rfl, .inl ⟨rfl, _, .inl (.inl f8)⟩, _, _, rfl, rfl, ⟨by decide, by decide, by decide⟩, l2, _, _, rfl, rfl, f8, Nat.lt_of_le_of_lt (by rw [List.length_map]; exact z1) (show 400 < sizeLine by decide), ?_⟩
        have rw9 : RowL (He.ga K "Row") _ x fs ag m := RowAt.upl (o := .lst (zs.map V.int ++ [V.int ((10 : Int) ^ (7 : Int).toNat)])) f8 rw8
        have sb9 : SameBut b H4 (upd (upd H7 l1 (.lst (gs ++ [V.int ((10 : Int) ^ (6 : Int).toNat)]))) l2 (.lst (zs.map V.int ++ [V.int ((10 : Int) ^ (7 : Int).toNat)]))) := ((SameBut.of (s5.trans (s6.trans s67))).app nl1).app (s5.free nl2)
        have hb9 : Box (upd (upd H7 l1 (.lst (gs ++ [V.int ((10 : Int) ^ (6 : Int).toNat)]))) l2 (.lst (zs.map V.int ++ [V.int ((10 : Int) ^ (7 : Int).toNat)]))) b := by
          obtain ⟨u1, u2, u3, hu⟩ := ((hb4.ex s5).ex s6).ex s67
          exact ⟨u1, u2, u3, (upd_ne (Ne.symm nb2)).trans ((upd_ne (Ne.symm nb1)).trans hu)⟩
        generalize (upd (upd H7 l1 (.lst (gs ++ [V.int ((10 : Int) ^ (6 : Int).toNat)]))) l2 (.lst (zs.map V.int ++ [V.int ((10 : Int) ^ (7 : Int).toNat)]))) = H9 at rw9 sb9 hb9
        have bef9 : Bef (He.ga K "Row") H9 b bf := ((bef.sb hb2 sb3).sb hb3 sb4).sb hb4 sb9
        have tb9 := (tb.sb sb4).sb sb9
        have hw9 := sb9 _ _ nw hw
        have hv9 := sb9 _ _ nw1 hw1
        have hu9 := sb9 _ _ nw2 hw2
        have sbA := ((sb2.trans sb3).trans sb4).trans sb9
        clear e7 f7 f8 rw8 rw7 hr7 s67 sb7 s7 s6 e6 s5 e5 nl1 nl2
        obtain ⟨p1, p2, hp, hp1, hp2, np, np1, np2⟩ := id tb9
        obtain ⟨dx9, q1, q2, hx1, hx2, hx3⟩ := id rw9
        have fl := tl.fl
        have al := tl.al
        have m0 := tl.m0
        have m1 := tl.m1
        have l1 := tl.up.l1
        obtain ⟨lt0, lt1, lf1, ls1, ls2, lm0, lm1⟩ := tl.least
        have th1 : ∀ y ∈ (leastF fs ag m).1, isTh y = true := fun y hy => small_th (ls1 y hy)
        have th2 : ∀ y ∈ (leastF fs ag m).2.1.map V.int, isTh y = true := fun y hy => small_th (ls2 y hy)
        -- the attributes
        refine ⟨_, rfl, x, _, dx9, _, _, rfl, hx1, RR.cls, RR.nF, rfl, _, rfl, x, _, dx9, _, _, rfl, hx1, RR.cls, RR.nA, rfl, _, rfl, x, _, dx9, _, _, rfl, hx1, RR.cls, RR.nM, rfl, by show 3 ≤ sizeLine; decide, fun t nt => ?_⟩
        have s10 := same_new (o := .tup [.ref q1, .ref q2, .int (leastF fs ag m).2.2]) nt
        have e10 : (upd H9 t (.tup [.ref q1, .ref q2, .int (leastF fs ag m).2.2])) t = _ := upd_same
        generalize upd H9 t (.tup [.ref q1, .ref q2, .int (leastF fs ag m).2.2]) = H10 at s10 e10
        refine ⟨_, rfl, p, p1, p2, fs, ag, m, rfl, s10 _ _ hp, s10 _ _ hp1, s10 _ _ hp2, tl.up, fl, al, by omega, m1, fun t3 t1 t2 H11 s11 j1 j2 j3 => ?_⟩
        have sa1 := s10.trans s11
        refine ⟨_, _, dp_parts (s11 _ _ e10) (sa1 _ _ hx2) (sa1 _ _ hx3) th1 th2, dp_parts j1 j2 j3 th1 th2, shaped_parts _ _ _, shaped_parts _ _ _, _, rfl, ?_⟩
        rw [eqv_parts th1 th2 th1 th2, decide_eq_true ⟨rfl, rfl, rfl⟩]
        refine ⟨_, rfl, _, rfl, p, p1, p2, fs, ag, m, rfl, sa1 _ _ hp, sa1 _ _ hp1, sa1 _ _ hp2, by omega, by omega, tl.up.things, tl.oth.let_ tl, fun x2 H12 s12 hx2' => ?_⟩
        rw [leastV_ints l1] at hx2'
        have sa2 := sa1.trans s12
        refine .mk x dx9 _ (.ref _) rfl (sa2 _ _ hx1) (RowAt.ty RR T hx2') notFirst_self ⟨x, .ref x2, _, _, _, rfl, RowAt.ex sa2 rw9, .inr ⟨x2, _, _, _, rfl, hx2', th1, th2, th1, th2, fun H13 s13 => ⟨_, rfl, _, rfl, ?_⟩⟩⟩
        rw [decide_eq_true ⟨rfl, rfl, rfl⟩]
        have sa3 := sa2.trans s13
        refine q_no rfl ?_
        dsimp only [List.map_cons, List.map_nil]
        -- the times
        refine q_seq (q_if (q_tst (q_op ?_)))
        refine ⟨30, rfl, by decide, by decide, fun D nD => ?_⟩
        rw [show Int.toNat 30 = 30 from rfl]
        have eT : ∀ n, seqT (leastF fs ag m).1 (leastF fs ag m).2.1 (leastF fs ag m).2.2 n = seqT fs ag m n := (least_keeps l1).1
        have rw13 : RowL (He.ga K "Row") H13 x fs ag m := RowAt.ex sa3 rw9
        refine lc_rg (seqT fs ag m) (by decide) nD (fun n hn H14 s14 R r => ?_) fun H14 s14 hD => ?_
        · have r14 : RowL (He.ga K "Row") H14 x fs ag m := RowAt.ex s14 rw13
          obtain ⟨dy, y1, y2, hy1, hy2, hy3⟩ := id r14
          refine ⟨_, rfl, x, dy, _, rfl, hy1, rfl, _, rfl, x, _, _, _, n, ?_, r14, lt0, by omega, by omega, lm1, ?_⟩
          · rw [show (0 : Int) + (n : Int) = (n : Int) by omega]
            rfl
          · rw [eT]
            exact r H14 (Same.refl H14)
        have sa4 := sa3.trans s14
        refine ⟨_, rfl, p, p1, p2, fs, ag, m, 30, rfl, sa4 _ _ hp, sa4 _ _ hp1, sa4 _ _ hp2, l1, by omega, by omega, m1, by decide, fun D2 H15 s15 nD2 hD2 => ?_⟩
        have thT : ∀ N, ∀ y ∈ (List.range N).map (seqT fs ag m), isTh y = true := fun N y hy => by
          obtain ⟨n, _, rfl⟩ := List.mem_map.mp hy
          exact thing_th (seqT_thg tl.up.things n)
        refine ⟨_, _, dp_list (s15 _ _ hD) (thT 30), dp_list hD2 (thT 30), shaped_list _, shaped_list _, _, rfl, ?_⟩
        rw [eqv_list (thT 30) (thT 30), decide_eq_true rfl]
        refine q_no rfl ?_
        dsimp only
        -- far off
        have sa5 := sa4.trans s15
        have r15 : RowL (He.ga K "Row") H15 x fs ag m := RowAt.ex sa5 rw9
        refine q_seq (q_if (q_tst (q_op ?_)))
        refine ⟨_, rfl, x, dx9, _, rfl, sa5 _ _ hx1, rfl, _, _, rfl, rfl, ⟨by decide, by decide, by decide⟩, x, _, _, _, 1000000000000000, congrArg (fun i => [V.ref x, V.int i]) ten15, r15, lt0, by omega, by omega, lm1, ?_⟩
        rw [eT]
        refine ⟨_, rfl, _, _, rfl, rfl, ⟨by decide, by decide, by decide⟩, p, p1, p2, fs, ag, m, 1000000000000000, congrArg (fun i => [V.ref p, V.int i]) ten15, sa5 _ _ hp, sa5 _ _ hp1, sa5 _ _ hp2, l1, by omega, by omega, m1, ?_⟩
        rw [seqT_ge (fs := fs) (ag := ag) (m := m) (n := 1000000000000000) (by omega)]
        refine ⟨rfl, _, rfl, ?_⟩
        rw [decide_eq_true rfl]
        refine q_no rfl ?_
        dsimp only
        -- equal to nothing else
        refine q_seq (q_if ?_)
        refine ⟨_, rfl, _, rfl, p, p1, p2, fs, ag, m, rfl, sa5 _ _ hp, sa5 _ _ hp1, sa5 _ _ hp2, tl.up, fl, al, by omega, m1, fun t4 t5 t6 H16 s16 j4 j5 j6 => ?_⟩
        have sa6 := sa5.trans s16
        refine .mk x dx9 _ (.type "tuple") rfl (sa6 _ _ hx1) (.base (.tup j4)) apT.nf ⟨x, .ref t4, _, _, _, rfl, RowAt.ex sa6 rw9, .inl ⟨"tuple", .base (.tup j4), apT.no, ⟨_, rfl, _, rfl, ?_⟩⟩⟩
        refine ⟨_, rfl, _, rfl, ?_⟩
        refine .mk x dx9 _ rfl (sa6 _ _ hx1) ⟨x, _, _, _, rfl, RowAt.ex sa6 rw9, by omega, by rw [List.length_map]; omega, ls1, ls2, small_log (by omega) (by omega), fun H17 s17 => ⟨_, rfl, ?_⟩⟩
        have sa7 := sa6.trans s17
        refine .mk x dx9 _ (.type "str") rfl (sa7 _ _ hx1) (.base (.str _)) apS.nf ⟨x, .str _, _, _, _, rfl, RowAt.ex sa7 rw9, .inl ⟨"str", .base (.str _), apS.no, ⟨_, rfl, _, rfl, ?_⟩⟩⟩
        refine ⟨_, rfl, _, rfl, w, _, _, _, rfl, rfl, .t (sa7 _ _ hw9), rfl, tupq (.l (sa7 _ _ hv9)) fun u1 H18 s18 k1 => ⟨_, rfl, w, _, _, _, rfl, rfl, .t ((sa7.trans s18) _ _ hw9), rfl, tupq (.l ((sa7.trans s18) _ _ hu9)) fun u2 H19 s19 k2 => ⟨_, rfl, w, _, _, _, rfl, rfl, .t (((sa7.trans s18).trans s19) _ _ hw9), rfl, fun y dy ny ndy hny => ?_⟩⟩⟩
        have s20 : Same H19 (upd (upd H19 dy (.own y)) y (.ins (He.ga K "Row") dy [])) := (same_new ndy).trans (same_new ((upd_ne (Ne.symm hny)).trans ny))
        refine ⟨y, dy, .ref u1, .ref u2, gs, zs.map V.int, k, rfl, upd_same, ⟨u1, rfl, (k1.ex s19).ex s20, ot.g1, fun y hy => ⟨false, hasT_thing (ot.th y hy)⟩⟩, ⟨u2, rfl, k2.ex s20, by rw [List.length_map]; exact ot.z1, fun y hy => ?_⟩, ot.let_ tl, fun H20 sb20 hr20 => ⟨rfl, ?_⟩⟩
        · obtain ⟨i, _, rfl⟩ := List.mem_map.mp hy
          exact ⟨false, hasT_int i⟩
        have s920 := made_row (fs := []) (ys := []) (m := 0) ny ndy hny sb20
        rw [leastV_ints ot.z0, ot.least tl] at hr20
        have sa8 := ((sa7.trans s18).trans s19).trans s920
        refine .mk x dx9 _ (.ref _) rfl (sa8 _ _ hx1) (RowAt.ty RR T hr20) notFirst_self ⟨x, .ref y, _, _, _, rfl, RowAt.ex sa8 rw9, .inr ⟨y, _, _, _, rfl, hr20, th1, th2, th1, th2, fun H21 s21 => ⟨_, rfl, _, rfl, ?_⟩⟩⟩
        rw [decide_eq_true ⟨rfl, rfl, rfl⟩]
        refine q_no rfl ?_
        dsimp only
        have sa9 := sa8.trans s21
        rcases bef9 with hbf | ⟨qb, xb, pb, fb, gb, mb, hbf, hqb, nqb, tlb, rwb, tbb⟩
        · subst hbf
          refine ⟨_, rfl, rfl, false, rfl, ?_⟩
          refine ⟨_, rfl, rfl, _, rfl, ?_⟩
          refine ⟨_, rfl, _, rfl, by show 2 ≤ sizeLine; decide, fun qn nqn => ?_⟩
          have s22 := sa9.trans (same_new (o := .tup [.ref x, .ref p]) nqn)
          exact ⟨_, _, _, _, _, _, _, _, _, _, _, .ref qn, rfl, sbA.trans (.of s22), hb9.ex s22, .inr ⟨qn, x, p, fs, ag, m, rfl, upd_same, Box.ne (hb9.ex sa9) nqn, tl, RowAt.ex s22 rw9, tb9.sb (.of s22)⟩⟩
        · subst hbf
          obtain ⟨r1, r2, hpb, hpb1, hpb2, npb, npb1, npb2⟩ := id tbb
          have flb := tlb.fl
          have alb := tlb.al
          have mb0 := tlb.m0
          have mb1 := tlb.m1
          have lb1 := tlb.up.l1
          obtain ⟨_, _, _, lb3, lb4, _, _⟩ := tlb.least
          have tb1 : ∀ y ∈ (leastF fb gb mb).1, isTh y = true := fun y hy => small_th (lb3 y hy)
          have tb2 : ∀ y ∈ (leastF fb gb mb).2.1.map V.int, isTh y = true := fun y hy => small_th (lb4 y hy)
          have thB : ∀ N, ∀ y ∈ (List.range N).map (seqT fb gb mb), isTh y = true := fun N y hy => by
            obtain ⟨n, _, rfl⟩ := List.mem_map.mp hy
            exact thing_th (seqT_thg tlb.up.things n)
          refine ⟨_, rfl, rfl, true, rfl, ?_⟩
          refine ⟨_, rfl, p, p1, p2, fs, ag, m, 60, rfl, sa9 _ _ hp, sa9 _ _ hp1, sa9 _ _ hp2, l1, by omega, by omega, m1, by decide, fun D3 H22 s22 nD3 hD3 => ?_⟩
          have sc1 := sa9.trans s22
          refine ⟨_, rfl, qb, _, _, _, rfl, rfl, .t (sc1 _ _ hqb), rfl, pb, r1, r2, fb, gb, mb, 60, rfl, sc1 _ _ hpb, sc1 _ _ hpb1, sc1 _ _ hpb2, lb1, by omega, by omega, mb1, by decide, fun D4 H23 s23 nD4 hD4 => ?_⟩
          refine ⟨_, _, dp_list (s23 _ _ hD3) (thT 60), dp_list hD4 (thB 60), shaped_list _, shaped_list _, ?_⟩
          rw [eqv_list (thT 60) (thB 60)]
          have sc2 := sc1.trans s23
          refine ⟨_, rfl, rfl, _, rfl, ?_⟩
          refine ⟨_, rfl, _, rfl, qb, _, _, _, rfl, rfl, .t (sc2 _ _ hqb), rfl, ?_⟩
          have rb2 : RowL (He.ga K "Row") H23 xb fb gb mb := RowAt.ex sc2 rwb
          refine .mk x dx9 _ (.ref _) rfl (sc2 _ _ hx1) (RowAt.ty RR T rb2) notFirst_self ⟨x, .ref xb, _, _, _, rfl, RowAt.ex sc2 rw9, .inr ⟨xb, _, _, _, rfl, rb2, th1, th2, tb1, tb2, fun H24 s24 => ⟨_, rfl, ?_⟩⟩⟩
          refine ⟨_, rfl, rfl, _, rfl, ?_⟩
          have xy : decide ((List.range 60).map (seqT fs ag m) = (List.range 60).map (seqT fb gb mb)) = decide ((leastF fs ag m).1 = (leastF fb gb mb).1 ∧ (leastF fs ag m).2.1.map V.int = (leastF fb gb mb).2.1.map V.int ∧ (leastF fs ag m).2.2 = (leastF fb gb mb).2.2) := by
            rw [decide_eq_decide]
            exact same60 tl tlb
          rw [xy]
          refine q_no (by simp) ?_
          have sc3 := sc2.trans s24
          refine ⟨_, rfl, _, rfl, by show 2 ≤ sizeLine; decide, fun qn nqn => ?_⟩
          have s25 := sc3.trans (same_new (o := .tup [.ref x, .ref p]) nqn)
          exact ⟨_, _, _, _, _, _, _, _, _, _, _, .ref qn, rfl, sbA.trans (.of s25), hb9.ex s25, .inr ⟨qn, x, p, fs, ag, m, rfl, upd_same, Box.ne (hb9.ex sc3) nqn, tl, RowAt.ex s25 rw9, tb9.sb (.of s25)⟩⟩
      · rintro σ Hc ⟨v1, v2, v3, v6, v7, v8, v9, v10, v11, v12, v13, bf, rfl, sbc, hbc, _⟩
        refine ⟨_, _, _, _, _, _, _, _, _, _, _, _, _, rfl, ?_⟩
        intro a' o' ha'
        have h1' := s1 a' o' (sH a' o' ha')
        exact sbc a' o' (ne_of_none (sH a' o' ha') nb) h1'
    · rintro σ Hc ⟨v1, v2, v3, v4, v5, v6, v7, v8, v9, v10, v11, v12, v13, rfl, sH⟩
      have th0 : ∀ y ∈ ([] : List V), isTh y = true := fun y hy => nomatch hy
      have thN : ∀ y ∈ [V.non], isTh y = true := fun y hy => by
        rw [List.mem_singleton.mp hy]
        rfl
      have thI : ∀ y ∈ [V.int 0], isTh y = true := fun y hy => by
        rw [List.mem_singleton.mp hy]
        rfl
      refine ⟨by show 2 ≤ sizeLine; decide, fun c1 n1 => ⟨by show 3 ≤ sizeLine; decide, fun c2 n2 x dx nx ndx hn => ?_⟩⟩
      have s1 : Same (upd (upd Hc c1 (.lst [.non, .non])) c2 (.lst [.non, .non, .non])) (upd (upd (upd (upd Hc c1 (.lst [.non, .non])) c2 (.lst [.non, .non, .non])) dx (.own x)) x (.ins (He.ga K "Row") dx [])) := (same_new ndx).trans (same_new ((upd_ne (Ne.symm hn)).trans nx))
      have h1 := s1 _ _ (same_new n2 _ _ (upd_same (H := Hc) (a := c1) (o := .lst [.non, .non])))
      have h2 := s1 _ _ (upd_same (H := upd Hc c1 (.lst [.non, .non])) (a := c2) (o := .lst [.non, .non, .non]))
      refine ⟨x, dx, .ref c1, .ref c2, [.non, .non], [.non, .non, .non], 0, rfl, upd_same, ⟨c1, rfl, .l h1, by decide, fun y hy => ?_⟩, ⟨c2, rfl, .l h2, by decide, fun y hy => ?_⟩, by decide +kernel, fun H1 sb hr1 => ⟨rfl, ?_⟩⟩
      · simp only [List.mem_cons, List.not_mem_nil, or_false, or_self] at hy
        rw [hy]
        exact ⟨false, hasT_non⟩
      · simp only [List.mem_cons, List.not_mem_nil, or_false, or_self] at hy
        rw [hy]
        exact ⟨false, hasT_non⟩
      have eN : leastV [.non, .non] [.non, .non, .non] 0 = ([], [.non], 0) := by decide +kernel
      rw [eN] at hr1
      have hr1 : RowAt (He.ga K "Row") H1 x [] [.non] 0 := hr1
      refine ⟨rfl, fun x2 H2 s2 hx2 => ?_⟩
      obtain ⟨dx1, a1, a2, ha0, ha1, ha2⟩ := id (RowAt.ex s2 hr1)
      refine ⟨_, rfl, _, rfl, .mk x dx1 _ (.ref _) rfl ha0 (RowAt.ty RR T hx2) notFirst_self ⟨x, .ref x2, _, _, _, rfl, RowAt.ex s2 hr1, .inr ⟨x2, _, _, _, rfl, hx2, th0, thN, th0, thN, fun H3 s3 => ⟨_, rfl, _, rfl, ?_⟩⟩⟩⟩
      rw [decide_eq_true ⟨rfl, rfl, rfl⟩]
      obtain ⟨dx2, b1, b2, hb0, hb1, hb2⟩ := id (RowAt.ex s3 hx2)
      refine ⟨_, rfl, x2, _, dx2, _, _, rfl, hb0, RR.cls, RR.nF, rfl, _, rfl, x2, _, dx2, _, _, rfl, hb0, RR.cls, RR.nA, rfl, _, rfl, x2, _, dx2, _, _, rfl, hb0, RR.cls, RR.nM, rfl, by show 3 ≤ sizeLine; decide, fun t nt => ?_⟩
      refine ⟨by show 0 ≤ sizeLine; decide, fun t1 nt1 => ⟨by show 1 ≤ sizeLine; decide, fun t2 nt2 => ⟨by show 3 ≤ sizeLine; decide, fun t3 nt3 => ?_⟩⟩⟩
      have s4 := same_new (o := .tup [.ref b1, .ref b2, .int 0]) nt
      have s5 := same_new (o := .tup []) nt1
      have s6 := same_new (o := .tup [.non]) nt2
      have s7 := same_new (o := .tup [.ref t1, .ref t2, .int 0]) nt3
      have s46 := ((s4.trans s5).trans s6).trans s7
      refine ⟨_, _, dp_parts (fs := []) (ys := [.non]) (s7 _ _ (s6 _ _ (s5 _ _ upd_same))) (s46 _ _ hb1) (s46 _ _ hb2) th0 thN, dp_parts (fs := []) (ys := [.non]) upd_same (s7 _ _ (s6 _ _ upd_same)) (s7 _ _ upd_same) th0 thN, shaped_parts _ _ _, shaped_parts _ _ _, _, rfl, ?_⟩
      rw [eqv_parts th0 thN th0 thN, decide_eq_true ⟨rfl, rfl, rfl⟩]
      refine q_no rfl ?_
      dsimp only
      have hx4 := RowAt.ex (s3.trans s46) hx2
      generalize (upd (upd (upd (upd H3 t (.tup [.ref b1, .ref b2, .int 0])) t1 (.tup [])) t2 (.tup [.non])) t3 (.tup [.ref t1, .ref t2, .int 0])) = H4 at hx4
      refine ⟨rfl, fun x3 H5 s8 hx3 => ?_⟩
      refine ⟨by show 2 ≤ sizeLine; decide, fun c3 n3 => ⟨by show 2 ≤ sizeLine; decide, fun c4 n4 y dy ny ndy hny => ?_⟩⟩
      have s9 : Same (upd (upd H5 c3 (.lst [.int 0, .int 0])) c4 (.lst [.int 0, .int 0])) (upd (upd (upd (upd H5 c3 (.lst [.int 0, .int 0])) c4 (.lst [.int 0, .int 0])) dy (.own y)) y (.ins (He.ga K "Row") dy [])) := (same_new ndy).trans (same_new ((upd_ne (Ne.symm hny)).trans ny))
      have h3 := s9 _ _ (same_new n4 _ _ (upd_same (H := H5) (a := c3) (o := .lst [.int 0, .int 0])))
      have h4 := s9 _ _ (upd_same (H := upd H5 c3 (.lst [.int 0, .int 0])) (a := c4) (o := .lst [.int 0, .int 0]))
      refine ⟨y, dy, .ref c3, .ref c4, [.int 0, .int 0], [.int 0, .int 0], 0, rfl, upd_same, ⟨c3, rfl, .l h3, by decide, fun y hy => ?_⟩, ⟨c4, rfl, .l h4, by decide, fun y hy => ?_⟩, by decide +kernel, fun H6 sb6 hr6 => ⟨rfl, ?_⟩⟩
      · simp only [List.mem_cons, List.not_mem_nil, or_false, or_self] at hy
        rw [hy]
        exact ⟨false, hasT_int 0⟩
      · simp only [List.mem_cons, List.not_mem_nil, or_false, or_self] at hy
        rw [hy]
        exact ⟨false, hasT_int 0⟩
      have eI : leastV [.int 0, .int 0] [.int 0, .int 0] 0 = ([], [.int 0], 0) := by decide +kernel
      rw [eI] at hr6
      have hr6 : RowAt (He.ga K "Row") H6 y [] [.int 0] 0 := hr6
      have s10 : Same H5 H6 := ((same_new n3).trans (same_new n4)).trans (made_row (fs := []) (ys := []) (m := 0) ny ndy hny sb6)
      obtain ⟨dx3, d1, d2, hd0, hd1, hd2⟩ := id (RowAt.ex s10 hx3)
      refine .mk x3 dx3 _ (.ref _) rfl hd0 (RowAt.ty RR T hr6) notFirst_self ⟨x3, .ref y, _, _, _, rfl, RowAt.ex s10 hx3, .inr ⟨y, _, _, _, rfl, hr6, th0, thI, th0, thI, fun H7 s11 => ⟨_, rfl, true, ?_, ?_⟩⟩⟩
      · rw [decide_eq_true ⟨rfl, rfl, rfl⟩]
        rfl
      refine ⟨rfl, fun x5 H8 s12 hx5 => ?_⟩
      have hx6 := RowAt.ex ((s8.trans s10).trans (s11.trans s12)) hx4
      obtain ⟨dx5, f1, f2, hf0, hf1, hf2⟩ := id hx5
      refine ⟨_, rfl, .mk x5 dx5 _ (.ref _) rfl hf0 (RowAt.ty RR T hx6) notFirst_self ⟨x5, .ref x2, _, _, _, rfl, hx5, .inr ⟨x2, _, _, _, rfl, hx6, th0, thI, th0, thN, fun H9 s13 => ⟨_, rfl, ?_⟩⟩⟩⟩
      rw [decide_eq_false (fun z => by cases z.2.1)]
      exact q H9
end
end WW

set_option Elab.async false
set_option linter.all false
set_option maxRecDepth 100000
set_option maxHeartbeats 0
namespace WW
open PySem PySem.Spec PyProof.Rows L2
def d_l_take : He5.DefA := ⟨fun K => He.fAd K ("_law_take", none), "_law_take", "_law_take", defArgs s_l_take, defBody s_l_take, defScope s_l_take, [], []⟩
def d_l_pick : He5.DefA := ⟨fun K => He.fAd K ("_law_pick", none), "_law_pick", "_law_pick", defArgs s_l_pick, defBody s_l_pick, defScope s_l_pick, [], []⟩
def d_is_integer : He5.DefA := ⟨fun K => He.fAd K ("is_integer", none), "is_integer", "is_integer", defArgs s_is_integer, defBody s_is_integer, defScope s_is_integer, [], []⟩
def d_is_number : He5.DefA := ⟨fun K => He.fAd K ("is_number", none), "is_number", "is_number", defArgs s_is_number, defBody s_is_number, defScope s_is_number, [], []⟩
def d_is_sequence : He5.DefA := ⟨fun K => He.fAd K ("is_sequence", none), "is_sequence", "is_sequence", defArgs s_is_sequence, defBody s_is_sequence, defScope s_is_sequence, [], []⟩
def d_is_thing : He5.DefA := ⟨fun K => He.fAd K ("is_thing", none), "is_thing", "is_thing", defArgs s_is_thing, defBody s_is_thing, defScope s_is_thing, [], []⟩
def d_is_below : He5.DefA := ⟨fun K => He.fAd K ("is_below", none), "is_below", "is_below", defArgs s_is_below, defBody s_is_below, defScope s_is_below, [], []⟩
def d_are_rising : He5.DefA := ⟨fun K => He.fAd K ("are_rising", none), "are_rising", "are_rising", defArgs s_are_rising, defBody s_are_rising, defScope s_are_rising, [], []⟩
def d_wrong_word : He5.DefA := ⟨fun K => He.fAd K ("wrong_word", none), "wrong_word", "wrong_word", defArgs s_wrong_word, defBody s_wrong_word, defScope s_wrong_word, [], []⟩
def d_is_turn : He5.DefA := ⟨fun K => He.fAd K ("is_turn", none), "is_turn", "is_turn", defArgs s_is_turn, defBody s_is_turn, defScope s_is_turn, [], []⟩
def d_least_form : He5.DefA := ⟨fun K => He.fAd K ("least_form", none), "least_form", "least_form", defArgs s_least_form, defBody s_least_form, defScope s_least_form, [], []⟩
def d_Row___init__ : He5.DefA := ⟨fun K => He.fAd K ("Row", some "__init__"), "__init__", "Row.__init__", defArgs s_Row___init__, defBody s_Row___init__, defScope s_Row___init__, [.int 0], []⟩
def d_l_box : He5.DefA := ⟨fun K => He.fAd K ("_law_box", none), "_law_box", "_law_box", defArgs s_l_box, defBody s_l_box, defScope s_l_box, [], []⟩
def d_l_row : He5.DefA := ⟨fun K => He.fAd K ("_law_row", none), "_law_row", "_law_row", defArgs s_l_row, defBody s_l_row, defScope s_l_row, [], []⟩
def d_l_time : He5.DefA := ⟨fun K => He.fAd K ("_law_time", none), "_law_time", "_law_time", defArgs s_l_time, defBody s_l_time, defScope s_l_time, [], []⟩
def d_l_times : He5.DefA := ⟨fun K => He.fAd K ("_law_times", none), "_law_times", "_law_times", defArgs s_l_times, defBody s_l_times, defScope s_l_times, [], []⟩
def d_l_made : He5.DefA := ⟨fun K => He.fAd K ("_law_made", none), "_law_made", "_law_made", defArgs s_l_made, defBody s_l_made, defScope s_l_made, [], []⟩
def d_Row_time : He5.DefA := ⟨fun K => He.fAd K ("Row", some "time"), "time", "Row.time", defArgs s_Row_time, defBody s_Row_time, defScope s_Row_time, [], []⟩
def d_Row_parts : He5.DefA := ⟨fun K => He.fAd K ("Row", some "parts"), "parts", "Row.parts", defArgs s_Row_parts, defBody s_Row_parts, defScope s_Row_parts, [], []⟩
def d_Row___eq__ : He5.DefA := ⟨fun K => He.fAd K ("Row", some "__eq__"), "__eq__", "Row.__eq__", defArgs s_Row___eq__, defBody s_Row___eq__, defScope s_Row___eq__, [], []⟩
def d_word_of : He5.DefA := ⟨fun K => He.fAd K ("word_of", none), "word_of", "word_of", defArgs s_word_of, defBody s_word_of, defScope s_word_of, [], []⟩
def d_Row___str__ : He5.DefA := ⟨fun K => He.fAd K ("Row", some "__str__"), "__str__", "Row.__str__", defArgs s_Row___str__, defBody s_Row___str__, defScope s_Row___str__, [], []⟩
def d_l_wide : He5.DefA := ⟨fun K => He.fAd K ("_law_wide", none), "_law_wide", "_law_wide", defArgs s_l_wide, defBody s_l_wide, defScope s_l_wide, [], []⟩
def d_l_great : He5.DefA := ⟨fun K => He.fAd K ("_law_great", none), "_law_great", "_law_great", defArgs s_l_great, defBody s_l_great, defScope s_l_great, [], []⟩
def d_l_least : He5.DefA := ⟨fun K => He.fAd K ("_law_least", none), "_law_least", "_law_least", defArgs s_l_least, defBody s_l_least, defScope s_l_least, [], []⟩
def d_unit : He5.DefA := ⟨fun K => He.fAd K ("unit", none), "unit", "unit", defArgs s_unit, defBody s_unit, defScope s_unit, [], []⟩
def d_empty : He5.DefA := ⟨fun K => He.fAd K ("empty", none), "empty", "empty", defArgs s_empty, defBody s_empty, defScope s_empty, [], []⟩
def d_law : He5.DefA := ⟨fun K => He.fAd K ("law", none), "law", "law", defArgs s_law, defBody s_law, defScope s_law, [], []⟩
def steps : Nat := 4000
def fn : List He5.DefA := ([d_l_take, d_l_pick, d_is_integer, d_is_number, d_is_sequence, d_is_thing, d_is_below, d_are_rising, d_wrong_word, d_is_turn, d_least_form, d_Row___init__] : List He5.DefA) ++ ([d_l_box, d_l_row, d_l_time, d_l_times, d_l_made, d_Row_time, d_Row_parts, d_Row___eq__, d_word_of, d_Row___str__, d_l_wide, d_l_great] : List He5.DefA) ++ ([d_l_least, d_unit, d_empty, d_law] : List He5.DefA)
def fa : List He.Fa := ([.glo "_law_take", .glo "_law_pick", .glo "is_integer", .glo "is_number", .glo "is_sequence", .glo "is_thing", .glo "is_below", .glo "are_rising", .glo "wrong_word", .glo "is_turn", .glo "least_form", .glo "_law_box"] : List He.Fa) ++ ([.glo "_law_row", .glo "_law_time", .glo "_law_times", .glo "_law_made", .glo "word_of", .glo "_law_wide", .glo "_law_great", .glo "_law_least", .glo "unit", .glo "empty", .glo "law", .free "int"] : List He.Fa) ++ ([.free "len", .free "isinstance", .free "bool", .free "list", .free "tuple", .free "any", .free "all", .free "range", .free "abs", .free "max", .free "min", .free "str"] : List He.Fa) ++ ([.cls "Row", .noat "Row" "first", .noat "Row" "again", .noat "Row" "more", .meth "Row" "time", .meth "Row" "parts", .mkr "Row", .glo "Row"] : List He.Fa)
def loose : List Str := (["_wall", "WaitError", "InvalidRow", "InvalidText", "DIGITS", "is_integer", "is_number", "is_sequence", "number_in", "integer_in", "MOST_DIGITS", "is_thing"] : List Str) ++ (["is_below", "are_rising", "wrong_word", "is_turn", "least_form", "Row", "word_of", "things_in", "unit", "empty", "_law_box", "_law_take"] : List Str) ++ (["_law_pick", "_law_mixed", "_law_row", "_law_time", "_law_times", "_law_made", "_law_wide", "_law_least", "_law_great"] : List Str)
abbrev R : PySem.W.OpenRow := PySem.W.OpenLaw.row PySem.Challenge.rw_waitworks_k02_rows_made
def exK (K : PySem.W.Frag) : Bool := tyB K (He.ga K "Row") && (apB K (He.ga K "Row") "tuple" && (apB K (He.ga K "Row") "str" && (eqB K (He.ga K "Row") && (strB K (He.ga K "Row")))))
abbrev hk : PySem.W.Hook := hookW 7 fa fn exK
def ob (s : PySem.W.SharedT) : He.AlD × Bool := obsW 7 fa fn exK (HandSHeadRun.getT s)
theorem ob_eq (s : PySem.W.SharedT) : ob s = hk.obs s.abs := obsW_eq (HandSHeadRun.getT_eq s)
theorem run (w : World) : HandSHeadRun.RunEq R (PySem.W.view R.prog [37]) hk ob steps loose w := by
  intro os
  kernel_rfl
/-- Row(a, b, c): every parameter is written, a default stands behind -/
theorem init_binds {K : PySem.W.Frag} {f : Addr} {fd : FuncData} (F : FunD K "__init__" "Row.__init__" (defArgs s_Row___init__) (defBody s_Row___init__) (defScope s_Row___init__) [.int 0] [] f fd) : Binds K fd ["self", "first", "again", "more"] [] := by
  obtain ⟨ds, v, b⟩ := F.binds1 (ps := ["self", "first", "again", "more"]) 4 1 (List.cons_ne_nil _ _) rfl fun T kV doc pm an cdv ct us its hu hi => by
    match us, hu, its, hi with
    | [u1, u2, u3, u4], _, [i1], _ => exact ⟨_, rfl, rfl⟩
  cases v
  exact b
/-- Row(a, b): the growth is the default -/
theorem init_binds2 {K : PySem.W.Frag} {f : Addr} {fd : FuncData} (F : FunD K "__init__" "Row.__init__" (defArgs s_Row___init__) (defBody s_Row___init__) (defScope s_Row___init__) [.int 0] [] f fd) : ∃ ds, Vals [.int 0] ds ∧ Binds K fd ["self", "first", "again", "more"] ds :=
  F.binds1 (ps := ["self", "first", "again", "more"]) 3 0 (List.cons_ne_nil _ _) rfl fun T kV doc pm an cdv ct us its hu hi => by
    match us, hu, its, hi with
    | [u1, u2, u3], _, [i1], _ => exact ⟨_, rfl, rfl⟩
theorem facts {P : Program} {w : World} {K : PySem.W.Frag} {h : Heap} {mg : Str → Option Value} {f : Addr} (X : K.In h) (G : h.Ns mainGlobals mg) (hfa : mg ("law" : Str) = some (.ref f)) (c : SaysW fa fn exK K) :
    ∃ fd : FuncData, (∀ (s : Shared) (v : Value), BindsTo s fd ⟨[v], []⟩ [("_law_script", v)]) ∧ ∀ base : Heap, K.In base → base.Ns mainGlobals mg → FnOk P w K mg base CX0 7 f fd ["_law_script"] (spLaw K) := by
  obtain ⟨c, cx⟩ := c
  obtain ⟨x_ty, cx⟩ := He.ba cx
  obtain ⟨x_apT, cx⟩ := He.ba cx
  obtain ⟨x_apS, cx⟩ := He.ba cx
  obtain ⟨x_eq, cx⟩ := He.ba cx
  have x_str := cx
  have m_int := He.free_ok X G (c.fact 23 (f := .free "int") rfl)
  have m_len := He.free_ok X G (c.fact 24 (f := .free "len") rfl)
  have m_isinstance := He.free_ok X G (c.fact 25 (f := .free "isinstance") rfl)
  have m_bool := He.free_ok X G (c.fact 26 (f := .free "bool") rfl)
  have m_list := He.free_ok X G (c.fact 27 (f := .free "list") rfl)
  have m_tuple := He.free_ok X G (c.fact 28 (f := .free "tuple") rfl)
  have m_any := He.free_ok X G (c.fact 29 (f := .free "any") rfl)
  have m_all := He.free_ok X G (c.fact 30 (f := .free "all") rfl)
  have m_range := He.free_ok X G (c.fact 31 (f := .free "range") rfl)
  have m_abs := He.free_ok X G (c.fact 32 (f := .free "abs") rfl)
  have m_max := He.free_ok X G (c.fact 33 (f := .free "max") rfl)
  have m_min := He.free_ok X G (c.fact 34 (f := .free "min") rfl)
  have m_str := He.free_ok X G (c.fact 35 (f := .free "str") rfl)
  have m_Row := He.glo_ok X G (c.fact 43 (f := .glo "Row") rfl)
  have RR : RowC K (He.ga K "Row") := ⟨He.cls_ok (c.fact 36 (f := .cls "Row") rfl), He.noat_ok (c.fact 37 (f := .noat "Row" "first") rfl), He.noat_ok (c.fact 38 (f := .noat "Row" "again") rfl), He.noat_ok (c.fact 39 (f := .noat "Row" "more") rfl)⟩
  have tyc := tyB_ok x_ty
  have apT := apB_ok x_apT
  have apS := apB_ok x_apS
  obtain ⟨fd_l_take, F_l_take⟩ := c.def_ 0 (d := d_l_take) rfl
  obtain ⟨fd_l_pick, F_l_pick⟩ := c.def_ 1 (d := d_l_pick) rfl
  obtain ⟨fd_is_integer, F_is_integer⟩ := c.def_ 2 (d := d_is_integer) rfl
  obtain ⟨fd_is_number, F_is_number⟩ := c.def_ 3 (d := d_is_number) rfl
  obtain ⟨fd_is_sequence, F_is_sequence⟩ := c.def_ 4 (d := d_is_sequence) rfl
  obtain ⟨fd_is_thing, F_is_thing⟩ := c.def_ 5 (d := d_is_thing) rfl
  obtain ⟨fd_is_below, F_is_below⟩ := c.def_ 6 (d := d_is_below) rfl
  obtain ⟨fd_are_rising, F_are_rising⟩ := c.def_ 7 (d := d_are_rising) rfl
  obtain ⟨fd_wrong_word, F_wrong_word⟩ := c.def_ 8 (d := d_wrong_word) rfl
  obtain ⟨fd_is_turn, F_is_turn⟩ := c.def_ 9 (d := d_is_turn) rfl
  obtain ⟨fd_least_form, F_least_form⟩ := c.def_ 10 (d := d_least_form) rfl
  obtain ⟨fd_Row___init__, F_Row___init__⟩ := c.def_ 11 (d := d_Row___init__) rfl
  obtain ⟨fd_l_box, F_l_box⟩ := c.def_ 12 (d := d_l_box) rfl
  obtain ⟨fd_l_row, F_l_row⟩ := c.def_ 13 (d := d_l_row) rfl
  obtain ⟨fd_l_time, F_l_time⟩ := c.def_ 14 (d := d_l_time) rfl
  obtain ⟨fd_l_times, F_l_times⟩ := c.def_ 15 (d := d_l_times) rfl
  obtain ⟨fd_l_made, F_l_made⟩ := c.def_ 16 (d := d_l_made) rfl
  obtain ⟨fd_Row_time, F_Row_time⟩ := c.def_ 17 (d := d_Row_time) rfl
  obtain ⟨fd_Row_parts, F_Row_parts⟩ := c.def_ 18 (d := d_Row_parts) rfl
  obtain ⟨fd_Row___eq__, F_Row___eq__⟩ := c.def_ 19 (d := d_Row___eq__) rfl
  obtain ⟨fd_word_of, F_word_of⟩ := c.def_ 20 (d := d_word_of) rfl
  obtain ⟨fd_Row___str__, F_Row___str__⟩ := c.def_ 21 (d := d_Row___str__) rfl
  obtain ⟨fd_l_wide, F_l_wide⟩ := c.def_ 22 (d := d_l_wide) rfl
  obtain ⟨fd_l_great, F_l_great⟩ := c.def_ 23 (d := d_l_great) rfl
  obtain ⟨fd_l_least, F_l_least⟩ := c.def_ 24 (d := d_l_least) rfl
  obtain ⟨fd_unit, F_unit⟩ := c.def_ 25 (d := d_unit) rfl
  obtain ⟨fd_empty, F_empty⟩ := c.def_ 26 (d := d_empty) rfl
  obtain ⟨fd_law, F_law⟩ := c.def_ 27 (d := d_law) rfl
  have e := hfa.symm.trans (He.glo_ok X G (c.fact 22 (f := .glo "law") rfl))
  cases e
  have bL := FunD.bindsA (ps := ["_law_script"]) F_law fun _ _ _ _ _ _ us hl => match us, hl with | [_], _ => rfl
  refine ⟨fd_law, fun s v => bL s [v] rfl, fun base _ _ => ?_⟩
  have g__law_take : FnAt P w K mg base CX0 1 "_law_take" ["_law_box_here", "_law_many"] (spTake) := ⟨⟨_, ok_take F_l_take m_int, F_l_take.bindsN fun _ _ _ _ _ _ us hl => match us, hl with | [_, _], _ => rfl⟩, F_l_take.kp, He.glo_ok X G (c.fact 0 (f := .glo "_law_take") rfl)⟩
  have g__law_pick : FnAt P w K mg base CX0 2 "_law_pick" ["_law_box_here", "_law_some"] (spPick K) := ⟨⟨_, ok_pick F_l_pick m_len g__law_take, F_l_pick.bindsN fun _ _ _ _ _ _ us hl => match us, hl with | [_, _], _ => rfl⟩, F_l_pick.kp, He.glo_ok X G (c.fact 1 (f := .glo "_law_pick") rfl)⟩
  have g_is_integer : FnAt P w K mg base CX0 1 "is_integer" ["value"] (spInteger K) := ⟨⟨_, ok_is_integer F_is_integer m_isinstance m_int m_bool, F_is_integer.bindsN fun _ _ _ _ _ _ us hl => match us, hl with | [_], _ => rfl⟩, F_is_integer.kp, He.glo_ok X G (c.fact 2 (f := .glo "is_integer") rfl)⟩
  have g_is_number : FnAt P w K mg base CX0 2 "is_number" ["value"] (spNumber K) := ⟨⟨_, ok_is_number F_is_number g_is_integer, F_is_number.bindsN fun _ _ _ _ _ _ us hl => match us, hl with | [_], _ => rfl⟩, F_is_number.kp, He.glo_ok X G (c.fact 3 (f := .glo "is_number") rfl)⟩
  have g_is_sequence : FnAt P w K mg base CX0 1 "is_sequence" ["value"] (spSequence K) := ⟨⟨_, ok_is_sequence F_is_sequence m_isinstance m_list m_tuple, F_is_sequence.bindsN fun _ _ _ _ _ _ us hl => match us, hl with | [_], _ => rfl⟩, F_is_sequence.kp, He.glo_ok X G (c.fact 4 (f := .glo "is_sequence") rfl)⟩
  have g_is_thing : FnAt P w K mg base CX0 2 "is_thing" ["value"] (spThing K) := ⟨⟨_, ok_is_thing F_is_thing g_is_integer, F_is_thing.bindsN fun _ _ _ _ _ _ us hl => match us, hl with | [_], _ => rfl⟩, F_is_thing.kp, He.glo_ok X G (c.fact 5 (f := .glo "is_thing") rfl)⟩
  have g_is_below : FnAt P w K mg base CX0 1 "is_below" ["one", "other"] (spBelow) := ⟨⟨_, ok_is_below F_is_below , F_is_below.bindsN fun _ _ _ _ _ _ us hl => match us, hl with | [_, _], _ => rfl⟩, F_is_below.kp, He.glo_ok X G (c.fact 6 (f := .glo "is_below") rfl)⟩
  have g_are_rising : FnAt P w K mg base CX0 2 "are_rising" ["some"] (spRising K) := ⟨⟨_, ok_are_rising F_are_rising m_any m_len m_range g_is_below, F_are_rising.bindsN fun _ _ _ _ _ _ us hl => match us, hl with | [_], _ => rfl⟩, F_are_rising.kp, He.glo_ok X G (c.fact 7 (f := .glo "are_rising") rfl)⟩
  have g_wrong_word : FnAt P w K mg base CX0 3 "wrong_word" ["first", "again", "more"] (spWrong K) := ⟨⟨_, ok_wrong_word F_wrong_word m_all m_len g_is_sequence g_is_thing g_is_number g_are_rising, F_wrong_word.bindsN fun _ _ _ _ _ _ us hl => match us, hl with | [_, _, _], _ => rfl⟩, F_wrong_word.kp, He.glo_ok X G (c.fact 8 (f := .glo "wrong_word") rfl)⟩
  have g_is_turn : FnAt P w K mg base CX0 1 "is_turn" ["again", "more", "turn"] (spTurn K) := ⟨⟨_, ok_is_turn F_is_turn m_all m_len m_range, F_is_turn.bindsN fun _ _ _ _ _ _ us hl => match us, hl with | [_, _, _], _ => rfl⟩, F_is_turn.kp, He.glo_ok X G (c.fact 9 (f := .glo "is_turn") rfl)⟩
  have g_least_form : FnAt P w K mg base CX0 2 "least_form" ["first", "again", "more"] (spLeast K) := ⟨⟨_, ok_least_form F_least_form m_list m_len m_range m_tuple g_is_turn, F_least_form.bindsN fun _ _ _ _ _ _ us hl => match us, hl with | [_, _, _], _ => rfl⟩, F_least_form.kp, He.glo_ok X G (c.fact 10 (f := .glo "least_form") rfl)⟩
  have b_init := init_binds F_Row___init__
  have g_Row : MkAt P w K mg base CX0 4 "Row" ["self", "first", "again", "more"] (spInit K (He.ga K "Row")) [] := ⟨⟨_, _, [], He.mkr_ok (c.fact 42 (f := .mkr "Row") rfl), ok_Row_init F_Row___init__ RR m_tuple g_wrong_word g_least_form, .nil, b_init⟩, m_Row⟩
  obtain ⟨ds2, v2, b2⟩ := init_binds2 F_Row___init__
  have g_Row2 : MkAt P w K mg base CX0 4 "Row" ["self", "first", "again", "more"] (spInit K (He.ga K "Row")) [.int 0] := ⟨⟨_, _, ds2, He.mkr_ok (c.fact 42 (f := .mkr "Row") rfl), ok_Row_init F_Row___init__ RR m_tuple g_wrong_word g_least_form, v2, b2⟩, m_Row⟩
  have g__law_box : FnAt P w K mg base CX0 1 "_law_box" ["_law_script", "_law_k"] (spBox K) := ⟨⟨_, ok_box F_l_box m_int m_len m_abs, F_l_box.bindsN fun _ _ _ _ _ _ us hl => match us, hl with | [_, _], _ => rfl⟩, F_l_box.kp, He.glo_ok X G (c.fact 11 (f := .glo "_law_box") rfl)⟩
  have g__law_row : FnAt P w K mg base CX0 3 "_law_row" ["_law_box_here", "_law_is_low"] (spRow) := ⟨⟨_, ok_row F_l_row m_int m_range g__law_take g__law_pick, F_l_row.bindsN fun _ _ _ _ _ _ us hl => match us, hl with | [_, _], _ => rfl⟩, F_l_row.kp, He.glo_ok X G (c.fact 12 (f := .glo "_law_row") rfl)⟩
  have g__law_time : FnAt P w K mg base CX0 1 "_law_time" ["_law_told", "_law_n"] (spTime K) := ⟨⟨_, ok_time F_l_time m_len, F_l_time.bindsN fun _ _ _ _ _ _ us hl => match us, hl with | [_, _], _ => rfl⟩, F_l_time.kp, He.glo_ok X G (c.fact 13 (f := .glo "_law_time") rfl)⟩
  have g__law_times : FnAt P w K mg base CX0 2 "_law_times" ["_law_told", "_law_many"] (spTimes K) := ⟨⟨_, ok_times F_l_times m_range g__law_time, F_l_times.bindsN fun _ _ _ _ _ _ us hl => match us, hl with | [_, _], _ => rfl⟩, F_l_times.kp, He.glo_ok X G (c.fact 14 (f := .glo "_law_times") rfl)⟩
  have g__law_made : FnAt P w K mg base CX0 6 "_law_made" ["_law_told"] (spMade K (He.ga K "Row")) := ⟨⟨_, ok_made F_l_made g_Row, F_l_made.bindsN fun _ _ _ _ _ _ us hl => match us, hl with | [_], _ => rfl⟩, F_l_made.kp, He.glo_ok X G (c.fact 15 (f := .glo "_law_made") rfl)⟩
  have g_Row_time : MthAt P w K mg base CX0 1 (He.ga K "Row") "time" ["self", "n"] (spRTime (He.ga K "Row")) := ⟨_, _, He.meth_ok (c.fact 40 (f := .meth "Row" "time") rfl), ok_rtime F_Row_time RR m_len, F_Row_time.bindsN fun _ _ _ _ _ _ us hl => match us, hl with | [_, _], _ => rfl⟩
  have g_Row_parts : MthAt P w K mg base CX0 1 (He.ga K "Row") "parts" ["self"] (spParts (He.ga K "Row")) := ⟨_, _, He.meth_ok (c.fact 41 (f := .meth "Row" "parts") rfl), ok_parts F_Row_parts RR, F_Row_parts.bindsN fun _ _ _ _ _ _ us hl => match us, hl with | [_], _ => rfl⟩
  have g_eq : EqAtC P w K mg base CX0 2 (He.ga K "Row") ["self", "other"] (spEq K (He.ga K "Row")) := ⟨_, _, eqB_ok x_eq, ok_eq F_Row___eq__ RR tyc m_Row m_isinstance g_Row_parts, F_Row___eq__.bindsN fun _ _ _ _ _ _ us hl => match us, hl with | [_, _], _ => rfl⟩
  have g_word_of : FnAt P w K mg base CX0 1 "word_of" ["thing"] (spWord) := ⟨⟨_, ok_word F_word_of m_str, F_word_of.bindsN fun _ _ _ _ _ _ us hl => match us, hl with | [_], _ => rfl⟩, F_word_of.kp, He.glo_ok X G (c.fact 16 (f := .glo "word_of") rfl)⟩
  have g_str : StrAtC P w K mg base CX0 2 (He.ga K "Row") ["self"] (spStr (He.ga K "Row")) := ⟨_, _, He.eqO_ok (He.ba x_str).1, (He.ba x_str).2, ok_str F_Row___str__ RR m_str g_word_of, F_Row___str__.bindsN fun _ _ _ _ _ _ us hl => match us, hl with | [_], _ => rfl⟩
  have g__law_wide : FnAt P w K mg base CX0 3 "_law_wide" ["_law_box_here", "_law_told"] (spWide) := ⟨⟨_, ok_wide F_l_wide m_len g__law_take g__law_times, F_l_wide.bindsN fun _ _ _ _ _ _ us hl => match us, hl with | [_, _], _ => rfl⟩, F_l_wide.kp, He.glo_ok X G (c.fact 17 (f := .glo "_law_wide") rfl)⟩
  have g__law_great : FnAt P w K mg base CX0 3 "_law_great" ["_law_box_here"] (spGreat) := ⟨⟨_, ok_great F_l_great m_min m_range g__law_take g__law_pick, F_l_great.bindsN fun _ _ _ _ _ _ us hl => match us, hl with | [_], _ => rfl⟩, F_l_great.kp, He.glo_ok X G (c.fact 18 (f := .glo "_law_great") rfl)⟩
  have g__law_least : FnAt P w K mg base CX0 3 "_law_least" ["_law_told"] (spLst) := ⟨⟨_, ok_least F_l_least m_len m_range m_tuple g__law_times, F_l_least.bindsN fun _ _ _ _ _ _ us hl => match us, hl with | [_], _ => rfl⟩, F_l_least.kp, He.glo_ok X G (c.fact 19 (f := .glo "_law_least") rfl)⟩
  have g_unit : FnAt P w K mg base CX0 6 "unit" [] (spConst (He.ga K "Row") [] [.int 0] 0) := ⟨⟨_, ok_unit F_unit g_Row, F_unit.bindsN fun _ _ _ _ _ _ us hl => match us, hl with | [], _ => rfl⟩, F_unit.kp, He.glo_ok X G (c.fact 20 (f := .glo "unit") rfl)⟩
  have g_empty : FnAt P w K mg base CX0 6 "empty" [] (spConst (He.ga K "Row") [] [.non] 0) := ⟨⟨_, ok_empty F_empty g_Row, F_empty.bindsN fun _ _ _ _ _ _ us hl => match us, hl with | [], _ => rfl⟩, F_empty.kp, He.glo_ok X G (c.fact 21 (f := .glo "empty") rfl)⟩
  exact ok_law F_law m_range m_max m_min m_len m_list m_tuple m_str RR tyc apT apS g__law_box g__law_row g__law_great g__law_wide g_Row g_Row2 g__law_made g__law_least g__law_times g__law_time g_Row_time g_eq g_str g_empty g_unit
end WW

open PySem PySem.W PySem.Calls PyProof.Rows
set_option maxRecDepth 100000 in
set_option maxHeartbeats 0 in
theorem PySem.Challenge.cw_waitworks_k02_rows_made_holds : PySem.Challenge.rw_waitworks_k02_rows_made.Holds := by
  w_on; o_law
  refine HandSHeadRun.head_any (r := OpenLaw.row PySem.Challenge.rw_waitworks_k02_rows_made) (q := view (OpenLaw.row PySem.Challenge.rw_waitworks_k02_rows_made).prog [37]) (H := WW.hk) (ob := WW.ob) (M := WW.steps) (loose := WW.loose) (d := HandSHeadRun.topDef (OpenLaw.row PySem.Challenge.rw_waitworks_k02_rows_made).prog 37) (kwd := []) WW.ob_eq
    (by kernel_rfl) (fun s => by kernel_rfl) WW.run (by kernel_rfl) (by kernel_rfl) (by kernel_rfl) (by rfl) (by first | assumption | decide +kernel) (by decide +kernel) ⟨rfl, rfl, rfl, rfl, rfl, by decide +kernel⟩ ?hw ?hc
  case hw => w_witness2
  case hc =>
    refine L2.walk_ofE (l := PySem.Challenge.rw_waitworks_k02_rows_made) (n := 63) (k := 7) (x := "_law_script") (CX := L2.CX0) rfl (by decide) (by kernel_rfl) ⟨rfl, by decide, by decide⟩ ?F (fun _ _ _ _ z => z)
    intro w mg fa h Y G hmg0
    obtain ⟨K, KX, c⟩ := Y
    have hmg : mg ("law" : PySem.Str) = some (.ref fa) := by
      have e : (HandSHeadRun.topDef (OpenLaw.row PySem.Challenge.rw_waitworks_k02_rows_made).prog 37).name = ("law" : PySem.Str) := by kernel_rfl
      rw [← e]
      exact hmg0
    obtain ⟨fd, hb, hF⟩ := WW.facts (P := (PySem.Challenge.rw_waitworks_k02_rows_made).prog) (w := w) KX G hmg c
    exact ⟨K, fd, WW.spLaw K, KX, hb, fun H a ns hl _ hS => ⟨a, ns, rfl, hS, hl, fun _ => rfl⟩, hF⟩

