import PyProof.Rows.All
import Wide.All
import OpenK.AllK
import Wide.FinOn
import KE.KStateDown
import HandS.ForMost
import HandS.Defaults
import HandS.Property
import HandS.IsInst
import HandS.Star
import HandS.Evl
import HandS.Steps
import HandS.More
import HandS.Head0
import HandS.Head1
import HandS.Head2
import HandS.HeadEnd
import HandS.HeadHook1
import HandS.HeadHook2
import HandS.HeadHook3
import HandS.HeadHook4
import HandS.HeadNt
import PySem.Challenge.RW_waitworks_k05_rates_and_counts
set_option Elab.async false
set_option linter.all false
set_option maxRecDepth 100000
set_option maxHeartbeats 4000000
namespace WW
open PySem PySem.Spec PyProof.Rows L2

/-! ### defs of the module by name -/
structure FnAt (P : Program) (w : World) (K : PySem.W.Frag) (mg : Str → Option Value) (base : Heap) (CX : CXT) (k : Nat) (x : Str) (ps : List Str) (sp : Sp) : Prop where
  ex : ∃ fd, FnOk P w K mg base CX k (He.ga K x) fd ps sp ∧ Binds K fd ps []
  kp : PySem.W.keepIn K (.ref (He.ga K x)) = true
  g : mg x = some (.ref (He.ga K x))
section
variable {X : Cx} {CX : CXT} {k j : Nat} {x : Str} {ps : List Str} {sp : Sp} {e : Expr} {es : List Expr} {t : TA} {p pos : Pos}
theorem pe_fn (F : FnAt X.prog X.w X.K X.mg X.base CX0 k x ps sp) (hr : Room j X.A) (hg : Gl X x) (ha : PA X (e :: es) t) (hk : k ≤ j := by decide)
    (hdb : (x == ("__debug__" : Str)) = false := by decide) (he : starEach (e :: es) X.env = (false, eval e X.env) :: starEach es X.env := by rfl) (hpl : (backTo pos (starEach es X.env)).any (·.1) = false := by rfl) :
    PE X (.Call (.Name x p) (e :: es) [] pos) (tCall sp [] E0 t) := by
  obtain ⟨fd, F1, b⟩ := F.ex
  exact pe_call F1 (hr.mono hk) hg F.g F.kp b .nil pass0 ha hdb he hpl
theorem pe_fn0 (F : FnAt X.prog X.w X.K X.mg X.base CX0 k x ps sp) (hr : Room j X.A) (hg : Gl X x) (hk : k ≤ j := by decide)
    (hdb : (x == ("__debug__" : Str)) = false := by decide) :
    PE X (.Call (.Name x p) [] [] pos) (tCall sp [] E0 tNil) := by
  obtain ⟨fd, F1, b⟩ := F.ex
  exact pe_call0 F1 (hr.mono hk) hg F.g F.kp b .nil pass0 hdb
end
/-! ### lists or tuples -/
def Sq (K : PySem.W.Frag) (H : Hp) (a : Addr) (xs : List V) : Prop := SqL K H a xs ∨ SqT K H a xs
theorem Sq.ex {K : PySem.W.Frag} {H H' : Hp} {a : Addr} {xs : List V} (e : Same H H') (h : Sq K H a xs) : Sq K H' a xs := by
  rcases h with h | h
  · exact .inl (Evl.ex_l e h)
  · exact .inr (Evl.ex_t e h)
theorem Sq.l {K : PySem.W.Frag} {H : Hp} {a : Addr} {xs : List V} (h : H a = some (.lst xs)) : Sq K H a xs := .inl (Evl.sq_of h)
theorem Sq.t {K : PySem.W.Frag} {H : Hp} {a : Addr} {xs : List V} (h : H a = some (.tup xs)) : Sq K H a xs := .inr (Evl.st_of h)
def rIxQ (K : PySem.W.Frag) : R2 := fun x y H Q => ∃ p xs i v, x = .ref p ∧ y = .int i ∧ Sq K H p xs ∧ atI xs i = some v ∧ Q v H
section
variable {X : Cx}
theorem ix_sq : IxR X (rIxQ X.K) := by
  intro value slice pins s σ H x y v u Q I rx ry h hs
  obtain ⟨p, xs, i, z, ex, ey, hq | hq, he, q⟩ := h
  · exact ix_list value slice pins s σ H x y v u Q I rx ry ⟨p, xs, i, z, ex, ey, hq, he, q⟩ hs
  · exact ix_tup value slice pins s σ H x y v u Q I rx ry ⟨p, xs, i, z, ex, ey, hq, he, q⟩ hs
/-- for .. in a list or a tuple -/
def iSeq (K : PySem.W.Frag) (tl : TE) : TI := fun σ H R => tl σ H fun x H1 => ∃ a, x = .ref a ∧ (((∃ xs, SqL K H1 a xs) ∧ R (Itl K a) H1) ∨ ((∃ xs, SqT K H1 a xs) ∧ R (Itt K a) H1))
theorem pi_seq {tg l : Expr} {tl : TE} (hl : PE X l tl) : PI X tg l (iSeq X.K tl) := by
  refine ⟨fun pins s0 σ H R I0 h0 => thn (hl.run pins s0 σ H _ I0 h0) fun v s ⟨x, Hx, I, rx, a, ex, qa⟩ => ?_⟩
  subst ex
  cases rx
  have sz : ∀ b ∈ [s.heap.objs.size], FpOk X pins Hx b := fun b hb => by
    rw [List.mem_singleton.mp hb]
    exact I.fpOk (Nat.le_refl _) (I.hok.fresh (Nat.le_refl _))
  rcases qa with ⟨⟨xs, hq⟩, qa⟩ | ⟨⟨xs, hq⟩, qa⟩
  · obtain ⟨its, _, pl, _⟩ := I.list hq
    exact wpAny_pyIter_list pl.isList ⟨_, [s.heap.objs.size], _, _, Hx, rfl, I.kept (t' := s.toks) fun b o eo => Heap.get?_push_of_some _ eo, turn_list a _, ⟨_, Heap.get?_push_size _ rfl, rfl, rfl⟩, sz, qa⟩
  · obtain ⟨its, _, pl, _⟩ := I.tuple hq
    exact wpAny_pyIter_tuple (show s.heap.IsTuple a its.toArray from pl) ⟨_, [s.heap.objs.size], _, _, Hx, rfl, I.kept (t' := s.toks) fun b o eo => Heap.get?_push_of_some _ eo, turn_tuple a _, ⟨_, Heap.get?_push_size _ rfl, rfl, rfl⟩, sz, qa⟩
end
theorem at_toNat {α : Type} {xs : List α} {d : Int} (h0 : 0 ≤ d) (h : d.toNat < xs.length) : atI xs d = some xs[d.toNat] := by
  have e : d = (d.toNat : Int) := by omega
  have q : atI xs (d.toNat : Int) = some xs[d.toNat] := atI_nat (List.getElem?_eq_getElem h)
  rw [← e] at q
  exact q
/-! ### a tuple's whole slice is the tuple -/
section
variable {prog : Program} {w : World} {A : Around} {E : Value → Shared → Prop} {s : Shared}
theorem tup_all {a c : Addr} {its : Array Value} {u1 u2 : Value} {lo hi : Option Int} {R : Value → Shared → Prop} (hT : IsTup s.heap a its) (hc : s.heap.IsSliceOf c u1 u2 .none) (p1 : IsPart u1 lo) (p2 : IsPart u2 hi)
    (hall : HT.sIx its.size 0 lo = 0 ∧ HT.sIx its.size its.size hi = its.size) (q : R (.ref a) s) : wpAny (model prog w) A (getItem (.ref a) (.ref c)) R E s := by
  obtain ⟨oc, e1, e2, e3⟩ := id hc
  have tc : s.TypeIs (.ref c) "slice" := ⟨oc, e1, e2⟩
  unfold getItem
  try with_reducible refine wpAny_holding ?_
  first | (refine wpAny_bind (wpAny_pure ?_)) | skip
  refine wpAny_bind (wpAny_sequenceKey hT.typeIs (by decide) ?_)
  refine wpAny_bind (wpAny_callSpecial?_slot (name := Str.ofString "__getitem__") hT.typeIs slot_tuple_getitem
    (wpAny_call_entry slot_tuple_getitem hT.typeIs PyProof.Rows.entry_tuple_getitem ?_ (PyProof.Rows.args_tuple_getitem _ _)))
  show wpAny _ _ (Builtin.Tuple.tupleItemsOf (.ref a) >>= _) _ _ s
  refine wpAny_bind (tupleItemsOf_ hT (wpAny_bind (wpAny_typeOf tc ?_)))
  rw [if_pos (by decide)]
  refine wpAny_bind (HT.sliceApplied_gen hc p1 p2 ?_)
  have hy : (((HT.sIx its.size 0 lo : Nat) : Int) == 0 && (1 : Int) == 1 && (HT.sIx its.size its.size hi - HT.sIx its.size 0 lo) == its.size) = true := by
    rw [hall.1, hall.2]
    simp
  show wpAny _ _ (if (((HT.sIx its.size 0 lo : Nat) : Int) == 0 && (1 : Int) == 1 && (HT.sIx its.size its.size hi - HT.sIx its.size 0 lo) == its.size) = true then _ else _) _ _ s
  rw [if_pos hy]
  unfold Builtin.Tuple.tupleIsExact
  refine wpAny_bind (wpAny_bind (wpAny_typeOf hT.typeIs (wpAny_pure ?_)))
  rw [if_pos (by decide)]
  refine wpAny_bind (wpAny_rule ?_)
  exact wpAny_pure ⟨_, rfl, wpAny_pure q⟩
end
/-! ### rules with the written part named -/
def rSlW (K : PySem.W.Frag) : V → Option Int → Option Int → Hp → VK → Prop := fun x lo hi H Q => ∃ a xs, x = .ref a ∧ SqT K H a xs ∧
  (HT.sIx xs.length 0 lo = 0 ∧ HT.sIx xs.length xs.length hi = xs.length) ∧ Q (.ref a) H
def rSlQ (K : PySem.W.Frag) : V → Option Int → Option Int → Hp → VK → Prop := fun x lo hi H Q => rSlL K x lo hi H Q ∨ rSlT K x lo hi H Q ∨ rSlW K x lo hi H Q
def rLenQ (K : PySem.W.Frag) : List V → Hp → VK → Prop := fun xs H Q => ∃ p ys, xs = [.ref p] ∧ Sq K H p ys ∧ Q (.int ys.length) H
def rListQ (K : PySem.W.Frag) : List V → Hp → VK → Prop := fun xs H Q => ∃ p ys, xs = [.ref p] ∧ Sq K H p ys ∧ ∀ l, H l = none → Q (.ref l) (upd H l (.lst ys))
inductive rTupQ (K : PySem.W.Frag) (xs : List V) (H : Hp) (Q : VK) : Prop
  | mk (h : ∃ p ys, xs = [.ref p] ∧ ((SqL K H p ys ∧ ∀ l, H l = none → Q (.ref l) (upd H l (.tup ys))) ∨ (SqT K H p ys ∧ Q (.ref p) H))) : rTupQ K xs H Q
section
variable {X : Cx}
theorem sl_whole : SlR X (rSlW X.K) := by
  intro pins s σ H x v vl vu lo hi sl Q I rx hs pl pu h
  obtain ⟨a, xs, rfl, hx, hw, q⟩ := h
  cases rx
  obtain ⟨its, r, hT, hz⟩ := I.tuple hx
  have hn : its.toArray.size = xs.length := by rw [List.size_toArray]; exact r.length.symm
  refine ⟨"tuple", _, slot_tuple_getitem.lookup, hT.typeIs, ?_⟩
  exact tup_all hT hs pl pu (by rw [hn]; exact hw) ⟨.ref a, H, I, rfl, q⟩
variable (K : PySem.W.Frag)
theorem ix_sqK (h : X.K = K := by rfl) : IxR X (rIxQ K) := by
  subst h
  exact ix_sq
theorem sl_sqK (h : X.K = K := by rfl) : SlR X (rSlQ K) := by
  subst h
  exact sl_list.or (sl_tup.or sl_whole)
theorem pi_seqK {tg l : Expr} {tl : TE} (hl : PE X l tl) (h : X.K = K := by rfl) : PI X tg l (iSeq K tl) := by
  subst h
  exact pi_seq hl
theorem call_lenK (h : X.K = K := by rfl) : CallR X (.builtin "len") (rLenQ K) := by
  subst h
  exact call_len_seq
theorem call_listK (h : X.K = K := by rfl) : CallR X (.type "list") (rListQ K) := by
  subst h
  exact call_list_of
theorem call_tupleK (h : X.K = K := by rfl) : CallR X (.type "tuple") (rTupQ K) := by
  subst h
  intro pins s σ H xs us Q I r ⟨q⟩
  exact call_tuple_of pins s σ H xs us Q I r q
theorem call_isiK1 (h : X.K = K := by rfl) : CallR X (.builtin "isinstance") (rIsi K) := by
  subst h
  exact call_isi
theorem call_isiTK (h : X.K = K := by rfl) : CallR X (.builtin "isinstance") (rIsiT K) := by
  subst h
  exact call_isiT
theorem cr_anyK (hc : X.calm = true := by rfl) (h : X.K = K := by rfl) : CallR X (.builtin "any") (rAny K) := by
  subst h
  exact cr_any hc
theorem cr_allK (hc : X.calm = true := by rfl) (h : X.K = K := by rfl) : CallR X (.builtin "all") (rAll K) := by
  subst h
  exact cr_all hc
theorem cr_maxK (hc : X.calm = true := by rfl) (h : X.K = K := by rfl) : CallR X (.builtin "max") (rMax K) := by
  subst h
  exact cr_max hc
theorem pa_starK {e : Expr} {es : List Expr} {p : Pos} {te : TE} {t : TA} (he : PE X e te) (hr : PA X es t) (h : X.K = K := by rfl) (hs : starEach (.Starred e p :: es) X.env = (true, eval e X.env) :: starEach es X.env := by rfl) : PA X (.Starred e p :: es) (StX.tStar K te t) := by
  subst h
  exact StX.pa_star he hr hs
theorem pe_fldK {e : Expr} {f : Str} {pos : Pos} {ta : TE} (he : PE X e ta) (hb : attributeBase e f X.env (eval e X.env) = eval e X.env) (h : X.K = K := by rfl) : PE X (.Attribute e f pos) (tFld K ta f) := by
  subst h
  exact pe_fld he hb
end
/-- o.f = .., as a target -/
def gFld (K : PySem.W.Frag) (ta : TE) (f : Str) : TG := fun v σ H Q => ta σ H fun x H1 => ∃ a C dx fs, x = .ref a ∧ H1 a = some (.ins C dx fs) ∧ Cls K C ∧ NoAttr K C f ∧ fs.length < 1000 ∧ Q σ (upd H1 a (.ins C dx (putF f v fs)))
theorem pg_fld {X : Cx} (K : PySem.W.Frag) {o : Expr} {f : Str} {pos : Pos} {ta : TE} (ho : PE X o ta) (hK : X.K = K := by rfl) : PG X (.Attribute o f pos) (gFld K ta f) := by
  subst hK
  refine ⟨fun pins s σ H v u Q I r h => ?_⟩
  rw [assign_Attribute]
  refine wpAny_bind (wpAny_holding (thn (ho.run pins s σ H _ I h) fun ov s1 ⟨x, H1, I1, r1, a, C, dx, fs, ex, ea, c, n, l, q⟩ => ?_))
  subst ex
  cases r1
  refine wpAny_bind (wpAny_standAt (wpAny_bind (wpAny_holding (setattr_ok I1 ea c n l r fun s2 I2 => ?_))))
  exact wpAny_release ⟨σ, _, I2, q⟩
theorem pg_tupK {X : Cx} (K : PySem.W.Frag) {es : List Expr} {k : Nat} {t : TGs} {n : Nat} {pos : Pos} (hc : X.calm = true) (h : PGs X es t)
    (hn : (assignEach es X.env).length = n := by rfl) (hst : (assignEach es X.env).findIdx? (·.1) = none := by rfl) (hK : X.K = K := by rfl) : PG X (.Tuple es k pos) (gTup K n t) := by
  subst hK
  exact pg_tup hc h hn hst
/-! ### making an object -/
structure MkAt (P : Program) (w : World) (K : PySem.W.Frag) (mg : Str → Option Value) (base : Heap) (CX : CXT) (k : Nat) (x : Str) (ps : List Str) (sp : Sp) (dvs : List V) : Prop where
  ex : ∃ f fd ds, Mk K (He.ga K x) f ∧ FnOk P w K mg base CX k f fd ps sp ∧ Vals dvs ds ∧ Binds K fd ps ds
  g : mg x = some (.ref (He.ga K x))
section
variable {X : Cx} {CX : CXT} {k j : Nat} {x : Str} {ps : List Str} {sp : Sp} {e : Expr} {es : List Expr} {t : TA} {p pos : Pos} {dvs : List V}
theorem pe_mkr (F : MkAt X.prog X.w X.K X.mg X.base CX0 k x ps sp dvs) (hr : Room j X.A) (hg : Gl X x) (ha : PA X (e :: es) t) (hk : k + 1 ≤ j := by decide)
    (hdb : (x == ("__debug__" : Str)) = false := by decide) (he : starEach (e :: es) X.env = (false, eval e X.env) :: starEach es X.env := by rfl) (hpl : (backTo pos (starEach es X.env)).any (·.1) = false := by rfl) :
    PE X (.Call (.Name x p) (e :: es) [] pos) (tMake (He.ga X.K x) sp dvs E0 t) := by
  obtain ⟨f, fd, ds, M, F1, v, b⟩ := F.ex
  exact pe_make M F1 (hr.mono hk) hg F.g b v pass0 ha hdb he hpl
end
/-! ### methods, properties -/
structure MthAt (P : Program) (w : World) (K : PySem.W.Frag) (mg : Str → Option Value) (base : Heap) (CX : CXT) (k : Nat) (C : Addr) (m : Str) (ps : List Str) (sp : Sp) : Prop where
  ex : ∃ f fd, Meth K C m f ∧ FnOk P w K mg base CX k f fd ps sp ∧ Binds K fd ps []
structure PrpAt (P : Program) (w : World) (K : PySem.W.Frag) (mg : Str → Option Value) (base : Heap) (CX : CXT) (k : Nat) (C : Addr) (m : Str) (ps : List Str) (sp : Sp) : Prop where
  ex : ∃ pr f fd, PropOf K C m pr f ∧ FnOk P w K mg base CX k f fd ps sp ∧ Binds K fd ps []
section
variable {X : Cx} {CX : CXT} {k j : Nat} {C : Addr} {m : Str} {ps : List Str} {sp : Sp} {o e : Expr} {es : List Expr} {ta : TE} {t : TA} {apos pos : Pos}
theorem pe_mth {pl : Sem Bool} (c : Cls X.K C) (F : MthAt X.prog X.w X.K X.mg X.base CX0 k C m ps sp) (hr : Room j X.A) (ho : PE X o ta) (ha : PA X (e :: es) t) (hk : k ≤ j := by decide)
    (hst : starEach (e :: es) X.env = (false, eval e X.env) :: starEach es X.env := by rfl) (hpl : (backTo pos (starEach es X.env)).any (·.1) = false := by rfl)
    (ht : eval (.Call (.Attribute o m apos) (e :: es) [] pos) X.env = (do let ov ← eval o X.env; standAt apos.atName; let (f, first) ← holding [ov] (getMethod ov m pl); callWith pos f first (backTo pos (starEach (e :: es) X.env)) (backToKw pos (keywordEach [] X.env))) := by rfl) : PE X (.Call (.Attribute o m apos) (e :: es) [] pos) (tMeth C m sp [] E0 ta t) := by
  obtain ⟨f, fd, M, F1, b⟩ := F.ex
  exact pe_meth ho c M F1 (hr.mono hk) b .nil pass0 ha hst hpl ht
theorem pe_mth0 {pl : Sem Bool} (c : Cls X.K C) (F : MthAt X.prog X.w X.K X.mg X.base CX0 k C m ps sp) (hr : Room j X.A) (ho : PE X o ta) (hk : k ≤ j := by decide)
    (ht : eval (.Call (.Attribute o m apos) [] [] pos) X.env = (do let ov ← eval o X.env; standAt apos.atName; let (f, first) ← holding [ov] (getMethod ov m pl); callWith pos f first (backTo pos (starEach [] X.env)) (backToKw pos (keywordEach [] X.env))) := by rfl) : PE X (.Call (.Attribute o m apos) [] [] pos) (tMeth C m sp [] E0 ta tNil) := by
  obtain ⟨f, fd, M, F1, b⟩ := F.ex
  exact pe_meth0 ho c M F1 (hr.mono hk) b .nil pass0 ht
theorem pe_prp (c : Cls X.K C) (F : PrpAt X.prog X.w X.K X.mg X.base CX0 k C m ps sp) (hr : Room j X.A) (ho : PE X o ta) (hk : k + 1 ≤ j := by decide)
    (hab : attributeBase o m X.env (eval o X.env) = eval o X.env := by rfl) : PE X (.Attribute o m pos) (tProp C sp [] E0 ta) := by
  obtain ⟨pr, f, fd, M, F1, b⟩ := F.ex
  exact pe_prop ho c M F1 (hr.mono hk) b .nil pass0 hab
theorem op_neDK (K : PySem.W.Frag) (hr : Room j X.A) (h : X.K = K := by rfl) : OpR X (compareOp .NotEq) (rNeD K) := by
  subst h
  exact op_neD (by have := hr.un; omega)
theorem op_eqDK (K : PySem.W.Frag) (hr : Room j X.A) (h : X.K = K := by rfl) : OpR X (compareOp .Eq) (rEqD K) := by
  subst h
  exact op_eqD (by have := hr.un; omega)
/-- repr of an integer, of nothing -/
inductive rRepr (xs : List V) (H : Hp) (Q : VK) : Prop
  | int (i : Int) (h : xs = [.int i]) (hz : i.natAbs.log2 < 1920) (q : Q (.str (toString i)) H) : rRepr xs H Q
  | non (h : xs = [.non]) (q : Q (.str "None") H) : rRepr xs H Q
theorem call_repr : CallR X (.builtin "repr") rRepr := by
  intro pins s σ H xs us Q I r h
  cases h with
  | int i h hz q =>
    subst h
    obtain ⟨u, rfl, t, rfl⟩ := vals1 r
    exact PySem.P.repr_of_int hz ⟨.str _, H, I.tok _, ⟨_, rfl⟩, q⟩
  | non h q =>
    subst h
    obtain ⟨u, rfl, rfl⟩ := vals1 r
    exact PySem.P.repr_of_none ⟨.str _, H, I.tok _, ⟨_, rfl⟩, q⟩
end
/-- a slice of a list or a tuple: some sequence of these items -/
theorem slq {K : PySem.W.Frag} {H : Hp} {a : Addr} {xs : List V} {lo hi : Option Int} {Q : VK} (h : Sq K H a xs) (k : ∀ p H', Same H H' → Sq K H' p (cutV xs lo hi) → Q (.ref p) H') : rSlQ K (.ref a) lo hi H Q := by
  have new : ∀ {o : HO} {p : Addr}, H p = none → Same H (upd H p o) := fun hp b u hb => (upd_ne (ne_of_none hb hp)).trans hb
  rcases h with h | h
  · exact .inl ⟨a, xs, rfl, h, fun p hp => k p _ (new hp) (.l upd_same)⟩
  · by_cases hw : HT.sIx xs.length 0 lo = 0 ∧ HT.sIx xs.length xs.length hi = xs.length
    · refine .inr (.inr ⟨a, xs, rfl, h, hw, k a H (Same.refl H) ?_⟩)
      have e : cutV xs lo hi = xs := by
        unfold cutV
        rw [hw.1, hw.2]
        simp
      rw [e]
      exact .inr h
    · exact .inr (.inl ⟨a, xs, rfl, h, hw, fun p hp => k p _ (new hp) (.t upd_same)⟩)
/-! ### the box of draws -/
def bx (x y z : Int) : HO := .lst [.int x, .int y, .int z]
def Box (H : Hp) (b : Addr) : Prop := ∃ x y z : Int, H b = some (bx x y z)
/-- take(box, many): a number below many; the box is another one -/
def spTake : Sp := fun vs H Q _ => ∃ (b : Addr) (m : Int), vs = [.ref b, .int m] ∧ Box H b ∧ 0 < m ∧ m < 1073741824 ∧
  ∀ x y z d : Int, 0 ≤ d → d < m → Q (.int d) (upd H b (bx x y z))
/-- pick(box, some) -/
def spPick (K : PySem.W.Frag) : Sp := fun vs H Q _ => ∃ (b l : Addr) (xs : List V), vs = [.ref b, .ref l] ∧ Box H b ∧ Sq K H l xs ∧ l ≠ b ∧ 0 < xs.length ∧ xs.length < 1000 ∧
  ∀ (x y z : Int) (v : V), v ∈ xs → Q v (upd H b (bx x y z))
theorem Sq.upd {K : PySem.W.Frag} {H : Hp} {a b : Addr} {o : HO} {xs : List V} (hn : a ≠ b) (h : Sq K H a xs) : Sq K (upd H b o) a xs := by
  rcases h with h | h
  · rcases h with h | h
    · refine .inl (.inl ?_)
      rcases h with h | ⟨u, h⟩
      · exact .inl ((upd_ne hn).trans h)
      · exact .inr ⟨u, (upd_ne hn).trans h⟩
    · exact .inl (.inr h)
  · rcases h with h | h
    · refine .inr (.inl ?_)
      rcases h with h | ⟨u, h⟩
      · exact .inl ((upd_ne hn).trans h)
      · exact .inr ⟨u, (upd_ne hn).trans h⟩
    · exact .inr (.inr h)

/-! ### values -/
def isIntV : V → Bool
  | .int _ => true
  | _ => false
/-- what isinstance tells of a value: whether it is an integer, whether it is a list or a tuple -/
def HasT (K : PySem.W.Frag) (H : Hp) (x : V) (sq : Bool) : Prop := ∃ (t : Value) (b1 b2 : Bool), TyX K H x t ∧ PySem.W.kitOne K t (.type "int") = some b1 ∧ PySem.W.kitOne K t (.type "bool") = some b2 ∧ (b1 && !b2) = isIntV x ∧
  PySem.W.kitAny K t [.type "list", .type "tuple"] = some sq
section
variable {K : PySem.W.Frag} {H : Hp}
theorem hasT_non : HasT K H .non false := ⟨_, false, false, .base .non, kit_ty (by decide +kernel), kit_ty (by decide +kernel), rfl, by rw [kitAny_cons (kit_ty (b := "list") (r := false) (by decide +kernel)) (fun _ => kitAny_cons (kit_ty (b := "tuple") (r := false) (by decide +kernel)) (fun _ => rfl) (fun z => nomatch z)) (fun z => nomatch z)]⟩
theorem hasT_bl (b : Bool) : HasT K H (.bl b) false := ⟨_, true, true, .base (.bl b), kit_ty (by decide +kernel), kit_ty (by decide +kernel), rfl, by rw [kitAny_cons (kit_ty (b := "list") (r := false) (by decide +kernel)) (fun _ => kitAny_cons (kit_ty (b := "tuple") (r := false) (by decide +kernel)) (fun _ => rfl) (fun z => nomatch z)) (fun z => nomatch z)]⟩
theorem hasT_int (i : Int) : HasT K H (.int i) false := ⟨_, true, false, .base (.int i), kit_ty (by decide +kernel), kit_ty (by decide +kernel), rfl, by rw [kitAny_cons (kit_ty (b := "list") (r := false) (by decide +kernel)) (fun _ => kitAny_cons (kit_ty (b := "tuple") (r := false) (by decide +kernel)) (fun _ => rfl) (fun z => nomatch z)) (fun z => nomatch z)]⟩
theorem hasT_str (z : Str) : HasT K H (.str z) false := ⟨_, false, false, .base (.str z), kit_ty (by decide +kernel), kit_ty (by decide +kernel), rfl, by rw [kitAny_cons (kit_ty (b := "list") (r := false) (by decide +kernel)) (fun _ => kitAny_cons (kit_ty (b := "tuple") (r := false) (by decide +kernel)) (fun _ => rfl) (fun z => nomatch z)) (fun z => nomatch z)]⟩
theorem hasT_l {x : V} (h : TyX K H x (.type "list")) (hx : isIntV x = false) : HasT K H x true := ⟨_, false, false, h, kit_ty (by decide +kernel), kit_ty (by decide +kernel), hx.symm, by rw [kitAny_cons (kit_ty (b := "list") (r := true) (by decide +kernel)) (fun z => nomatch z) (fun z => rfl)]⟩
theorem hasT_t {x : V} (h : TyX K H x (.type "tuple")) (hx : isIntV x = false) : HasT K H x true := ⟨_, false, false, h, kit_ty (by decide +kernel), kit_ty (by decide +kernel), hx.symm, by rw [kitAny_cons (kit_ty (b := "list") (r := false) (by decide +kernel)) (fun _ => kitAny_cons (kit_ty (b := "tuple") (r := true) (by decide +kernel)) (fun z => nomatch z) (fun z => rfl)) (fun z => nomatch z)]⟩
theorem Sq.hasT {a : Addr} {xs : List V} (h : Sq K H a xs) : HasT K H (.ref a) true := by
  rcases h with h | h
  · refine hasT_l ?_ rfl
    rcases h with (h | ⟨o, h⟩) | ⟨o, its, n, h1, h2, _⟩
    · exact .base (.lst h)
    · exact .base (.frz h)
    · exact .kList h1 h2
  · refine hasT_t ?_ rfl
    rcases h with (h | ⟨o, h⟩) | ⟨o, its, n, h1, h2, _⟩
    · exact .base (.tup h)
    · exact .fTuple h
    · exact .kTuple h1 h2
end
theorem tyx_same {K : PySem.W.Frag} {H H' : Hp} {x : V} {t : Value} (e : Same H H') (h : TyX K H x t) : TyX K H' x t := by
  cases h with
  | base b =>
    cases b with
    | non => exact .base .non
    | bl y => exact .base (.bl y)
    | int i => exact .base (.int i)
    | str y => exact .base (.str y)
    | flt y => exact .base (.flt y)
    | lst ea => exact .base (.lst (e _ _ ea))
    | frz ea => exact .base (.frz (e _ _ ea))
    | tup ea => exact .base (.tup (e _ _ ea))
    | dK ea => exact .base (.dK (e _ _ ea))
    | dT ea => exact .base (.dT (e _ _ ea))
    | ins ea cl ha hn htk hm => exact .base (.ins (e _ _ ea) cl ha hn htk hm)
  | byt y => exact .byt y
  | set ea => exact .set (e _ _ ea)
  | kList a c => exact .kList a c
  | kTuple a c => exact .kTuple a c
  | kDict a c => exact .kDict a c
  | fTuple ea => exact .fTuple (e _ _ ea)
  | fDict ea => exact .fDict (e _ _ ea)
theorem HasT.ex {K : PySem.W.Frag} {H H' : Hp} {x : V} {sq : Bool} (e : Same H H') (h : HasT K H x sq) : HasT K H' x sq := by
  obtain ⟨t, b1, b2, ty, r⟩ := h
  exact ⟨t, b1, b2, tyx_same e ty, r⟩
/-! ### readings opened one step -/
section
variable {σ : L2.St} {H : Hp} {Q : VK} {D : Ends} {te : TE} {t : TA} {tu tz : TS} {g : TG} {r : List V → Hp → VK → Prop}
theorem q_seq (h : tu { D with nx := tz D } σ H) : tSeq tu tz D σ H := h
theorem q_asg (h : te σ H (fun x H1 => g x σ H1 D.nx)) : tAsg te g D σ H := h
theorem q_if {tc : TT} (h : tc σ H (fun c H1 => if c = true then tu D σ H1 else tz D σ H1)) : tIfS tc tu tz D σ H := h
theorem q_name {i : Nat} {v : V} {R : L2.St → Hp → Prop} (h : R (σ.set i (some v)) H) : gName i v σ H R := h
theorem q_ret (h : te σ H D.rt) : tRet te D σ H := h
theorem q_cb (h : t σ H (fun vs H1 => r vs H1 Q)) : tCB r t σ H Q := h
theorem q_one {R : List V → Hp → Prop} (h : te σ H (fun x H1 => R [x] H1)) : tCons te tNil σ H R := h
theorem q_cons {R : List V → Hp → Prop} (h : te σ H (fun x H1 => t σ H1 fun xs H2 => R (x :: xs) H2)) : tCons te t σ H R := h
theorem q_call {sp : Sp} {dvs : List V} {E : XK} (h : t σ H (fun vs H1 => sp (vs ++ dvs) H1 Q E)) : tCall sp dvs E t σ H Q := h
end
/-! ### comprehensions -/
theorem wipe1 {σ : L2.St} {j : Nat} {x : Option V} : wipe ((wipe σ [j]).set j x) [j] = wipe σ [j] := by
  show ((σ.set j none).set j x).set j none = σ.set j none
  rw [List.set_set, List.set_set]
theorem same_app {H H' : Hp} {D : Addr} {xs : List V} (e : Same H H') (h : H D = none) : Same H (upd H' D (.lst xs)) := fun a o ha => by
  rw [upd_ne (ne_of_none ha h)]
  exact e a o ha
/-- [e for x in xs], e a value of x; xs evaluated on the way -/
theorem lc_sqG {K : PySem.W.Frag} {σ : L2.St} {H : Hp} {Q : VK} {tl te : TE} {j : Nat} {xs : List V} (φ : V → V) (hv : ∀ R : VK, (∀ a H', Same H H' → Sq K H' a xs → R (.ref a) H') → tl σ H R) (hl : xs.length ≤ 100000)
    (he : ∀ x ∈ xs, ∀ H1, Same H H1 → ∀ R : VK, (∀ H2, Same H1 H2 → R (φ x) H2) → te ((wipe σ [j]).set j (some x)) H1 R)
    (k : ∀ D H', Same H H' → H D = none → H' D = some (.lst (xs.map φ)) → Q (.ref D) H') : tLc (iSeq K tl) (gName j) tYes te [j] σ H Q := by
  refine hv _ fun a H0 s0 hq => ⟨a, rfl, ?_⟩
  have turn : ∀ (D : Addr), H0 D = none → ∀ i x Hc, xs[i]? = some x → (Same H0 Hc ∧ Hc D = some (.lst ((xs.take i).map φ))) → gName j x (wipe σ [j]) Hc fun σ2 H2 => wipe σ2 [j] = wipe σ [j] ∧ tYes σ2 H2 fun b H3 =>
      if b = true then te σ2 H3 fun y H4 => ∃ acc, H4 D = some (.lst acc) ∧ acc.length < sizeLine ∧ (Same H0 (upd H4 D (.lst (acc ++ [y]))) ∧ (upd H4 D (.lst (acc ++ [y]))) D = some (.lst ((xs.take (i + 1)).map φ))) else (Same H0 H3 ∧ H3 D = some (.lst ((xs.take (i + 1)).map φ))) := by
    intro D hD i x Hc hx ⟨sm, hd⟩
    refine ⟨wipe1, ?_⟩
    refine he x (List.mem_of_getElem? hx) Hc (s0.trans sm) _ fun H2 s2 => ⟨_, s2 _ _ hd, ?_, same_app (sm.trans s2) hD, ?_⟩
    · rw [List.length_map, List.length_take]
      exact Nat.lt_of_le_of_lt (Nat.le_trans (Nat.min_le_right _ _) hl) (by decide)
    · rw [upd_same, List.take_add_one, hx, List.map_append]
      rfl
  rcases hq with hq | hq
  · refine .inl ⟨⟨xs, hq⟩, fun D hD => ?_⟩
    refine lc_list (K := K) (a := a) (xs := xs) (fun i Hc => Same H0 Hc ∧ Hc D = some (.lst ((xs.take i).map φ))) ⟨same_app (Same.refl H0) hD, upd_same⟩ (fun i Hc _ p => Evl.ex_l p.1 hq) (turn D hD) fun Hc p => ?_
    rw [List.take_length] at p
    exact k D Hc (s0.trans p.1) (s0.free hD) p.2
  · refine .inr ⟨⟨xs, hq⟩, fun D hD => ?_⟩
    refine lc_tup (K := K) (a := a) (xs := xs) (fun i Hc => Same H0 Hc ∧ Hc D = some (.lst ((xs.take i).map φ))) ⟨same_app (Same.refl H0) hD, upd_same⟩ (fun i Hc _ p => Evl.ex_t p.1 hq) (turn D hD) fun Hc p => ?_
    rw [List.take_length] at p
    exact k D Hc (s0.trans p.1) (s0.free hD) p.2
theorem lc_sq {K : PySem.W.Frag} {σ : L2.St} {H : Hp} {Q : VK} {tl te : TE} {a : Addr} {j : Nat} {xs : List V} (φ : V → V) (hv : ∀ R : VK, R (.ref a) H → tl σ H R) (hq : Sq K H a xs) (hl : xs.length ≤ 100000)
    (he : ∀ x ∈ xs, ∀ H1, Same H H1 → ∀ R : VK, (∀ H2, Same H1 H2 → R (φ x) H2) → te ((wipe σ [j]).set j (some x)) H1 R)
    (k : ∀ D H', Same H H' → H D = none → H' D = some (.lst (xs.map φ)) → Q (.ref D) H') : tLc (iSeq K tl) (gName j) tYes te [j] σ H Q :=
  lc_sqG φ (fun R r => hv R (r a H (Same.refl H) hq)) hl he k
/-- [e for x in range(..)] -/
theorem lc_rg {σ : L2.St} {H : Hp} {Qd : Hp → Prop} {te : TE} {j n : Nat} {lo : Int} {D : Addr} (φ : Nat → V) (hl : n ≤ 100000) (hD : H D = none)
    (he : ∀ i, i < n → ∀ H1, Same H H1 → ∀ R : VK, (∀ H2, Same H1 H2 → R (φ i) H2) → te ((wipe σ [j]).set j (some (.int (lo + i)))) H1 R)
    (k : ∀ H', Same H H' → H' D = some (.lst ((List.range n).map φ)) → Qd H') :
    ∃ W : Nat → Nat → Hp → Prop, (∃ m, W 0 m (upd H D (.lst []))) ∧ ∀ i m H, W i m H →
      ((Itr lo n).stop i H ∧ Qd H) ∨ ((Itr lo n).go i H ∧ ∃ Nx : Hp → Prop, (∀ H', Nx H' → ∃ m', m' < m ∧ W (i + 1) m' H') ∧ ∀ x H', (Itr lo n).yld i H x H' → gName j x (wipe σ [j]) H' fun σ2 H2 => wipe σ2 [j] = wipe σ [j] ∧ tYes σ2 H2 fun b H3 =>
        if b = true then te σ2 H3 fun y H4 => ∃ acc, H4 D = some (.lst acc) ∧ acc.length < sizeLine ∧ Nx (upd H4 D (.lst (acc ++ [y]))) else Nx H3) := by
  refine lc_range (fun i Hc => Same H Hc ∧ Hc D = some (.lst ((List.range i).map φ))) ⟨same_app (Same.refl H) hD, upd_same⟩ (fun i Hc hi ⟨sm, hd⟩ => ⟨wipe1, ?_⟩) fun Hc p => k Hc p.1 p.2
  refine he i hi Hc sm _ fun H2 s2 => ⟨_, s2 _ _ hd, ?_, same_app (sm.trans s2) hD, ?_⟩
  · rw [List.length_map, List.length_range]
    exact Nat.lt_of_lt_of_le (Nat.lt_of_lt_of_le hi hl) (by decide)
  · rw [upd_same, List.range_succ, List.map_append]
    rfl
/-- [e for x in range(..) if test] -/
theorem lc_rgF {σ : L2.St} {H : Hp} {Qd : Hp → Prop} {tt : TT} {te : TE} {j n : Nat} {lo : Int} {D : Addr} (p : Nat → Bool) (φ : Nat → V) (hl : n ≤ 100000) (hD : H D = none)
    (ht : ∀ i, i < n → ∀ H1, Same H H1 → ∀ R : Bool → Hp → Prop, (∀ H2, Same H1 H2 → R (p i) H2) → tt ((wipe σ [j]).set j (some (.int (lo + i)))) H1 R)
    (he : ∀ i, i < n → ∀ H1, Same H H1 → ∀ R : VK, (∀ H2, Same H1 H2 → R (φ i) H2) → te ((wipe σ [j]).set j (some (.int (lo + i)))) H1 R)
    (k : ∀ H', Same H H' → H' D = some (.lst (((List.range n).filter p).map φ)) → Qd H') :
    ∃ W : Nat → Nat → Hp → Prop, (∃ m, W 0 m (upd H D (.lst []))) ∧ ∀ i m H, W i m H →
      ((Itr lo n).stop i H ∧ Qd H) ∨ ((Itr lo n).go i H ∧ ∃ Nx : Hp → Prop, (∀ H', Nx H' → ∃ m', m' < m ∧ W (i + 1) m' H') ∧ ∀ x H', (Itr lo n).yld i H x H' → gName j x (wipe σ [j]) H' fun σ2 H2 => wipe σ2 [j] = wipe σ [j] ∧ tt σ2 H2 fun b H3 =>
        if b = true then te σ2 H3 fun y H4 => ∃ acc, H4 D = some (.lst acc) ∧ acc.length < sizeLine ∧ Nx (upd H4 D (.lst (acc ++ [y]))) else Nx H3) := by
  refine lc_range (fun i Hc => Same H Hc ∧ Hc D = some (.lst (((List.range i).filter p).map φ))) ⟨same_app (Same.refl H) hD, upd_same⟩ (fun i Hc hi ⟨sm, hd⟩ => ⟨wipe1, ?_⟩) fun Hc q => k Hc q.1 q.2
  refine ht i hi Hc sm _ fun H1 s1 => ?_
  cases hp : p i with
  | false =>
    refine ⟨sm.trans s1, ?_⟩
    rw [List.range_succ, List.filter_append, List.filter_cons, if_neg (by rw [hp]; decide), List.filter_nil, List.append_nil]
    exact s1 _ _ hd
  | true =>
    refine he i hi H1 (sm.trans s1) _ fun H2 s2 => ⟨_, s2 _ _ (s1 _ _ hd), ?_, same_app ((sm.trans s1).trans s2) hD, ?_⟩
    · rw [List.length_map]
      have e := List.length_filter_le p (List.range i)
      rw [List.length_range] at e
      exact Nat.lt_of_le_of_lt e (Nat.lt_of_lt_of_le (Nat.lt_of_lt_of_le hi hl) (by decide))
    · rw [upd_same, List.range_succ, List.filter_append, List.filter_cons, if_pos hp, List.filter_nil, List.map_append]
      rfl
/-- [x for x in xs if test] -/
theorem lc_sqF {K : PySem.W.Frag} {σ : L2.St} {H : Hp} {Q : VK} {tl te : TE} {tt : TT} {j : Nat} {xs : List V} (p : V → Bool) (hv : ∀ R : VK, (∀ a H', Same H H' → Sq K H' a xs → R (.ref a) H') → tl σ H R) (hl : xs.length ≤ 100000)
    (ht : ∀ x ∈ xs, ∀ H1, Same H H1 → ∀ R : Bool → Hp → Prop, (∀ H2, Same H1 H2 → R (p x) H2) → tt ((wipe σ [j]).set j (some x)) H1 R)
    (he : ∀ x ∈ xs, ∀ H1, Same H H1 → ∀ R : VK, (∀ H2, Same H1 H2 → R x H2) → te ((wipe σ [j]).set j (some x)) H1 R)
    (k : ∀ D H', Same H H' → H D = none → H' D = some (.lst (xs.filter p)) → Q (.ref D) H') : tLc (iSeq K tl) (gName j) tt te [j] σ H Q := by
  refine hv _ fun a H0 s0 hq => ⟨a, rfl, ?_⟩
  have turn : ∀ (D : Addr), H0 D = none → ∀ i x Hc, xs[i]? = some x → (Same H0 Hc ∧ Hc D = some (.lst ((xs.take i).filter p))) → gName j x (wipe σ [j]) Hc fun σ2 H2 => wipe σ2 [j] = wipe σ [j] ∧ tt σ2 H2 fun b H3 =>
      if b = true then te σ2 H3 fun y H4 => ∃ acc, H4 D = some (.lst acc) ∧ acc.length < sizeLine ∧ (Same H0 (upd H4 D (.lst (acc ++ [y]))) ∧ (upd H4 D (.lst (acc ++ [y]))) D = some (.lst ((xs.take (i + 1)).filter p))) else (Same H0 H3 ∧ H3 D = some (.lst ((xs.take (i + 1)).filter p))) := by
    intro D hD i x Hc hx ⟨sm, hd⟩
    refine ⟨wipe1, ?_⟩
    have mx := List.mem_of_getElem? hx
    refine ht x mx Hc (s0.trans sm) _ fun H1 s1 => ?_
    cases hp : p x with
    | false =>
      refine ⟨sm.trans s1, ?_⟩
      rw [List.take_add_one, hx, List.filter_append]
      show H1 D = some (.lst ((xs.take i).filter p ++ [x].filter p))
      rw [List.filter_cons, if_neg (by rw [hp]; decide), List.filter_nil, List.append_nil]
      exact s1 _ _ hd
    | true =>
      refine he x mx H1 (s0.trans (sm.trans s1)) _ fun H2 s2 => ⟨_, s2 _ _ (s1 _ _ hd), ?_, same_app ((sm.trans s1).trans s2) hD, ?_⟩
      · have e := List.length_filter_le p (xs.take i)
        rw [List.length_take] at e
        exact Nat.lt_of_le_of_lt (Nat.le_trans e (Nat.le_trans (Nat.min_le_right _ _) hl)) (by decide)
      · rw [upd_same, List.take_add_one, hx, List.filter_append]
        show some (HO.lst ((xs.take i).filter p ++ [x])) = some (.lst ((xs.take i).filter p ++ [x].filter p))
        rw [List.filter_cons, if_pos hp, List.filter_nil]
  rcases hq with hq | hq
  · refine .inl ⟨⟨xs, hq⟩, fun D hD => ?_⟩
    refine lc_list (K := K) (a := a) (xs := xs) (fun i Hc => Same H0 Hc ∧ Hc D = some (.lst ((xs.take i).filter p))) ⟨same_app (Same.refl H0) hD, upd_same⟩ (fun i Hc _ r => Evl.ex_l r.1 hq) (turn D hD) fun Hc r => ?_
    rw [List.take_length] at r
    exact k D Hc (s0.trans r.1) (s0.free hD) r.2
  · refine .inr ⟨⟨xs, hq⟩, fun D hD => ?_⟩
    refine lc_tup (K := K) (a := a) (xs := xs) (fun i Hc => Same H0 Hc ∧ Hc D = some (.lst ((xs.take i).filter p))) ⟨same_app (Same.refl H0) hD, upd_same⟩ (fun i Hc _ r => Evl.ex_t r.1 hq) (turn D hD) fun Hc r => ?_
    rw [List.take_length] at r
    exact k D Hc (s0.trans r.1) (s0.free hD) r.2
theorem same_new {H : Hp} {p : Addr} {o : HO} (h : H p = none) : Same H (upd H p o) := fun _ _ ha => (upd_ne (ne_of_none ha h)).trans ha
/-! ### the head's facts -/
section
def obsW (n : Nat) (fa : List He.Fa) (fn : List He5.DefA) (ex : PySem.W.Frag → Bool) (g : Addr → Option Obj) : He.AlD × Bool := (He5.obsA fa fn (He.frG g (He.asD g n)), ex (He.frG g (He.asD g n)))
def SaysW (fa : List He.Fa) (fn : List He5.DefA) (ex : PySem.W.Frag → Bool) (K : PySem.W.Frag) : Prop := He5.SaysA fa fn K ∧ ex K = true
def hookW (n : Nat) (fa : List He.Fa) (fn : List He5.DefA) (ex : PySem.W.Frag → Bool) : PySem.W.Hook where
  α := He.AlD × Bool
  obs := fun s => obsW n fa fn ex s.heap.get?
  val := fun _ => (He5.valA fn, true)
  says := fun _ h => ∃ K : PySem.W.Frag, K.In h ∧ SaysW fa fn ex K
  of := fun _ s e => ⟨He.frG s.heap.get? (He.asD s.heap.get? n), He.frG_in, congrArg Prod.fst e, congrArg Prod.snd e⟩
  keeps := fun _ _ _ ⟨K, hK, c⟩ k => ⟨K, PySem.W.Frag.In.keeps hK k, c⟩
theorem obsW_eq {n : Nat} {fa : List He.Fa} {fn : List He5.DefA} {ex : PySem.W.Frag → Bool} {g : Addr → Option Obj} {s : Shared} (h : ∀ a, g a = s.heap.get? a) : obsW n fa fn ex g = (hookW n fa fn ex).obs s := by
  rw [show g = s.heap.get? from funext h]
  rfl
/-- a property of a class, as the head tells it -/
def propB (K : PySem.W.Frag) (C : Addr) (f : Str) : Bool :=
  He.eqO (PySem.W.findIn K (.ref C) f) (some (some (.ref (He.ma K C f)))) && (He.eqO (PySem.W.specialIn K (.ref (He.ma K C f)) "__get__") (some (some (.builtin "property.__get__"))) && (decide (PySem.W.takesIn K (.ref (He.ma K C f)) = some true) &&
    (match PySem.W.recIn K (He.ma K C f) "property" with
      | some (.ref _ :: _) => true
      | _ => false)))
theorem propB_ok {K : PySem.W.Frag} {C : Addr} {f : Str} (h : propB K C f = true) : PropOf K C f (He.ma K C f) (He5.wf K C "property" f) := by
  obtain ⟨h1, h⟩ := He.ba h
  obtain ⟨h2, h⟩ := He.ba h
  obtain ⟨h3, h4⟩ := He.ba h
  refine ⟨He.eqO_ok h1, He.eqO_ok h2, of_decide_eq_true h3, ?_⟩
  unfold He5.wf
  revert h4
  cases e : PySem.W.recIn K (He.ma K C f) "property" with
  | none => exact fun z => nomatch z
  | some l =>
    cases l with
    | nil => exact fun z => nomatch z
    | cons v r =>
      cases v with
      | ref g => exact fun _ => ⟨r, rfl⟩
      | _ => exact fun z => nomatch z
end
end WW

set_option Elab.async false
set_option linter.all false
set_option maxRecDepth 100000
set_option maxHeartbeats 4000000
namespace WW
open PySem PySem.Spec PyProof.Rows L2
def top (i : Nat) : Stmt := PySem.Challenge.pw_waitworks_k05_rates_and_counts.main.body.getD i (.Pass ⟨0, 0, 0, 0⟩)
section
variable {P : Program} {w : World} {K : PySem.W.Frag} {mg : Str → Option Value} {base : Heap} {f : Addr} {fd : FuncData}
abbrev FnP (K : PySem.W.Frag) (x : Str) (st : Stmt) (f : Addr) (fd : FuncData) : Prop := FunD K x x (defArgs st) (defBody st) (defScope st) [] [] f fd
abbrev s_l_take : Stmt := top 29
abbrev N_l_take : List Str := ["_law_box_here", "_law_many", "_law_one", "_law_digit"]
theorem sc_l_take : FnScope N_l_take ["_law_box_here", "_law_many"] (defScope s_l_take) := ⟨rfl, rfl, rfl, by decide +kernel, rfl, by decide +kernel, by decide +kernel⟩

theorem ok_take (F : FnP K "_law_take" s_l_take f fd) (m_int : mg "int" = none) : FnOk P w K mg base CX0 1 f fd ["_law_box_here", "_law_many"] spTake := by
  refine F.ok sc_l_take (fun vs H Q E h => ?_) (fun cdv A outer s H vs Q E hr h => ?_)
  · obtain ⟨b, m, rfl, _⟩ := h
    rfl
  · obtain ⟨b, m, rfl, ⟨x, y, z, hb⟩, h0, h1, q⟩ := h
    refine ⟨_, PSs.nox (pss_cons (ps_if (pt_cmpR op_gt (pe_ix (ix_sqK K) (pv 0) (pe_int) (fun _ _ => rfl)) (pe_int) (nomark _)) (pss_cons (ps_set (i := 3) sc_l_take.nd rfl (.inl rfl) (pe_op op_mod (pe_callTy call_int1 rfl m_int (by decide +kernel) (pa_cons (pe_ix (ix_sqK K) (pv 0) (pe_int) (fun _ _ => rfl)) (pa_nil))) (pv 1)))
 (pss_cons (ps_asg (pe_op op_fdiv (pe_ix (ix_sqK K) (pv 0) (pe_int) (fun _ _ => rfl)) (pv 1)) (pg_sub (pv 0) (pe_int) set_list))
 (pss_one (ps_ret (pv 3))))) (pss_nil))
 (pss_cons (ps_asg (pe_op op_add (pe_ix (ix_sqK K) (pv 0) (pe_int) (fun _ _ => rfl)) (pe_int)) (pg_sub (pv 0) (pe_int) set_list))
 (pss_cons (ps_set (i := 2) sc_l_take.nd rfl (.inl rfl) (pe_op op_mod (pe_callTy call_int1 rfl m_int (by decide +kernel) (pa_cons (pe_op op_mul (pe_op op_add (pe_ix (ix_sqK K) (pv 0) (pe_int) (fun _ _ => rfl)) (pe_op op_mul (pe_int) (pe_ix (ix_sqK K) (pv 0) (pe_int) (fun _ _ => rfl)))) (pe_int)) (pa_nil))) (pe_int)))
 (pss_cons (ps_asg (pe_op op_add (pe_op op_mod (pe_callTy call_int1 rfl m_int (by decide +kernel) (pa_cons (pe_op op_add (pe_op op_mul (pv 2) (pe_int)) (pe_int)) (pa_nil))) (pe_int)) (pe_int)) (pg_sub (pv 0) (pe_int) set_list))
 (pss_one (ps_ret (pe_op op_mod (pe_callTy call_int1 rfl m_int (by decide +kernel) (pa_cons (pe_op op_fdiv (pe_op op_add (pe_op op_mul (pv 2) (pe_int)) (pe_ix (ix_sqK K) (pv 0) (pe_int) (fun _ _ => rfl))) (pe_int)) (pa_nil))) (pv 1)))))))), ?_⟩
    have a0 : ∀ {x y z : Int}, atI [V.int x, V.int y, V.int z] 0 = some (.int x) := rfl
    refine ⟨_, rfl, _, _, _, _, rfl, rfl, .l hb, a0, _, _, rfl, rfl, _, rfl, ite2 (fun c => ?_) (fun c => ?_)⟩
    · refine ⟨_, rfl, _, _, _, _, rfl, rfl, .l hb, a0, .inl ⟨_, rfl, _, rfl, _, _, rfl, rfl, h0, ?_⟩⟩
      refine ⟨_, rfl, _, _, _, _, rfl, rfl, .l hb, a0, _, rfl, _, _, rfl, rfl, ⟨h0, h1⟩, _, rfl, _, _, _, _, rfl, rfl, hb, rfl, ?_⟩
      exact ⟨_, rfl, q _ _ _ _ (Int.emod_nonneg _ (by omega)) (Int.emod_lt_of_pos _ h0)⟩
    · have hb2 : ∀ o, (upd H b o) b = some o := fun o => upd_same
      have a1 : ∀ {x y z : Int}, atI [V.int x, V.int y, V.int z] 1 = some (.int y) := rfl
      have a2 : ∀ {x y z : Int}, atI [V.int x, V.int y, V.int z] 2 = some (.int z) := rfl
      refine ⟨_, rfl, _, _, _, _, rfl, rfl, .l hb, a2, _, _, rfl, rfl, _, rfl, _, _, _, _, rfl, rfl, hb, rfl, ?_⟩
      refine ⟨_, rfl, _, _, _, _, rfl, rfl, .l upd_same, a1, _, rfl, _, _, _, _, rfl, rfl, .l upd_same, a2, _, _, rfl, rfl, .inl ⟨by decide, by decide⟩, _, _, rfl, rfl, _, _, rfl, rfl, .inr ⟨by decide, by decide⟩,
        .inl ⟨_, rfl, _, _, rfl, rfl, (by show (0 : Int) < _; decide), ?_⟩⟩
      refine ⟨_, rfl, _, _, rfl, rfl, .inr ⟨by decide, by decide⟩, _, _, rfl, rfl, .inl ⟨_, rfl, _, _, rfl, rfl, (by show (0 : Int) < _; decide), _, _, rfl, rfl, _, rfl, _, _, _, _, rfl, rfl, upd_same, rfl, ?_⟩⟩
      refine ⟨_, rfl, _, _, rfl, rfl, .inr ⟨by decide, by decide⟩, _, rfl, _, _, _, _, rfl, rfl, .l upd_same, a1, _, _, rfl, rfl, _, _, rfl, rfl, ⟨by decide, by decide⟩, .inl ⟨_, rfl, _, rfl, _, _, rfl, rfl, h0, ?_⟩⟩
      rw [upd_upd]
      exact q _ _ _ _ (Int.emod_nonneg _ (by omega)) (Int.emod_lt_of_pos _ h0)
abbrev s_l_pick : Stmt := top 30
abbrev N_l_pick : List Str := ["_law_box_here", "_law_some"]
theorem sc_l_pick : FnScope N_l_pick ["_law_box_here", "_law_some"] (defScope s_l_pick) := ⟨rfl, rfl, rfl, by decide +kernel, rfl, by decide +kernel, by decide +kernel⟩

theorem ok_pick (F : FnP K "_law_pick" s_l_pick f fd) (m_len : mg "len" = none) (g_l_take : FnAt P w K mg base CX0 1 "_law_take" ["_law_box_here", "_law_many"] spTake) : FnOk P w K mg base CX0 2 f fd ["_law_box_here", "_law_some"] (spPick K) := by
  refine F.ok sc_l_pick (fun vs H Q E h => ?_) (fun cdv A outer s H vs Q E hr h => ?_)
  · obtain ⟨b, l, xs, rfl, _⟩ := h
    rfl
  · obtain ⟨b, l, xs, rfl, hb, hl, hn, h0, h1, q⟩ := h
    refine ⟨_, PSs.nox (pss_one (ps_ret (pe_ix (ix_sqK K) (pv 1) (pe_fn g_l_take hr rfl (pa_cons (pv 0) (pa_cons (pe_callB (call_lenK K) rfl m_len (by decide +kernel) (pa_cons (pv 1) (pa_nil))) (pa_nil)))) (fun _ _ => rfl)))), ?_⟩
    refine ⟨_, rfl, _, rfl, _, rfl, _, _, rfl, hl, b, _, rfl, hb, by omega, by omega, fun x y z d d0 d1 => ?_⟩
    have hd : d.toNat < xs.length := by omega
    exact ⟨l, xs, _, xs[d.toNat], rfl, rfl, hl.upd hn, at_toNat d0 hd, q x y z _ (List.getElem_mem hd)⟩
end
end WW

set_option Elab.async false
set_option linter.all false
set_option maxRecDepth 100000
set_option maxHeartbeats 4000000
namespace WW
open PySem PySem.Spec PyProof.Rows L2
/-- what is told is a value; the heap grows -/
def spV (pre : List V → Hp → V → Prop) : Sp := fun vs H Q _ => ∃ v, pre vs H v ∧ ∀ H', Same H H' → Q v H'
def isThingV : V → Bool
  | .non => true
  | .int _ => true
  | _ => false
def belowV : V → V → Bool
  | .non, .int _ => true
  | .int i, .int j => decide (i < j)
  | _, _ => false
def risingV (xs : List V) : Bool := !((List.range (xs.length - 1)).map fun i => belowV (xs.getD (i + 1) .non) (xs.getD i .non)).any id
section
variable {P : Program} {w : World} {K : PySem.W.Frag} {mg : Str → Option Value} {base : Heap} {f : Addr} {fd : FuncData}
def spInteger (K : PySem.W.Frag) : Sp := spV fun vs H v => ∃ x sq, vs = [x] ∧ HasT K H x sq ∧ v = .bl (isIntV x)
abbrev s_is_integer : Stmt := top 7
abbrev N_is_integer : List Str := ["value"]
theorem sc_is_integer : FnScope N_is_integer ["value"] (defScope s_is_integer) := ⟨rfl, rfl, rfl, by decide +kernel, rfl, by decide +kernel, by decide +kernel⟩

theorem ok_is_integer (F : FnP K "is_integer" s_is_integer f fd) (m_isinstance : mg "isinstance" = none) (m_int : mg "int" = none) (m_bool : mg "bool" = none) : FnOk P w K mg base CX0 1 f fd ["value"] (spInteger K) := by
  refine F.ok sc_is_integer (fun vs H Q E h => ?_) (fun cdv A outer s H vs Q E hr h => ?_)
  · obtain ⟨v, ⟨x, sq, rfl, _⟩, _⟩ := h
    rfl
  · obtain ⟨v, ⟨x, sq, rfl, ⟨t, b1, b2, ty, k1, k2, e, k3⟩, rfl⟩, q⟩ := h
    refine ⟨_, PSs.nox (pss_one (ps_ret (pe_and (pe_callB (call_isiK1 K) rfl m_isinstance (by decide +kernel) (pa_cons (pv 0) (pa_cons (pe_bltn (v := .ty "int") (u := .type "int") rfl m_int (by decide +kernel) rfl) (pa_nil)))) (pe_one (pe_not (pe_callB (call_isiK1 K) rfl m_isinstance (by decide +kernel) (pa_cons (pv 0) (pa_cons (pe_bltn (v := .ty "bool") (u := .type "bool") rfl m_bool (by decide +kernel) rfl) (pa_nil))))))))), ?_⟩
    refine ⟨_, rfl, x, .ty "int", t, _, b1, rfl, .ty "int", ty, k1, b1, rfl, ?_⟩
    rw [← e] at q
    cases b1 with
    | false => exact q _ (Same.refl H)
    | true => exact ⟨_, rfl, x, .ty "bool", t, _, b2, rfl, .ty "bool", ty, k2, b2, rfl, q _ (Same.refl H)⟩
def isNumV : V → Bool
  | .int i => decide (0 ≤ i)
  | _ => false
def spNumber (K : PySem.W.Frag) : Sp := spV fun vs H v => ∃ x sq, vs = [x] ∧ HasT K H x sq ∧ v = .bl (isNumV x)
abbrev s_is_number : Stmt := top 8
abbrev N_is_number : List Str := ["value"]
theorem sc_is_number : FnScope N_is_number ["value"] (defScope s_is_number) := ⟨rfl, rfl, rfl, by decide +kernel, rfl, by decide +kernel, by decide +kernel⟩

theorem ok_is_number (F : FnP K "is_number" s_is_number f fd) (g_is_integer : FnAt P w K mg base CX0 1 "is_integer" ["value"] (spInteger K)) : FnOk P w K mg base CX0 2 f fd ["value"] (spNumber K) := by
  refine F.ok sc_is_number (fun vs H Q E h => ?_) (fun cdv A outer s H vs Q E hr h => ?_)
  · obtain ⟨v, ⟨x, sq, rfl, _⟩, _⟩ := h
    rfl
  · obtain ⟨v, ⟨x, sq, rfl, hx, rfl⟩, q⟩ := h
    refine ⟨_, PSs.nox (pss_one (ps_ret (pe_and (pe_fn g_is_integer hr rfl (pa_cons (pv 0) (pa_nil))) (pe_one (pe_cmpR op_ge (pv 0) (pe_int) (nomark _)))))), ?_⟩
    refine ⟨_, rfl, _, ⟨x, sq, rfl, hx, rfl⟩, fun H1 s1 => ⟨_, rfl, ?_⟩⟩
    cases x with
    | int i => exact ⟨_, rfl, _, _, rfl, rfl, q _ s1⟩
    | _ => exact q _ s1
def spSequence (K : PySem.W.Frag) : Sp := spV fun vs H v => ∃ x sq, vs = [x] ∧ HasT K H x sq ∧ v = .bl sq
abbrev s_is_sequence : Stmt := top 9
abbrev N_is_sequence : List Str := ["value"]
theorem sc_is_sequence : FnScope N_is_sequence ["value"] (defScope s_is_sequence) := ⟨rfl, rfl, rfl, by decide +kernel, rfl, by decide +kernel, by decide +kernel⟩

theorem ok_is_sequence (F : FnP K "is_sequence" s_is_sequence f fd) (m_isinstance : mg "isinstance" = none) (m_list : mg "list" = none) (m_tuple : mg "tuple" = none) : FnOk P w K mg base CX0 1 f fd ["value"] (spSequence K) := by
  refine F.ok sc_is_sequence (fun vs H Q E h => ?_) (fun cdv A outer s H vs Q E hr h => ?_)
  · obtain ⟨v, ⟨x, sq, rfl, _⟩, _⟩ := h
    rfl
  · obtain ⟨v, ⟨x, sq, rfl, ⟨t, b1, b2, ty, k1, k2, e, k3⟩, rfl⟩, q⟩ := h
    refine ⟨_, PSs.nox (pss_one (ps_ret (pe_callB (call_isiTK K) rfl m_isinstance (by decide +kernel) (pa_cons (pv 0) (pa_cons (pe_tup (pa_cons (pe_bltn (v := .ty "list") (u := .type "list") rfl m_list (by decide +kernel) rfl) (pa_cons (pe_bltn (v := .ty "tuple") (u := .type "tuple") rfl m_tuple (by decide +kernel) rfl) (pa_nil)))) (pa_nil)))))), ?_⟩
    refine ⟨_, rfl, by show 2 ≤ sizeLine; decide, fun p hp => ?_⟩
    have sm : Same H (upd H p (.tup [.ty "list", .ty "tuple"])) := fun a o ha => (upd_ne (ne_of_none ha hp)).trans ha
    exact ⟨x, p, _, t, _, sq, rfl, upd_same, .cons (.ty "list") (.cons (.ty "tuple") .nil), tyx_same sm ty, k3, q _ sm⟩
def spThing (K : PySem.W.Frag) : Sp := spV fun vs H v => ∃ x sq, vs = [x] ∧ HasT K H x sq ∧ v = .bl (isThingV x)
abbrev s_is_thing : Stmt := top 16
abbrev N_is_thing : List Str := ["value"]
theorem sc_is_thing : FnScope N_is_thing ["value"] (defScope s_is_thing) := ⟨rfl, rfl, rfl, by decide +kernel, rfl, by decide +kernel, by decide +kernel⟩

theorem ok_is_thing (F : FnP K "is_thing" s_is_thing f fd) (g_is_integer : FnAt P w K mg base CX0 1 "is_integer" ["value"] (spInteger K)) : FnOk P w K mg base CX0 2 f fd ["value"] (spThing K) := by
  refine F.ok sc_is_thing (fun vs H Q E h => ?_) (fun cdv A outer s H vs Q E hr h => ?_)
  · obtain ⟨v, ⟨x, sq, rfl, _⟩, _⟩ := h
    rfl
  · obtain ⟨v, ⟨x, sq, rfl, hx, rfl⟩, q⟩ := h
    refine ⟨_, PSs.nox (pss_one (ps_ret (pe_or (pe_cmpR op_isN (pv 0) (pe_non) (nomark _)) (pe_one (pe_fn g_is_integer hr rfl (pa_cons (pv 0) (pa_nil))))))), ?_⟩
    refine ⟨_, rfl, rfl, _, rfl, ?_⟩
    cases x with
    | non => exact q _ (Same.refl H)
    | _ => exact ⟨_, rfl, _, ⟨_, sq, rfl, hx, rfl⟩, fun H1 s1 => q _ s1⟩
def spBelow : Sp := spV fun vs H v => ∃ x y, vs = [x, y] ∧ isThingV x = true ∧ isThingV y = true ∧ v = .bl (belowV x y)
abbrev s_is_below : Stmt := top 17
abbrev N_is_below : List Str := ["one", "other"]
theorem sc_is_below : FnScope N_is_below ["one", "other"] (defScope s_is_below) := ⟨rfl, rfl, rfl, by decide +kernel, rfl, by decide +kernel, by decide +kernel⟩

theorem ok_is_below (F : FnP K "is_below" s_is_below f fd) : FnOk P w K mg base CX0 1 f fd ["one", "other"] spBelow := by
  refine F.ok sc_is_below (fun vs H Q E h => ?_) (fun cdv A outer s H vs Q E hr h => ?_)
  · obtain ⟨v, ⟨x, y, rfl, _⟩, _⟩ := h
    rfl
  · obtain ⟨v, ⟨x, y, rfl, hx, hy, rfl⟩, q⟩ := h
    have q := q _ (Same.refl H)
    refine ⟨_, PSs.nox (pss_cons (ps_if (pt_cmpR op_isN (pv 1) (pe_non) (nomark _)) (pss_one (ps_ret (pe_bl))) (pss_nil))
 (pss_one (ps_ret (pe_or (pe_cmpR op_isN (pv 0) (pe_non) (nomark _)) (pe_one (pe_cmpR op_lt (pv 0) (pv 1) (nomark _))))))), ?_⟩
    refine ⟨_, rfl, rfl, _, rfl, ?_⟩
    cases y with
    | non => cases x <;> exact q
    | int j =>
      refine ⟨_, rfl, rfl, _, rfl, ?_⟩
      cases x with
      | non => exact q
      | int i => exact ⟨_, rfl, _, rfl, _, _, rfl, rfl, q⟩
      | _ => cases hx
    | _ => cases hy
def spRising (K : PySem.W.Frag) : Sp := spV fun vs H v => ∃ a xs, vs = [.ref a] ∧ Sq K H a xs ∧ xs.length ≤ 1000 ∧ xs.all isThingV = true ∧ v = .bl (risingV xs)
theorem getD_at {xs : List V} {i : Nat} (h : i < xs.length) : atI xs (i : Int) = some (xs.getD i .non) := by
  rw [List.getD_eq_getElem?_getD, List.getElem?_eq_getElem h]
  exact atI_nat (List.getElem?_eq_getElem h)
theorem all_getD {xs : List V} {p : V → Bool} (h : xs.all p = true) {i : Nat} (hi : i < xs.length) : p (xs.getD i .non) = true := by
  rw [List.getD_eq_getElem?_getD, List.getElem?_eq_getElem hi]
  exact List.all_eq_true.mp h _ (List.getElem_mem hi)
abbrev s_are_rising : Stmt := top 18
abbrev N_are_rising : List Str := ["some", "at"]
theorem sc_are_rising : FnScope N_are_rising ["some"] (defScope s_are_rising) := ⟨rfl, rfl, rfl, by decide +kernel, rfl, by decide +kernel, by decide +kernel⟩

theorem ok_are_rising (F : FnP K "are_rising" s_are_rising f fd) (m_any : mg "any" = none) (m_len : mg "len" = none) (m_range : mg "range" = none) (g_is_below : FnAt P w K mg base CX0 1 "is_below" ["one", "other"] spBelow) : FnOk P w K mg base CX0 2 f fd ["some"] (spRising K) := by
  refine F.ok sc_are_rising (fun vs H Q E h => ?_) (fun cdv A outer s H vs Q E hr h => ?_)
  · obtain ⟨v, ⟨a, xs, rfl, _⟩, _⟩ := h
    rfl
  · obtain ⟨v, ⟨a, xs, rfl, hq, hl, hall, rfl⟩, q⟩ := h
    refine ⟨_, PSs.nox (pss_one (ps_ret (pe_not (pe_callB (cr_anyK K) rfl m_any (by decide +kernel) (pa_cons (pe_lc (own := [("at", 1)]) rfl sc_are_rising.nd (pi_range1 rfl m_range (pa_cons (pe_op op_sub (pe_callB (call_lenK K) rfl m_len (by decide +kernel) (pa_cons (pv 0) (pa_nil))) (pe_int)) (pa_nil))) (blkOk_by (N := N_are_rising) (sc := defScope s_are_rising) (by decide +kernel)) (fun _ _ _ _ _ => pg_name (i := 1) sc_are_rising.nd rfl (.inl rfl)) (fun _ _ _ _ _ => pts_nil) (fun _ _ _ _ _ => pe_fn g_is_below hr rfl (pa_cons (pe_ix (ix_sqK K) (pv 0) (pe_op op_add (pv 1) (pe_int)) (fun _ _ => rfl)) (pa_cons (pe_ix (ix_sqK K) (pv 0) (pv 1) (fun _ _ => rfl)) (pa_nil))))) (pa_nil)))))), ?_⟩
    refine ⟨_, rfl, a, xs, rfl, hq, _, _, rfl, rfl, _, rfl, by omega, by omega, fun D hD => ?_⟩
    have hn : ((xs.length : Int) - 1).toNat = xs.length - 1 := by omega
    rw [hn]
    refine lc_rg (fun i => .bl (belowV (xs.getD (i + 1) .non) (xs.getD i .non))) (by omega) hD (fun i hi H1 s1 R k => ?_) fun H' s1 hD' => ?_
    · have e0 : (0 : Int) + (i : Int) + 1 = ((i + 1 : Nat) : Int) := by omega
      have e1 : (0 : Int) + (i : Int) = ((i : Nat) : Int) := by omega
      refine ⟨_, rfl, _, rfl, _, _, rfl, rfl, a, xs, _, _, rfl, rfl, hq.ex s1, ?_, _, rfl, _, rfl, a, xs, _, _, rfl, rfl, hq.ex s1, ?_, _, ⟨_, _, rfl, ?_, ?_, rfl⟩, k⟩
      · rw [e0]
        exact getD_at (by omega)
      · rw [e1]
        exact getD_at (by omega)
      · exact all_getD hall (by omega)
      · exact all_getD hall (by omega)
    · refine ⟨D, (List.range (xs.length - 1)).map (fun i => belowV (xs.getD (i + 1) .non) (xs.getD i .non)), rfl, .inl (.inl ?_), _, rfl, q _ s1⟩
      rw [hD', List.map_map]
      rfl
end
end WW

set_option Elab.async false
set_option linter.all false
set_option maxRecDepth 100000
set_option maxHeartbeats 4000000
namespace WW
open PySem PySem.Spec PyProof.Rows L2
/-- an argument: no sequence, or a sequence of these -/
def Arg (K : PySem.W.Frag) (H : Hp) (x : V) : Option (List V) → Prop
  | none => HasT K H x false
  | some xs => ∃ a, x = .ref a ∧ Sq K H a xs ∧ xs.length ≤ 400 ∧ ∀ y ∈ xs, ∃ sq, HasT K H y sq
def intOf : V → Int
  | .int i => i
  | _ => 0
def hd (xs : List V) : V := xs.getD 0 .non
def lst (xs : List V) : V := xs.getD (xs.length - 1) .non
def wrongA (xs ys : List V) (m : V) : V :=
  if (ys.isEmpty || !ys.all isThingV) = true then .str "again"
  else if (!risingV (cutV xs (some (-1)) none ++ ys) || (decide (hd ys = .non) && !decide (lst ys = .non))) = true then .str "again"
  else if isNumV m = false then .str "more"
  else if hd ys = .non then (if m = .int 0 then .non else .str "more")
  else if intOf (lst ys) ≤ intOf (hd ys) + intOf m then .non else .str "more"
def wrongB (xs : List V) (m : V) : Option (List V) → V
  | none => .str "again"
  | some ys => wrongA xs ys m
def wrongW (o1 o2 : Option (List V)) (m : V) : V := match o1 with
  | none => .str "first"
  | some xs => if (xs.all isThingV && risingV xs) = true then wrongB xs m o2 else .str "first"
def spWrong (K : PySem.W.Frag) : Sp := spV fun vs H v => ∃ x y m o1 o2 sq, vs = [x, y, m] ∧ Arg K H x o1 ∧ Arg K H y o2 ∧ HasT K H m sq ∧ v = wrongW o1 o2 m
theorem Arg.ex {K : PySem.W.Frag} {H H' : Hp} {x : V} {o : Option (List V)} (e : Same H H') (h : Arg K H x o) : Arg K H' x o := by
  cases o with
  | none => exact HasT.ex e h
  | some xs =>
    obtain ⟨a, r, hq, hl, hy⟩ := h
    exact ⟨a, r, hq.ex e, hl, fun y m => ⟨_, (hy y m).choose_spec.ex e⟩⟩
theorem risingV_at {xs : List V} (h : risingV xs = true) {i : Nat} (hi : i + 1 < xs.length) : belowV (xs.getD (i + 1) .non) (xs.getD i .non) = false := by
  unfold risingV at h
  rw [Bool.not_eq_true', List.any_eq_false] at h
  have q := h (belowV (xs.getD (i + 1) .non) (xs.getD i .non)) (List.mem_map.mpr ⟨i, List.mem_range.mpr (by omega), rfl⟩)
  simpa using q
theorem risingV_of {xs : List V} (h : ∀ i, i + 1 < xs.length → belowV (xs.getD (i + 1) .non) (xs.getD i .non) = false) : risingV xs = true := by
  unfold risingV
  rw [Bool.not_eq_true', List.any_eq_false]
  intro b hb
  obtain ⟨i, hi, rfl⟩ := List.mem_map.mp hb
  rw [List.mem_range] at hi
  simpa using h i (by omega)
theorem rising_ints {xs : List V} (ht : xs.all isThingV = true) (h : risingV xs = true) (h0 : isIntV (xs.getD 0 .non) = true) : ∀ i, i < xs.length → isIntV (xs.getD i .non) = true
  | 0, _ => h0
  | i + 1, hi => by
    have ih := rising_ints ht h h0 i (by omega)
    have q := risingV_at h hi
    have t := all_getD ht hi
    revert q t ih
    cases xs.getD (i + 1) V.non <;> cases xs.getD i V.non <;> intro ih q t <;> first | rfl | (cases ih; done) | (cases t; done) | (cases q; done)
theorem rising_drop {xs ys : List V} (h : risingV (xs ++ ys) = true) : risingV ys = true := by
  refine risingV_of fun i hi => ?_
  have q := risingV_at (xs := xs ++ ys) h (i := xs.length + i) (by rw [List.length_append]; omega)
  simp only [List.getD_eq_getElem?_getD] at q ⊢
  rw [List.getElem?_append_right (by omega), List.getElem?_append_right (by omega)] at q
  rw [show xs.length + i + 1 - xs.length = i + 1 by omega, show xs.length + i - xs.length = i by omega] at q
  exact q
section
variable {P : Program} {w : World} {K : PySem.W.Frag} {mg : Str → Option Value} {base : Heap} {f : Addr} {fd : FuncData}
/-- all([is_thing(x) for x in xs]) -/
theorem all_things {σ : L2.St} {H : Hp} {Q : VK} {tl : TE} {a : Addr} {j : Nat} {xs : List V} (hj : j < σ.length) (hv : ∀ R : VK, R (.ref a) H → tl σ H R) (hq : Sq K H a xs) (hl : xs.length ≤ 400) (hy : ∀ y ∈ xs, ∃ sq, HasT K H y sq)
    (k : ∀ H', Same H H' → Q (.bl (xs.all isThingV)) H') : tCB (rAll K) (tCons (tLc (iSeq K tl) (gName j) tYes (tCall (spThing K) [] E0 (tCons (tVar j) tNil)) [j]) tNil) σ H Q := by
  show tLc (iSeq K tl) (gName j) tYes (tCall (spThing K) [] E0 (tCons (tVar j) tNil)) [j] σ H (fun x H1 => rAll K [x] H1 Q)
  refine lc_sq (K := K) (fun x => .bl (isThingV x)) hv hq (by omega) (fun x hx H1 s1 R r => ?_) fun D H' s1 _ hD => ?_
  · obtain ⟨sq, ht⟩ := hy x hx
    refine ⟨x, ?_, _, ⟨x, sq, rfl, ht.ex s1, rfl⟩, r⟩
    rw [List.getElem?_set_self]
    rw [wipe_length]
    exact hj
  · refine ⟨D, xs.map isThingV, rfl, .inl (.inl ?_), ?_⟩
    · rw [hD, List.map_map]
      rfl
    · have e : (xs.map isThingV).all id = xs.all isThingV := by rw [List.all_map]; rfl
      rw [e]
      exact k H' s1
abbrev s_wrong_word : Stmt := top 19
abbrev N_wrong_word : List Str := ["first", "again", "more", "thing"]
theorem sc_wrong_word : FnScope N_wrong_word ["first", "again", "more"] (defScope s_wrong_word) := ⟨rfl, rfl, rfl, by decide +kernel, rfl, by decide +kernel, by decide +kernel⟩

set_option maxHeartbeats 8000000 in
theorem ok_wrong_word (F : FnP K "wrong_word" s_wrong_word f fd) (m_all : mg "all" = none) (m_len : mg "len" = none) (g_is_sequence : FnAt P w K mg base CX0 1 "is_sequence" ["value"] (spSequence K)) (g_is_thing : FnAt P w K mg base CX0 2 "is_thing" ["value"] (spThing K))
    (g_is_number : FnAt P w K mg base CX0 2 "is_number" ["value"] (spNumber K)) (g_are_rising : FnAt P w K mg base CX0 2 "are_rising" ["some"] (spRising K)) : FnOk P w K mg base CX0 3 f fd ["first", "again", "more"] (spWrong K) := by
  refine F.ok sc_wrong_word (fun vs H Q E h => ?_) (fun cdv A outer s H vs Q E hr h => ?_)
  · obtain ⟨v, ⟨x, y, m, o1, o2, sq, rfl, _⟩, _⟩ := h
    rfl
  · obtain ⟨v, ⟨x, y, m, o1, o2, sq, rfl, h1, h2, h3, rfl⟩, q⟩ := h
    refine ⟨_, PSs.nox (pss_cons (ps_if (PW.pt (pw_or (pt_not (pt_val (pe_fn g_is_sequence hr rfl (pa_cons (pv 0) (pa_nil))))) (pw_or (pt_not (pt_val (pe_callB (cr_allK K) rfl m_all (by decide +kernel) (pa_cons (pe_lc (own := [("thing", 3)]) rfl sc_wrong_word.nd (pi_seqK K (pv 0)) (blkOk_by (N := N_wrong_word) (sc := defScope s_wrong_word) (by decide +kernel)) (fun _ _ _ _ _ => pg_name (i := 3) sc_wrong_word.nd rfl (.inl rfl)) (fun _ _ _ _ _ => pts_nil) (fun _ _ _ _ _ => pe_fn g_is_thing hr rfl (pa_cons (pv 3) (pa_nil)))) (pa_nil))))) (pw_or1 (pt_not (pt_val (pe_fn g_are_rising hr rfl (pa_cons (pv 0) (pa_nil))))))))) (pss_one (ps_ret (pe_str))) (pss_nil))
 (pss_cons (ps_if (PW.pt (pw_or (pt_not (pt_val (pe_fn g_is_sequence hr rfl (pa_cons (pv 1) (pa_nil))))) (pw_or (pt_cmpR op_eq (pe_callB (call_lenK K) rfl m_len (by decide +kernel) (pa_cons (pv 1) (pa_nil))) (pe_int) (nomark _)) (pw_or1 (pt_not (pt_val (pe_callB (cr_allK K) rfl m_all (by decide +kernel) (pa_cons (pe_lc (own := [("thing", 3)]) rfl sc_wrong_word.nd (pi_seqK K (pv 1)) (blkOk_by (N := N_wrong_word) (sc := defScope s_wrong_word) (by decide +kernel)) (fun _ _ _ _ _ => pg_name (i := 3) sc_wrong_word.nd rfl (.inl rfl)) (fun _ _ _ _ _ => pts_nil) (fun _ _ _ _ _ => pe_fn g_is_thing hr rfl (pa_cons (pv 3) (pa_nil)))) (pa_nil))))))))) (pss_one (ps_ret (pe_str))) (pss_nil))
 (pss_cons (ps_if (PW.pt (pw_or (pt_not (pt_val (pe_fn g_are_rising hr rfl (pa_cons (pe_lst (pa_starK K (pe_slice (sl_sqK K) (pv 0) (po_some (pe_un un_neg (pe_int))) (po_none)) (pa_starK K (pv 1) (pa_nil)))) (pa_nil))))) (pw_or1 (PW.pt (pw_and (pt_cmpR op_isN (pe_ix (ix_sqK K) (pv 1) (pe_int) (fun _ _ => rfl)) (pe_non) (nomark _)) (pw_and1 (pt_cmpR op_notN (pe_ix (ix_sqK K) (pv 1) (pe_un un_neg (pe_int)) (fun _ _ => rfl)) (pe_non) (nomark _)))))))) (pss_one (ps_ret (pe_str))) (pss_nil))
 (pss_cons (ps_if (pt_not (pt_val (pe_fn g_is_number hr rfl (pa_cons (pv 2) (pa_nil))))) (pss_one (ps_ret (pe_str))) (pss_nil))
 (pss_cons (ps_if (pt_cmpR op_isN (pe_ix (ix_sqK K) (pv 1) (pe_int) (fun _ _ => rfl)) (pe_non) (nomark _)) (pss_one (ps_ret (pe_ifExp (pt_cmpR op_eq (pv 2) (pe_int) (nomark _)) (pe_non) (pe_str)))) (pss_nil))
 (pss_one (ps_ret (pe_ifExp (pt_cmpR op_le (pe_ix (ix_sqK K) (pv 1) (pe_un un_neg (pe_int)) (fun _ _ => rfl)) (pe_op op_add (pe_ix (ix_sqK K) (pv 1) (pe_int) (fun _ _ => rfl)) (pv 2)) (nomark _)) (pe_non) (pe_str))))))))), ?_⟩
    cases o1 with
    | none => exact ⟨_, rfl, _, ⟨x, false, rfl, h1, rfl⟩, fun H1 s1 => ⟨_, rfl, q _ s1⟩⟩
    | some xs =>
      obtain ⟨a, rfl, hq, hl, hy⟩ := id h1
      refine ⟨_, rfl, _, ⟨_, true, rfl, hq.hasT, rfl⟩, fun H1 s1 => ⟨_, rfl, ?_⟩⟩
      refine all_things (show 3 < 4 by decide) (fun R r => ⟨_, rfl, r⟩) (hq.ex s1) hl (fun y my => ⟨_, (hy y my).choose_spec.ex s1⟩) fun H2 s2 => ⟨_, rfl, ?_⟩
      have s12 := s1.trans s2
      have q : ∀ H', Same H H' → Q (if (xs.all isThingV && risingV xs) = true then wrongB xs m o2 else V.str "first") H' := q
      cases ht : xs.all isThingV with
      | false =>
        rw [ht] at q
        exact q _ s12
      | true =>
        rw [ht, Bool.true_and] at q
        refine ⟨_, rfl, _, ⟨a, xs, rfl, hq.ex s12, by omega, ht, rfl⟩, fun H3 s3 => ⟨_, rfl, ?_⟩⟩
        have s13 := s12.trans s3
        cases hr1 : risingV xs with
        | false =>
          rw [hr1] at q
          exact q _ s13
        | true =>
          rw [hr1, if_pos rfl] at q
          cases o2 with
          | none => exact ⟨_, rfl, _, ⟨y, false, rfl, HasT.ex s13 h2, rfl⟩, fun H4 s4 => ⟨_, rfl, q _ (s13.trans s4)⟩⟩
          | some ys =>
            obtain ⟨b, rfl, kq, kl, ky⟩ := id h2
            refine ⟨_, rfl, _, ⟨_, true, rfl, (kq.ex s13).hasT, rfl⟩, fun H4 s4 => ⟨_, rfl, ?_⟩⟩
            have s14 := s13.trans s4
            refine ⟨_, rfl, b, ys, rfl, kq.ex s14, rfl, _, rfl, ?_⟩
            have q : ∀ H', Same H H' → Q (wrongA xs ys m) H' := q
            unfold wrongA at q
            cases hz : ys.isEmpty with
            | true =>
              have e0 : ys = [] := List.isEmpty_iff.mp hz
              subst e0
              exact q _ s14
            | false =>
              have e0 : ¬ V.int (ys.length : Int) = V.int 0 := fun z => by
                have z1 : (ys.length : Int) = 0 := V.int.inj z
                have z2 : ys = [] := List.eq_nil_of_length_eq_zero (by omega)
                rw [z2] at hz
                cases hz
              have hpos : 0 < ys.length := by
                cases ys with
                | nil => exact absurd rfl e0
                | cons _ _ => exact Nat.succ_pos _
              rw [decide_eq_false e0]
              refine all_things (show 3 < 4 by decide) (fun R r => ⟨_, rfl, r⟩) (kq.ex s14) kl (fun y my => ⟨_, (ky y my).choose_spec.ex s14⟩) fun H5 s5 => ⟨_, rfl, ?_⟩
              have s15 := s14.trans s5
              cases kt : ys.all isThingV with
              | false =>
                rw [hz, kt] at q
                exact q _ s15
              | true =>
                rw [hz, kt, if_neg (by decide)] at q
                refine ⟨_, rfl, 1, rfl, _, rfl, slq (hq.ex s15) fun c H6 s6 hc => ?_⟩
                have s16 := s15.trans s6
                refine ⟨c, _, rfl, hc.symm, _, rfl, b, ys, rfl, (kq.ex s16).symm, ?_⟩
                have hlen : (cutV xs (some (-1)) none ++ ys).length ≤ 1000 := by
                  rw [List.length_append]
                  have := cutV_length xs (some (-1)) none
                  omega
                have hall : (cutV xs (some (-1)) none ++ ys).all isThingV = true := by
                  rw [List.all_append, kt, Bool.and_true, List.all_eq_true]
                  intro z hz
                  unfold cutV at hz
                  exact List.all_eq_true.mp ht z (List.mem_of_mem_drop (List.mem_of_mem_take hz))
                simp only [tNil, List.append_nil]
                refine ⟨Nat.le_trans hlen (by decide), fun p hp => ?_⟩
                have s7 : Same H6 (upd H6 p (.lst (cutV xs (some (-1)) none ++ ys))) := fun a o ha => (upd_ne (ne_of_none ha hp)).trans ha
                refine ⟨_, ⟨p, _, rfl, .l upd_same, hlen, hall, rfl⟩, fun H8 s8 => ⟨_, rfl, ?_⟩⟩
                have s18 := (s16.trans s7).trans s8
                have at0 : atI ys 0 = some (hd ys) := getD_at (i := 0) hpos
                have atL : atI ys (-1) = some (lst ys) := by
                  have e : ys = ys.dropLast ++ [ys.getLast (List.ne_nil_of_length_pos hpos)] := (List.dropLast_concat_getLast _).symm
                  have z : lst ys = ys.getLast (List.ne_nil_of_length_pos hpos) := by
                    unfold lst
                    rw [List.getD_eq_getElem?_getD, List.getElem?_eq_getElem (by omega), List.getLast_eq_getElem]
                    rfl
                  rw [z]
                  conv => lhs; rw [e]
                  exact atI_last _ _
                cases kr : risingV (cutV xs (some (-1)) none ++ ys) with
                | false =>
                  rw [kr] at q
                  exact q _ s18
                | true =>
                  rw [kr] at q
                  refine ⟨_, rfl, b, ys, _, _, rfl, rfl, kq.ex s18, at0, rfl, _, rfl, ?_⟩
                  cases hd0 : decide (hd ys = .non) with
                  | true =>
                    refine ⟨_, rfl, 1, rfl, b, ys, _, _, rfl, rfl, kq.ex s18, atL, rfl, _, rfl, ?_⟩
                    rw [hd0] at q
                    cases l0 : decide (lst ys = .non) with
                    | false =>
                      rw [l0] at q
                      exact q _ s18
                    | true =>
                      rw [l0] at q
                      refine ⟨_, rfl, _, ⟨m, sq, rfl, h3.ex s18, rfl⟩, fun H9 s9 => ⟨_, rfl, ?_⟩⟩
                      have s19 := s18.trans s9
                      cases nm : isNumV m with
                      | false =>
                        rw [nm] at q
                        exact q _ s19
                      | true =>
                        rw [nm] at q
                        refine ⟨_, rfl, b, ys, _, _, rfl, rfl, kq.ex s19, at0, rfl, _, rfl, ?_⟩
                        rw [hd0]
                        rw [if_pos (of_decide_eq_true hd0)] at q
                        refine ⟨_, rfl, ?_⟩
                        cases m with
                        | int i =>
                          refine ⟨rfl, _, rfl, ?_⟩
                          by_cases hi : V.int i = V.int 0
                          · rw [decide_eq_true hi]
                            rw [if_pos hi] at q
                            exact q _ s19
                          · rw [decide_eq_false hi]
                            rw [if_neg hi] at q
                            exact q _ s19
                        | _ => cases nm
                  | false =>
                    rw [hd0] at q
                    refine ⟨_, rfl, _, ⟨m, sq, rfl, h3.ex s18, rfl⟩, fun H9 s9 => ⟨_, rfl, ?_⟩⟩
                    have s19 := s18.trans s9
                    cases nm : isNumV m with
                    | false =>
                      rw [nm] at q
                      exact q _ s19
                    | true =>
                      rw [nm] at q
                      refine ⟨_, rfl, b, ys, _, _, rfl, rfl, kq.ex s19, at0, rfl, _, rfl, ?_⟩
                      rw [hd0]
                      rw [if_neg (of_decide_eq_false hd0)] at q
                      have i0 : isIntV (hd ys) = true := by
                        have t := all_getD kt hpos
                        have n := of_decide_eq_false hd0
                        revert t n
                        unfold hd
                        cases ys.getD 0 V.non <;> intro t n <;> first | rfl | exact absurd rfl n | (cases t; done)
                      have iL : isIntV (lst ys) = true := rising_ints kt (rising_drop kr) i0 _ (by omega)
                      obtain ⟨u, eu⟩ : ∃ u, hd ys = .int u := by
                        revert i0
                        cases hd ys <;> intro i0 <;> first | exact ⟨_, rfl⟩ | cases i0
                      obtain ⟨t, et⟩ : ∃ t, lst ys = .int t := by
                        revert iL
                        cases lst ys <;> intro iL <;> first | exact ⟨_, rfl⟩ | cases iL
                      cases m with
                      | int i =>
                        refine ⟨_, rfl, 1, rfl, b, ys, _, _, rfl, rfl, kq.ex s19, atL, _, rfl, b, ys, _, _, rfl, rfl, kq.ex s19, at0, _, rfl, u, i, eu, rfl, t, _, et, rfl, _, rfl, ?_⟩
                        rw [eu, et] at q
                        have q : ∀ H', Same H H' → Q (if t ≤ u + i then .non else .str "more") H' := q
                        by_cases hi : t ≤ u + i
                        · rw [decide_eq_true hi]
                          rw [if_pos hi] at q
                          exact q _ s19
                        · rw [decide_eq_false hi]
                          rw [if_neg hi] at q
                          exact q _ s19
                      | _ => cases nm
end
end WW

set_option Elab.async false
set_option linter.all false
set_option maxRecDepth 100000
set_option maxHeartbeats 4000000
namespace WW
open PySem PySem.Spec PyProof.Rows L2
def wide (ag : List Int) (m : Int) (t : Nat) : List Int := ag ++ (ag.take t).map (· + m)
def isTurn (ag : List Int) (m : Int) (t : Nat) : Bool :=
  if (ag.length : Int) % (t : Int) ≠ 0 ∨ m * (t : Int) % (ag.length : Int) ≠ 0 then false
  else (List.range ag.length).all fun i => decide ((wide ag m t).getD (i + t) 0 - (wide ag m t).getD i 0 = m * (t : Int) / (ag.length : Int))
theorem cut_to {xs : List V} {t : Nat} : cutV xs none (some (t : Int)) = xs.take t := by
  unfold cutV
  rw [HT.sIx_none, HT.sIx_nat, List.drop_zero, Nat.sub_zero]
  by_cases h : t ≤ xs.length
  · rw [Nat.min_eq_left h]
  · rw [Nat.min_eq_right (by omega), List.take_length, List.take_of_length_le (by omega)]
theorem ints_at {ns : List Int} {i : Nat} (h : i < ns.length) : atI (ns.map V.int) (i : Int) = some (.int (ns.getD i 0)) := by
  refine atI_nat ?_
  rw [List.getElem?_map, List.getD_eq_getElem?_getD, List.getElem?_eq_getElem h]
  rfl
theorem dec_int {a b : Int} : decide (V.int a = V.int b) = decide (a = b) := by
  by_cases h : a = b
  · rw [decide_eq_true h, decide_eq_true (by rw [h])]
  · rw [decide_eq_false h, decide_eq_false (fun z => h (V.int.inj z))]
theorem wide_len {ag : List Int} {m : Int} {t : Nat} (h : t ≤ ag.length) : (wide ag m t).length = ag.length + t := by
  unfold wide
  rw [List.length_append, List.length_map, List.length_take, Nat.min_eq_left h]
section
variable {P : Program} {w : World} {K : PySem.W.Frag} {mg : Str → Option Value} {base : Heap} {f : Addr} {fd : FuncData}
def spTurn (K : PySem.W.Frag) : Sp := spV fun vs H v => ∃ (a : Addr) (ag : List Int) (m : Int) (t : Nat), vs = [.ref a, .int m, .int (t : Int)] ∧ Sq K H a (ag.map V.int) ∧ 0 < t ∧ t ≤ ag.length ∧ ag.length ≤ 400 ∧ v = .bl (isTurn ag m t)
abbrev s_is_turn : Stmt := top 20
abbrev N_is_turn : List Str := ["again", "more", "turn", "growth", "wide", "at", "thing"]
theorem sc_is_turn : FnScope N_is_turn ["again", "more", "turn"] (defScope s_is_turn) := ⟨rfl, rfl, rfl, by decide +kernel, rfl, by decide +kernel, by decide +kernel⟩

theorem ok_is_turn (F : FnP K "is_turn" s_is_turn f fd) (m_all : mg "all" = none) (m_len : mg "len" = none) (m_range : mg "range" = none) : FnOk P w K mg base CX0 1 f fd ["again", "more", "turn"] (spTurn K) := by
  refine F.ok sc_is_turn (fun vs H Q E h => ?_) (fun cdv A outer s H vs Q E hr h => ?_)
  · obtain ⟨v, ⟨a, ag, m, t, rfl, _⟩, _⟩ := h
    rfl
  · obtain ⟨v, ⟨a, ag, m, t, rfl, hq, h0, ht, hl, rfl⟩, q⟩ := h
    refine ⟨_, PSs.nox (pss_cons (ps_if (PW.pt (pw_or (pt_cmpR op_ne (pe_op op_mod (pe_callB (call_lenK K) rfl m_len (by decide +kernel) (pa_cons (pv 0) (pa_nil))) (pv 2)) (pe_int) (nomark _)) (pw_or1 (pt_cmpR op_ne (pe_op op_mod (pe_op op_mul (pv 1) (pv 2)) (pe_callB (call_lenK K) rfl m_len (by decide +kernel) (pa_cons (pv 0) (pa_nil)))) (pe_int) (nomark _))))) (pss_one (ps_ret (pe_bl))) (pss_nil))
 (pss_cons (ps_set (i := 3) sc_is_turn.nd rfl (.inr rfl) (pe_op op_fdiv (pe_op op_mul (pv 1) (pv 2)) (pe_callB (call_lenK K) rfl m_len (by decide +kernel) (pa_cons (pv 0) (pa_nil)))))
 (pss_cons (ps_set (i := 4) sc_is_turn.nd rfl (.inr rfl) (pe_lst (pa_starK K (pv 0) (pa_starK K (pe_lc (own := [("thing", 6)]) rfl sc_is_turn.nd (pi_seqK K (pe_slice (sl_sqK K) (pv 0) (po_none) (po_some (pv 2)))) (blkOk_by (N := N_is_turn) (sc := defScope s_is_turn) (by decide +kernel)) (fun _ _ _ _ _ => pg_name (i := 6) sc_is_turn.nd rfl (.inl rfl)) (fun _ _ _ _ _ => pts_nil) (fun _ _ _ _ _ => pe_op op_add (pv 6) (pv 1))) (pa_nil)))))
 (pss_one (ps_ret (pe_callB (cr_allK K) rfl m_all (by decide +kernel) (pa_cons (pe_lc (own := [("at", 5)]) rfl sc_is_turn.nd (pi_range1 rfl m_range (pa_cons (pe_callB (call_lenK K) rfl m_len (by decide +kernel) (pa_cons (pv 0) (pa_nil))) (pa_nil))) (blkOk_by (N := N_is_turn) (sc := defScope s_is_turn) (by decide +kernel)) (fun _ _ _ _ _ => pg_name (i := 5) sc_is_turn.nd rfl (.inl rfl)) (fun _ _ _ _ _ => pts_nil) (fun _ _ _ _ _ => pe_cmpR op_eq (pe_op op_sub (pe_ix (ix_sqK K) (pv 4) (pe_op op_add (pv 5) (pv 2)) (fun _ _ => rfl)) (pe_ix (ix_sqK K) (pv 4) (pv 5) (fun _ _ => rfl))) (pv 3) (nomark _))) (pa_nil)))))))), ?_⟩
    have hlen : ((ag.map V.int).length : Int) = (ag.length : Int) := by rw [List.length_map]
    have hpos : (0 : Int) < ((ag.map V.int).length : Int) := by rw [hlen]; omega
    have t0 : (0 : Int) < (t : Int) := by omega
    refine ⟨_, rfl, a, _, rfl, hq, _, rfl, _, _, rfl, rfl, t0, rfl, _, rfl, ?_⟩
    unfold isTurn at q
    rw [hlen, dec_int]
    by_cases c1 : (ag.length : Int) % (t : Int) = 0
    · rw [decide_eq_true c1]
      refine ⟨_, rfl, _, rfl, _, _, rfl, rfl, .inr ⟨by omega, by omega⟩, _, rfl, a, _, rfl, hq, _, _, rfl, rfl, hpos, rfl, _, rfl, ?_⟩
      rw [hlen, dec_int]
      by_cases c2 : m * (t : Int) % (ag.length : Int) = 0
      · rw [decide_eq_true c2]
        rw [if_neg (by rw [c1, c2]; simp)] at q
        refine ⟨_, rfl, _, rfl, _, _, rfl, rfl, .inr ⟨by omega, by omega⟩, _, rfl, a, _, rfl, hq, _, _, rfl, rfl, ⟨hpos, by rw [hlen]; omega⟩, ?_⟩
        refine ⟨_, rfl, a, _, rfl, hq.symm, ?_⟩
        refine lc_sqG (K := K) (xs := (ag.take t).map V.int) (fun x => .int (intOf x + m)) (fun R r => ⟨_, rfl, _, rfl, _, rfl, slq hq fun p H1 s1 h1 => ?_⟩) (by rw [List.length_map, List.length_take]; omega) (fun x hx H1 s1 R r => ?_) fun D H1 s1 hD hD1 => ?_
        · rw [cut_to, ← List.map_take] at h1
          exact r p H1 s1 h1
        · obtain ⟨i, _, rfl⟩ := List.mem_map.mp hx
          exact ⟨_, rfl, _, rfl, _, _, rfl, rfl, r H1 (Same.refl H1)⟩
        · refine ⟨D, _, rfl, .inr (.inl (.inl hD1)), ?_⟩
          have ew : (ag.map V.int ++ (((ag.take t).map V.int).map (fun x => V.int (intOf x + m)) ++ [])) = (wide ag m t).map V.int := by
            unfold wide
            rw [List.append_nil, List.map_append, List.map_map, List.map_map]
            rfl
          refine ⟨?_, fun p hp => ?_⟩
          · rw [ew, List.length_map, wide_len ht]
            exact Nat.le_trans (show ag.length + t ≤ 1000 by omega) (by decide)
          · rw [ew]
            have s2 := s1.trans (same_new (o := .lst ((wide ag m t).map V.int)) hp)
            refine ⟨_, rfl, a, _, rfl, hq.ex s2, _, rfl, by omega, by omega, fun D2 hD2 => ?_⟩
            rw [hlen, Int.toNat_natCast]
            refine lc_rg (fun i => .bl (decide ((wide ag m t).getD (i + t) 0 - (wide ag m t).getD i 0 = m * (t : Int) / (ag.length : Int)))) (by omega) hD2 (fun i hi H3 s3 R r => ?_) fun H3 s3 hD3 => ?_
            · have hw : Sq K H3 p ((wide ag m t).map V.int) := .l (s3 _ _ upd_same)
              have e0 : (0 : Int) + (i : Int) + (t : Int) = ((i + t : Nat) : Int) := by omega
              have e1 : (0 : Int) + (i : Int) = (i : Int) := by omega
              refine ⟨_, rfl, _, rfl, _, rfl, _, _, rfl, rfl, p, _, _, .int ((wide ag m t).getD (i + t) 0), rfl, rfl, hw, ?_, _, rfl, _, rfl, p, _, _, .int ((wide ag m t).getD i 0), rfl, rfl, hw, ?_, _, _, rfl, rfl, _, rfl, rfl, ?_⟩
              · rw [e0]
                exact ints_at (by rw [wide_len ht]; omega)
              · rw [e1]
                exact ints_at (by rw [wide_len ht]; omega)
              · rw [dec_int]
                exact r H3 (Same.refl H3)
            · refine ⟨D2, (List.range ag.length).map fun i => decide ((wide ag m t).getD (i + t) 0 - (wide ag m t).getD i 0 = m * (t : Int) / (ag.length : Int)), rfl, .inl (.inl ?_), ?_⟩
              · rw [hD3, List.map_map]
                rfl
              · rw [List.all_map]
                exact q _ (s2.trans s3)
      · rw [decide_eq_false c2]
        rw [if_pos (.inr c2)] at q
        exact q _ (Same.refl H)
    · rw [decide_eq_false c1]
      rw [if_pos (.inl c1)] at q
      exact q _ (Same.refl H)
end
end WW

set_option Elab.async false
set_option linter.all false
set_option maxRecDepth 100000
set_option maxHeartbeats 4000000
namespace WW
open PySem PySem.Spec PyProof.Rows L2
def turns (ag : List Int) (m : Int) : List Nat := (List.range ag.length).filter fun i => isTurn ag m (i + 1)
def turnOf (ag : List Int) (m : Int) : Nat := (turns ag m).headD 0 + 1
def lastI (ag : List Int) : Int := ag.getD (ag.length - 1) 0
def shrinkR (m : Int) : List V → List Int → List V × List Int
  | .int x :: r, ag => if x + m = lastI ag then shrinkR m r (x :: ag.dropLast) else (.int x :: r, ag)
  | r, ag => (r, ag)
def leastF (fs : List V) (ag : List Int) (m : Int) : List V × List Int × Int :=
  ((shrinkR (m * (turnOf ag m : Int) / (ag.length : Int)) fs.reverse (ag.take (turnOf ag m))).1.reverse, (shrinkR (m * (turnOf ag m : Int) / (ag.length : Int)) fs.reverse (ag.take (turnOf ag m))).2, m * (turnOf ag m : Int) / (ag.length : Int))
def leastV (fs ys : List V) (m : Int) : List V × List V × Int :=
  if hd ys = .non then ([], [.non], 0) else ((leastF fs (ys.map intOf) m).1, (leastF fs (ys.map intOf) m).2.1.map V.int, (leastF fs (ys.map intOf) m).2.2)
theorem isTurn_len {ag : List Int} {m : Int} (h : 0 < ag.length) : isTurn ag m ag.length = true := by
  unfold isTurn
  rw [if_neg (by simp)]
  rw [List.all_eq_true]
  intro i hi
  rw [List.mem_range] at hi
  refine decide_eq_true ?_
  have e : m * (ag.length : Int) / (ag.length : Int) = m := Int.mul_ediv_cancel _ (by omega)
  rw [e]
  unfold wide
  rw [List.take_length]
  simp only [List.getD_eq_getElem?_getD]
  rw [List.getElem?_append_right (by omega), List.getElem?_append_left hi, List.getElem?_map, show i + ag.length - ag.length = i by omega, List.getElem?_eq_getElem hi]
  simp only [Option.map_some, Option.getD_some]
  omega
theorem turns_ne {ag : List Int} {m : Int} (h : 0 < ag.length) : turns ag m ≠ [] := by
  have q : ag.length - 1 ∈ turns ag m := by
    unfold turns
    rw [List.mem_filter, List.mem_range]
    refine ⟨by omega, ?_⟩
    rw [show ag.length - 1 + 1 = ag.length by omega]
    exact isTurn_len h
  exact List.ne_nil_of_mem q
theorem turnOf_mem {ag : List Int} {m : Int} (h : 0 < ag.length) : turnOf ag m - 1 ∈ turns ag m := by
  unfold turnOf
  rw [Nat.add_sub_cancel]
  cases e : turns ag m with
  | nil => exact absurd e (turns_ne h)
  | cons x r => exact List.mem_cons_self
theorem turnOf_pos (ag : List Int) (m : Int) : 0 < turnOf ag m := Nat.succ_pos _
theorem turnOf_le {ag : List Int} {m : Int} (h : 0 < ag.length) : turnOf ag m ≤ ag.length := by
  have q := turnOf_mem (m := m) h
  unfold turns at q
  rw [List.mem_filter, List.mem_range] at q
  have := turnOf_pos ag m
  omega
theorem turnOf_is {ag : List Int} {m : Int} (h : 0 < ag.length) : isTurn ag m (turnOf ag m) = true := by
  have q := turnOf_mem (m := m) h
  unfold turns at q
  rw [List.mem_filter] at q
  rw [show turnOf ag m - 1 + 1 = turnOf ag m from Nat.succ_pred_eq_of_pos (turnOf_pos ag m)] at q
  exact q.2
theorem at_last {xs : List V} {v : V} : atI (xs ++ [v]) (-1) = some v := atI_last xs v
theorem ints_last {ag : List Int} (h : 0 < ag.length) : atI (ag.map V.int) (-1) = some (.int (lastI ag)) := by
  have hn : ag ≠ [] := List.ne_nil_of_length_pos h
  have e : ag = ag.dropLast ++ [ag.getLast hn] := (List.dropLast_concat_getLast hn).symm
  have z : lastI ag = ag.getLast hn := by
    unfold lastI
    rw [List.getD_eq_getElem?_getD, List.getElem?_eq_getElem (by omega), List.getLast_eq_getElem]
    rfl
  rw [z]
  conv => lhs; rw [e, List.map_append]
  exact at_last
theorem cut_but {xs : List V} (h : 0 < xs.length) : cutV xs none (some (-1)) = xs.dropLast := by
  unfold cutV
  rw [HT.sIx_none]
  have e : HT.sIx xs.length xs.length (some (-1)) = xs.length - 1 := by
    show (if (-1 : Int) < 0 then ((-1 : Int) + (xs.length : Int)).toNat else min (-1 : Int).toNat xs.length) = xs.length - 1
    rw [if_pos (by decide)]
    omega
  rw [e, List.drop_zero, Nat.sub_zero, List.dropLast_eq_take]
section
variable {P : Program} {w : World} {K : PySem.W.Frag} {mg : Str → Option Value} {base : Heap} {f : Addr} {fd : FuncData}
def spLeast (K : PySem.W.Frag) : Sp := fun vs H Q _ => ∃ (a b : Addr) (fs ys : List V) (m : Int), vs = [.ref a, .ref b, .int m] ∧ Sq K H a fs ∧ Sq K H b ys ∧ fs.length ≤ 400 ∧ ys.length ≤ 400 ∧ 0 < ys.length ∧ fs.all isThingV = true ∧ (hd ys = .non ∨ ∃ ag : List Int, ys = ag.map V.int) ∧
  ∀ p p1 p2 H', Same H H' → H' p = some (.tup [.ref p1, .ref p2, .int (leastV fs ys m).2.2]) → H' p1 = some (.tup (leastV fs ys m).1) → H' p2 = some (.tup (leastV fs ys m).2.1) → Q (.ref p) H'
/-- (tuple(a), tuple(b), m), of two lists -/
theorem ret3 {σ : L2.St} {H : Hp} {Q : VK} {f1 a1 : Addr} {xs ys : List V} {m : V} {r : L2.St} (e : σ = some (.ref f1) :: some (.ref a1) :: some m :: r) (h1 : H f1 = some (.lst xs)) (h2 : H a1 = some (.lst ys))
    (k : ∀ p p1 p2 H', Same H H' → H' p = some (.tup [.ref p1, .ref p2, m]) → H' p1 = some (.tup xs) → H' p2 = some (.tup ys) → Q (.ref p) H') :
    tTup (tCons (tCB (rTupQ K) (tCons (tVar 0) tNil)) (tCons (tCB (rTupQ K) (tCons (tVar 1) tNil)) (tCons (tVar 2) tNil))) σ H Q := by
  subst e
  refine ⟨_, rfl, ⟨f1, xs, rfl, .inl ⟨.inl (.inl h1), fun p1 n1 => ⟨_, rfl, ⟨a1, ys, rfl, .inl ⟨.inl (.inl (same_new n1 _ _ h2)), fun p2 n2 => ⟨_, rfl, by show 3 ≤ sizeLine; decide, fun p n3 => ?_⟩⟩⟩⟩⟩⟩⟩
  have n12 : p1 ≠ p2 := ne_of_none upd_same n2
  have h1' : (upd (upd (upd H p1 (.tup xs)) p2 (.tup ys)) p (.tup [.ref p1, .ref p2, m])) p1 = some (.tup xs) := same_new n3 _ _ ((upd_ne n12).trans upd_same)
  exact k p p1 p2 _ (((same_new n1).trans (same_new n2)).trans (same_new n3)) upd_same h1' (same_new n3 _ _ upd_same)
theorem shrink_nil {m : Int} {bg : List Int} : shrinkR m [] bg = ([], bg) := rfl
theorem shrink_go {m x : Int} {r : List V} {bg : List Int} (h : x + m = lastI bg) : shrinkR m (.int x :: r) bg = shrinkR m r (x :: bg.dropLast) := by
  show (if x + m = lastI bg then shrinkR m r (x :: bg.dropLast) else (.int x :: r, bg)) = _
  rw [if_pos h]
theorem shrink_no {m x : Int} {r : List V} {bg : List Int} (h : ¬ x + m = lastI bg) : shrinkR m (.int x :: r) bg = (.int x :: r, bg) := by
  show (if x + m = lastI bg then shrinkR m r (x :: bg.dropLast) else (.int x :: r, bg)) = _
  rw [if_neg h]
abbrev s_least_form : Stmt := top 21
abbrev N_least_form : List Str := ["first", "again", "more", "turn"]
theorem sc_least_form : FnScope N_least_form ["first", "again", "more"] (defScope s_least_form) := ⟨rfl, rfl, rfl, by decide +kernel, rfl, by decide +kernel, by decide +kernel⟩

theorem ok_least_form (F : FnP K "least_form" s_least_form f fd) (m_list : mg "list" = none) (m_len : mg "len" = none) (m_range : mg "range" = none) (m_tuple : mg "tuple" = none) (g_is_turn : FnAt P w K mg base CX0 1 "is_turn" ["again", "more", "turn"] (spTurn K)) : FnOk P w K mg base CX0 2 f fd ["first", "again", "more"] (spLeast K) := by
  refine F.ok sc_least_form (fun vs H Q E h => ?_) (fun cdv A outer s H vs Q E hr h => ?_)
  · obtain ⟨a, b, fs, ys, m, rfl, _⟩ := h
    rfl
  · obtain ⟨a, b, fs, ys, m, rfl, hq, kq, hl, kl, k0, ht, kt, q⟩ := h
    refine ⟨_, PSs.nox (pss_cons (ps_if (pt_cmpR op_isN (pe_ix (ix_sqK K) (pv 1) (pe_int) (fun _ _ => rfl)) (pe_non) (nomark _)) (pss_one (ps_ret (pe_tup (pa_cons (pe_tup (pa_nil)) (pa_cons (pe_tup (pa_cons (pe_non) (pa_nil))) (pa_cons (pe_int) (pa_nil))))))) (pss_nil))
 (pss_cons (ps_set (i := 3) sc_least_form.nd rfl (.inl rfl) (pe_ix (ix_sqK K) (pe_lc (own := [("turn", 3)]) rfl sc_least_form.nd (pi_range2 rfl m_range (pa_cons (pe_int) (pa_cons (pe_op op_add (pe_callB (call_lenK K) rfl m_len (by decide +kernel) (pa_cons (pv 1) (pa_nil))) (pe_int)) (pa_nil)))) (blkOk_by (N := N_least_form) (sc := defScope s_least_form) (by decide +kernel)) (fun _ _ _ _ _ => pg_name (i := 3) sc_least_form.nd rfl (.inl rfl)) (fun _ _ _ _ _ => pts_one (pt_val (pe_fn g_is_turn hr rfl (pa_cons (pv 1) (pa_cons (pv 2) (pa_cons (pv 3) (pa_nil))))))) (fun _ _ _ _ _ => pv 3)) (pe_int) (fun _ _ => rfl)))
 (pss_cons (ps_set (i := 2) sc_least_form.nd rfl (.inr rfl) (pe_op op_fdiv (pe_op op_mul (pv 2) (pv 3)) (pe_callB (call_lenK K) rfl m_len (by decide +kernel) (pa_cons (pv 1) (pa_nil)))))
 (pss_cons (ps_asg (pe_tup (pa_cons (pe_callTy (call_listK K) rfl m_list (by decide +kernel) (pa_cons (pv 0) (pa_nil))) (pa_cons (pe_callTy (call_listK K) rfl m_list (by decide +kernel) (pa_cons (pe_slice (sl_sqK K) (pv 1) (po_none) (po_some (pv 3))) (pa_nil))) (pa_nil)))) (pg_tupK K rfl (pgs_cons (pg_name (i := 0) sc_least_form.nd rfl (.inl rfl)) (pgs_cons (pg_name (i := 1) sc_least_form.nd rfl (.inr rfl)) (pgs_nil)))))
 (pss_cons (ps_while PassesOwn.never (PW.pt (pw_and (pt_cmpR op_gt (pe_callB (call_lenK K) rfl m_len (by decide +kernel) (pa_cons (pv 0) (pa_nil))) (pe_int) (nomark _)) (pw_and (pt_cmpR op_notN (pe_ix (ix_sqK K) (pv 0) (pe_un un_neg (pe_int)) (fun _ _ => rfl)) (pe_non) (nomark _)) (pw_and1 (pt_cmpR op_eq (pe_op op_add (pe_ix (ix_sqK K) (pv 0) (pe_un un_neg (pe_int)) (fun _ _ => rfl)) (pv 2)) (pe_ix (ix_sqK K) (pv 1) (pe_un un_neg (pe_int)) (fun _ _ => rfl)) (nomark _)))))) (pss_one (ps_set (i := 1) sc_least_form.nd rfl (.inr rfl) (pe_lst (pa_cons (pe_bm0 PySem.F.plainAttrs_list PySem.F.slot_list_pop PySem.F.type_list_pop mt_pop (pv 0)) (pa_starK K (pe_slice (sl_sqK K) (pv 1) (po_none) (po_some (pe_un un_neg (pe_int)))) (pa_nil)))))))
 (pss_one (ps_ret (pe_tup (pa_cons (pe_callTy (call_tupleK K) rfl m_tuple (by decide +kernel) (pa_cons (pv 0) (pa_nil))) (pa_cons (pe_callTy (call_tupleK K) rfl m_tuple (by decide +kernel) (pa_cons (pv 1) (pa_nil))) (pa_cons (pv 2) (pa_nil)))))))))))), ?_⟩
    have at0 : atI ys 0 = some (hd ys) := getD_at (i := 0) k0
    refine ⟨_, rfl, b, ys, _, _, rfl, rfl, kq, at0, rfl, _, rfl, ?_⟩
    by_cases c0 : hd ys = .non
    · rw [decide_eq_true c0]
      unfold leastV at q
      rw [if_pos c0] at q
      refine ⟨by decide, fun p1 n1 => ⟨by decide, fun p2 n2 => ⟨by show 3 ≤ sizeLine; decide, fun p n3 => ?_⟩⟩⟩
      have n12 : p1 ≠ p2 := ne_of_none upd_same n2
      have n13 : p1 ≠ p := ne_of_none (H := upd (upd H p1 _) p2 _) (by rw [upd_ne n12]; exact upd_same) n3
      have n23 : p2 ≠ p := ne_of_none (H := upd (upd H p1 _) p2 _) upd_same n3
      exact q p p1 p2 _ (((same_new n1).trans (same_new n2)).trans (same_new n3)) upd_same (by rw [upd_ne n13, upd_ne n12, upd_same]) (by rw [upd_ne n23, upd_same])
    · rw [decide_eq_false c0]
      obtain ⟨ag, rfl⟩ : ∃ ag : List Int, ys = ag.map V.int := kt.resolve_left c0
      have eag : (ag.map V.int).map intOf = ag := by
        rw [List.map_map]
        exact List.map_id'' (fun _ => rfl) ag
      unfold leastV at q
      rw [if_neg c0, eag] at q
      have gl : ag.length ≤ 400 := by rw [List.length_map] at kl; exact kl
      have g0 : 0 < ag.length := by rw [List.length_map] at k0; exact k0
      have hlen : ((ag.map V.int).length : Int) = (ag.length : Int) := by rw [List.length_map]
      refine ⟨_, rfl, b, _, rfl, kq, _, _, rfl, rfl, _, _, rfl, ⟨by omega, by omega, by omega, by omega⟩, fun D hD => ?_⟩
      have en : ((((ag.map V.int).length : Int) + 1) - 1).toNat = ag.length := by rw [hlen]; omega
      rw [en]
      refine lc_rgF (fun i => isTurn ag m (i + 1)) (fun i => .int ((i : Int) + 1)) (by omega) hD (fun i hi H1 s1 R r => ?_) (fun i hi H1 s1 R r => ?_) fun H1 s1 hD1 => ?_
      · refine ⟨_, rfl, _, rfl, _, rfl, _, ⟨b, ag, m, i + 1, ?_, kq.ex s1, by omega, by omega, gl, rfl⟩, fun H2 s2 => ⟨_, rfl, r H2 s2⟩⟩
        have e : (1 : Int) + (i : Int) = ((i + 1 : Nat) : Int) := by omega
        rw [e]
        rfl
      · have e : (1 : Int) + (i : Int) = (i : Int) + 1 := by omega
        refine ⟨_, rfl, ?_⟩
        rw [e]
        exact r H1 (Same.refl H1)
      · have hts : 0 < (turns ag m).length := List.length_pos_iff.mpr (turns_ne g0)
        have e0 : atI ((turns ag m).map fun i : Nat => V.int ((i : Int) + 1)) 0 = some (.int (turnOf ag m : Int)) := by
          unfold turnOf
          cases e : turns ag m with
          | nil => exact absurd e (turns_ne g0)
          | cons x r =>
            have e2 : V.int ((x : Int) + 1) = V.int (((x + 1 : Nat)) : Int) := by rw [Int.natCast_add]; rfl
            have e3 : atI ((x :: r).map fun i : Nat => V.int ((i : Int) + 1)) ((0 : Nat) : Int) = some (V.int ((x : Int) + 1)) := atI_nat (j := 0) rfl
            rw [e2] at e3
            exact e3
        refine ⟨D, _, _, _, rfl, rfl, .l hD1, e0, ?_⟩
        have t0 := turnOf_pos ag m
        have tl := turnOf_le (m := m) g0
        unfold leastF at q
        dsimp only at q
        generalize turnOf ag m = t at t0 tl q ⊢
        refine ⟨_, rfl, _, rfl, _, _, rfl, rfl, .inr ⟨by omega, by omega⟩, _, rfl, b, _, rfl, kq.ex s1, _, _, rfl, rfl, ⟨by rw [hlen]; omega, by rw [hlen]; omega⟩, ?_⟩
        rw [hlen]
        obtain ⟨m2, em⟩ : ∃ m2, m2 = m * (t : Int) / (ag.length : Int) := ⟨_, rfl⟩
        rw [← em] at q
        refine ⟨_, rfl, a, fs, rfl, hq.ex s1, fun f1 n1 => ⟨_, rfl, _, rfl, _, rfl, slq (kq.ex (s1.trans (same_new n1))) fun c H2 s2 h2 => ?_⟩⟩
        rw [cut_to, ← List.map_take] at h2
        have s12 : Same H H2 := (s1.trans (same_new n1)).trans s2
        have hf1 : H2 f1 = some (.lst fs) := s2 _ _ upd_same
        refine ⟨c, _, rfl, h2, fun a1 n2 => ⟨by show 2 ≤ sizeLine; decide, fun pz n3 => ?_⟩⟩
        have s14 : Same H (upd (upd H2 a1 (.lst ((ag.take t).map V.int))) pz (.tup [.ref f1, .ref a1])) := (s12.trans (same_new n2)).trans (same_new n3)
        refine ⟨pz, _, rfl, .inl (.inl upd_same), rfl, .ref f1, _, rfl, .ref a1, _, rfl, rfl, ?_⟩
        have nfa : f1 ≠ a1 := ne_of_none hf1 n2
        have nfz : f1 ≠ pz := ne_of_none (H := upd H2 a1 (.lst ((ag.take t).map V.int))) ((upd_ne nfa).trans hf1) n3
        have naz : a1 ≠ pz := ne_of_none (H := upd H2 a1 (.lst ((ag.take t).map V.int))) upd_same n3
        refine ⟨fun k σ Hc => ∃ (f1 a1 : Addr) (gs : List V) (bg : List Int), σ = [some (.ref f1), some (.ref a1), some (.int m2), some (.int (t : Int))] ∧ k = gs.length ∧ Same H Hc ∧ H f1 = none ∧ f1 ≠ a1 ∧ Hc f1 = some (.lst gs) ∧ Hc a1 = some (.lst (bg.map V.int)) ∧
          0 < bg.length ∧ bg.length ≤ 400 ∧ gs.length ≤ 400 ∧ gs.all isThingV = true ∧ shrinkR m2 gs.reverse bg = shrinkR m2 fs.reverse (ag.take t), ⟨fs.length, f1, a1, fs, ag.take t, by rw [em]; rfl, rfl, s14, s1.free n1, nfa, ?_, ?_, ?_, ?_, hl, ht, rfl⟩, ?_⟩
        · rw [upd_ne nfz, upd_ne nfa]
          exact hf1
        · rw [upd_ne naz]
          exact upd_same
        · rw [List.length_take]
          omega
        · rw [List.length_take]
          omega
        · rintro k σ Hc ⟨f1, a1, gs, bg, rfl, rfl, sc, nf, nfa, hf, ha, b0, bl, gl2, gt, eR⟩
          refine ⟨_, rfl, f1, gs, rfl, .l hf, _, _, rfl, rfl, _, rfl, ?_⟩
          rw [← eR] at q
          rcases List.eq_nil_or_concat gs with eg | ⟨gi, x, eg⟩
          · subst eg
            exact ret3 rfl hf ha fun p p1 p2 H' s' e1 e2 e3 => q p p1 p2 H' (sc.trans s') e1 e2 e3
          · rw [List.concat_eq_append] at eg
            subst eg
            have hp : decide ((0 : Int) < ((gi ++ [x]).length : Int)) = true := decide_eq_true (by rw [List.length_append]; simp)
            rw [hp]
            refine ⟨_, rfl, 1, rfl, f1, _, _, _, rfl, rfl, .l hf, at_last, rfl, _, rfl, ?_⟩
            have xt : isThingV x = true := List.all_eq_true.mp gt x (List.mem_append_right _ (List.mem_singleton.mpr rfl))
            rw [List.reverse_append, List.reverse_singleton, List.singleton_append] at q eR
            cases x with
            | non => exact ret3 rfl hf ha fun p p1 p2 H' s' e1 e2 e3 => q p p1 p2 H' (sc.trans s') e1 (by rw [e2]; exact congrArg (fun z => some (HO.tup z)) (by simp [shrinkR])) (by rw [e3]; rfl)
            | int i =>
              refine ⟨_, rfl, 1, rfl, f1, _, _, _, rfl, rfl, .l hf, at_last, _, rfl, _, _, rfl, rfl, _, rfl, 1, rfl, a1, _, _, _, rfl, rfl, .l ha, ints_last b0, rfl, _, rfl, ?_⟩
              rw [dec_int]
              by_cases ci : i + m2 = lastI bg
              · rw [decide_eq_true ci]
                rw [shrink_go ci] at eR
                refine ⟨fun σ' H' => ∃ a2, σ' = [some (.ref f1), some (.ref a2), some (.int m2), some (.int (t : Int))] ∧ Same H H' ∧ f1 ≠ a2 ∧ H' f1 = some (.lst gi) ∧ H' a2 = some (.lst ((i :: bg.dropLast).map V.int)), ?_, ?_⟩
                · rintro σ' H' ⟨a2, rfl, s2, n2, h2, h3⟩
                  refine ⟨gi.length, by rw [List.length_append]; simp, f1, a2, gi, i :: bg.dropLast, rfl, rfl, s2, nf, n2, h2, h3, by simp, ?_, ?_, ?_, eR⟩
                  · rw [List.length_cons, List.length_dropLast]
                    omega
                  · rw [List.length_append] at gl2
                    omega
                  · rw [List.all_append, Bool.and_eq_true] at gt
                    exact gt.1
                · refine ⟨_, rfl, .inl ⟨rfl, _, .inl (.inl hf)⟩, f1, _, .int i, rfl, rfl, hf, ?_, ?_⟩
                  · rw [List.length_append, List.length_singleton, Nat.add_sub_cancel, List.getElem?_append_right (Nat.le_refl _), Nat.sub_self]
                    rfl
                  · rw [List.dropLast_concat]
                    have ha' : (upd Hc f1 (.lst gi)) a1 = some (.lst (bg.map V.int)) := (upd_ne (Ne.symm nfa)).trans ha
                    refine ⟨_, rfl, 1, rfl, _, rfl, slq (K := K) (.l ha') fun c H2 s2 h2 => ⟨c, _, rfl, h2.symm, ?_⟩⟩
                    rw [cut_but (by rw [List.length_map]; exact b0), ← List.map_dropLast]
                    simp only [tNil, List.append_nil]
                    have el : (V.int i :: (bg.dropLast).map V.int) = (i :: bg.dropLast).map V.int := rfl
                    refine ⟨?_, fun p np => ⟨p, rfl, ?_, ?_, ?_, ?_⟩⟩
                    · show (V.int i :: (bg.dropLast).map V.int).length ≤ sizeLine
                      rw [el, List.length_map, List.length_cons, List.length_dropLast]
                      exact Nat.le_trans (show bg.length - 1 + 1 ≤ 1000 by omega) (by decide)
                    · exact ((same_app sc nf).trans s2).trans (same_new np)
                    · exact ne_of_none (s2 _ _ upd_same) np
                    · exact same_new np _ _ (s2 _ _ upd_same)
                    · exact upd_same
              · rw [decide_eq_false ci]
                rw [shrink_no ci] at q
                exact ret3 rfl hf ha fun p p1 p2 H' s' e1 e2 e3 => q p p1 p2 H' (sc.trans s') e1 (by rw [e2]; simp) (by rw [e3])
            | _ => cases xt
end
end WW

set_option Elab.async false
set_option linter.all false
set_option maxRecDepth 100000
set_option maxHeartbeats 4000000
namespace WW
open PySem PySem.Spec PyProof.Rows L2
def SameBut (x : Addr) (H H' : Hp) : Prop := ∀ a o, a ≠ x → H a = some o → H' a = some o
/-- a row stands at x -/
def RowAt (C : Addr) (H : Hp) (x : Addr) (fs ys : List V) (m : Int) : Prop := ∃ dx p1 p2, H x = some (.ins C dx [("first", .ref p1), ("again", .ref p2), ("more", .int m)]) ∧ H p1 = some (.tup fs) ∧ H p2 = some (.tup ys)
theorem RowAt.ex {C : Addr} {H H' : Hp} {x : Addr} {fs ys : List V} {m : Int} (e : Same H H') (h : RowAt C H x fs ys m) : RowAt C H' x fs ys m := by
  obtain ⟨dx, p1, p2, h1, h2, h3⟩ := h
  exact ⟨dx, p1, p2, e _ _ h1, e _ _ h2, e _ _ h3⟩
/-- the class of rows -/
structure RowC (K : PySem.W.Frag) (C : Addr) : Prop where
  cls : Cls K C
  nF : NoAttr K C "first"
  nA : NoAttr K C "again"
  nM : NoAttr K C "more"
theorem map_intOf {ys : List V} (h : ∀ i, i < ys.length → isIntV (ys.getD i .non) = true) : ys = (ys.map intOf).map V.int := by
  refine List.ext_getElem (by rw [List.length_map, List.length_map]) fun i h1 h2 => ?_
  have q := h i h1
  rw [List.getD_eq_getElem?_getD, List.getElem?_eq_getElem h1, Option.getD_some] at q
  rw [List.getElem_map, List.getElem_map]
  revert q
  cases ys[i] <;> intro q <;> first | rfl | (cases q; done)
theorem wrong_ok {fs ys : List V} {m : V} (h : wrongW (some fs) (some ys) m = .non) : fs.all isThingV = true ∧ risingV fs = true ∧ 0 < ys.length ∧ ys.all isThingV = true ∧ risingV (cutV fs (some (-1)) none ++ ys) = true ∧ isNumV m = true ∧ (hd ys = .non ∨ ∃ ag : List Int, ys = ag.map V.int) := by
  unfold wrongW at h
  dsimp only at h
  by_cases c1 : (fs.all isThingV && risingV fs) = true
  · rw [if_pos c1] at h
    have h : wrongA fs ys m = .non := h
    unfold wrongA at h
    by_cases c2 : (ys.isEmpty || !ys.all isThingV) = true
    · rw [if_pos c2] at h
      cases h
    · rw [if_neg c2] at h
      by_cases c3 : (!risingV (cutV fs (some (-1)) none ++ ys) || (decide (hd ys = .non) && !decide (lst ys = .non))) = true
      · rw [if_pos c3] at h
        cases h
      · rw [if_neg c3] at h
        by_cases c4 : isNumV m = false
        · rw [if_pos c4] at h
          cases h
        · have k1 := Bool.and_eq_true_iff.mp c1
          have k2 : ys.isEmpty = false ∧ ys.all isThingV = true := by
            revert c2
            cases ys.isEmpty <;> cases ys.all isThingV <;> simp
          have k3 : risingV (cutV fs (some (-1)) none ++ ys) = true := by
            revert c3
            cases risingV (cutV fs (some (-1)) none ++ ys) <;> simp
          have k4 : isNumV m = true := by
            revert c4
            cases isNumV m <;> simp
          have k5 : 0 < ys.length := by
            cases ys with
            | nil => cases k2.1
            | cons _ _ => exact Nat.succ_pos _
          refine ⟨k1.1, k1.2, k5, k2.2, k3, k4, ?_⟩
          by_cases c5 : hd ys = .non
          · exact .inl c5
          · refine .inr ⟨ys.map intOf, map_intOf (rising_ints k2.2 (rising_drop k3) ?_)⟩
            have t := all_getD k2.2 k5
            revert t c5
            unfold hd
            cases ys.getD 0 V.non <;> intro c5 t <;> first | rfl | exact absurd rfl c5 | (cases t; done)
  · rw [if_neg c1] at h
    cases h
section
variable {P : Program} {w : World} {K : PySem.W.Frag} {mg : Str → Option Value} {base : Heap} {f : Addr} {fd : FuncData}
def spInit (K : PySem.W.Frag) (C : Addr) : Sp := fun vs H Q _ => ∃ (x dx : Addr) (v1 v2 : V) (fs ys : List V) (m : Int), vs = [.ref x, v1, v2, .int m] ∧ H x = some (.ins C dx []) ∧ Arg K H v1 (some fs) ∧ Arg K H v2 (some ys) ∧ wrongW (some fs) (some ys) (.int m) = .non ∧
  ∀ H', SameBut x H H' → RowAt C H' x (leastV fs ys m).1 (leastV fs ys m).2.1 (leastV fs ys m).2.2 → Q .non H'
/-- tuple(x) of a sequence -/
theorem tupq {H : Hp} {a : Addr} {xs : List V} {Q : VK} (h : Sq K H a xs) (k : ∀ p H', Same H H' → Sq K H' p xs → Q (.ref p) H') : rTupQ K [.ref a] H Q := by
  rcases h with h | h
  · exact ⟨⟨a, xs, rfl, .inl ⟨h, fun l hl => k l _ (same_new hl) (.t upd_same)⟩⟩⟩
  · exact ⟨⟨a, xs, rfl, .inr ⟨h, k a H (Same.refl H) (.inr h)⟩⟩⟩
abbrev s_Row___init__ : Stmt := inClass (top 22) 0
abbrev N_Row___init__ : List Str := ["self", "first", "again", "more", "word"]
theorem sc_Row___init__ : FnScope N_Row___init__ ["self", "first", "again", "more"] (defScope s_Row___init__) := ⟨rfl, rfl, rfl, by decide +kernel, rfl, by decide +kernel, by decide +kernel⟩

theorem ok_Row_init {C : Addr} (F : FunD K "__init__" "Row.__init__" (defArgs s_Row___init__) (defBody s_Row___init__) (defScope s_Row___init__) [.int 0] [] f fd) (R : RowC K C) (m_tuple : mg "tuple" = none) (g_wrong_word : FnAt P w K mg base CX0 3 "wrong_word" ["first", "again", "more"] (spWrong K)) (g_least_form : FnAt P w K mg base CX0 2 "least_form" ["first", "again", "more"] (spLeast K)) :
    FnOk P w K mg base CX0 4 f fd ["self", "first", "again", "more"] (spInit K C) := by
  refine F.ok sc_Row___init__ (fun vs H Q E h => ?_) (fun cdv A outer s H vs Q E hr h => ?_)
  · obtain ⟨x, dx, v1, v2, fs, ys, m, rfl, _⟩ := h
    rfl
  · obtain ⟨x, dx, v1, v2, fs, ys, m, rfl, hx, h1, h2, hw, q⟩ := h
    obtain ⟨ht, hr1, k0, kt, kr, nm, kz⟩ := wrong_ok hw
    refine ⟨_, PSs.nox (pss_cons (ps_set (i := 4) sc_Row___init__.nd rfl (.inl rfl) (pe_fn g_wrong_word hr rfl (pa_cons (pv 1) (pa_cons (pv 2) (pa_cons (pv 3) (pa_nil))))))
 (pss_cons (ps_if (pt_cmpR op_notN (pv 4) (pe_non) (nomark _)) (pss_one (ps_never)) (pss_nil))
 (pss_one (ps_asg (pe_fn g_least_form hr rfl (pa_cons (pe_callTy (call_tupleK K) rfl m_tuple (by decide +kernel) (pa_cons (pv 1) (pa_nil))) (pa_cons (pe_callTy (call_tupleK K) rfl m_tuple (by decide +kernel) (pa_cons (pv 2) (pa_nil))) (pa_cons (pv 3) (pa_nil))))) (pg_tupK K rfl (pgs_cons (pg_fld K (pv 0)) (pgs_cons (pg_fld K (pv 0)) (pgs_cons (pg_fld K (pv 0)) (pgs_nil))))))))), ?_⟩
    refine ⟨_, rfl, _, rfl, _, rfl, _, ⟨v1, v2, .int m, some fs, some ys, false, rfl, h1, h2, hasT_int m, rfl⟩, fun H1 s1 => ?_⟩
    rw [hw]
    refine ⟨_, rfl, rfl, _, rfl, ?_⟩
    obtain ⟨a, rfl, hq, hl, _⟩ := h1
    obtain ⟨b, rfl, kq, kl, _⟩ := h2
    refine ⟨_, rfl, tupq (hq.ex s1) fun p1 H2 s2 h2 => ⟨_, rfl, tupq (kq.ex (s1.trans s2)) fun p2 H3 s3 h3 => ⟨_, rfl, p1, p2, fs, ys, m, rfl, h2.ex s3, h3, hl, kl, k0, ht, kz, fun p q1 q2 H4 s4 e1 e2 e3 => ?_⟩⟩⟩
    have s14 : Same H H4 := ((s1.trans s2).trans s3).trans s4
    have hx4 := s14 _ _ hx
    refine ⟨p, _, rfl, .inl (.inl e1), rfl, _, _, rfl, ⟨_, rfl, x, C, dx, _, rfl, hx4, R.cls, R.nF, by decide, _, _, rfl, ⟨_, rfl, x, C, dx, _, rfl, upd_same, R.cls, R.nA, (by show 1 < 1000; decide), _, _, rfl, ⟨_, rfl, x, C, dx, _, rfl, upd_same, R.cls, R.nM, (by show 2 < 1000; decide), rfl, ?_⟩⟩⟩⟩
    have n1 : q1 ≠ x := fun z => by
      rw [z, hx4] at e2
      cases e2
    have n2 : q2 ≠ x := fun z => by
      rw [z, hx4] at e3
      cases e3
    rw [upd_upd, upd_upd]
    refine q _ (fun a o n ha => (upd_ne n).trans (s14 a o ha)) ⟨dx, q1, q2, upd_same, (upd_ne n1).trans e2, (upd_ne n2).trans e3⟩
end
end WW

set_option Elab.async false
set_option linter.all false
set_option maxRecDepth 100000
set_option maxHeartbeats 4000000
namespace WW
open PySem PySem.Spec PyProof.Rows L2
theorem SameBut.refl (x : Addr) (H : Hp) : SameBut x H H := fun _ _ _ h => h
theorem SameBut.trans {x : Addr} {H H1 H2 : Hp} (a : SameBut x H H1) (b : SameBut x H1 H2) : SameBut x H H2 := fun c o n h => b c o n (a c o n h)
theorem SameBut.of {x : Addr} {H H' : Hp} (e : Same H H') : SameBut x H H' := fun a o _ h => e a o h
theorem SameBut.upd (x : Addr) (H : Hp) (o : HO) : SameBut x H (upd H x o) := fun _ _ n h => (upd_ne n).trans h
theorem SameBut.sq {x a : Addr} {K : PySem.W.Frag} {H H' : Hp} {xs : List V} (e : SameBut x H H') (n : a ≠ x) (h : Sq K H a xs) : Sq K H' a xs := by
  rcases h with ((h | ⟨u, h⟩) | h) | ((h | ⟨u, h⟩) | h)
  · exact .inl (.inl (.inl (e _ _ n h)))
  · exact .inl (.inl (.inr ⟨u, e _ _ n h⟩))
  · exact .inl (.inr h)
  · exact .inr (.inl (.inl (e _ _ n h)))
  · exact .inr (.inl (.inr ⟨u, e _ _ n h⟩))
  · exact .inr (.inr h)
/-- none of what was free is the box -/
theorem Box.ne {H : Hp} {b a : Addr} (h : Box H b) (n : H a = none) : a ≠ b := fun z => by
  obtain ⟨x, y, w, e⟩ := h
  rw [z, e] at n
  cases n
theorem Box.ex {H H' : Hp} {b : Addr} (e : Same H H') (h : Box H b) : Box H' b := by
  obtain ⟨x, y, z, h⟩ := h
  exact ⟨x, y, z, e _ _ h⟩
section
variable {P : Program} {w : World} {K : PySem.W.Frag} {mg : Str → Option Value} {base : Heap} {f : Addr} {fd : FuncData}
def spBox (K : PySem.W.Frag) : Sp := fun vs H Q _ => ∃ (a : Addr) (ns : List Int) (k : Int), vs = [.ref a, .int k] ∧ SqL K H a (ns.map V.int) ∧ 0 ≤ k ∧ ns.length ≤ 1000 ∧
  ∀ p H', Same H H' → H p = none → Box H' p → Q (.ref p) H'
abbrev s_l_box : Stmt := top 28
abbrev N_l_box : List Str := ["_law_script", "_law_k", "_law_cell", "_law_seed"]
theorem sc_l_box : FnScope N_l_box ["_law_script", "_law_k"] (defScope s_l_box) := ⟨rfl, rfl, rfl, by decide +kernel, rfl, by decide +kernel, by decide +kernel⟩

theorem ok_box (F : FnP K "_law_box" s_l_box f fd) (m_int : mg "int" = none) (m_len : mg "len" = none) (m_abs : mg "abs" = none) : FnOk P w K mg base CX0 1 f fd ["_law_script", "_law_k"] (spBox K) := by
  refine F.ok sc_l_box (fun vs H Q E h => ?_) (fun cdv A outer s H vs Q E hr h => ?_)
  · obtain ⟨a, ns, k, rfl, _⟩ := h
    rfl
  · obtain ⟨a, ns, k, rfl, hq, k0, hl, q⟩ := h
    refine ⟨_, PSs.nox (pss_cons (ps_set (i := 2) sc_l_box.nd rfl (.inl rfl) (pe_op op_add (pe_op op_mul (pe_int) (pv 1)) (pe_int)))
 (pss_cons (ps_if (pt_cmpR op_lt (pv 1) (pe_callB (call_lenK K) rfl m_len (by decide +kernel) (pa_cons (pv 0) (pa_nil))) (nomark _)) (pss_one (ps_set (i := 2) sc_l_box.nd rfl (.inl rfl) (pe_callB call_abs rfl m_abs (by decide +kernel) (pa_cons (pe_ix (ix_sqK K) (pv 0) (pv 1) (fun _ _ => rfl)) (pa_nil))))) (pss_one (ps_if (pt_cmpR op_gt (pe_callB (call_lenK K) rfl m_len (by decide +kernel) (pa_cons (pv 0) (pa_nil))) (pe_int) (nomark _)) (pss_one (ps_set (i := 2) sc_l_box.nd rfl (.inl rfl) (pe_op op_add (pv 2) (pe_op op_mul (pe_op op_mod (pe_callTy call_int1 rfl m_int (by decide +kernel) (pa_cons (pe_callB call_abs rfl m_abs (by decide +kernel) (pa_cons (pe_callTy call_int1 rfl m_int (by decide +kernel) (pa_cons (pe_ix (ix_sqK K) (pv 0) (pe_op op_mod (pe_callTy call_int1 rfl m_int (by decide +kernel) (pa_cons (pv 1) (pa_nil))) (pe_callB (call_lenK K) rfl m_len (by decide +kernel) (pa_cons (pv 0) (pa_nil)))) (fun _ _ => rfl)) (pa_nil))) (pa_nil))) (pa_nil))) (pe_int)) (pe_int))))) (pss_nil))))
 (pss_cons (ps_set (i := 3) sc_l_box.nd rfl (.inl rfl) (pe_op op_add (pe_op op_mod (pe_callTy call_int1 rfl m_int (by decide +kernel) (pa_cons (pe_op op_add (pe_op op_mul (pe_op op_mod (pe_callTy call_int1 rfl m_int (by decide +kernel) (pa_cons (pv 2) (pa_nil))) (pe_int)) (pe_int)) (pe_op op_mul (pe_int) (pv 1))) (pa_nil))) (pe_int)) (pe_int)))
 (pss_one (ps_ret (pe_lst (pa_cons (pe_ix (ix_sqK K) (pe_lst (pa_cons (pe_int) (pa_cons (pv 2) (pa_nil)))) (pe_callTy call_int1 rfl m_int (by decide +kernel) (pa_cons (pe_cmpR op_ge (pv 2) (pe_op op_pow (pe_int) (pe_int)) (nomark _)) (pa_nil))) (fun _ _ => rfl)) (pa_cons (pv 3) (pa_cons (pe_int) (pa_nil)))))))))), ?_⟩
    have hsq : Sq K H a (ns.map V.int) := .inl hq
    have hlen : ((ns.map V.int).length : Int) = (ns.length : Int) := by rw [List.length_map]
    -- what stands behind the cell
    refine ⟨_, rfl, _, _, rfl, rfl, .inl ⟨by decide, by decide⟩, _, _, rfl, rfl, ?_⟩
    refine ⟨_, rfl, _, rfl, a, _, rfl, hsq, _, _, rfl, rfl, _, rfl, ?_⟩
    have fin : ∀ c : Int, (tSeq
      (tAsg (tOp (rI0 fun i j => V.int (i + j)) (tOp (rI (fun _ j => 0 < j) fun i j => V.int (i % j)) (tCB (fun xs H Q => (∃ i, xs = [V.int i] ∧ Q (V.int i) H) ∨ ∃ k, xs = [V.bl k] ∧ Q (V.int (if k = true then 1 else 0)) H)
        (tCons (tOp (rI0 fun i j => V.int (i + j)) (tOp (rI CMul fun i j => V.int (i * j)) (tOp (rI (fun _ j => 0 < j) fun i j => V.int (i % j)) (tCB (fun xs H Q => (∃ i, xs = [V.int i] ∧ Q (V.int i) H) ∨ ∃ k, xs = [V.bl k] ∧ Q (V.int (if k = true then 1 else 0)) H) (tCons (tVar 2) tNil)) (tC (.int 2147483629))) (tC (.int 48271))) (tOp (rI CMul fun i j => V.int (i * j)) (tC (.int 42043)) (tVar 1))) tNil)) (tC (.int 2147483629))) (tC (.int 1))) (gName 3))
      (tRet (tLst (tCons (tOp (rIxQ K) (tLst (tCons (tC (.int 0)) (tCons (tVar 2) tNil))) (tCB (fun xs H Q => (∃ i, xs = [V.int i] ∧ Q (V.int i) H) ∨ ∃ k, xs = [V.bl k] ∧ Q (V.int (if k = true then 1 else 0)) H) (tCons (tOp (rI0 fun i j => V.bl (decide (j ≤ i))) (tVar 2) (tOp (rI CPow fun i j => V.int (i ^ j.toNat)) (tC (.int 10)) (tC (.int 18)))) tNil))) (tCons (tVar 3) (tCons (tC (.int 0)) tNil))))))
      { nx := fun _ H' => Q .non H', rt := Q } [some (.ref a), some (.int k), some (.int c), none] H := by
      intro c
      refine ⟨_, rfl, .inl ⟨_, rfl, _, _, rfl, rfl, (by show (0 : Int) < _; decide), _, _, rfl, rfl, .inr ⟨by decide, by decide⟩, _, rfl, _, _, rfl, rfl, .inl ⟨by decide, by decide⟩, _, _, rfl, rfl, .inl ⟨_, rfl, _, _, rfl, rfl, (by show (0 : Int) < _; decide), _, _, rfl, rfl, ?_⟩⟩⟩
      refine ⟨_, rfl, by show 2 ≤ sizeLine; decide, fun p np => ?_⟩
      refine ⟨_, rfl, _, _, rfl, rfl, ⟨by decide, by decide, by decide⟩, _, _, rfl, rfl, .inr ⟨_, rfl, ?_⟩⟩
      have s1 : Same H (upd H p (.lst [.int 0, .int c])) := same_new np
      by_cases hc : (10 : Int) ^ (18 : Int).toNat ≤ c
      · rw [decide_eq_true hc]
        refine ⟨p, _, 1, _, rfl, rfl, .l upd_same, rfl, _, rfl, by show 3 ≤ sizeLine; decide, fun p2 n2 => ?_⟩
        exact q p2 _ (s1.trans (same_new n2)) (s1.free n2) ⟨_, _, _, upd_same⟩
      · rw [decide_eq_false hc]
        refine ⟨p, _, 0, _, rfl, rfl, .l upd_same, rfl, _, rfl, by show 3 ≤ sizeLine; decide, fun p2 n2 => ?_⟩
        exact q p2 _ (s1.trans (same_new n2)) (s1.free n2) ⟨_, _, _, upd_same⟩
    refine ite2 (fun c => ?_) (fun c => ?_)
    · have c := of_decide_eq_true c
      rw [hlen] at c
      have hk : k.toNat < (ns.map V.int).length := by rw [List.length_map]; omega
      have e : (ns.map V.int)[k.toNat] = .int (ns[k.toNat]'(by omega)) := by rw [List.getElem_map]
      have ea := at_toNat (xs := ns.map V.int) k0 hk
      rw [e] at ea
      exact ⟨_, rfl, _, rfl, a, _, _, _, rfl, rfl, hsq, ea, _, rfl, fin _⟩
    · refine ⟨_, rfl, a, _, rfl, hsq, _, _, rfl, rfl, _, rfl, ite2 (fun c2 => ?_) (fun c2 => fin _)⟩
      have c2 := of_decide_eq_true c2
      rw [hlen] at c2
      have hp : (0 : Int) < ((ns.map V.int).length : Int) := by rw [hlen]; exact c2
      have h1 := Int.emod_nonneg k (b := ((ns.map V.int).length : Int)) (by omega)
      have h2 := Int.emod_lt_of_pos k hp
      have hk : (k % ((ns.map V.int).length : Int)).toNat < (ns.map V.int).length := by omega
      have hk2 : (k % ((ns.map V.int).length : Int)).toNat < ns.length := by rw [List.length_map] at hk; rw [List.length_map]; exact hk
      have e : (ns.map V.int)[(k % ((ns.map V.int).length : Int)).toNat] = .int (ns[(k % ((ns.map V.int).length : Int)).toNat]'hk2) := by rw [List.getElem_map]
      have ea := at_toNat (xs := ns.map V.int) h1 hk
      rw [e] at ea
      exact ⟨_, rfl, _, rfl, _, rfl, .inl ⟨_, rfl, _, rfl, a, _, rfl, hsq, _, _, rfl, rfl, hp, a, _, _, _, rfl, rfl, hsq, ea, .inl ⟨_, rfl, _, rfl, .inl ⟨_, rfl, _, _, rfl, rfl, (by show (0 : Int) < _; decide), _, _, rfl, rfl, .inr ⟨by decide, by decide⟩, _, _, rfl, rfl, fin _⟩⟩⟩⟩
end
end WW

set_option Elab.async false
set_option linter.all false
set_option maxRecDepth 100000
set_option maxHeartbeats 4000000
namespace WW
open PySem PySem.Spec PyProof.Rows L2
/-- a drawn row: nothing n times, times, times that come again, growth -/
structure Drawn (fs : List V) (ag : List Int) (m : Int) : Prop where
  ex : ∃ (n : Nat) (is : List Int), fs = List.replicate n V.non ++ is.map V.int ∧ n ≤ 2 ∧ is.length ≤ 3 ∧ (is ++ ag).Pairwise (· ≤ ·) ∧ ∀ v ∈ is ++ ag, -4 ≤ v ∧ v ≤ 40
  l1 : 1 ≤ ag.length
  l3 : ag.length ≤ 3
  m0 : lastI ag - ag.getD 0 0 ≤ m
  m1 : m ≤ 50
/-- what is drawn so far: times that rise up to here -/
def Up (is : List Int) (h c : Int) : Prop := (is ++ [h]).Pairwise (· ≤ ·) ∧ (∀ v ∈ is ++ [h], -4 ≤ v) ∧ h ≤ c
theorem Up.next {is : List Int} {h c d e : Int} (u : Up is h c) (h0 : 0 ≤ d) (h1 : d ≤ e) : Up (is ++ [h]) (h + d) (c + e) := by
  obtain ⟨p, b, l⟩ := u
  have bh := b h (List.mem_append_right _ (List.mem_singleton.mpr rfl))
  refine ⟨?_, fun v hv => ?_, by omega⟩
  · rw [List.pairwise_append]
    refine ⟨p, List.pairwise_singleton _ _, fun x hx y hy => ?_⟩
    rw [List.mem_singleton.mp hy]
    rw [List.pairwise_append] at p
    rcases List.mem_append.mp hx with hx | hx
    · have := p.2.2 x hx h (List.mem_singleton.mpr rfl)
      omega
    · rw [List.mem_singleton.mp hx]
      omega
  · rcases List.mem_append.mp hv with hv | hv
    · exact b v hv
    · rw [List.mem_singleton.mp hv]
      omega
theorem Up.le {is : List Int} {h c : Int} (u : Up is h c) : ∀ v ∈ is, v ≤ h := fun v hv => by
  have p := u.1
  rw [List.pairwise_append] at p
  exact p.2.2 v hv h (List.mem_singleton.mpr rfl)
section
variable {P : Program} {w : World} {K : PySem.W.Frag} {mg : Str → Option Value} {base : Heap} {f : Addr} {fd : FuncData}
/-- a told row at p: a tuple of two lists and a number -/
def Told (H : Hp) (p : Addr) (fs : List V) (ag : List Int) (m : Int) : Prop := ∃ p1 p2, H p = some (.tup [.ref p1, .ref p2, .int m]) ∧ H p1 = some (.lst fs) ∧ H p2 = some (.lst (ag.map V.int))
def spRow : Sp := fun vs H Q _ => ∃ (b : Addr) (lo : Bool), vs = [.ref b, .bl lo] ∧ Box H b ∧
  ∀ p H' fs ag m, Drawn fs ag m → SameBut b H H' → Box H' b → (∃ p1 p2, H' p = some (.tup [.ref p1, .ref p2, .int m]) ∧ H' p1 = some (.lst fs) ∧ H' p2 = some (.lst (ag.map V.int)) ∧ p ≠ b ∧ p1 ≠ b ∧ p2 ≠ b) → Q (.ref p) H'
theorem SameBut.app {b p : Addr} {H Hc : Hp} {o : HO} (h : SameBut b H Hc) (n : H p = none) : SameBut b H (L2.upd Hc p o) := fun a u na ha => by
  rw [upd_ne (ne_of_none ha n)]
  exact h a u na ha
theorem pick4 {a b c d : Int} {v : V} (h : v ∈ [V.int a, V.int b, V.int c, V.int d]) (ha : 0 ≤ a ∧ a ≤ d) (hb : 0 ≤ b ∧ b ≤ d) (hc : 0 ≤ c ∧ c ≤ d) (hd : 0 ≤ d) : ∃ i, v = .int i ∧ 0 ≤ i ∧ i ≤ d := by
  simp only [List.mem_cons, List.not_mem_nil, or_false] at h
  rcases h with rfl | rfl | rfl | rfl
  · exact ⟨a, rfl, ha⟩
  · exact ⟨b, rfl, hb⟩
  · exact ⟨c, rfl, hc⟩
  · exact ⟨d, rfl, hd, Int.le_refl d⟩
abbrev s_l_row : Stmt := top 32
abbrev N_l_row : List Str := ["_law_box_here", "_law_is_low", "_law_here", "_law_first", "_law_turn", "_law_again"]
theorem sc_l_row : FnScope N_l_row ["_law_box_here", "_law_is_low"] (defScope s_l_row) := ⟨rfl, rfl, rfl, by decide +kernel, rfl, by decide +kernel, by decide +kernel⟩

theorem ok_row (F : FnP K "_law_row" s_l_row f fd) (m_int : mg "int" = none) (m_range : mg "range" = none) (g_l_take : FnAt P w K mg base CX0 1 "_law_take" ["_law_box_here", "_law_many"] spTake) (g_l_pick : FnAt P w K mg base CX0 2 "_law_pick" ["_law_box_here", "_law_some"] (spPick K)) :
    FnOk P w K mg base CX0 3 f fd ["_law_box_here", "_law_is_low"] spRow := by
  refine F.ok sc_l_row (fun vs H Q E h => ?_) (fun cdv A outer s H vs Q E hr h => ?_)
  · obtain ⟨b, lo, rfl, _⟩ := h
    rfl
  · obtain ⟨b, lo, rfl, hb, q⟩ := h
    refine ⟨_, PSs.nox (pss_cons (ps_set (i := 2) sc_l_row.nd rfl (.inl rfl) (pe_op op_sub (pe_fn g_l_take hr rfl (pa_cons (pv 0) (pa_cons (pe_int) (pa_nil)))) (pe_op op_mul (pe_int) (pe_callTy call_int1 rfl m_int (by decide +kernel) (pa_cons (pv 1) (pa_nil))))))
 (pss_cons (ps_set (i := 3) sc_l_row.nd rfl (.inl rfl) (pe_lst (pa_nil)))
 (Evl.pss_cut (ps_for PassesOwn.never rfl (pi_range1 rfl m_range (pa_cons (pe_fn g_l_take hr rfl (pa_cons (pv 0) (pa_cons (pe_int) (pa_nil)))) (pa_nil))) (pg_name (i := 4) sc_l_row.nd rfl (.inl rfl)) (pss_cons (ps_expr (pe_bm PySem.F.plainAttrs_list PySem.F.slot_list_append PySem.F.type_list_append mt_append (pv 3) (pa_cons (pv 2) (pa_nil))))
 (pss_one (ps_set (i := 2) sc_l_row.nd rfl (.inl rfl) (pe_op op_add (pv 2) (pe_fn g_l_pick hr rfl (pa_cons (pv 0) (pa_cons (pe_lst (pa_cons (pe_int) (pa_cons (pe_int) (pa_cons (pe_int) (pa_cons (pe_int) (pa_nil)))))) (pa_nil)))))))))
 (Evl.pss_cut (ps_if (pt_cmpR op_eq (pe_fn g_l_take hr rfl (pa_cons (pv 0) (pa_cons (pe_int) (pa_nil)))) (pe_int) (nomark _)) (pss_one (ps_set (i := 3) sc_l_row.nd rfl (.inl rfl) (pe_op op_cat (pe_op op_rep (pe_lst (pa_cons (pe_non) (pa_nil))) (pe_op op_add (pe_int) (pe_fn g_l_take hr rfl (pa_cons (pv 0) (pa_cons (pe_int) (pa_nil)))))) (pv 3)))) (pss_nil))
 (pss_cons (ps_set (i := 5) sc_l_row.nd rfl (.inl rfl) (pe_lst (pa_nil)))
 (Evl.pss_cut (ps_for PassesOwn.never rfl (pi_range1 rfl m_range (pa_cons (pe_op op_add (pe_int) (pe_fn g_l_take hr rfl (pa_cons (pv 0) (pa_cons (pe_int) (pa_nil))))) (pa_nil))) (pg_name (i := 4) sc_l_row.nd rfl (.inl rfl)) (pss_cons (ps_expr (pe_bm PySem.F.plainAttrs_list PySem.F.slot_list_append PySem.F.type_list_append mt_append (pv 5) (pa_cons (pv 2) (pa_nil))))
 (pss_one (ps_set (i := 2) sc_l_row.nd rfl (.inl rfl) (pe_op op_add (pv 2) (pe_fn g_l_pick hr rfl (pa_cons (pv 0) (pa_cons (pe_lst (pa_cons (pe_int) (pa_cons (pe_int) (pa_cons (pe_int) (pa_cons (pe_int) (pa_nil)))))) (pa_nil)))))))))
 (pss_one (ps_ret (pe_tup (pa_cons (pv 3) (pa_cons (pv 5) (pa_cons (pe_op op_add (pe_op op_sub (pe_ix (ix_sqK K) (pv 5) (pe_un un_neg (pe_int)) (fun _ _ => rfl)) (pe_ix (ix_sqK K) (pv 5) (pe_int) (fun _ _ => rfl))) (pe_fn g_l_take hr rfl (pa_cons (pv 0) (pa_cons (pe_int) (pa_nil))))) (pa_nil))))))))))))), ?_⟩
    -- here
    refine ⟨_, rfl, b, 7, rfl, hb, by decide, by decide, fun x0 y0 z0 d0 l0 u0 => ?_⟩
    refine ⟨_, rfl, .inr ⟨_, rfl, _, _, rfl, rfl, .inl ⟨by decide, by decide⟩, _, _, rfl, rfl, ?_⟩⟩
    obtain ⟨h0, e0, l0', u0'⟩ : ∃ h0, h0 = d0 - 4 * (if lo = true then 1 else 0) ∧ -4 ≤ h0 ∧ h0 ≤ 6 := by
      cases lo
      · exact ⟨_, rfl, by simp; omega, by simp; omega⟩
      · exact ⟨_, rfl, by simp; omega, by simp; omega⟩
    -- first = []
    refine ⟨by decide, fun p1 n1 => ?_⟩
    have bx1 : Box (upd (upd H b (bx x0 y0 z0)) p1 (.lst [])) b := ⟨_, _, _, same_new n1 _ _ upd_same⟩
    have np1 : p1 ≠ b := Box.ne ⟨_, _, _, upd_same⟩ n1
    have sb1 : SameBut b H (upd (upd H b (bx x0 y0 z0)) p1 (.lst [])) := (SameBut.upd b H _).trans (.of (same_new n1))
    have hn1 : H p1 = none := by
      rw [upd_ne np1] at n1
      exact n1
    refine ⟨fun σ Hc => ∃ (h : Int) (is : List Int) (v4 : Option V), σ = [some (.ref b), some (.bl lo), some (.int h), some (.ref p1), v4, none] ∧ SameBut b H Hc ∧ Box Hc b ∧ Hc p1 = some (.lst (is.map V.int)) ∧ is.length ≤ 3 ∧ Up is h 21, ?_, ?_⟩
    · refine ⟨_, rfl, b, 4, rfl, bx1, by decide, by decide, fun x1 y1 z1 d1 l1 u1 => ⟨d1, rfl, by omega, by omega, ?_⟩⟩
      refine for_range (fun i σ Hc => ∃ (h : Int) (is : List Int) (v4 : Option V), σ = [some (.ref b), some (.bl lo), some (.int h), some (.ref p1), v4, none] ∧ SameBut b H Hc ∧ Box Hc b ∧ Hc p1 = some (.lst (is.map V.int)) ∧ is.length = i ∧ Up is h (6 + 5 * (i : Int))) ⟨h0, [], none, by rw [e0]; rfl, sb1.trans (SameBut.upd b _ _), ⟨_, _, _, upd_same⟩, (upd_ne np1).trans upd_same, rfl, ?_⟩ ?_ ?_
      · refine ⟨List.pairwise_singleton _ _, fun v hv => ?_, by omega⟩
        rw [List.mem_singleton.mp hv]
        omega
      · rintro i σ Hc hi ⟨h, is, v4, rfl, sb, bx2, hp1, hlen, up⟩
        refine ⟨_, rfl, .inl ⟨rfl, _, .inl (.inl hp1)⟩, _, rfl, p1, _, _, rfl, rfl, hp1, ?_, ?_⟩
        · rw [List.length_map]
          exact Nat.lt_of_lt_of_le (show is.length < 1000 by omega) (by decide)
        · have bx3 : Box (upd Hc p1 (.lst (is.map V.int ++ [.int h]))) b := by
            obtain ⟨x, y, z, e⟩ := bx2
            exact ⟨x, y, z, (upd_ne (Ne.symm np1)).trans e⟩
          refine ⟨_, rfl, _, rfl, by show 4 ≤ sizeLine; decide, fun l nl => ?_⟩
          refine ⟨b, l, [.int 0, .int 1, .int 2, .int 5], rfl, bx3.ex (same_new nl), .l upd_same, Box.ne bx3 nl, by show 0 < 4; decide, by show 4 < 1000; decide, fun x y z v hv => ?_⟩
          obtain ⟨d, rfl, hd0, hd1⟩ := pick4 hv (by decide) (by decide) (by decide) (by decide)
          have hl1 : p1 ≠ l := ne_of_none upd_same nl
          refine ⟨_, _, rfl, rfl, h + d, is ++ [h], some (.int (0 + (i : Int))), rfl, ?_, ⟨_, _, _, upd_same⟩, ?_, by rw [List.length_append, hlen]; rfl, ?_⟩
          · exact ((sb.app hn1).trans (.of (same_new nl))).trans (SameBut.upd b _ _)
          · rw [upd_ne np1, upd_ne hl1, upd_same, List.map_append]
            rfl
          · have := up.next hd0 hd1
            rw [show (6 : Int) + 5 * (i : Int) + 5 = 6 + 5 * ((i + 1 : Nat) : Int) by omega] at this
            exact this
      · rintro σ Hc ⟨h, is, v4, rfl, sb, bx2, hp1, hlen, a1, a2, a3⟩
        exact ⟨h, is, v4, rfl, sb, bx2, hp1, by omega, a1, a2, by omega⟩
    rintro σ Hc ⟨h, is, v4, rfl, sb, bx2, hp1, il, ub⟩
    -- nothing ahead
    refine ⟨fun σ H2 => ∃ (pf : Addr) (n : Nat), σ = [some (.ref b), some (.bl lo), some (.int h), some (.ref pf), v4, none] ∧ SameBut b H H2 ∧ Box H2 b ∧ pf ≠ b ∧ n ≤ 2 ∧ H2 pf = some (.lst (List.replicate n V.non ++ is.map V.int)), ?_, ?_⟩
    · refine ⟨_, rfl, b, 4, rfl, bx2, by decide, by decide, fun x y z d dl du => ⟨rfl, _, rfl, ite2 (fun c => ?_) (fun c => ?_)⟩⟩
      · have sb2 : SameBut b H (upd Hc b (bx x y z)) := sb.trans (SameBut.upd b _ _)
        refine ⟨by decide, fun l nl => ?_⟩
        have hlb : l ≠ b := Box.ne ⟨_, _, _, upd_same⟩ nl
        refine ⟨_, rfl, b, 2, rfl, ⟨_, _, _, same_new nl _ _ upd_same⟩, by decide, by decide, fun x2 y2 z2 d2 dl2 du2 => ⟨_, _, rfl, rfl, l, _, [.non], rfl, rfl, (upd_ne hlb).trans upd_same, by omega, by omega, ?_, fun l2 nl2 => ?_⟩⟩
        · show 1 * (1 + d2).toNat ≤ sizeLine
          exact Nat.le_trans (show 1 * (1 + d2).toNat ≤ 3 by omega) (by decide)
        · have er : (List.replicate (1 + d2).toNat [V.non]).flatten = List.replicate (1 + d2).toNat V.non := by
            generalize (1 + d2).toNat = k
            induction k with
            | zero => rfl
            | succ k ih => rw [List.replicate_succ, List.flatten_cons, ih]; rfl
          have hl2b : l2 ≠ b := Box.ne ⟨_, _, _, upd_same⟩ nl2
          have hp1b : (upd (upd (upd Hc b (bx x y z)) l (.lst [.non])) b (bx x2 y2 z2)) p1 = some (.lst (is.map V.int)) := by
            rw [upd_ne np1]
            refine same_new nl _ _ ?_
            rw [upd_ne np1]
            exact hp1
          refine ⟨_, rfl, l2, p1, _, _, rfl, rfl, upd_same, same_new nl2 _ _ hp1b, ?_, fun l3 nl3 => ⟨l3, (1 + d2).toNat, rfl, ?_, ?_, ?_, by omega, ?_⟩⟩
          · rw [er, List.length_replicate, List.length_map]
            exact Nat.le_trans (show (1 + d2).toNat + is.length ≤ 10 by omega) (by decide)
          · exact (((sb2.trans (.of (same_new nl))).trans (SameBut.upd b _ _)).trans (.of (same_new nl2))).trans (.of (same_new nl3))
          · exact Box.ex (same_new nl3) (Box.ex (same_new nl2) ⟨_, _, _, upd_same⟩)
          · exact Box.ne (Box.ex (same_new nl2) ⟨_, _, _, upd_same⟩) nl3
          · rw [upd_same, er]
      · exact ⟨p1, 0, rfl, sb.trans (SameBut.upd b _ _), ⟨_, _, _, upd_same⟩, np1, by omega, by rw [upd_ne np1, hp1]; rfl⟩
    rintro σ H2 ⟨pf, n, rfl, sb2, bx4, npf, hn2, hpf⟩
    -- again = []
    refine ⟨by decide, fun p2 n2 => ?_⟩
    have np2 : p2 ≠ b := Box.ne bx4 n2
    have sb3 : SameBut b H (upd H2 p2 (.lst [])) := sb2.trans (.of (same_new n2))
    have hpf3 : (upd H2 p2 (.lst [])) pf = some (.lst (List.replicate n V.non ++ is.map V.int)) := same_new n2 _ _ hpf
    have nf2 : pf ≠ p2 := ne_of_none hpf n2
    refine ⟨fun σ H3 => ∃ (h' : Int) (ag : List Int) (v4 : Option V), σ = [some (.ref b), some (.bl lo), some (.int h'), some (.ref pf), v4, some (.ref p2)] ∧ SameBut b H H3 ∧ Box H3 b ∧ H3 pf = some (.lst (List.replicate n V.non ++ is.map V.int)) ∧ H3 p2 = some (.lst (ag.map V.int)) ∧ 1 ≤ ag.length ∧ ag.length ≤ 3 ∧ Up (is ++ ag) h' 33, ?_, ?_⟩
    · refine ⟨_, rfl, b, 3, rfl, bx4.ex (same_new n2), by decide, by decide, fun x1 y1 z1 d1 l1 u1 => ⟨_, _, rfl, rfl, 1 + d1, rfl, by omega, by omega, ?_⟩⟩
      refine for_range (fun i σ Hc => ∃ (h' : Int) (ag : List Int) (v4 : Option V), σ = [some (.ref b), some (.bl lo), some (.int h'), some (.ref pf), v4, some (.ref p2)] ∧ SameBut b H Hc ∧ SameBut b H2 Hc ∧ Box Hc b ∧ Hc p2 = some (.lst (ag.map V.int)) ∧ ag.length = i ∧ Up (is ++ ag) h' (21 + 4 * (i : Int))) ⟨h, [], v4, rfl, sb3.trans (SameBut.upd b _ _), SameBut.trans (.of (same_new n2)) (SameBut.upd b _ _), ⟨_, _, _, upd_same⟩, (upd_ne np2).trans upd_same, rfl, by rw [List.append_nil]; exact ub⟩ ?_ ?_
      · rintro i σ Hc hi ⟨h', ag, v4, rfl, sb, sbb, bx5, hp2, hlen, up⟩
        refine ⟨_, rfl, .inl ⟨rfl, _, .inl (.inl hp2)⟩, _, rfl, p2, _, _, rfl, rfl, hp2, ?_, ?_⟩
        · rw [List.length_map]
          exact Nat.lt_of_lt_of_le (show ag.length < 1000 by omega) (by decide)
        · have bx3 : Box (upd Hc p2 (.lst (ag.map V.int ++ [.int h']))) b := by
            obtain ⟨x, y, z, e⟩ := bx5
            exact ⟨x, y, z, (upd_ne (Ne.symm np2)).trans e⟩
          refine ⟨_, rfl, _, rfl, by show 4 ≤ sizeLine; decide, fun l nl => ?_⟩
          refine ⟨b, l, [.int 0, .int 1, .int 2, .int 4], rfl, bx3.ex (same_new nl), .l upd_same, Box.ne bx3 nl, by show 0 < 4; decide, by show 4 < 1000; decide, fun x y z v hv => ?_⟩
          obtain ⟨d, rfl, hd0, hd1⟩ := pick4 hv (by decide) (by decide) (by decide) (by decide)
          have hl1 : p2 ≠ l := ne_of_none upd_same nl
          refine ⟨_, _, rfl, rfl, h' + d, ag ++ [h'], some (.int (0 + (i : Int))), rfl, ?_, ?_, ⟨_, _, _, upd_same⟩, ?_, by rw [List.length_append, hlen]; rfl, ?_⟩
          · refine (SameBut.trans ?_ (.of (same_new nl))).trans (SameBut.upd b _ _)
            refine fun a o na ha => ?_
            rw [upd_ne (ne_of_none (sb2 a o na ha) n2)]
            exact sb a o na ha
          · exact ((sbb.app n2).trans (.of (same_new nl))).trans (SameBut.upd b _ _)
          · rw [upd_ne np2, upd_ne hl1, upd_same, List.map_append]
            rfl
          · have := up.next hd0 hd1
            rw [show (21 : Int) + 4 * (i : Int) + 4 = 21 + 4 * ((i + 1 : Nat) : Int) by omega, List.append_assoc] at this
            exact this
      · rintro σ Hc ⟨h', ag, v4, rfl, sb, sbb, bx5, hp2, hlen, up⟩
        obtain ⟨a1, a2, a3⟩ := up
        exact ⟨h', ag, v4, rfl, sb, bx5, sbb _ _ npf hpf, hp2, by omega, by omega, a1, a2, by omega⟩
    rintro σ H3 ⟨h', ag, v4, rfl, sb4, bx6, hpf4, hp24, al1, al3, up⟩
    -- the end
    have at0 : atI (ag.map V.int) 0 = some (.int (ag.getD 0 0)) := ints_at (i := 0) (by omega)
    have atL := ints_last (ag := ag) (by omega)
    refine ⟨_, rfl, _, rfl, _, rfl, 1, rfl, p2, _, _, _, rfl, rfl, .l hp24, atL, _, rfl, p2, _, _, _, rfl, rfl, .l hp24, at0, _, _, rfl, rfl, _, rfl, b, 5, rfl, bx6, by decide, by decide, fun x y z d dl du => ⟨_, _, rfl, rfl, by show 3 ≤ sizeLine; decide, fun p np => ?_⟩⟩
    have nb : p ≠ b := Box.ne ⟨_, _, _, upd_same⟩ np
    refine q p _ (List.replicate n V.non ++ is.map V.int) ag (lastI ag - ag.getD 0 0 + d) ?_ ((sb4.trans (SameBut.upd b _ _)).trans (.of (same_new np))) (Box.ex (same_new np) ⟨_, _, _, upd_same⟩) ⟨pf, p2, upd_same, same_new np _ _ ((upd_ne npf).trans hpf4), same_new np _ _ ((upd_ne np2).trans hp24), nb, npf, np2⟩
    have hle := up.le
    obtain ⟨u1, u2, u3⟩ := up
    have bd : ∀ v ∈ is ++ ag, -4 ≤ v ∧ v ≤ 40 := fun v hv => ⟨u2 v (List.mem_append_left _ hv), by have := hle v hv; omega⟩
    have mem : ∀ i, i < ag.length → ag.getD i 0 ∈ is ++ ag := fun i hi => by
      rw [List.getD_eq_getElem?_getD, List.getElem?_eq_getElem hi]
      exact List.mem_append_right _ (List.getElem_mem hi)
    have b0 := bd _ (mem 0 (by omega))
    have bL := bd _ (mem (ag.length - 1) (by omega))
    refine ⟨⟨n, is, rfl, hn2, il, ?_, bd⟩, al1, al3, by omega, ?_⟩
    · rw [List.pairwise_append] at u1
      exact u1.1
    · have : lastI ag = ag.getD (ag.length - 1) 0 := rfl
      omega
end
end WW

set_option Elab.async false
set_option linter.all false
set_option maxRecDepth 100000
set_option maxHeartbeats 4000000
namespace WW
open PySem PySem.Spec PyProof.Rows L2
/-- the n-th time of a told row -/
def seqT (fs : List V) (ag : List Int) (m : Int) (n : Nat) : V :=
  if n < fs.length then fs.getD n .non else .int (ag.getD ((n - fs.length) % ag.length) 0 + ((n - fs.length) / ag.length : Nat) * m)
section
variable {P : Program} {w : World} {K : PySem.W.Frag} {mg : Str → Option Value} {base : Heap} {f : Addr} {fd : FuncData}
def spDiv : Sp := fun vs H Q _ => ∃ (a b : Nat), vs = [.int a, .int b] ∧ Q (.int (Nat.gcd a b)) H
abbrev s_divisor : Stmt := top 12
abbrev N_divisor : List Str := ["one", "other"]
theorem sc_divisor : FnScope N_divisor ["one", "other"] (defScope s_divisor) := ⟨rfl, rfl, rfl, by decide +kernel, rfl, by decide +kernel, by decide +kernel⟩

theorem ok_divisor (F : FnP K "divisor" s_divisor f fd) : FnOk P w K mg base CX0 1 f fd ["one", "other"] spDiv := by
  refine F.ok sc_divisor (fun vs H Q E h => ?_) (fun cdv A outer s H vs Q E hr h => ?_)
  · obtain ⟨a, b, rfl, _⟩ := h
    rfl
  · obtain ⟨a, b, rfl, q⟩ := h
    refine ⟨_, PSs.nox (pss_cons (ps_while PassesOwn.never (pt_cmpR op_ne (pv 1) (pe_int) (nomark _)) (pss_one (ps_par (i := 0) (j := 1) rfl sc_divisor.nd rfl rfl (by decide) rfl rfl (pa_cons (pv 1) (pa_cons (pe_op op_mod (pv 0) (pv 1)) (pa_nil))) rfl)))
 (pss_one (ps_ret (pv 0)))), ?_⟩
    refine ⟨fun k σ Hc => ∃ (c d : Nat), σ = [some (.int c), some (.int d)] ∧ d = k ∧ Hc = H ∧ Nat.gcd c d = Nat.gcd a b, ⟨b, a, b, rfl, rfl, rfl, rfl⟩, ?_⟩
    rintro k σ Hc ⟨c, d, rfl, rfl, rfl, e⟩
    refine ⟨_, rfl, rfl, _, rfl, ?_⟩
    rw [dec_int]
    by_cases h0 : (d : Int) = 0
    · rw [decide_eq_true h0]
      have : d = 0 := by omega
      subst this
      rw [Nat.gcd_zero_right] at e
      rw [← e] at q
      exact ⟨_, rfl, q⟩
    · rw [decide_eq_false h0]
      have hd : 0 < d := by omega
      refine ⟨fun σ' H' => σ' = [some (.int d), some (.int ((c % d : Nat) : Int))] ∧ H' = Hc, ?_, ?_⟩
      · rintro σ' H' ⟨rfl, rfl⟩
        refine ⟨c % d, Nat.mod_lt _ hd, d, c % d, rfl, rfl, rfl, ?_⟩
        rw [← e, Nat.gcd_comm d, ← Nat.gcd_rec, Nat.gcd_comm]
      · exact ⟨_, rfl, _, rfl, _, rfl, _, _, rfl, rfl, by show (0 : Int) < _; omega, _, _, rfl, rfl, rfl⟩
abbrev s_l_divisor : Stmt := top 36
abbrev N_l_divisor : List Str := ["_law_one", "_law_other"]
theorem sc_l_divisor : FnScope N_l_divisor ["_law_one", "_law_other"] (defScope s_l_divisor) := ⟨rfl, rfl, rfl, by decide +kernel, rfl, by decide +kernel, by decide +kernel⟩

theorem ok_ldivisor (F : FnP K "_law_divisor" s_l_divisor f fd) (m_int : mg "int" = none) : FnOk P w K mg base CX0 1 f fd ["_law_one", "_law_other"] spDiv := by
  refine F.ok sc_l_divisor (fun vs H Q E h => ?_) (fun cdv A outer s H vs Q E hr h => ?_)
  · obtain ⟨a, b, rfl, _⟩ := h
    rfl
  · obtain ⟨a, b, rfl, q⟩ := h
    refine ⟨_, PSs.nox (pss_cons (ps_while PassesOwn.never (pt_cmpR op_ne (pv 1) (pe_int) (nomark _)) (pss_one (ps_par (i := 0) (j := 1) rfl sc_l_divisor.nd rfl rfl (by decide) rfl rfl (pa_cons (pv 1) (pa_cons (pe_op op_mod (pe_callTy call_int1 rfl m_int (by decide +kernel) (pa_cons (pv 0) (pa_nil))) (pv 1)) (pa_nil))) rfl)))
 (pss_one (ps_ret (pv 0)))), ?_⟩
    refine ⟨fun k σ Hc => ∃ (c d : Nat), σ = [some (.int c), some (.int d)] ∧ d = k ∧ Hc = H ∧ Nat.gcd c d = Nat.gcd a b, ⟨b, a, b, rfl, rfl, rfl, rfl⟩, ?_⟩
    rintro k σ Hc ⟨c, d, rfl, rfl, rfl, e⟩
    refine ⟨_, rfl, rfl, _, rfl, ?_⟩
    rw [dec_int]
    by_cases h0 : (d : Int) = 0
    · rw [decide_eq_true h0]
      have : d = 0 := by omega
      subst this
      rw [Nat.gcd_zero_right] at e
      rw [← e] at q
      exact ⟨_, rfl, q⟩
    · rw [decide_eq_false h0]
      have hd : 0 < d := by omega
      refine ⟨fun σ' H' => σ' = [some (.int d), some (.int ((c % d : Nat) : Int))] ∧ H' = Hc, ?_, ?_⟩
      · rintro σ' H' ⟨rfl, rfl⟩
        refine ⟨c % d, Nat.mod_lt _ hd, d, c % d, rfl, rfl, rfl, ?_⟩
        rw [← e, Nat.gcd_comm d, ← Nat.gcd_rec, Nat.gcd_comm]
      · exact ⟨_, rfl, _, rfl, .inl ⟨_, rfl, _, rfl, _, _, rfl, rfl, by show (0 : Int) < _; omega, _, _, rfl, rfl, rfl⟩⟩
def spLowest : Sp := fun vs H Q _ => ∃ (u l : Nat), vs = [.int u, .int l] ∧ 0 < l ∧ l < 1000000 ∧ ∀ p H', Same H H' → H' p = some (.tup [.int ((u / Nat.gcd u l : Nat) : Int), .int ((l / Nat.gcd u l : Nat) : Int)]) → Q (.ref p) H'
abbrev s_lowest : Stmt := top 13
abbrev N_lowest : List Str := ["upper", "lower", "by"]
theorem sc_lowest : FnScope N_lowest ["upper", "lower"] (defScope s_lowest) := ⟨rfl, rfl, rfl, by decide +kernel, rfl, by decide +kernel, by decide +kernel⟩

theorem ok_lowest (F : FnP K "lowest" s_lowest f fd) (m_abs : mg "abs" = none) (g_divisor : FnAt P w K mg base CX0 1 "divisor" ["one", "other"] spDiv) : FnOk P w K mg base CX0 2 f fd ["upper", "lower"] spLowest := by
  refine F.ok sc_lowest (fun vs H Q E h => ?_) (fun cdv A outer s H vs Q E hr h => ?_)
  · obtain ⟨u, l, rfl, _⟩ := h
    rfl
  · obtain ⟨u, l, rfl, h0, h1, q⟩ := h
    refine ⟨_, PSs.nox (pss_cons (ps_set (i := 2) sc_lowest.nd rfl (.inl rfl) (pe_fn g_divisor hr rfl (pa_cons (pe_callB call_abs rfl m_abs (by decide +kernel) (pa_cons (pv 0) (pa_nil))) (pa_cons (pv 1) (pa_nil)))))
 (pss_one (ps_ret (pe_tup (pa_cons (pe_op op_fdiv (pv 0) (pv 2)) (pa_cons (pe_op op_fdiv (pv 1) (pv 2)) (pa_nil))))))), ?_⟩
    refine ⟨_, rfl, _, rfl, _, rfl, u, l, ?_, ?_⟩
    · rw [if_neg (by omega)]
      rfl
    · have g0 : 0 < Nat.gcd u l := Nat.gcd_pos_of_pos_right u h0
      have g1 : Nat.gcd u l ≤ l := Nat.le_of_dvd h0 (Nat.gcd_dvd_right u l)
      refine ⟨_, rfl, _, rfl, _, _, rfl, rfl, ⟨by omega, by omega⟩, _, rfl, _, rfl, _, _, rfl, rfl, ⟨by omega, by omega⟩, by show 2 ≤ sizeLine; decide, fun p np => ?_⟩
      exact q p _ (same_new np) upd_same
def spRate (C : Addr) : Sp := fun vs H Q _ => ∃ (x : Addr) (fs ys : List V) (m : Nat), vs = [.ref x] ∧ RowAt C H x fs ys (m : Int) ∧ 0 < ys.length ∧ ys.length < 1000 ∧ ∀ p H', Same H H' → H' p = some (.tup [.int ((m / Nat.gcd m ys.length : Nat) : Int), .int ((ys.length / Nat.gcd m ys.length : Nat) : Int)]) → Q (.ref p) H'
abbrev s_Row_rate : Stmt := inClass (top 22) 2
abbrev N_Row_rate : List Str := ["self"]
theorem sc_Row_rate : FnScope N_Row_rate ["self"] (defScope s_Row_rate) := ⟨rfl, rfl, rfl, by decide +kernel, rfl, by decide +kernel, by decide +kernel⟩

theorem ok_rate {C : Addr} (F : FunD K "rate" "Row.rate" (defArgs s_Row_rate) (defBody s_Row_rate) (defScope s_Row_rate) [] [] f fd) (R : RowC K C) (m_len : mg "len" = none) (g_lowest : FnAt P w K mg base CX0 2 "lowest" ["upper", "lower"] spLowest) : FnOk P w K mg base CX0 3 f fd ["self"] (spRate C) := by
  refine F.ok sc_Row_rate (fun vs H Q E h => ?_) (fun cdv A outer s H vs Q E hr h => ?_)
  · obtain ⟨x, fs, ys, m, rfl, _⟩ := h
    rfl
  · obtain ⟨x, fs, ys, m, rfl, ⟨dx, p1, p2, hx, h1, h2⟩, h0, hl, q⟩ := h
    refine ⟨_, PSs.nox (pss_one (ps_ret (pe_fn g_lowest hr rfl (pa_cons (pe_fldK K (pv 0) rfl) (pa_cons (pe_callB (call_lenK K) rfl m_len (by decide +kernel) (pa_cons (pe_fldK K (pv 0) rfl) (pa_nil))) (pa_nil)))))), ?_⟩
    exact ⟨_, rfl, x, C, dx, _, _, rfl, hx, R.cls, R.nM, rfl, _, rfl, x, C, dx, _, _, rfl, hx, R.cls, R.nA, rfl, p2, ys, rfl, .t h2, m, ys.length, rfl, h0, by omega, q⟩
def spTime (K : PySem.W.Frag) : Sp := fun vs H Q _ => ∃ (p p1 p2 : Addr) (fs : List V) (ag : List Int) (m : Int) (n : Nat), vs = [.ref p, .int (n : Int)] ∧ H p = some (.tup [.ref p1, .ref p2, .int m]) ∧ H p1 = some (.lst fs) ∧ H p2 = some (.lst (ag.map V.int)) ∧ 0 < ag.length ∧ ag.length < 1000 ∧ -1000 < m ∧ m < 1000 ∧ Q (seqT fs ag m n) H
abbrev s_l_time : Stmt := top 33
abbrev N_l_time : List Str := ["_law_told", "_law_n", "_law_first", "_law_again", "_law_more", "_law_thing"]
theorem sc_l_time : FnScope N_l_time ["_law_told", "_law_n"] (defScope s_l_time) := ⟨rfl, rfl, rfl, by decide +kernel, rfl, by decide +kernel, by decide +kernel⟩

theorem ok_time (F : FnP K "_law_time" s_l_time f fd) (m_len : mg "len" = none) : FnOk P w K mg base CX0 1 f fd ["_law_told", "_law_n"] (spTime K) := by
  refine F.ok sc_l_time (fun vs H Q E h => ?_) (fun cdv A outer s H vs Q E hr h => ?_)
  · obtain ⟨p, p1, p2, fs, ag, m, n, rfl, _⟩ := h
    rfl
  · obtain ⟨p, p1, p2, fs, ag, m, n, rfl, hp, h1, h2, l0, l1, b0, b1, q⟩ := h
    refine ⟨_, PSs.nox (pss_cons (ps_asg (pv 0) (pg_tupK K rfl (pgs_cons (pg_name (i := 2) sc_l_time.nd rfl (.inl rfl)) (pgs_cons (pg_name (i := 3) sc_l_time.nd rfl (.inl rfl)) (pgs_cons (pg_name (i := 4) sc_l_time.nd rfl (.inl rfl)) (pgs_nil))))))
 (pss_cons (ps_if (pt_cmpR op_lt (pv 1) (pe_callB (call_lenK K) rfl m_len (by decide +kernel) (pa_cons (pv 2) (pa_nil))) (nomark _)) (pss_one (ps_ret (pe_ix (ix_sqK K) (pv 2) (pv 1) (fun _ _ => rfl)))) (pss_nil))
 (pss_cons (ps_set (i := 5) sc_l_time.nd rfl (.inl rfl) (pe_ix (ix_sqK K) (pv 3) (pe_op op_mod (pe_op op_sub (pv 1) (pe_callB (call_lenK K) rfl m_len (by decide +kernel) (pa_cons (pv 2) (pa_nil)))) (pe_callB (call_lenK K) rfl m_len (by decide +kernel) (pa_cons (pv 3) (pa_nil)))) (fun _ _ => rfl)))
 (pss_one (ps_ret (pe_ifExp (pt_cmpR op_isN (pv 5) (pe_non) (nomark _)) (pe_non) (pe_op op_add (pv 5) (pe_op op_mul (pe_op op_fdiv (pe_op op_sub (pv 1) (pe_callB (call_lenK K) rfl m_len (by decide +kernel) (pa_cons (pv 2) (pa_nil)))) (pe_callB (call_lenK K) rfl m_len (by decide +kernel) (pa_cons (pv 3) (pa_nil)))) (pv 4))))))))), ?_⟩
    refine ⟨_, rfl, p, _, rfl, .inl (.inl hp), rfl, _, _, rfl, _, _, rfl, _, _, rfl, rfl, ?_⟩
    refine ⟨_, rfl, _, rfl, p1, fs, rfl, .l h1, _, _, rfl, rfl, _, rfl, ?_⟩
    have hlen : ((ag.map V.int).length : Int) = (ag.length : Int) := by rw [List.length_map]
    unfold seqT at q
    by_cases hn : n < fs.length
    · rw [decide_eq_true (by omega)]
      rw [if_pos hn] at q
      exact ⟨_, rfl, _, rfl, p1, fs, _, _, rfl, rfl, .l h1, getD_at hn, q⟩
    · rw [decide_eq_false (by omega)]
      rw [if_neg hn] at q
      have e0 : ((n : Int) - (fs.length : Int)) % ((ag.map V.int).length : Int) = (((n - fs.length) % ag.length : Nat) : Int) := by
        rw [hlen, show (n : Int) - (fs.length : Int) = ((n - fs.length : Nat) : Int) by omega]
        rfl
      have e1 : ((n : Int) - (fs.length : Int)) / ((ag.map V.int).length : Int) = (((n - fs.length) / ag.length : Nat) : Int) := by
        rw [hlen, show (n : Int) - (fs.length : Int) = ((n - fs.length : Nat) : Int) by omega]
        rfl
      refine ⟨_, rfl, _, rfl, _, rfl, p1, fs, rfl, .l h1, _, _, rfl, rfl, _, rfl, p2, _, rfl, .l h2, _, _, rfl, rfl, by rw [hlen]; omega, p2, _, _, .int (ag.getD ((n - fs.length) % ag.length) 0), rfl, rfl, .l h2, ?_, ?_⟩
      · rw [e0]
        exact ints_at (Nat.mod_lt _ l0)
      · refine ⟨_, rfl, rfl, _, rfl, ?_⟩
        refine ⟨_, rfl, _, rfl, _, rfl, p1, fs, rfl, .l h1, _, _, rfl, rfl, _, rfl, p2, _, rfl, .l h2, _, _, rfl, rfl, ⟨by rw [hlen]; omega, by rw [hlen]; omega⟩, _, rfl, _, _, rfl, rfl, .inr ⟨by omega, by omega⟩, _, _, rfl, rfl, ?_⟩
        rw [e1]
        exact q
end
end WW

set_option Elab.async false
set_option linter.all false
set_option maxRecDepth 100000
set_option maxHeartbeats 4000000
namespace WW
open PySem PySem.Spec PyProof.Rows L2
def leT (t : Int) : V → Bool
  | .non => true
  | .int i => decide (i ≤ t)
  | _ => false
def cnt1 (m t x : Int) : Int := if x ≤ t then (if m = 0 then 1 else (t - x) / m + 1) else 0
def countF (fs : List V) (ag : List Int) (m t : Int) : V :=
  if m = 0 ∧ lastI ag ≤ t then .non else .int (((fs.filter (leT t)).length : Int) + (ag.map (cnt1 m t)).sum)
section
variable {P : Program} {w : World} {K : PySem.W.Frag} {mg : Str → Option Value} {base : Heap} {f : Addr} {fd : FuncData}
def spTimes (K : PySem.W.Frag) : Sp := fun vs H Q _ => ∃ (p p1 p2 : Addr) (fs : List V) (ag : List Int) (m : Int) (n : Nat), vs = [.ref p, .int (n : Int)] ∧ H p = some (.tup [.ref p1, .ref p2, .int m]) ∧ H p1 = some (.lst fs) ∧ H p2 = some (.lst (ag.map V.int)) ∧ 0 < ag.length ∧ ag.length < 1000 ∧ -1000 < m ∧ m < 1000 ∧ n ≤ 1000 ∧
  ∀ D H', Same H H' → H D = none → H' D = some (.lst ((List.range n).map (seqT fs ag m))) → Q (.ref D) H'
abbrev s_l_times : Stmt := top 34
abbrev N_l_times : List Str := ["_law_told", "_law_many", "_law_n"]
theorem sc_l_times : FnScope N_l_times ["_law_told", "_law_many"] (defScope s_l_times) := ⟨rfl, rfl, rfl, by decide +kernel, rfl, by decide +kernel, by decide +kernel⟩

theorem ok_times (F : FnP K "_law_times" s_l_times f fd) (m_range : mg "range" = none) (g_l_time : FnAt P w K mg base CX0 1 "_law_time" ["_law_told", "_law_n"] (spTime K)) : FnOk P w K mg base CX0 2 f fd ["_law_told", "_law_many"] (spTimes K) := by
  refine F.ok sc_l_times (fun vs H Q E h => ?_) (fun cdv A outer s H vs Q E hr h => ?_)
  · obtain ⟨p, p1, p2, fs, ag, m, n, rfl, _⟩ := h
    rfl
  · obtain ⟨p, p1, p2, fs, ag, m, n, rfl, hp, h1, h2, l0, l1, b0, b1, hn, q⟩ := h
    refine ⟨_, PSs.nox (pss_one (ps_ret (pe_lc (own := [("_law_n", 2)]) rfl sc_l_times.nd (pi_range1 rfl m_range (pa_cons (pv 1) (pa_nil))) (blkOk_by (N := N_l_times) (sc := defScope s_l_times) (by decide +kernel)) (fun _ _ _ _ _ => pg_name (i := 2) sc_l_times.nd rfl (.inl rfl)) (fun _ _ _ _ _ => pts_nil) (fun _ _ _ _ _ => pe_fn g_l_time hr rfl (pa_cons (pv 0) (pa_cons (pv 2) (pa_nil))))))), ?_⟩
    refine ⟨_, rfl, _, rfl, by omega, by omega, fun D hD => ?_⟩
    rw [Int.toNat_natCast]
    refine lc_rg (seqT fs ag m) (by omega) hD (fun i hi H1 s1 R r => ?_) fun H1 s1 hD1 => q D H1 s1 hD hD1
    refine ⟨_, rfl, _, rfl, p, p1, p2, fs, ag, m, i, ?_, s1 _ _ hp, s1 _ _ h1, s1 _ _ h2, l0, l1, b0, b1, r H1 (Same.refl H1)⟩
    rw [show (0 : Int) + (i : Int) = (i : Int) by omega]
    rfl
def spMade (K : PySem.W.Frag) (C : Addr) : Sp := fun vs H Q _ => ∃ (p p1 p2 : Addr) (fs : List V) (ag : List Int) (m : Int), vs = [.ref p] ∧ H p = some (.tup [.ref p1, .ref p2, .int m]) ∧ H p1 = some (.lst fs) ∧ H p2 = some (.lst (ag.map V.int)) ∧ fs.length ≤ 400 ∧ ag.length ≤ 400 ∧ (∀ y ∈ fs, isThingV y = true) ∧ wrongW (some fs) (some (ag.map V.int)) (.int m) = .non ∧
  ∀ x H', Same H H' → RowAt C H' x (leastV fs (ag.map V.int) m).1 (leastV fs (ag.map V.int) m).2.1 (leastV fs (ag.map V.int) m).2.2 → Q (.ref x) H'
theorem hasT_thing {H : Hp} {y : V} (h : isThingV y = true) : HasT K H y false := by
  cases y with
  | non => exact hasT_non
  | int i => exact hasT_int i
  | _ => cases h
/-- what stands behind a made row -/
theorem made_row {C x dx : Addr} {H H' : Hp} {fs ys : List V} {m : Int} (nx : H x = none) (ndx : H dx = none) (hn : dx ≠ x) (sb : SameBut x (upd (upd H dx (.own x)) x (.ins C dx [])) H') : Same H H' := fun a o ha => by
  have n1 : a ≠ x := ne_of_none ha nx
  have n2 : a ≠ dx := ne_of_none ha ndx
  refine sb a o n1 ?_
  rw [upd_ne n1, upd_ne n2]
  exact ha
abbrev s_l_made : Stmt := top 35
abbrev N_l_made : List Str := ["_law_told"]
theorem sc_l_made : FnScope N_l_made ["_law_told"] (defScope s_l_made) := ⟨rfl, rfl, rfl, by decide +kernel, rfl, by decide +kernel, by decide +kernel⟩

theorem ok_made (F : FnP K "_law_made" s_l_made f fd) (g_Row : MkAt P w K mg base CX0 4 "Row" ["self", "first", "again", "more"] (spInit K (He.ga K "Row")) []) : FnOk P w K mg base CX0 6 f fd ["_law_told"] (spMade K (He.ga K "Row")) := by
  refine F.ok sc_l_made (fun vs H Q E h => ?_) (fun cdv A outer s H vs Q E hr h => ?_)
  · obtain ⟨p, p1, p2, fs, ag, m, rfl, _⟩ := h
    rfl
  · obtain ⟨p, p1, p2, fs, ag, m, rfl, hp, h1, h2, l0, l1, ht, hw, q⟩ := h
    refine ⟨_, PSs.nox (pss_one (ps_ret (pe_mkr g_Row hr rfl (pa_cons (pe_ix (ix_sqK K) (pv 0) (pe_int) (fun _ _ => rfl)) (pa_cons (pe_ix (ix_sqK K) (pv 0) (pe_int) (fun _ _ => rfl)) (pa_cons (pe_ix (ix_sqK K) (pv 0) (pe_int) (fun _ _ => rfl)) (pa_nil))))))), ?_⟩
    refine ⟨_, rfl, p, _, _, _, rfl, rfl, .t hp, rfl, _, rfl, p, _, _, _, rfl, rfl, .t hp, rfl, _, rfl, p, _, _, _, rfl, rfl, .t hp, rfl, fun x dx nx ndx hn => ?_⟩
    have s1 : Same H (upd (upd H dx (.own x)) x (.ins (He.ga K "Row") dx [])) := (same_new ndx).trans (same_new ((upd_ne (Ne.symm hn)).trans nx))
    refine ⟨x, dx, .ref p1, .ref p2, fs, ag.map V.int, m, rfl, upd_same, ⟨p1, rfl, .l (s1 _ _ h1), l0, fun y hy => ⟨false, hasT_thing (ht y hy)⟩⟩, ⟨p2, rfl, .l (s1 _ _ h2), by rw [List.length_map]; exact l1, fun y hy => ?_⟩, hw, fun H' sb hr => ⟨rfl, q x H' (made_row (fs := []) (ys := []) (m := 0) nx ndx hn sb) hr⟩⟩
    obtain ⟨i, _, rfl⟩ := List.mem_map.mp hy
    exact ⟨false, hasT_int i⟩
def spCount (C : Addr) : Sp := fun vs H Q _ => ∃ (x : Addr) (fs ys : List V) (m t : Int), vs = [.ref x, .int t] ∧ RowAt C H x fs ys m ∧ fs.length ≤ 1000 ∧ fs.all isThingV = true ∧ 0 ≤ m ∧ m < 1000000 ∧
  ((hd ys = .non ∧ 0 < ys.length ∧ Q .non H) ∨ ∃ ag : List Int, ys = ag.map V.int ∧ 0 < ag.length ∧ ∀ H', Same H H' → Q (countF fs ag m t) H')
abbrev s_Row_count : Stmt := inClass (top 22) 5
abbrev N_Row_count : List Str := ["self", "time", "found", "thing"]
theorem sc_Row_count : FnScope N_Row_count ["self", "time"] (defScope s_Row_count) := ⟨rfl, rfl, rfl, by decide +kernel, rfl, by decide +kernel, by decide +kernel⟩

theorem ok_count {C : Addr} (F : FunD K "count" "Row.count" (defArgs s_Row_count) (defBody s_Row_count) (defScope s_Row_count) [] [] f fd) (RR : RowC K C) (m_len : mg "len" = none) : FnOk P w K mg base CX0 1 f fd ["self", "time"] (spCount C) := by
  refine F.ok sc_Row_count (fun vs H Q E h => ?_) (fun cdv A outer s H vs Q E hr h => ?_)
  · obtain ⟨x, fs, ys, m, t, rfl, _⟩ := h
    rfl
  · obtain ⟨x, fs, ys, m, t, rfl, ⟨dx, p1, p2, hx, h1, h2⟩, hl, ht, m0, m1, q⟩ := h
    refine ⟨_, PSs.nox (Evl.pss_cut (ps_if (PW.pt (pw_or (pt_cmpR op_isN (pe_ix (ix_sqK K) (pe_fldK K (pv 0) rfl) (pe_int) (fun _ _ => rfl)) (pe_non) (nomark _)) (pw_or1 (PW.pt (pw_and (pt_cmpR op_eq (pe_fldK K (pv 0) rfl) (pe_int) (nomark _)) (pw_and1 (pt_cmpR op_le (pe_ix (ix_sqK K) (pe_fldK K (pv 0) rfl) (pe_un un_neg (pe_int)) (fun _ _ => rfl)) (pv 1) (nomark _)))))))) (pss_one (ps_ret (pe_non))) (pss_nil))
 (pss_cons (ps_set (i := 2) sc_Row_count.nd rfl (.inl rfl) (pe_callB (call_lenK K) rfl m_len (by decide +kernel) (pa_cons (pe_lc (own := [("thing", 3)]) rfl sc_Row_count.nd (pi_seqK K (pe_fldK K (pv 0) rfl)) (blkOk_by (N := N_Row_count) (sc := defScope s_Row_count) (by decide +kernel)) (fun _ _ _ _ _ => pg_name (i := 3) sc_Row_count.nd rfl (.inl rfl)) (fun _ _ _ _ _ => pts_one (PW.pt (pw_or (pt_cmpR op_isN (pv 3) (pe_non) (nomark _)) (pw_or1 (pt_cmpR op_le (pv 3) (pv 1) (nomark _)))))) (fun _ _ _ _ _ => pv 3)) (pa_nil))))
 (pss_cons (ps_for PassesOwn.never rfl (pi_seqK K (pe_fldK K (pv 0) rfl)) (pg_name (i := 3) sc_Row_count.nd rfl (.inl rfl)) (pss_one (ps_if (pt_cmpR op_le (pv 3) (pv 1) (nomark _)) (pss_one (ps_aug (i := 2) sc_Row_count.nd rfl (.inl rfl) (pe_ifExp (pt_cmpR op_eq (pe_fldK K (pv 0) rfl) (pe_int) (nomark _)) (pe_int) (pe_op op_add (pe_op op_fdiv (pe_op op_sub (pv 1) (pv 3)) (pe_fldK K (pv 0) rfl)) (pe_int))) ip_add)) (pss_nil))))
 (pss_one (ps_ret (pv 2)))))), ?_⟩
    have l0 : 0 < ys.length := by
      rcases q with ⟨_, l, _⟩ | ⟨ag, rfl, l, _⟩
      · exact l
      · rw [List.length_map]
        exact l
    have at0 : atI ys 0 = some (hd ys) := getD_at (i := 0) l0
    refine ⟨fun σ H' => σ = [some (.ref x), some (.int t), none, none] ∧ H' = H ∧ ∃ ag : List Int, ys = ag.map V.int ∧ 0 < ag.length ∧ ¬ (m = 0 ∧ lastI ag ≤ t) ∧ ∀ H', Same H H' → Q (.int (((fs.filter (leT t)).length : Int) + (ag.map (cnt1 m t)).sum)) H', ?_, ?_⟩
    · refine ⟨_, rfl, x, C, dx, _, _, rfl, hx, RR.cls, RR.nA, rfl, p2, ys, _, _, rfl, rfl, .t h2, at0, rfl, _, rfl, ?_⟩
      rcases q with ⟨hn, _, q⟩ | ⟨ag, rfl, ga, q⟩
      · rw [decide_eq_true hn]
        exact q
      · have h0 : ¬ hd (ag.map V.int) = .non := by
          unfold hd
          rw [List.getD_eq_getElem?_getD, List.getElem?_map, List.getElem?_eq_getElem ga]
          exact fun z => nomatch z
        rw [decide_eq_false h0]
        unfold countF at q
        refine ⟨_, rfl, x, C, dx, _, _, rfl, hx, RR.cls, RR.nM, rfl, rfl, _, rfl, ?_⟩
        rw [dec_int]
        by_cases c1 : m = 0
        · rw [decide_eq_true c1]
          refine ⟨_, rfl, x, C, dx, _, _, rfl, hx, RR.cls, RR.nA, rfl, 1, rfl, p2, _, _, _, rfl, rfl, .t h2, ints_last ga, _, rfl, _, _, rfl, rfl, _, rfl, ?_⟩
          by_cases c2 : lastI ag ≤ t
          · rw [decide_eq_true c2]
            rw [if_pos ⟨c1, c2⟩] at q
            exact q H (Same.refl H)
          · rw [decide_eq_false c2]
            rw [if_neg (fun z => c2 z.2)] at q
            exact ⟨rfl, rfl, ag, rfl, ga, fun z => c2 z.2, q⟩
        · rw [decide_eq_false c1]
          rw [if_neg (fun z => c1 z.1)] at q
          exact ⟨rfl, rfl, ag, rfl, ga, fun z => c1 z.1, q⟩
    rintro σ H' ⟨rfl, rfl, ag, rfl, ga, hc, q⟩
    have fx : ∀ {H2 : Hp}, Same H' H2 → H2 x = some (.ins C dx [("first", .ref p1), ("again", .ref p2), ("more", .int m)]) := fun e => e _ _ hx
    -- found = len([..])
    refine q_seq (q_asg (q_cb (q_one (lc_sqF (K := K) (xs := fs) (leT t) (fun R r => ⟨_, rfl, x, C, dx, _, _, rfl, hx, RR.cls, RR.nF, rfl, r p1 H' (Same.refl H') (.t h1)⟩) (by omega) (fun y hy H1 s1 R r => ?_) (fun y hy H1 s1 R r => ⟨_, rfl, r H1 (Same.refl H1)⟩) fun D H1 s1 hD hD1 => ?_))))
    · have ty := List.all_eq_true.mp ht y hy
      refine ⟨_, rfl, rfl, _, rfl, ?_⟩
      cases y with
      | non => exact r H1 (Same.refl H1)
      | int i => exact ⟨_, rfl, _, rfl, _, _, rfl, rfl, _, rfl, r H1 (Same.refl H1)⟩
      | _ => cases ty
    refine ⟨D, _, rfl, .l hD1, ?_⟩
    -- the loop
    refine ⟨_, rfl, x, C, dx, _, _, rfl, fx s1, RR.cls, RR.nA, rfl, p2, rfl, .inr ⟨⟨_, .inl (.inl (s1 _ _ h2))⟩, ?_⟩⟩
    refine for_tup (K := K) (a := p2) (xs := ag.map V.int) (fun i σ Hc => ∃ v3, σ = [some (.ref x), some (.int t), some (.int (((fs.filter (leT t)).length : Int) + ((ag.take i).map (cnt1 m t)).sum)), v3] ∧ Hc = H1) ⟨none, by simp, rfl⟩ (fun i σ Hc _ p => ?_) ?_ ?_
    · obtain ⟨v3, _, rfl⟩ := p
      exact .inl (.inl (s1 _ _ h2))
    · rintro i y σ Hc hy ⟨v3, rfl, rfl⟩
      obtain ⟨z, hz, rfl⟩ : ∃ z, ag[i]? = some z ∧ V.int z = y := by
        rw [List.getElem?_map] at hy
        cases e : ag[i]? with
        | none => rw [e] at hy; cases hy
        | some z => rw [e] at hy; exact ⟨z, rfl, Option.some.inj hy⟩
      have step : ((ag.take (i + 1)).map (cnt1 m t)).sum = ((ag.take i).map (cnt1 m t)).sum + cnt1 m t z := by
        rw [List.take_add_one, hz, List.map_append, List.sum_append]
        simp
      refine ⟨_, rfl, _, rfl, _, _, rfl, rfl, _, rfl, ?_⟩
      by_cases c1 : z ≤ t
      · rw [decide_eq_true c1]
        refine ⟨_, rfl, _, rfl, x, C, dx, _, _, rfl, fx s1, RR.cls, RR.nM, rfl, rfl, _, rfl, ?_⟩
        rw [dec_int]
        by_cases c2 : m = 0
        · rw [decide_eq_true c2]
          refine ⟨_, _, rfl, rfl, some (.int z), ?_, rfl⟩
          have e : cnt1 m t z = 1 := by unfold cnt1; rw [if_pos c1, if_pos c2]
          rw [step, e, ← Int.add_assoc]
          rfl
        · rw [decide_eq_false c2]
          refine ⟨_, rfl, _, rfl, _, _, rfl, rfl, _, rfl, x, C, dx, _, _, rfl, fx s1, RR.cls, RR.nM, rfl, _, _, rfl, rfl, ⟨by omega, by omega⟩, _, _, rfl, rfl, _, _, rfl, rfl, some (.int z), ?_, rfl⟩
          have e : cnt1 m t z = (t - z) / m + 1 := by unfold cnt1; rw [if_pos c1, if_neg c2]
          rw [step, e, ← Int.add_assoc]
          rfl
      · rw [decide_eq_false c1]
        refine ⟨some (.int z), ?_, rfl⟩
        have e : cnt1 m t z = 0 := by unfold cnt1; rw [if_neg c1]
        rw [step, e, Int.add_zero]
        rfl
    · rintro σ Hc ⟨v3, rfl, rfl⟩
      rw [List.length_map, List.take_length]
      exact ⟨_, rfl, q _ s1⟩
end
end WW

set_option Elab.async false
set_option linter.all false
set_option maxRecDepth 100000
set_option maxHeartbeats 4000000
namespace WW
open PySem L2
/-! ### a row whose turn is shorter -/
/-- the times that come again, without end -/
def ext (ag : List Int) (m : Int) (k : Nat) : Int := ag.getD (k % ag.length) 0 + ((k / ag.length : Nat) : Int) * m
theorem seqT_ge {fs : List V} {ag : List Int} {m : Int} {n : Nat} (h : ¬ n < fs.length) : seqT fs ag m n = .int (ext ag m (n - fs.length)) := by
  unfold seqT
  rw [if_neg h]
  rfl
theorem ext_add {ag : List Int} {m : Int} (h : 0 < ag.length) (k q : Nat) : ext ag m (k + ag.length * q) = ext ag m k + (q : Int) * m := by
  unfold ext
  rw [Nat.add_mul_mod_self_left, Nat.add_mul_div_left _ _ h, Int.natCast_add, Int.add_mul, Int.add_assoc]
theorem ext_lt {ag : List Int} {m : Int} {k : Nat} (h : k < ag.length) : ext ag m k = ag.getD k 0 := by
  unfold ext
  rw [Nat.mod_eq_of_lt h, Nat.div_eq_of_lt h]
  simp
theorem wide_ext {ag : List Int} {m : Int} {t i : Nat} (ht : t ≤ ag.length) (h : i < ag.length + t) (h0 : 0 < ag.length) : (wide ag m t).getD i 0 = ext ag m i := by
  unfold wide
  rw [List.getD_eq_getElem?_getD]
  by_cases c : i < ag.length
  · rw [List.getElem?_append_left c, ext_lt c, List.getD_eq_getElem?_getD]
  · rw [List.getElem?_append_right (by omega), List.getElem?_map, List.getElem?_take, if_pos (by omega)]
    have e : i = (i - ag.length) + ag.length * 1 := by omega
    have e2 : ext ag m i = ag.getD (i - ag.length) 0 + m := by
      rw [e, ext_add h0, ext_lt (by omega)]
      simp
    rw [e2, List.getElem?_eq_getElem (by omega), List.getD_eq_getElem?_getD, List.getElem?_eq_getElem (by omega)]
    rfl
theorem isTurn_split {ag : List Int} {m : Int} {t : Nat} (h : isTurn ag m t = true) : (ag.length : Int) % (t : Int) = 0 ∧ m * (t : Int) % (ag.length : Int) = 0 ∧ ∀ i, i < ag.length → (wide ag m t).getD (i + t) 0 - (wide ag m t).getD i 0 = m * (t : Int) / (ag.length : Int) := by
  unfold isTurn at h
  by_cases c : (ag.length : Int) % (t : Int) ≠ 0 ∨ m * (t : Int) % (ag.length : Int) ≠ 0
  · rw [if_pos c] at h
    cases h
  · rw [if_neg c] at h
    rw [not_or] at c
    refine ⟨Decidable.not_not.mp c.1, Decidable.not_not.mp c.2, fun i hi => ?_⟩
    exact of_decide_eq_true (List.all_eq_true.mp h i (List.mem_range.mpr hi))
theorem ext_turn {ag : List Int} {m : Int} {t : Nat} (h0 : 0 < ag.length) (ht : t ≤ ag.length) (h : isTurn ag m t = true) (k : Nat) : ext ag m (k + t) = ext ag m k + m * (t : Int) / (ag.length : Int) := by
  obtain ⟨_, _, h3⟩ := isTurn_split h
  have e : k = k % ag.length + ag.length * (k / ag.length) := (Nat.mod_add_div k ag.length).symm
  have hlt := Nat.mod_lt k h0
  have q := h3 (k % ag.length) hlt
  rw [wide_ext ht (by omega) h0, wide_ext ht (by omega) h0] at q
  rw [e, show k % ag.length + ag.length * (k / ag.length) + t = k % ag.length + t + ag.length * (k / ag.length) by omega, ext_add h0, ext_add h0]
  omega
theorem ext_turns {ag : List Int} {m : Int} {t : Nat} (h0 : 0 < ag.length) (ht : t ≤ ag.length) (h : isTurn ag m t = true) (k q : Nat) : ext ag m (k + t * q) = ext ag m k + (q : Int) * (m * (t : Int) / (ag.length : Int)) := by
  induction q with
  | zero => simp
  | succ q ih =>
    rw [show k + t * (q + 1) = k + t * q + t by rw [Nat.mul_succ]; omega, ext_turn h0 ht h, ih, Int.natCast_add, Int.add_mul, Int.add_assoc]
    simp
theorem turn_keeps {fs : List V} {ag : List Int} {m : Int} {t : Nat} (h0 : 0 < ag.length) (t0 : 0 < t) (ht : t ≤ ag.length) (h : isTurn ag m t = true) (n : Nat) : seqT fs (ag.take t) (m * (t : Int) / (ag.length : Int)) n = seqT fs ag m n := by
  by_cases c : n < fs.length
  · unfold seqT
    rw [if_pos c, if_pos c]
  · rw [seqT_ge c, seqT_ge c]
    congr 1
    generalize n - fs.length = k
    have lt : (ag.take t).length = t := by rw [List.length_take]; omega
    have e : k = k % t + t * (k / t) := (Nat.mod_add_div k t).symm
    have hlt := Nat.mod_lt k t0
    have e2 : ext ag m k = ext ag m (k % t) + ((k / t : Nat) : Int) * (m * (t : Int) / (ag.length : Int)) := by
      rw [← ext_turns h0 ht h]
      rw [← e]
    rw [e2, ext_lt (ag := ag) (show k % t < ag.length by omega)]
    unfold ext
    rw [lt]
    congr 1
    rw [List.getD_eq_getElem?_getD, List.getD_eq_getElem?_getD, List.getElem?_take, if_pos hlt]
/-! ### a beginning that is shorter -/
theorem lastI_eq {ag : List Int} (h : ag ≠ []) : lastI ag = ag.getLast h := by
  unfold lastI
  have : 0 < ag.length := List.length_pos_iff.mpr h
  rw [List.getD_eq_getElem?_getD, List.getElem?_eq_getElem (by omega), List.getLast_eq_getElem]
  rfl
theorem pop_keeps {r : List V} {x m : Int} {ag : List Int} (h0 : 0 < ag.length) (hx : x + m = lastI ag) (n : Nat) : seqT r (x :: ag.dropLast) m n = seqT (r ++ [V.int x]) ag m n := by
  have hl : (x :: ag.dropLast).length = ag.length := by rw [List.length_cons, List.length_dropLast]; omega
  by_cases c : n < r.length
  · unfold seqT
    rw [if_pos c, if_pos (by rw [List.length_append]; simp; omega)]
    simp only [List.getD_eq_getElem?_getD]
    rw [List.getElem?_append_left c]
  · rw [seqT_ge c]
    by_cases c1 : n = r.length
    · subst c1
      unfold seqT
      rw [if_pos (by rw [List.length_append]; simp), Nat.sub_self, ext_lt (by rw [hl]; exact h0)]
      simp
    · have c2 : ¬ n < (r ++ [V.int x]).length := by rw [List.length_append]; simp; omega
      rw [seqT_ge c2]
      congr 1
      have e : n - r.length = (n - (r ++ [V.int x]).length) + 1 := by rw [List.length_append]; simp; omega
      rw [e]
      generalize n - (r ++ [V.int x]).length = k
      unfold ext
      rw [hl]
      have hlt := Nat.mod_lt k h0
      by_cases c3 : k % ag.length + 1 = ag.length
      · have e1 : (k + 1) % ag.length = 0 := by rw [← Nat.mod_add_mod, c3, Nat.mod_self]
        have e2 : (k + 1) / ag.length = k / ag.length + 1 := by
          have d := Nat.div_add_mod k ag.length
          have : k + 1 = ag.length * (k / ag.length + 1) := by rw [Nat.mul_add, Nat.mul_one]; omega
          rw [this, Nat.mul_div_cancel_left _ h0]
        rw [e1, e2, show k % ag.length = ag.length - 1 by omega]
        have : ag.getD (ag.length - 1) 0 = lastI ag := rfl
        rw [this, ← hx, Int.natCast_add, Int.add_mul]
        simp
        omega
      · have e1 : (k + 1) % ag.length = k % ag.length + 1 := by rw [← Nat.mod_add_mod, Nat.mod_eq_of_lt (by omega)]
        have e2 : (k + 1) / ag.length = k / ag.length := by
          have d := Nat.div_add_mod k ag.length
          have : k + 1 = (k % ag.length + 1) + ag.length * (k / ag.length) := by omega
          rw [this, Nat.add_mul_div_left _ _ h0, Nat.div_eq_of_lt (by omega), Nat.zero_add]
        rw [e1, e2]
        congr 1
        rw [List.getD_eq_getElem?_getD, List.getElem?_cons_succ, List.getElem?_dropLast, if_pos (by omega), List.getD_eq_getElem?_getD]
theorem shrink_keeps {m : Int} : ∀ (rf : List V) (ag : List Int), 0 < ag.length → (∀ n, seqT (shrinkR m rf ag).1.reverse (shrinkR m rf ag).2 m n = seqT rf.reverse ag m n) ∧ (shrinkR m rf ag).2.length = ag.length ∧ (∀ y ∈ (shrinkR m rf ag).1, y ∈ rf) ∧ (shrinkR m rf ag).1.length ≤ rf.length
  | [], ag, h => ⟨fun _ => rfl, rfl, fun _ h => h, Nat.le_refl _⟩
  | .int x :: r, ag, h => by
    by_cases c : x + m = lastI ag
    · rw [shrink_go c]
      have hl : (x :: ag.dropLast).length = ag.length := by rw [List.length_cons, List.length_dropLast]; omega
      obtain ⟨i1, i2, i3, i4⟩ := shrink_keeps r (x :: ag.dropLast) (by rw [hl]; exact h)
      refine ⟨fun n => ?_, i2.trans hl, fun y hy => List.mem_cons_of_mem _ (i3 y hy), Nat.le_succ_of_le i4⟩
      rw [i1, List.reverse_cons]
      exact pop_keeps h c n
    · rw [shrink_no c]
      exact ⟨fun _ => rfl, rfl, fun _ h => h, Nat.le_refl _⟩
  | .non :: r, ag, h => ⟨fun _ => rfl, rfl, fun _ h => h, Nat.le_refl _⟩
  | .bl _ :: r, ag, h => ⟨fun _ => rfl, rfl, fun _ h => h, Nat.le_refl _⟩
  | .str _ :: r, ag, h => ⟨fun _ => rfl, rfl, fun _ h => h, Nat.le_refl _⟩
  | .byt _ :: r, ag, h => ⟨fun _ => rfl, rfl, fun _ h => h, Nat.le_refl _⟩
  | .flt _ :: r, ag, h => ⟨fun _ => rfl, rfl, fun _ h => h, Nat.le_refl _⟩
  | .ref _ :: r, ag, h => ⟨fun _ => rfl, rfl, fun _ h => h, Nat.le_refl _⟩
  | .ty _ :: r, ag, h => ⟨fun _ => rfl, rfl, fun _ h => h, Nat.le_refl _⟩
/-- the least form: all times stay -/
theorem least_keeps {fs : List V} {ag : List Int} {m : Int} (h : 0 < ag.length) : (∀ n, seqT (leastF fs ag m).1 (leastF fs ag m).2.1 (leastF fs ag m).2.2 n = seqT fs ag m n) ∧ (leastF fs ag m).2.1.length = turnOf ag m ∧ (∀ y ∈ (leastF fs ag m).1, y ∈ fs) ∧ (leastF fs ag m).1.length ≤ fs.length := by
  have t0 := turnOf_pos ag m
  have tl := turnOf_le (m := m) h
  have ti := turnOf_is (m := m) h
  have lt : (ag.take (turnOf ag m)).length = turnOf ag m := by rw [List.length_take]; omega
  obtain ⟨i1, i2, i3, i4⟩ := shrink_keeps (m := m * (turnOf ag m : Int) / (ag.length : Int)) fs.reverse (ag.take (turnOf ag m)) (by rw [lt]; exact t0)
  refine ⟨fun n => ?_, ?_, fun y hy => ?_, ?_⟩
  · show seqT (shrinkR _ fs.reverse (ag.take (turnOf ag m))).1.reverse (shrinkR _ fs.reverse (ag.take (turnOf ag m))).2 (m * (turnOf ag m : Int) / (ag.length : Int)) n = _
    rw [i1, List.reverse_reverse]
    exact turn_keeps h t0 tl ti n
  · show (shrinkR _ fs.reverse (ag.take (turnOf ag m))).2.length = _
    rw [i2, lt]
  · have hy : y ∈ (shrinkR (m * (turnOf ag m : Int) / (ag.length : Int)) fs.reverse (ag.take (turnOf ag m))).1.reverse := hy
    rw [List.mem_reverse] at hy
    have := i3 y hy
    rw [List.mem_reverse] at this
    exact this
  · show (shrinkR (m * (turnOf ag m : Int) / (ag.length : Int)) fs.reverse (ag.take (turnOf ag m))).1.reverse.length ≤ _
    rw [List.length_reverse]
    rw [List.length_reverse] at i4
    exact i4
/-! ### rates -/
theorem lowest_same {a b c d : Nat} (hb : 0 < b) (hd : 0 < d) (h : a * d = c * b) : a / Nat.gcd a b = c / Nat.gcd c d ∧ b / Nat.gcd a b = d / Nat.gcd c d := by
  have g0 : 0 < Nat.gcd a b := Nat.gcd_pos_of_pos_right a hb
  have k0 : 0 < Nat.gcd c d := Nat.gcd_pos_of_pos_right c hd
  have c1 : Nat.Coprime (a / Nat.gcd a b) (b / Nat.gcd a b) := Nat.coprime_div_gcd_div_gcd g0
  have c2 : Nat.Coprime (c / Nat.gcd c d) (d / Nat.gcd c d) := Nat.coprime_div_gcd_div_gcd k0
  have ea : Nat.gcd a b * (a / Nat.gcd a b) = a := Nat.mul_div_cancel' (Nat.gcd_dvd_left a b)
  have eb : Nat.gcd a b * (b / Nat.gcd a b) = b := Nat.mul_div_cancel' (Nat.gcd_dvd_right a b)
  have ec : Nat.gcd c d * (c / Nat.gcd c d) = c := Nat.mul_div_cancel' (Nat.gcd_dvd_left c d)
  have ed : Nat.gcd c d * (d / Nat.gcd c d) = d := Nat.mul_div_cancel' (Nat.gcd_dvd_right c d)
  generalize Nat.gcd a b = g at g0 c1 ea eb ⊢
  generalize Nat.gcd c d = k at k0 c2 ec ed ⊢
  generalize a / g = a1 at c1 ea ⊢
  generalize b / g = b1 at c1 eb ⊢
  generalize c / k = c0 at c2 ec ⊢
  generalize d / k = d1 at c2 ed ⊢
  have e : a1 * d1 = c0 * b1 := by
    have z : (g * k) * (a1 * d1) = (g * k) * (c0 * b1) := by
      rw [show g * k * (a1 * d1) = (g * a1) * (k * d1) by rw [Nat.mul_mul_mul_comm], show g * k * (c0 * b1) = (k * c0) * (g * b1) by rw [Nat.mul_comm g k, Nat.mul_mul_mul_comm], ea, ed, ec, eb]
      exact h
    exact Nat.eq_of_mul_eq_mul_left (Nat.mul_pos g0 k0) z
  have d1' : a1 ∣ c0 := c1.dvd_of_dvd_mul_right (by rw [← e]; exact Nat.dvd_mul_right a1 d1)
  have d2' : c0 ∣ a1 := c2.dvd_of_dvd_mul_right (by rw [e]; exact Nat.dvd_mul_right c0 b1)
  have d3' : b1 ∣ d1 := c1.symm.dvd_of_dvd_mul_left (by rw [e]; exact Nat.dvd_mul_left b1 c0)
  have d4' : d1 ∣ b1 := c2.symm.dvd_of_dvd_mul_left (by rw [← e]; exact Nat.dvd_mul_left d1 a1)
  exact ⟨Nat.dvd_antisymm d1' d2', Nat.dvd_antisymm d3' d4'⟩
/-- the rate of the least form -/
theorem least_rate {fs : List V} {ag : List Int} {m : Nat} (h : 0 < ag.length) : ∃ m' : Nat, (leastF fs ag (m : Int)).2.2 = (m' : Int) ∧ m' / Nat.gcd m' (leastF fs ag (m : Int)).2.1.length = m / Nat.gcd m ag.length ∧ (leastF fs ag (m : Int)).2.1.length / Nat.gcd m' (leastF fs ag (m : Int)).2.1.length = ag.length / Nat.gcd m ag.length ∧ m' ≤ m ∧ (m' = 0 ↔ m = 0) := by
  obtain ⟨_, hl, _, _⟩ := least_keeps (fs := fs) (m := (m : Int)) h
  have t0 := turnOf_pos ag (m : Int)
  have tl := turnOf_le (m := (m : Int)) h
  obtain ⟨_, h2, _⟩ := isTurn_split (turnOf_is (m := (m : Int)) h)
  have e : (leastF fs ag (m : Int)).2.2 = (m : Int) * (turnOf ag (m : Int) : Int) / (ag.length : Int) := rfl
  rw [hl]
  generalize turnOf ag (m : Int) = t at *
  have hm : ((m : Int) * (t : Int)) = ((m * t : Nat) : Int) := rfl
  rw [hm] at h2
  have h3 : (m * t) % ag.length = 0 := by
    have : (((m * t) % ag.length : Nat) : Int) = 0 := h2
    omega
  have ex : (m * t / ag.length) * ag.length = m * t := Nat.div_mul_cancel (Nat.dvd_of_mod_eq_zero h3)
  obtain ⟨r1, r2⟩ := lowest_same (a := m * t / ag.length) (b := t) (c := m) (d := ag.length) t0 h ex
  refine ⟨m * t / ag.length, ?_, r1, r2, ?_, ?_⟩
  · rw [e]
    rfl
  · refine Nat.le_of_mul_le_mul_right (c := ag.length) ?_ h
    rw [ex]
    exact Nat.mul_le_mul_left m tl
  · constructor
    · intro z
      rw [z, Nat.zero_mul] at ex
      rcases Nat.mul_eq_zero.mp ex.symm with z | z
      · exact z
      · omega
    · intro z
      rw [z, Nat.zero_mul, Nat.zero_div]
/-! ### counting -/
theorem filter_cut {p : Nat → Bool} (dn : ∀ n, p (n + 1) = true → p n = true) : ∀ M n, n < M → (p n = true ↔ n < ((List.range M).filter p).length)
  | 0, n, h => absurd h (Nat.not_lt_zero n)
  | M + 1, n, h => by
    have le : ((List.range M).filter p).length ≤ M := by
      have := List.length_filter_le p (List.range M)
      rw [List.length_range] at this
      exact this
    have all : p M = true → ∀ i, i ≤ M → p i = true := fun hM i hi => by
      obtain ⟨d, rfl⟩ : ∃ d, M = i + d := ⟨M - i, by omega⟩
      clear le h
      induction d with
      | zero => exact hM
      | succ d ih => exact ih (dn (i + d) hM) (by omega)
    rw [List.range_succ, List.filter_append, List.length_append]
    cases hM : p M with
    | true =>
      have e : [M].filter p = [M] := by rw [List.filter_cons, if_pos hM, List.filter_nil]
      have e2 : (List.range M).filter p = List.range M := List.filter_eq_self.mpr fun i hi => all hM i (by have := List.mem_range.mp hi; omega)
      rw [e, e2, List.length_range]
      exact ⟨fun _ => h, fun _ => all hM n (by omega)⟩
    | false =>
      have e : [M].filter p = [] := by rw [List.filter_cons, if_neg (by rw [hM]; decide), List.filter_nil]
      rw [e, List.length_nil, Nat.add_zero]
      by_cases c : n = M
      · subst c
        rw [hM]
        exact ⟨fun z => Bool.noConfusion z, fun z => by omega⟩
      · exact filter_cut dn M n (by omega)
theorem range_add (a b : Nat) : List.range (a + b) = List.range a ++ (List.range b).map (a + ·) := by
  induction b with
  | zero => simp
  | succ b ih => rw [← Nat.add_assoc, List.range_succ, ih, List.range_succ, List.map_append, List.append_assoc]; rfl
theorem fs_part {fs : List V} {ag : List Int} {m t : Int} : ((List.range fs.length).filter fun n => leT t (seqT fs ag m n)).length = (fs.filter (leT t)).length := by
  have e : (List.range fs.length).map (seqT fs ag m) = fs := by
    refine List.ext_getElem (by simp) fun i h1 h2 => ?_
    rw [List.getElem_map, List.getElem_range]
    unfold seqT
    rw [if_pos h2, List.getD_eq_getElem?_getD, List.getElem?_eq_getElem h2]
    rfl
  conv => rhs; rw [← e, List.filter_map, List.length_map]
  rfl
theorem ag_part {ag : List Int} {m t : Int} (hm : 0 < m) : ∀ (Q : Nat), ((List.range ag.length).filter fun j => decide (ag.getD j 0 + (Q : Int) * m ≤ t)).length + (ag.map fun x => min Q (cnt1 m t x).toNat).sum = (ag.map fun x => min (Q + 1) (cnt1 m t x).toNat).sum := by
  intro Q
  have one : ∀ x : Int, (if decide (x + (Q : Int) * m ≤ t) = true then 1 else 0) + min Q (cnt1 m t x).toNat = min (Q + 1) (cnt1 m t x).toNat := fun x => by
    have hQ : 0 ≤ (Q : Int) * m := Int.mul_nonneg (by omega) (by omega)
    unfold cnt1
    by_cases c : x ≤ t
    · rw [if_pos c, if_neg (show ¬ m = 0 by omega)]
      have key : x + (Q : Int) * m ≤ t ↔ (Q : Int) ≤ (t - x) / m := by
        rw [Int.le_ediv_iff_mul_le hm]
        omega
      have pos : 0 ≤ (t - x) / m := Int.ediv_nonneg (by omega) (by omega)
      by_cases d : x + (Q : Int) * m ≤ t
      · rw [if_pos (decide_eq_true d)]
        have := key.mp d
        omega
      · rw [if_neg (by rw [decide_eq_false d]; decide)]
        have : ¬ (Q : Int) ≤ (t - x) / m := fun z => d (key.mpr z)
        omega
    · rw [if_neg c, if_neg (by rw [decide_eq_false (by omega)]; decide)]
      simp
  have e : ((List.range ag.length).filter fun j => decide (ag.getD j 0 + (Q : Int) * m ≤ t)).length = (ag.filter fun x => decide (x + (Q : Int) * m ≤ t)).length := by
    have e : (List.range ag.length).map (fun j => ag.getD j 0) = ag := by
      refine List.ext_getElem (by simp) fun i h1 h2 => ?_
      rw [List.getElem_map, List.getElem_range, List.getD_eq_getElem?_getD, List.getElem?_eq_getElem h2]
      rfl
    conv => rhs; rw [← e, List.filter_map, List.length_map]
    rfl
  rw [e]
  clear e
  induction ag with
  | nil => rfl
  | cons x r ih =>
    have o := one x
    rw [List.map_cons, List.map_cons, List.sum_cons, List.sum_cons, List.filter_cons]
    by_cases c : decide (x + (Q : Int) * m ≤ t) = true
    · rw [if_pos c] at o ⊢
      rw [List.length_cons]
      omega
    · rw [if_neg c] at o ⊢
      omega
theorem blocks {fs : List V} {ag : List Int} {m t : Int} (h0 : 0 < ag.length) (hm : 0 < m) : ∀ Q : Nat, ((List.range (fs.length + ag.length * Q)).filter fun n => leT t (seqT fs ag m n)).length = (fs.filter (leT t)).length + (ag.map fun x => min Q (cnt1 m t x).toNat).sum
  | 0 => by
    rw [Nat.mul_zero, Nat.add_zero, fs_part]
    have : (ag.map fun x => min 0 (cnt1 m t x).toNat).sum = 0 := by
      clear h0
      induction ag with
      | nil => rfl
      | cons x r ih => rw [List.map_cons, List.sum_cons, ih]; simp
    rw [this]
    rfl
  | Q + 1 => by
    have ih := blocks (fs := fs) (t := t) h0 hm Q
    rw [Nat.mul_succ, ← Nat.add_assoc, range_add, List.filter_append, List.length_append, ih, List.filter_map, List.length_map, Nat.add_assoc]
    congr 1
    rw [Nat.add_comm, ← ag_part hm Q]
    congr 2
    refine List.filter_congr fun j hj => ?_
    have hj := List.mem_range.mp hj
    show leT t (seqT fs ag m (fs.length + ag.length * Q + j)) = _
    rw [seqT_ge (by omega), show fs.length + ag.length * Q + j - fs.length = j + ag.length * Q by omega, ext_add h0, ext_lt hj]
    rfl
theorem sum_big {ag : List Int} {m t : Int} : ∃ Q0 : Nat, ∀ Q, Q0 ≤ Q → (ag.map fun x => min Q (cnt1 m t x).toNat).sum = (ag.map fun x => (cnt1 m t x).toNat).sum := by
  induction ag with
  | nil => exact ⟨0, fun _ _ => rfl⟩
  | cons x r ih =>
    obtain ⟨Q0, h⟩ := ih
    refine ⟨max Q0 (cnt1 m t x).toNat, fun Q hQ => ?_⟩
    rw [List.map_cons, List.map_cons, List.sum_cons, List.sum_cons, h Q (by omega), Nat.min_eq_right (by omega)]
theorem cnt1_nonneg {m t x : Int} (hm : 0 ≤ m) : 0 ≤ cnt1 m t x := by
  unfold cnt1
  by_cases c : x ≤ t
  · rw [if_pos c]
    by_cases d : m = 0
    · rw [if_pos d]; decide
    · rw [if_neg d]
      have : 0 ≤ (t - x) / m := Int.ediv_nonneg (by omega) (by omega)
      omega
  · rw [if_neg c]; decide
theorem cnt_sum {ag : List Int} {m t : Int} (hm : 0 ≤ m) : (ag.map (cnt1 m t)).sum = (((ag.map fun x => (cnt1 m t x).toNat).sum : Nat) : Int) := by
  induction ag with
  | nil => rfl
  | cons x r ih =>
    have := cnt1_nonneg (m := m) (t := t) (x := x) hm
    rw [List.map_cons, List.sum_cons, List.map_cons, List.sum_cons, ih]
    omega
/-- how many are at a time at most: what count tells, where times go on growing -/
theorem count_is {fs : List V} {ag : List Int} {m t : Int} (h0 : 0 < ag.length) (hm : 0 < m) (dn : ∀ n, leT t (seqT fs ag m (n + 1)) = true → leT t (seqT fs ag m n) = true) :
    ∃ c : Nat, countF fs ag m t = .int (c : Int) ∧ ∀ n, leT t (seqT fs ag m n) = true ↔ n < c := by
  obtain ⟨Q0, hQ⟩ := sum_big (ag := ag) (m := m) (t := t)
  refine ⟨(fs.filter (leT t)).length + (ag.map fun x => (cnt1 m t x).toNat).sum, ?_, fun n => ?_⟩
  · unfold countF
    rw [if_neg (fun z => by omega), cnt_sum (by omega)]
    rfl
  · have hn : n < fs.length + ag.length * (max Q0 (n + 1)) := by
      have : 1 * (n + 1) ≤ ag.length * (max Q0 (n + 1)) := Nat.mul_le_mul h0 (Nat.le_max_right _ _)
      omega
    have q := filter_cut (p := fun n => leT t (seqT fs ag m n)) dn (fs.length + ag.length * (max Q0 (n + 1))) n hn
    rw [blocks h0 hm, hQ _ (Nat.le_max_left _ _)] at q
    exact q
/-- .. and where they do not, and are above this time in the end -/
theorem count_still {fs : List V} {ag : List Int} {t : Int} (h0 : 0 < ag.length) (hl : ¬ lastI ag ≤ t) (dn : ∀ n, leT t (seqT fs ag 0 (n + 1)) = true → leT t (seqT fs ag 0 n) = true) :
    ∃ c : Nat, countF fs ag 0 t = .int (c : Int) ∧ c ≤ fs.length ∧ ∀ n, leT t (seqT fs ag 0 n) = true ↔ n < c := by
  have far : ∀ d, leT t (seqT fs ag 0 (fs.length + (ag.length - 1) + d)) = false := fun d => by
    induction d with
    | zero =>
      rw [Nat.add_zero, seqT_ge (by omega), Nat.add_sub_cancel_left, ext_lt (by omega)]
      exact decide_eq_false hl
    | succ d ih =>
      cases e : leT t (seqT fs ag 0 (fs.length + (ag.length - 1) + (d + 1))) with
      | false => rfl
      | true =>
        have := dn (fs.length + (ag.length - 1) + d) e
        rw [ih] at this
        cases this
  have big : ∀ j, j < ag.length → ¬ ag.getD j 0 ≤ t := fun j hj z => by
    have q := far (j + 1)
    rw [seqT_ge (by omega), show fs.length + (ag.length - 1) + (j + 1) - fs.length = j + ag.length * 1 by omega, ext_add h0, ext_lt hj] at q
    have q : decide (ag.getD j 0 + ((1 : Nat) : Int) * 0 ≤ t) = false := q
    have := of_decide_eq_false q
    omega
  have nil : ∀ x ∈ ag, cnt1 0 t x = 0 := fun x hx => by
    obtain ⟨j, hj, rfl⟩ := List.getElem_of_mem hx
    have := big j hj
    rw [List.getD_eq_getElem?_getD, List.getElem?_eq_getElem hj, Option.getD_some] at this
    unfold cnt1
    rw [if_neg this]
  have zero : (ag.map (cnt1 0 t)).sum = 0 := by
    rw [List.map_congr_left nil]
    clear far big nil hl dn h0
    induction ag with
    | nil => rfl
    | cons x r ih => rw [List.map_cons, List.sum_cons, ih]; rfl
  have all : ∀ k, leT t (seqT fs ag 0 (fs.length + k)) = false := fun k => by
    rw [seqT_ge (by omega), Nat.add_sub_cancel_left]
    refine decide_eq_false ?_
    unfold ext
    have := big (k % ag.length) (Nat.mod_lt k h0)
    omega
  have le := List.length_filter_le (leT t) fs
  refine ⟨(fs.filter (leT t)).length, ?_, le, fun n => ?_⟩
  · unfold countF
    rw [if_neg (fun z => hl z.2), zero, Int.add_zero]
  · by_cases c : n < fs.length
    · have q := filter_cut (p := fun n => leT t (seqT fs ag 0 n)) dn fs.length n c
      rw [fs_part] at q
      exact q
    · obtain ⟨k, rfl⟩ : ∃ k, n = fs.length + k := ⟨n - fs.length, by omega⟩
      rw [all k]
      exact ⟨fun z => Bool.noConfusion z, fun z => by omega⟩
/-- .. counted among the first M of them -/
theorem count_first {p : Nat → Bool} {c M : Nat} (h : ∀ n, p n = true ↔ n < c) : ((List.range M).filter p).length = min M c := by
  have dn : ∀ n, p (n + 1) = true → p n = true := fun n z => (h n).mpr (by have := (h (n + 1)).mp z; omega)
  have le : ((List.range M).filter p).length ≤ M := by
    have := List.length_filter_le p (List.range M)
    rw [List.length_range] at this
    exact this
  generalize hk : ((List.range M).filter p).length = k at le
  have q : ∀ n, n < M → (n < c ↔ n < k) := fun n hn => by
    have := filter_cut dn M n hn
    rw [hk] at this
    exact (h n).symm.trans this
  by_cases a : k < M
  · have := q k a
    by_cases b : c < M
    · have := q c b
      omega
    · omega
  · by_cases b : c < M
    · have := q c b
      omega
    · omega
end WW

set_option Elab.async false
set_option linter.all false
set_option maxRecDepth 100000
set_option maxHeartbeats 4000000
namespace WW
open PySem L2
/-- nothing n times, then rising times -/
def upV (n : Nat) (zs : List Int) : List V := List.replicate n V.non ++ zs.map V.int
theorem upV_len (n : Nat) (zs : List Int) : (upV n zs).length = n + zs.length := by
  unfold upV
  rw [List.length_append, List.length_replicate, List.length_map]
theorem upV_lo {n i : Nat} {zs : List Int} (h : i < n) : (upV n zs).getD i .non = .non := by
  unfold upV
  rw [List.getD_eq_getElem?_getD, List.getElem?_append_left (by rw [List.length_replicate]; exact h), List.getElem?_replicate, if_pos h]
  rfl
theorem upV_hi {n i : Nat} {zs : List Int} (h : i < zs.length) : (upV n zs).getD (n + i) .non = .int (zs.getD i 0) := by
  unfold upV
  rw [List.getD_eq_getElem?_getD, List.getElem?_append_right (by rw [List.length_replicate]; omega), List.length_replicate, Nat.add_sub_cancel_left, List.getElem?_map, List.getElem?_eq_getElem h, List.getD_eq_getElem?_getD, List.getElem?_eq_getElem h]
  rfl
theorem pair_getD {zs : List Int} (h : zs.Pairwise (· ≤ ·)) {i j : Nat} (hij : i ≤ j) (hj : j < zs.length) : zs.getD i 0 ≤ zs.getD j 0 := by
  rw [List.getD_eq_getElem?_getD, List.getD_eq_getElem?_getD, List.getElem?_eq_getElem hj, List.getElem?_eq_getElem (by omega)]
  rcases Nat.lt_or_eq_of_le hij with c | c
  · exact List.pairwise_iff_getElem.mp h i j (by omega) hj c
  · subst c
    exact Int.le_refl _
theorem upV_rising {n : Nat} {zs : List Int} (h : zs.Pairwise (· ≤ ·)) : risingV (upV n zs) = true := by
  refine risingV_of fun i hi => ?_
  rw [upV_len] at hi
  by_cases c : i < n
  · rw [upV_lo c]
    cases (upV n zs).getD (i + 1) V.non <;> rfl
  · obtain ⟨k, rfl⟩ : ∃ k, i = n + k := ⟨i - n, by omega⟩
    rw [upV_hi (by omega), Nat.add_assoc, upV_hi (by omega)]
    exact decide_eq_false (by have := pair_getD h (i := k) (j := k + 1) (by omega) (by omega); omega)
theorem upV_things {n : Nat} {zs : List Int} : (upV n zs).all isThingV = true := by
  unfold upV
  rw [List.all_append, Bool.and_eq_true]
  refine ⟨List.all_eq_true.mpr fun x hx => ?_, List.all_eq_true.mpr fun x hx => ?_⟩
  · rw [List.eq_of_mem_replicate hx]
    rfl
  · obtain ⟨i, _, rfl⟩ := List.mem_map.mp hx
    rfl
theorem upV_drop {n : Nat} {zs : List Int} (k : Nat) : (upV n zs).drop k = upV (n - k) (zs.drop (k - n)) := by
  unfold upV
  rw [List.drop_append, List.drop_replicate, List.length_replicate, List.map_drop]
theorem cut_last {xs : List V} : cutV xs (some (-1)) none = xs.drop (xs.length - 1) := by
  unfold cutV
  have e : HT.sIx xs.length 0 (some (-1)) = xs.length - 1 := by
    show (if (-1 : Int) < 0 then ((-1 : Int) + (xs.length : Int)).toNat else min (-1 : Int).toNat xs.length) = xs.length - 1
    rw [if_pos (by decide)]
    omega
  rw [e, HT.sIx_none]
  exact List.take_of_length_le (by rw [List.length_drop]; omega)
theorem Drawn.le {fs : List V} {ag : List Int} {m : Int} (d : Drawn fs ag m) : ag.Pairwise (· ≤ ·) ∧ ag.getD 0 0 ≤ lastI ag ∧ 0 ≤ m := by
  obtain ⟨n, is, _, _, _, p, _⟩ := d.ex
  rw [List.pairwise_append] at p
  have := d.l1
  have h := pair_getD p.2.1 (i := 0) (j := ag.length - 1) (by omega) (by omega)
  have h : ag.getD 0 0 ≤ lastI ag := h
  have := d.m0
  exact ⟨p.2.1, h, by omega⟩
theorem Drawn.let_ {fs : List V} {ag : List Int} {m : Int} (d : Drawn fs ag m) : wrongW (some fs) (some (ag.map V.int)) (.int m) = .non := by
  obtain ⟨n, is, e, _, _, p, _⟩ := d.ex
  obtain ⟨pa, hl, hm⟩ := d.le
  have l1 := d.l1
  have m0 := d.m0
  have e : fs = upV n is := e
  have pi : is.Pairwise (· ≤ ·) := (List.pairwise_append.mp p).1
  have ea : ag.map V.int = upV 0 ag := rfl
  unfold wrongW
  dsimp only
  rw [if_pos (by rw [e, upV_things, upV_rising pi]; rfl)]
  show wrongA fs (ag.map V.int) (.int m) = .non
  have hd0 : hd (ag.map V.int) = .int (ag.getD 0 0) := by
    rw [ea]
    exact upV_hi (n := 0) (i := 0) (by omega)
  have hdL : lst (ag.map V.int) = .int (lastI ag) := by
    unfold lst
    rw [ea, upV_len]
    have := upV_hi (n := 0) (i := ag.length - 1) (zs := ag) (by omega)
    rw [Nat.zero_add] at this
    rw [Nat.zero_add]
    exact this
  unfold wrongA
  rw [if_neg (by
    rw [ea, upV_things]
    cases ag with
    | nil => cases l1
    | cons x r => exact fun z => by cases z)]
  have joined : cutV fs (some (-1)) none ++ ag.map V.int = upV (n - (fs.length - 1)) (is.drop (fs.length - 1 - n) ++ ag) := by
    have gen : ∀ k, fs.drop k = upV (n - k) (is.drop (k - n)) := fun k => by
      rw [e]
      exact upV_drop k
    rw [cut_last, gen]
    unfold upV
    rw [List.map_append, List.append_assoc]
  have jp : (is.drop (fs.length - 1 - n) ++ ag).Pairwise (· ≤ ·) := by
    rw [List.pairwise_append] at p ⊢
    exact ⟨p.1.sublist (List.drop_sublist _ _), p.2.1, fun a ha b hb => p.2.2 a (List.mem_of_mem_drop ha) b hb⟩
  rw [if_neg (by
    rw [joined, upV_rising jp, hd0]
    exact fun z => by cases z)]
  rw [if_neg (by
    show ¬ decide (0 ≤ m) = false
    rw [decide_eq_true hm]
    exact fun z => by cases z), if_neg (by rw [hd0]; exact fun z => by cases z), hd0, hdL]
  exact if_pos (by show lastI ag ≤ ag.getD 0 0 + m; omega)
theorem Drawn.dn {fs : List V} {ag : List Int} {m : Int} (d : Drawn fs ag m) (t : Int) (n : Nat) (h : leT t (seqT fs ag m (n + 1)) = true) : leT t (seqT fs ag m n) = true := by
  obtain ⟨k, is, e, _, _, p, _⟩ := d.ex
  obtain ⟨pa, hl, hm⟩ := d.le
  have l1 := d.l1
  have m0 := d.m0
  have e : fs = upV k is := e
  have flen : fs.length = k + is.length := by rw [e, upV_len]
  have pi : is.Pairwise (· ≤ ·) := (List.pairwise_append.mp p).1
  -- what stands at a place of the beginning
  have at_ : ∀ i, i < fs.length → seqT fs ag m i = (upV k is).getD i .non := fun i hi => by
    unfold seqT
    rw [if_pos hi]
    conv => lhs; rw [e]
  by_cases c0 : n < k
  · rw [at_ n (by omega), upV_lo c0]
    rfl
  · by_cases c1 : n + 1 < fs.length
    · obtain ⟨j, rfl⟩ : ∃ j, n = k + j := ⟨n - k, by omega⟩
      rw [at_ _ c1, Nat.add_assoc, upV_hi (by omega)] at h
      rw [at_ _ (by omega), upV_hi (by omega)]
      have h := of_decide_eq_true h
      have := pair_getD pi (i := j) (j := j + 1) (by omega) (by omega)
      exact decide_eq_true (by omega)
    · by_cases c2 : n < fs.length
      · -- the last one ahead of those that come again
        obtain ⟨j, rfl⟩ : ∃ j, n = k + j := ⟨n - k, by omega⟩
        have hj : j < is.length := by omega
        rw [seqT_ge c1, show k + j + 1 - fs.length = 0 by omega, ext_lt (by omega)] at h
        rw [at_ _ c2, upV_hi hj]
        have h := of_decide_eq_true h
        have q := (List.pairwise_append.mp p).2.2 (is.getD j 0) (by
          rw [List.getD_eq_getElem?_getD, List.getElem?_eq_getElem hj]
          exact List.getElem_mem hj) (ag.getD 0 0) (by
          rw [List.getD_eq_getElem?_getD, List.getElem?_eq_getElem (show 0 < ag.length by omega)]
          exact List.getElem_mem _)
        exact decide_eq_true (by omega)
      · rw [seqT_ge c1, show n + 1 - fs.length = (n - fs.length) + 1 by omega] at h
        rw [seqT_ge c2]
        have h := of_decide_eq_true h
        refine decide_eq_true (Int.le_trans ?_ h)
        generalize n - fs.length = i
        have h0 : 0 < ag.length := by omega
        have hlt := Nat.mod_lt i h0
        unfold ext
        by_cases c3 : i % ag.length + 1 = ag.length
        · have e1 : (i + 1) % ag.length = 0 := by rw [← Nat.mod_add_mod, c3, Nat.mod_self]
          have e2 : (i + 1) / ag.length = i / ag.length + 1 := by
            have dm := Nat.div_add_mod i ag.length
            have : i + 1 = ag.length * (i / ag.length + 1) := by rw [Nat.mul_add, Nat.mul_one]; omega
            rw [this, Nat.mul_div_cancel_left _ h0]
          rw [e1, e2, show i % ag.length = ag.length - 1 by omega, Int.natCast_add, Int.add_mul]
          have : ag.getD (ag.length - 1) 0 = lastI ag := rfl
          have e3 : ((1 : Nat) : Int) * m = m := by simp
          rw [this, e3]
          omega
        · have e1 : (i + 1) % ag.length = i % ag.length + 1 := by rw [← Nat.mod_add_mod, Nat.mod_eq_of_lt (by omega)]
          have e2 : (i + 1) / ag.length = i / ag.length := by
            have dm := Nat.div_add_mod i ag.length
            have : i + 1 = (i % ag.length + 1) + ag.length * (i / ag.length) := by omega
            rw [this, Nat.add_mul_div_left _ _ h0, Nat.div_eq_of_lt (by omega), Nat.zero_add]
          rw [e1, e2]
          have := pair_getD pa (i := i % ag.length) (j := i % ag.length + 1) (by omega) (by omega)
          omega
end WW

set_option Elab.async false
set_option linter.all false
set_option maxRecDepth 100000
set_option maxHeartbeats 4000000
namespace WW
open PySem L2
theorem Drawn.fl {fs : List V} {ag : List Int} {m : Int} (d : Drawn fs ag m) : fs.length ≤ 5 := by
  obtain ⟨n, is, e, h1, h2, _, _⟩ := d.ex
  rw [e, List.length_append, List.length_replicate, List.length_map]
  omega
theorem Drawn.bd {fs : List V} {ag : List Int} {m : Int} (d : Drawn fs ag m) : ∀ v ∈ ag, -4 ≤ v ∧ v ≤ 40 := fun v hv => by
  obtain ⟨n, is, e, h1, h2, _, b⟩ := d.ex
  exact b v (List.mem_append_right _ hv)
theorem Drawn.things {fs : List V} {ag : List Int} {m : Int} (d : Drawn fs ag m) : ∀ y ∈ fs, isThingV y = true := fun y hy => by
  obtain ⟨n, is, e, _⟩ := d.ex
  have := upV_things (n := n) (zs := is)
  have e : fs = upV n is := e
  rw [e] at hy
  exact List.all_eq_true.mp this y hy
theorem down {p : Nat → Bool} (dn : ∀ n, p (n + 1) = true → p n = true) : ∀ {i j : Nat}, i ≤ j → p j = true → p i = true := fun {i j} h hj => by
  obtain ⟨d, rfl⟩ : ∃ d, j = i + d := ⟨j - i, by omega⟩
  clear h
  induction d with
  | zero => exact hj
  | succ d ih => exact ih (dn (i + d) hj)
/-- a drawn row, and its least form -/
structure Both (fs : List V) (ag : List Int) (m : Int) (fs' : List V) (ag' : List Int) (m' : Int) : Prop where
  d : Drawn fs ag m
  same : ∀ n, seqT fs' ag' m' n = seqT fs ag m n
  l1 : 0 < ag'.length
  l3 : ag'.length ≤ 3
  fl : fs'.length ≤ 5
  m0 : 0 ≤ m'
  m1 : m' ≤ 50
  mz : m' = 0 ↔ m = 0
theorem both {fs : List V} {ag : List Int} {m : Int} (d : Drawn fs ag m) : Both fs ag m (leastF fs ag m).1 (leastF fs ag m).2.1 (leastF fs ag m).2.2 := by
  have l1 := d.l1
  have l3 := d.l3
  have fl := d.fl
  have mm := d.m1
  obtain ⟨_, _, hm⟩ := d.le
  obtain ⟨k, rfl⟩ : ∃ k : Nat, m = (k : Int) := ⟨m.toNat, by omega⟩
  obtain ⟨h1, h2, h3, h4⟩ := least_keeps (fs := fs) (ag := ag) (m := (k : Int)) (by omega)
  have tp := turnOf_pos ag (k : Int)
  have tl := turnOf_le (ag := ag) (m := (k : Int)) (by omega)
  obtain ⟨m', e, _, _, le, z⟩ := least_rate (fs := fs) (ag := ag) (m := k) (by omega)
  exact ⟨d, h1, by omega, by omega, by omega, by omega, by omega, by omega⟩
theorem Both.dn {fs fs' : List V} {ag ag' : List Int} {m m' : Int} (b : Both fs ag m fs' ag' m') (t : Int) (n : Nat) (h : leT t (seqT fs' ag' m' (n + 1)) = true) : leT t (seqT fs' ag' m' n) = true := by
  rw [b.same] at h ⊢
  exact b.d.dn t n h
/-- how many of the first ninety are at a time at most -/
def manyOf (fs : List V) (ag : List Int) (m t : Int) : Nat := (((List.range 90).map (seqT fs ag m)).filter (leT t)).length
theorem many_eq {fs : List V} {ag : List Int} {m t : Int} : manyOf fs ag m t = ((List.range 90).filter fun n => leT t (seqT fs ag m n)).length := by
  unfold manyOf
  rw [List.filter_map, List.length_map]
  rfl
theorem last_seq {fs : List V} {ag : List Int} (h : 0 < ag.length) (q : Nat) : seqT fs ag 0 (fs.length + ag.length * q + (ag.length - 1)) = .int (lastI ag) := by
  rw [seqT_ge (by omega), show fs.length + ag.length * q + (ag.length - 1) - fs.length = (ag.length - 1) + ag.length * q by omega, ext_add h, ext_lt (by omega)]
  show V.int (lastI ag + (q : Int) * 0) = _
  rw [Int.mul_zero, Int.add_zero]
theorem Both.counts {fs fs' : List V} {ag ag' : List Int} {m m' : Int} (b : Both fs ag m fs' ag' m') (t : Int) :
    (m = 0 → leT t (seqT fs ag m 89) = true → countF fs' ag' m' t = .non) ∧ (m = 0 → leT t (seqT fs ag m 89) = false → manyOf fs ag m t ≤ 80 ∧ countF fs' ag' m' t = .int (manyOf fs ag m t : Int)) ∧
      (m ≠ 0 → manyOf fs ag m t ≤ 80 → countF fs' ag' m' t = .int (manyOf fs ag m t : Int)) := by
  have l1 := b.l1
  have l3 := b.l3
  have fl := b.fl
  refine ⟨fun z h => ?_, fun z h => ?_, fun z h => ?_⟩
  · have z' := b.mz.mpr z
    subst z'
    unfold countF
    refine if_pos ⟨rfl, ?_⟩
    have q := down (p := fun n => leT t (seqT fs' ag' 0 n)) (b.dn t) (i := fs'.length + ag'.length * 0 + (ag'.length - 1)) (j := 89) (by omega) (by show leT t (seqT fs' ag' 0 89) = true; rw [b.same]; exact h)
    have q : leT t (seqT fs' ag' 0 (fs'.length + ag'.length * 0 + (ag'.length - 1))) = true := q
    rw [last_seq l1] at q
    exact of_decide_eq_true q
  · have z' := b.mz.mpr z
    subst z'
    have hl : ¬ lastI ag' ≤ t := fun c => by
      have q := down (p := fun n => leT t (seqT fs' ag' 0 n)) (b.dn t) (i := 89) (j := fs'.length + ag'.length * 100 + (ag'.length - 1)) (by omega) (by
        show leT t (seqT fs' ag' 0 (fs'.length + ag'.length * 100 + (ag'.length - 1))) = true
        rw [last_seq l1]
        exact decide_eq_true c)
      have q : leT t (seqT fs' ag' 0 89) = true := q
      rw [b.same, h] at q
      cases q
    obtain ⟨c, e, hc, hp⟩ := count_still (fs := fs') l1 hl (b.dn t)
    have em : manyOf fs ag m t = min 90 c := by
      rw [many_eq]
      refine count_first fun n => ?_
      rw [← b.same]
      exact hp n
    rw [e, em]
    refine ⟨by omega, ?_⟩
    congr 1
    omega
  · obtain ⟨c, e, hp⟩ := count_is (fs := fs') (t := t) l1 (show 0 < m' by have := b.m0; have := b.mz; omega) (b.dn t)
    have em : manyOf fs ag m t = min 90 c := by
      rw [many_eq]
      refine count_first fun n => ?_
      rw [← b.same]
      exact hp n
    rw [e, em]
    rw [em] at h
    congr 1
    omega
theorem Both.small {fs fs' : List V} {ag ag' : List Int} {m m' : Int} (b : Both fs ag m fs' ag' m') {t : Int} (ht : 10000 ≤ t) : leT t (seqT fs ag m 10) = true := by
  have l1 := b.d.l1
  have fl := b.d.fl
  have m1 := b.d.m1
  obtain ⟨_, _, m0⟩ := b.d.le
  rw [seqT_ge (by omega)]
  refine decide_eq_true ?_
  unfold ext
  have hlt := Nat.mod_lt (10 - fs.length) (show 0 < ag.length by omega)
  have bd := b.d.bd (ag.getD ((10 - fs.length) % ag.length) 0) (by
    rw [List.getD_eq_getElem?_getD, List.getElem?_eq_getElem hlt]
    exact List.getElem_mem hlt)
  have hq : (10 - fs.length) / ag.length ≤ 10 := Nat.le_trans (Nat.div_le_self _ _) (by omega)
  have : (((10 - fs.length) / ag.length : Nat) : Int) * m ≤ 10 * 50 := Int.mul_le_mul (by omega) m1 m0 (by omega)
  omega
theorem Both.far {fs fs' : List V} {ag ag' : List Int} {m m' : Int} (b : Both fs ag m fs' ag' m') {t : Int} (ht : 10000 ≤ t) :
    (m = 0 → countF fs' ag' m' t = .non) ∧ (m ≠ 0 → ∃ (c : Nat) (x y : Int), 0 < c ∧ countF fs' ag' m' t = .int (c : Int) ∧ seqT fs ag m (c - 1) = .int x ∧ seqT fs ag m c = .int y ∧ x ≤ t ∧ t < y) := by
  have l1 := b.l1
  have fl := b.d.fl
  have s10 := b.small ht
  refine ⟨fun z => ?_, fun z => ?_⟩
  · refine (b.counts t).1 z ?_
    subst z
    -- without growth the ninetieth is one of those that come again
    have k1 := b.d.l1
    rw [seqT_ge (by omega)]
    refine decide_eq_true ?_
    unfold ext
    have hlt := Nat.mod_lt (89 - fs.length) (show 0 < ag.length by omega)
    have bd := b.d.bd (ag.getD ((89 - fs.length) % ag.length) 0) (by
      rw [List.getD_eq_getElem?_getD, List.getElem?_eq_getElem hlt]
      exact List.getElem_mem hlt)
    omega
  · obtain ⟨c, e, hp⟩ := count_is (fs := fs') (t := t) l1 (show 0 < m' by have := b.m0; have := b.mz; omega) (b.dn t)
    have h10 : 10 < c := (hp 10).mp (by rw [b.same]; exact s10)
    have h1 := (hp (c - 1)).mpr (by omega)
    have h2 : ¬ leT t (seqT fs' ag' m' c) = true := fun q => by have := (hp c).mp q; omega
    rw [b.same, seqT_ge (by omega)] at h1 h2
    refine ⟨c, _, _, by omega, e, seqT_ge (by omega), seqT_ge (by omega), of_decide_eq_true h1, ?_⟩
    have : ¬ ext ag m (c - fs.length) ≤ t := fun q => h2 (decide_eq_true q)
    omega
theorem small_log {n : Nat} (h : n ≤ 1000) : ((n : Int)).natAbs.log2 < 1920 := by
  rw [Int.natAbs_natCast]
  exact Nat.lt_of_le_of_lt (Nat.le_trans (Nat.log2_le_self n) h) (by decide)
theorem seqT_thing {fs : List V} {ag : List Int} {m : Int} (h : ∀ y ∈ fs, isThingV y = true) (n : Nat) : isThingV (seqT fs ag m n) = true := by
  by_cases c : n < fs.length
  · unfold seqT
    rw [if_pos c, List.getD_eq_getElem?_getD, List.getElem?_eq_getElem c]
    exact h _ (List.getElem_mem c)
  · rw [seqT_ge c]
    rfl
end WW

set_option Elab.async false
set_option linter.all false
set_option maxRecDepth 100000
set_option maxHeartbeats 4000000
namespace WW
open PySem PySem.Spec PyProof.Rows L2
section
variable {P : Program} {w : World} {K : PySem.W.Frag} {mg : Str → Option Value} {base : Heap} {f : Addr} {fd : FuncData}
/-- a written row -/
def spConst (C : Addr) (fs ys : List V) (m : Int) : Sp := fun vs H Q _ => vs = [] ∧ ∀ x H', Same H H' → RowAt C H' x fs ys m → Q (.ref x) H'
abbrev s_unit : Stmt := top 25
abbrev N_unit : List Str := []
theorem sc_unit : FnScope N_unit [] (defScope s_unit) := ⟨rfl, rfl, rfl, by decide +kernel, rfl, by decide +kernel, by decide +kernel⟩

theorem ok_unit (F : FnP K "unit" s_unit f fd) (g_Row : MkAt P w K mg base CX0 4 "Row" ["self", "first", "again", "more"] (spInit K (He.ga K "Row")) []) : FnOk P w K mg base CX0 6 f fd [] (spConst (He.ga K "Row") [] [.int 0] 0) := by
  refine F.ok sc_unit (fun vs H Q E h => ?_) (fun cdv A outer s H vs Q E hr h => ?_)
  · obtain ⟨rfl, _⟩ := h
    rfl
  · obtain ⟨rfl, q⟩ := h
    refine ⟨_, PSs.nox (pss_one (ps_ret (pe_mkr g_Row hr rfl (pa_cons (pe_tup (pa_nil)) (pa_cons (pe_tup (pa_cons (pe_int) (pa_nil))) (pa_cons (pe_int) (pa_nil))))))), ?_⟩
    refine ⟨by decide, fun p1 n1 => ⟨by decide, fun p2 n2 x dx nx ndx hn => ?_⟩⟩
    have s0 : Same H (upd (upd H p1 (.tup [])) p2 (.tup [.int 0])) := (same_new n1).trans (same_new n2)
    have s1 : Same (upd (upd H p1 (.tup [])) p2 (.tup [.int 0])) (upd (upd (upd (upd H p1 (.tup [])) p2 (.tup [.int 0])) dx (.own x)) x (.ins (He.ga K "Row") dx [])) := (same_new ndx).trans (same_new ((upd_ne (Ne.symm hn)).trans nx))
    have h1 := s1 _ _ (same_new n2 _ _ (upd_same (H := H) (a := p1) (o := .tup [])))
    have h2 := s1 _ _ (upd_same (H := upd H p1 (.tup [])) (a := p2) (o := .tup [.int 0]))
    refine ⟨x, dx, .ref p1, .ref p2, [], [.int 0], 0, rfl, upd_same, ⟨p1, rfl, .t h1, by decide, fun y hy => nomatch hy⟩, ⟨p2, rfl, .t h2, by decide, fun y hy => ?_⟩, by decide +kernel, fun H' sb hr => ⟨rfl, q x H' (s0.trans (made_row (fs := []) (ys := []) (m := 0) nx ndx hn sb)) ?_⟩⟩
    · rw [List.mem_singleton.mp hy]
      exact ⟨false, hasT_int 0⟩
    · have e : leastV [] [.int 0] 0 = ([], [.int 0], 0) := by decide +kernel
      rw [e] at hr
      exact hr
abbrev s_empty : Stmt := top 26
abbrev N_empty : List Str := []
theorem sc_empty : FnScope N_empty [] (defScope s_empty) := ⟨rfl, rfl, rfl, by decide +kernel, rfl, by decide +kernel, by decide +kernel⟩

theorem ok_empty (F : FnP K "empty" s_empty f fd) (g_Row : MkAt P w K mg base CX0 4 "Row" ["self", "first", "again", "more"] (spInit K (He.ga K "Row")) []) : FnOk P w K mg base CX0 6 f fd [] (spConst (He.ga K "Row") [] [.non] 0) := by
  refine F.ok sc_empty (fun vs H Q E h => ?_) (fun cdv A outer s H vs Q E hr h => ?_)
  · obtain ⟨rfl, _⟩ := h
    rfl
  · obtain ⟨rfl, q⟩ := h
    refine ⟨_, PSs.nox (pss_one (ps_ret (pe_mkr g_Row hr rfl (pa_cons (pe_tup (pa_nil)) (pa_cons (pe_tup (pa_cons (pe_non) (pa_nil))) (pa_cons (pe_int) (pa_nil))))))), ?_⟩
    refine ⟨by decide, fun p1 n1 => ⟨by decide, fun p2 n2 x dx nx ndx hn => ?_⟩⟩
    have s0 : Same H (upd (upd H p1 (.tup [])) p2 (.tup [.non])) := (same_new n1).trans (same_new n2)
    have s1 : Same (upd (upd H p1 (.tup [])) p2 (.tup [.non])) (upd (upd (upd (upd H p1 (.tup [])) p2 (.tup [.non])) dx (.own x)) x (.ins (He.ga K "Row") dx [])) := (same_new ndx).trans (same_new ((upd_ne (Ne.symm hn)).trans nx))
    have h1 := s1 _ _ (same_new n2 _ _ (upd_same (H := H) (a := p1) (o := .tup [])))
    have h2 := s1 _ _ (upd_same (H := upd H p1 (.tup [])) (a := p2) (o := .tup [.non]))
    refine ⟨x, dx, .ref p1, .ref p2, [], [.non], 0, rfl, upd_same, ⟨p1, rfl, .t h1, by decide, fun y hy => nomatch hy⟩, ⟨p2, rfl, .t h2, by decide, fun y hy => ?_⟩, by decide +kernel, fun H' sb hr => ⟨rfl, q x H' (s0.trans (made_row (fs := []) (ys := []) (m := 0) nx ndx hn sb)) ?_⟩⟩
    · rw [List.mem_singleton.mp hy]
      exact ⟨false, hasT_non⟩
    · have e : leastV [] [.non] 0 = ([], [.non], 0) := by decide +kernel
      rw [e] at hr
      exact hr
theorem RowAt.sb {C : Addr} {H H' : Hp} {x b : Addr} {fs ys : List V} {m : Int} (hb : Box H b) (e : SameBut b H H') (h : RowAt C H x fs ys m) : RowAt C H' x fs ys m := by
  obtain ⟨dx, p1, p2, h1, h2, h3⟩ := h
  obtain ⟨u, v, z, hb⟩ := hb
  have n : ∀ {a o}, H a = some o → (∀ xs, o ≠ .lst xs) → a ≠ b := fun ha hn z => by
    rw [z, hb] at ha
    exact hn _ (Option.some.inj ha).symm
  exact ⟨dx, p1, p2, e _ _ (n h1 fun _ z => nomatch z) h1, e _ _ (n h2 fun _ z => nomatch z) h2, e _ _ (n h3 fun _ z => nomatch z) h3⟩
theorem six {C : Addr} {σ : L2.St} {Hc : Hp} {R : Bool → Hp → Prop} {x : Addr} {t m : Int} {fs : List V} {ag : List Int} {dv : V} (e5 : σ[5]? = some (some (.ref x))) (e11 : σ[11]? = some (some (.int t))) (e13 : σ[13]? = some (some dv)) (hx : RowAt C Hc x fs (ag.map V.int) m) (hl : fs.length ≤ 1000) (ht : fs.all isThingV = true)
    (m0 : 0 ≤ m) (m1 : m < 1000000) (ga : 0 < ag.length) (hc : countF fs ag m t = dv) (hd : dv = .non ∨ ∃ n : Nat, dv = .int (n : Int) ∧ n ≤ 1000) (k : ∀ H', Same Hc H' → R false H') :
    tTest (tOp rNe (tCB rRepr (tCons (tMeth C "count" (spCount C) [] E0 (tVar 5) (tCons (tVar 11) tNil)) tNil)) (tCB rRepr (tCons (tVar 13) tNil))) σ Hc R := by
  obtain ⟨dx, p1, p2, h1, h2, h3⟩ := id hx
  refine ⟨_, e5, x, dx, _, rfl, h1, rfl, _, e11, x, fs, ag.map V.int, m, t, rfl, hx, hl, ht, m0, m1, .inr ⟨ag, rfl, ga, fun H' s' => ?_⟩⟩
  rw [hc]
  rcases hd with rfl | ⟨n, rfl, hn⟩
  · refine .non rfl ⟨_, e13, .non rfl ⟨rfl, _, rfl, ?_⟩⟩
    exact k H' s'
  · refine .int _ rfl (small_log hn) ⟨_, e13, .int _ rfl (small_log hn) ⟨rfl, _, rfl, ?_⟩⟩
    rw [decide_eq_true rfl]
    exact k H' s'
def spLaw (K : PySem.W.Frag) : Sp := fun vs H Q _ => ∃ (a : Addr) (ns : List Int), vs = [.ref a] ∧ SqL K H a (ns.map V.int) ∧ ns.length ≤ 63 ∧ ∀ H', Q (.bl true) H'
abbrev s_law : Stmt := top 37
abbrev N_law : List Str := ["_law_script", "_law_k", "_law_box_here", "_law_turn", "_law_told", "_law_made_here", "_law_size", "_law_by", "_law_some", "_law_more", "_law_far", "_law_time_here", "_law_many", "_law_due", "_law_thing"]
theorem sc_law : FnScope N_law ["_law_script"] (defScope s_law) := ⟨rfl, rfl, rfl, by decide +kernel, rfl, by decide +kernel, by decide +kernel⟩

set_option maxHeartbeats 16000000 in
theorem ok_law (F : FnP K "law" s_law f fd) (m_range : mg "range" = none) (m_max : mg "max" = none) (m_min : mg "min" = none) (m_len : mg "len" = none) (m_repr : mg "repr" = none) (c_Row : Cls K (He.ga K "Row"))
    (g_l_box : FnAt P w K mg base CX0 1 "_law_box" ["_law_script", "_law_k"] (spBox K)) (g_l_row : FnAt P w K mg base CX0 3 "_law_row" ["_law_box_here", "_law_is_low"] spRow) (g_l_made : FnAt P w K mg base CX0 6 "_law_made" ["_law_told"] (spMade K (He.ga K "Row")))
    (g_l_divisor : FnAt P w K mg base CX0 1 "_law_divisor" ["_law_one", "_law_other"] spDiv) (g_Row_rate : PrpAt P w K mg base CX0 3 (He.ga K "Row") "rate" ["self"] (spRate (He.ga K "Row"))) (g_l_times : FnAt P w K mg base CX0 2 "_law_times" ["_law_told", "_law_many"] (spTimes K))
    (g_l_take : FnAt P w K mg base CX0 1 "_law_take" ["_law_box_here", "_law_many"] spTake) (g_Row_count : MthAt P w K mg base CX0 1 (He.ga K "Row") "count" ["self", "time"] (spCount (He.ga K "Row"))) (g_l_time : FnAt P w K mg base CX0 1 "_law_time" ["_law_told", "_law_n"] (spTime K))
    (g_empty : FnAt P w K mg base CX0 6 "empty" [] (spConst (He.ga K "Row") [] [.non] 0)) (g_unit : FnAt P w K mg base CX0 6 "unit" [] (spConst (He.ga K "Row") [] [.int 0] 0)) : FnOk P w K mg base CX0 7 f fd ["_law_script"] (spLaw K) := by
  refine F.ok sc_law (fun vs H Q E h => ?_) (fun cdv A outer s H vs Q E hr h => ?_)
  · obtain ⟨a, ns, rfl, _⟩ := h
    rfl
  · obtain ⟨a, ns, rfl, hq, hl, q⟩ := h
    refine ⟨_, PSs.nox (pss_cons (ps_for PassesOwn.never rfl (pi_range1 rfl m_range (pa_cons (pe_callB (call_max2 rfl) rfl m_max (by decide +kernel) (pa_cons (pe_int) (pa_cons (pe_callB (call_min2 rfl) rfl m_min (by decide +kernel) (pa_cons (pe_int) (pa_cons (pe_callB (call_lenK K) rfl m_len (by decide +kernel) (pa_cons (pv 0) (pa_nil))) (pa_nil)))) (pa_nil)))) (pa_nil))) (pg_name (i := 1) sc_law.nd rfl (.inl rfl)) (pss_cons (ps_set (i := 2) sc_law.nd rfl (.inl rfl) (pe_fn g_l_box hr rfl (pa_cons (pv 0) (pa_cons (pv 1) (pa_nil)))))
 (pss_one (ps_for PassesOwn.never rfl (pi_range1 rfl m_range (pa_cons (pe_int) (pa_nil))) (pg_name (i := 3) sc_law.nd rfl (.inl rfl)) (pss_cons (ps_set (i := 4) sc_law.nd rfl (.inl rfl) (pe_fn g_l_row hr rfl (pa_cons (pv 2) (pa_cons (pe_cmpR op_eq (pe_op op_mod (pv 3) (pe_int)) (pe_int) (nomark _)) (pa_nil)))))
 (pss_cons (ps_par (i := 5) (j := 6) rfl sc_law.nd rfl rfl (by decide) rfl rfl (pa_cons (pe_fn g_l_made hr rfl (pa_cons (pv 4) (pa_nil))) (pa_cons (pe_callB (call_lenK K) rfl m_len (by decide +kernel) (pa_cons (pe_ix (ix_sqK K) (pv 4) (pe_int) (fun _ _ => rfl)) (pa_nil))) (pa_nil))) rfl)
 (pss_cons (ps_set (i := 7) sc_law.nd rfl (.inl rfl) (pe_fn g_l_divisor hr rfl (pa_cons (pe_ix (ix_sqK K) (pv 4) (pe_int) (fun _ _ => rfl)) (pa_cons (pv 6) (pa_nil)))))
 (pss_cons (ps_if (pt_cmpR (op_neDK K hr) (pe_prp c_Row g_Row_rate hr (pv 5)) (pe_tup (pa_cons (pe_op op_fdiv (pe_ix (ix_sqK K) (pv 4) (pe_int) (fun _ _ => rfl)) (pv 7)) (pa_cons (pe_op op_fdiv (pv 6) (pv 7)) (pa_nil)))) (nomark _)) (pss_one (ps_ret (pe_bl))) (pss_nil))
 (pss_cons (ps_set (i := 8) sc_law.nd rfl (.inl rfl) (pe_fn g_l_times hr rfl (pa_cons (pv 4) (pa_cons (pe_int) (pa_nil)))))
 (pss_cons (ps_for PassesOwn.never rfl (pi_range1 rfl m_range (pa_cons (pe_int) (pa_nil))) (pg_name (i := 9) sc_law.nd rfl (.inl rfl)) (pss_cons (ps_set (i := 11) sc_law.nd rfl (.inr rfl) (pe_op op_sub (pe_fn g_l_take hr rfl (pa_cons (pv 2) (pa_cons (pe_int) (pa_nil)))) (pe_int)))
 (pss_cons (ps_set (i := 12) sc_law.nd rfl (.inl rfl) (pe_callB (call_lenK K) rfl m_len (by decide +kernel) (pa_cons (pe_lc (own := [("_law_thing", 14)]) rfl sc_law.nd (pi_seqK K (pv 8)) (blkOk_by (N := N_law) (sc := defScope s_law) (by decide +kernel)) (fun _ _ _ _ _ => pg_name (i := 14) sc_law.nd rfl (.inl rfl)) (fun _ _ _ _ _ => pts_one (PW.pt (pw_or (pt_cmpR op_isN (pv 14) (pe_non) (nomark _)) (pw_or1 (pt_cmpR op_le (pv 14) (pv 11) (nomark _)))))) (fun _ _ _ _ _ => pv 14)) (pa_nil))))
 (pss_cons (ps_set (i := 13) sc_law.nd rfl (.inl rfl) (pe_ifExp (pt_cmpR op_gt (pv 12) (pe_int) (nomark _)) (pe_non) (pv 12)))
 (pss_cons (ps_if (PW.pt (pw_and (pt_cmpR op_eq (pe_ix (ix_sqK K) (pv 4) (pe_int) (fun _ _ => rfl)) (pe_int) (nomark _)) (pw_and1 (pt_cmpR op_le (pe_ix (ix_sqK K) (pv 8) (pe_un un_neg (pe_int)) (fun _ _ => rfl)) (pv 11) (nomark _))))) (pss_one (ps_set (i := 13) sc_law.nd rfl (.inl rfl) (pe_non))) (pss_nil))
 (pss_cons (ps_if (PW.pt (pw_and (pt_cmpR op_gt (pv 12) (pe_int) (nomark _)) (pw_and1 (pt_cmpR op_gt (pe_ix (ix_sqK K) (pv 4) (pe_int) (fun _ _ => rfl)) (pe_int) (nomark _))))) (pss_one (ps_continue)) (pss_nil))
 (pss_one (ps_if (pt_cmpR op_ne (pe_callB call_repr rfl m_repr (by decide +kernel) (pa_cons (pe_mth c_Row g_Row_count hr (pv 5) (pa_cons (pv 11) (pa_nil))) (pa_nil))) (pe_callB call_repr rfl m_repr (by decide +kernel) (pa_cons (pv 13) (pa_nil))) (nomark _)) (pss_one (ps_ret (pe_bl))) (pss_nil)))))))))
 (pss_cons (ps_set (i := 10) sc_law.nd rfl (.inl rfl) (pe_mth c_Row g_Row_count hr (pv 5) (pa_cons (pe_op op_pow (pe_int) (pe_int)) (pa_nil))))
 (pss_cons (ps_if (pt_cmpR op_ne (pe_cmpR op_isN (pv 10) (pe_non) (nomark _)) (pe_cmpR op_eq (pe_ix (ix_sqK K) (pv 4) (pe_int) (fun _ _ => rfl)) (pe_int) (nomark _)) (nomark _)) (pss_one (ps_ret (pe_bl))) (pss_nil))
 (pss_one (ps_if (PW.pt (pw_and (pt_cmpR op_notN (pv 10) (pe_non) (nomark _)) (pw_and1 (pt_not (pt_chain op_le op_lt (pe_fn g_l_time hr rfl (pa_cons (pv 4) (pa_cons (pe_op op_sub (pv 10) (pe_int)) (pa_nil)))) (pe_op op_pow (pe_int) (pe_int)) (pe_fn g_l_time hr rfl (pa_cons (pv 4) (pa_cons (pv 10) (pa_nil))))))))) (pss_one (ps_ret (pe_bl))) (pss_nil)))))))))))))))
 (pss_one (ps_ret (pe_and (pe_cmpR (op_eqDK K hr) (pe_prp c_Row g_Row_rate hr (pe_fn0 g_empty hr rfl)) (pe_tup (pa_cons (pe_int) (pa_cons (pe_int) (pa_nil)))) (nomark _)) (pe_and (pe_cmpR op_isN (pe_mth c_Row g_Row_count hr (pe_fn0 g_empty hr rfl) (pa_cons (pe_un un_neg (pe_int)) (pa_nil))) (pe_non) (nomark _)) (pe_and (pe_cmpR op_isN (pe_mth c_Row g_Row_count hr (pe_fn0 g_unit hr rfl) (pa_cons (pe_int) (pa_nil))) (pe_non) (nomark _)) (pe_one (pe_cmpR op_eq (pe_mth c_Row g_Row_count hr (pe_fn0 g_unit hr rfl) (pa_cons (pe_un un_neg (pe_int)) (pa_nil))) (pe_int) (nomark _))))))))), ?_⟩
    have hlen : ((ns.map V.int).length : Int) = (ns.length : Int) := by rw [List.length_map]
    refine ⟨_, rfl, a, _, rfl, .inl hq, _, _, rfl, _, _, rfl, _, rfl, ?_, ?_, ?_⟩
    · rw [hlen]
      split <;> split <;> omega
    · rw [hlen]
      split <;> split <;> omega
    refine for_range (fun i σ Hc => ∃ (v1 v2 v3 v4 v5 v6 v7 v8 v9 v10 v11 v12 v13 v14 : Option V), σ = [some (.ref a), v1, v2, v3, v4, v5, v6, v7, v8, v9, v10, v11, v12, v13, v14] ∧ Same H Hc) ⟨none, none, none, none, none, none, none, none, none, none, none, none, none, none, rfl, Same.refl H⟩ ?_ ?_
    · rintro i σ Hc hi ⟨v1, v2, v3, v4, v5, v6, v7, v8, v9, v10, v11, v12, v13, v14, rfl, sH⟩
      -- the box
      refine ⟨_, rfl, _, rfl, a, ns, (0 : Int) + (i : Int), rfl, Evl.ex_l sH hq, by omega, by omega, fun b H1 s1 nb hb => ?_⟩
      refine ⟨8, rfl, by decide, by decide, ?_⟩
      refine for_range (fun i σ Hc => ∃ (v1 v2 v3 v4 v5 v6 v7 v8 v9 v10 v11 v12 v13 v14 : Option V), σ = [some (.ref a), v1, some (.ref b), v3, v4, v5, v6, v7, v8, v9, v10, v11, v12, v13, v14] ∧ SameBut b H1 Hc ∧ Box Hc b) ⟨_, none, _, _, _, _, _, _, _, _, _, _, _, _, rfl, SameBut.refl b H1, hb⟩ ?_ ?_
      · rintro j σ H2 hj ⟨v1, v2, v3, v4, v5, v6, v7, v8, v9, v10, v11, v12, v13, v14, rfl, sb2, hb2⟩
        -- a drawn row
        refine ⟨_, rfl, _, rfl, _, _, rfl, rfl, (by show (0 : Int) < 2; decide), rfl, b, _, rfl, hb2, fun p H3 fs ag m dr sb3 hb3 ⟨p1, p2, hp, hp1, hp2, np, np1, np2⟩ => ?_⟩
        have B := both dr
        have fl := dr.fl
        have al1 := dr.l1
        have al3 := dr.l3
        have mm := dr.m1
        obtain ⟨_, _, m0⟩ := dr.le
        have bt := B.m1
        have bz := B.m0
        have bl1 := B.l1
        have bl3 := B.l3
        have bfl := B.fl
        -- made, size
        refine ⟨_, rfl, p, p1, p2, fs, ag, m, rfl, hp, hp1, hp2, by omega, by omega, dr.things, dr.let_, fun x H4 s4 hx => ?_⟩
        have hd0 : ¬ hd (ag.map V.int) = .non := by
          unfold hd
          rw [List.getD_eq_getElem?_getD, List.getElem?_map, List.getElem?_eq_getElem (show 0 < ag.length by omega)]
          exact fun z => nomatch z
        have eag : (ag.map V.int).map intOf = ag := by
          rw [List.map_map]
          exact List.map_id'' (fun _ => rfl) ag
        have eL : leastV fs (ag.map V.int) m = ((leastF fs ag m).1, (leastF fs ag m).2.1.map V.int, (leastF fs ag m).2.2) := by
          unfold leastV
          rw [if_neg hd0, eag]
        rw [eL] at hx
        have hx : RowAt (He.ga K "Row") H4 x (leastF fs ag m).1 ((leastF fs ag m).2.1.map V.int) (leastF fs ag m).2.2 := hx
        obtain ⟨k, rfl⟩ : ∃ k : Nat, m = (k : Int) := ⟨m.toNat, by omega⟩
        obtain ⟨k', ek, r1, r2, _, _⟩ := least_rate (fs := fs) (ag := ag) (m := k) (by omega)
        have th' : ∀ y ∈ (leastF fs ag (k : Int)).1, isThingV y = true := fun y hy => dr.things y ((least_keeps (fs := fs) (ag := ag) (m := (k : Int)) (by omega)).2.2.1 y hy)
        have hall : (leastF fs ag (k : Int)).1.all isThingV = true := List.all_eq_true.mpr th'
        refine ⟨_, rfl, p, _, _, _, rfl, rfl, .t (s4 _ _ hp), rfl, p2, _, rfl, .l (s4 _ _ hp2), _, _, rfl, ?_⟩
        rw [show (((ag.map V.int).length : Nat) : Int) = (ag.length : Int) by rw [List.length_map]]
        -- by
        refine ⟨_, rfl, p, _, _, _, rfl, rfl, .t (s4 _ _ hp), rfl, _, rfl, k, ag.length, rfl, ?_⟩
        have g0 : 0 < Nat.gcd k ag.length := Nat.gcd_pos_of_pos_right k (by omega)
        have g1 : Nat.gcd k ag.length ≤ ag.length := Nat.le_of_dvd (by omega) (Nat.gcd_dvd_right k ag.length)
        -- the rate
        rw [ek] at hx
        have hx' := hx
        obtain ⟨dx, q1, q2, hx1, hx2, hx3⟩ := id hx
        refine ⟨_, rfl, x, dx, _, rfl, hx1, x, _, _, k', rfl, hx', by rw [List.length_map]; omega, by rw [List.length_map]; omega, fun pr H5 s5 hpr => ?_⟩
        rw [List.length_map, r1, r2] at hpr
        refine ⟨_, rfl, p, _, _, _, rfl, rfl, .t ((s4.trans s5) _ _ hp), rfl, _, rfl, _, _, rfl, rfl, ⟨by omega, by omega⟩, _, rfl, _, rfl, _, _, rfl, rfl, ⟨by omega, by omega⟩, by show 2 ≤ sizeLine; decide, fun pt nt => ?_⟩
        have s6 := same_new (o := .tup [.int ((k : Int) / (Nat.gcd k ag.length : Int)), .int ((ag.length : Int) / (Nat.gcd k ag.length : Int))]) nt
        refine ⟨.tuple [.int ((k / Nat.gcd k ag.length : Nat) : Int), .int ((ag.length / Nat.gcd k ag.length : Nat) : Int)], .tuple [.int ((k / Nat.gcd k ag.length : Nat) : Int), .int ((ag.length / Nat.gcd k ag.length : Nat) : Int)], .tup (.inl (.inl (s6 _ _ hpr))) (.cons (.int _) (.cons (.int _) .nil)), .tup (.inl (.inl upd_same)) (.cons (.int _) (.cons (.int _) .nil)), rfl, rfl, _, rfl, ?_⟩
        have ev : PyData.eqv (.tuple [.int ((k / Nat.gcd k ag.length : Nat) : Int), .int ((ag.length / Nat.gcd k ag.length : Nat) : Int)]) (.tuple [.int ((k / Nat.gcd k ag.length : Nat) : Int), .int ((ag.length / Nat.gcd k ag.length : Nat) : Int)]) = true := PySem.SeqAt.eqv_refl _ rfl
        rw [ev]
        have sH6 := (s4.trans s5).trans s6
        -- some
        refine ⟨_, rfl, p, p1, p2, fs, ag, (k : Int), 90, rfl, sH6 _ _ hp, sH6 _ _ hp1, sH6 _ _ hp2, by omega, by omega, by omega, by omega, by omega, fun D H8 s8 nD hD => ?_⟩
        have s38 := sH6.trans s8
        have hb8 : Box H8 b := hb3.ex s38
        have nDb : D ≠ b := Box.ne (hb3.ex sH6) nD
        have hx8 : RowAt (He.ga K "Row") H8 x (leastF fs ag (k : Int)).1 ((leastF fs ag (k : Int)).2.1.map V.int) (leastF fs ag (k : Int)).2.2 := by
          rw [ek]
          exact hx.ex ((s5.trans s6).trans s8)
        have y89 : seqT fs ag (k : Int) 89 = .int (ext ag (k : Int) (89 - fs.length)) := seqT_ge (by omega)
        have at89 : atI ((List.range 90).map (seqT fs ag (k : Int))) (-1) = some (.int (ext ag (k : Int) (89 - fs.length))) := by
          rw [← y89, List.range_succ, List.map_append]
          exact at_last
        refine ⟨8, rfl, by decide, by decide, ?_⟩
        refine for_range (fun i σ Hc => ∃ (v1 v2 v3 v4 v5 v6 v7 v8 v9 v10 v11 v12 v13 v14 : Option V), σ = [some (.ref a), v1, some (.ref b), v3, some (.ref p), some (.ref x), v6, v7, some (.ref D), v9, v10, v11, v12, v13, v14] ∧ SameBut b H8 Hc ∧ Box Hc b) ⟨_, none, _, none, none, _, _, none, _, _, _, _, _, _, rfl, SameBut.refl b H8, hb8⟩ ?_ ?_
        · rintro r σ Hc hr1 ⟨v1, v2, v3, v4, v5, v6, v7, v8, v9, v10, v11, v12, v13, v14, rfl, sbc, hbc⟩
          refine ⟨_, rfl, b, 50, rfl, hbc, by decide, by decide, fun u1 u2 u3 d d0 d1 => ⟨_, _, rfl, rfl, ?_⟩⟩
          have sbd : SameBut b H8 (upd Hc b (bx u1 u2 u3)) := sbc.trans (SameBut.upd b _ _)
          have hbd : Box (upd Hc b (bx u1 u2 u3)) b := ⟨_, _, _, upd_same⟩
          generalize upd Hc b (bx u1 u2 u3) = Hd at sbd hbd
          obtain ⟨t, et⟩ : ∃ t, t = d - 8 := ⟨_, rfl⟩
          have cnt := B.counts t
          dsimp only
          refine q_name ?_
          refine q_seq (q_asg (q_cb (q_one (lc_sqF (K := K) (xs := (List.range 90).map (seqT fs ag (k : Int))) (leT t) (fun R r => ⟨_, rfl, r D Hd (Same.refl Hd) (.l (sbd _ _ nDb hD))⟩) (by rw [List.length_map, List.length_range]; decide) (fun y hy H1 s1 R r => ?_) (fun y hy H1 s1 R r => ⟨_, rfl, r H1 (Same.refl H1)⟩) fun D2 H9 s9 nD2 hD2 => ?_))))
          · obtain ⟨n, _, rfl⟩ := List.mem_map.mp hy
            have ty := seqT_thing (ag := ag) (m := (k : Int)) dr.things n
            refine ⟨_, rfl, rfl, _, rfl, ?_⟩
            revert ty r
            cases seqT fs ag (k : Int) n with
            | non => exact fun r ty => r H1 (Same.refl H1)
            | int z => exact fun r ty => ⟨_, rfl, _, rfl, _, _, rfl, rfl, _, rfl, by rw [← et]; exact r H1 (Same.refl H1)⟩
            | _ => exact fun r ty => by cases ty
          refine ⟨D2, _, rfl, .l hD2, ?_⟩
          have eM : (((List.range 90).map (seqT fs ag (k : Int))).filter (leT t)).length = manyOf fs ag (k : Int) t := rfl
          rw [eM]
          have sb9 : SameBut b H8 H9 := sbd.trans (.of s9)
          have hb9 : Box H9 b := hbd.ex s9
          have hp9 : Sq K H9 p [.ref p1, .ref p2, .int (k : Int)] := .t (sb9 _ _ np (s38 _ _ hp))
          have hD9 : Sq K H9 D ((List.range 90).map (seqT fs ag (k : Int))) := .l (sb9 _ _ nDb hD)
          have hx9 := hx8.sb hb8 sb9
          have m6 : (leastF fs ag (k : Int)).2.2 < 1000000 := by omega
          have fl6 : (leastF fs ag (k : Int)).1.length ≤ 1000 := by omega
          -- the turn's end
          have next : ∀ {σ' : L2.St} {H' : Hp}, Same H9 H' → (∃ (v1 v2 v3 v4 v5 v6 v7 v8 v9 v10 v11 v12 v13 v14 : Option V), σ' = [some (.ref a), v1, some (.ref b), v3, some (.ref p), some (.ref x), v6, v7, some (.ref D), v9, v10, v11, v12, v13, v14]) → (fun σ Hc => ∃ (v1 v2 v3 v4 v5 v6 v7 v8 v9 v10 v11 v12 v13 v14 : Option V), σ = [some (.ref a), v1, some (.ref b), v3, some (.ref p), some (.ref x), v6, v7, some (.ref D), v9, v10, v11, v12, v13, v14] ∧ SameBut b H8 Hc ∧ Box Hc b) σ' H' := by
            rintro σ' H' sx ⟨v1, v2, v3, v4, v5, v6, v7, v8, v9, v10, v11, v12, v13, v14, rfl⟩
            exact ⟨v1, v2, v3, v4, v5, v6, v7, v8, v9, v10, v11, v12, v13, v14, rfl, sb9.trans (.of sx), hb9.ex sx⟩
          by_cases k0 : (k : Int) = 0
          · by_cases y0 : ext ag (k : Int) (89 - fs.length) ≤ t
            · have cv := cnt.1 k0 (by rw [y89]; exact decide_eq_true y0)
              by_cases M : (80 : Int) < (manyOf fs ag (k : Int) t : Int)
              · refine ⟨_, rfl, _, _, rfl, rfl, _, rfl, ?_⟩
                rw [decide_eq_true M]
                refine ⟨_, rfl, p, _, _, _, rfl, rfl, hp9, rfl, rfl, _, rfl, ?_⟩
                rw [dec_int, decide_eq_true k0]
                refine ⟨_, rfl, 1, rfl, D, _, _, _, rfl, rfl, hD9, at89, _, rfl, _, _, rfl, rfl, _, rfl, ?_⟩
                rw [← et, decide_eq_true y0]
                refine ⟨_, rfl, _, _, rfl, rfl, _, rfl, ?_⟩
                rw [decide_eq_true M]
                refine ⟨_, rfl, p, _, _, _, rfl, rfl, hp9, rfl, _, _, rfl, rfl, _, rfl, ?_⟩
                rw [decide_eq_false (show ¬ (0 : Int) < (k : Int) by omega)]
                exact six rfl rfl rfl hx9 fl6 hall bz m6 bl1 cv (.inl rfl) fun H' s' => next s' ⟨_, none, _, none, none, _, _, none, _, _, _, _, _, _, rfl⟩
              · refine ⟨_, rfl, _, _, rfl, rfl, _, rfl, ?_⟩
                rw [decide_eq_false M]
                refine ⟨_, rfl, _, rfl, p, _, _, _, rfl, rfl, hp9, rfl, rfl, _, rfl, ?_⟩
                rw [dec_int, decide_eq_true k0]
                refine ⟨_, rfl, 1, rfl, D, _, _, _, rfl, rfl, hD9, at89, _, rfl, _, _, rfl, rfl, _, rfl, ?_⟩
                rw [← et, decide_eq_true y0]
                refine ⟨_, rfl, _, _, rfl, rfl, _, rfl, ?_⟩
                rw [decide_eq_false M]
                exact six rfl rfl rfl hx9 fl6 hall bz m6 bl1 cv (.inl rfl) fun H' s' => next s' ⟨_, none, _, none, none, _, _, none, _, _, _, _, _, _, rfl⟩
            · obtain ⟨hM, cv⟩ := cnt.2.1 k0 (by rw [y89]; exact decide_eq_false y0)
              have M : ¬ (80 : Int) < (manyOf fs ag (k : Int) t : Int) := by omega
              refine ⟨_, rfl, _, _, rfl, rfl, _, rfl, ?_⟩
              rw [decide_eq_false M]
              refine ⟨_, rfl, _, rfl, p, _, _, _, rfl, rfl, hp9, rfl, rfl, _, rfl, ?_⟩
              rw [dec_int, decide_eq_true k0]
              refine ⟨_, rfl, 1, rfl, D, _, _, _, rfl, rfl, hD9, at89, _, rfl, _, _, rfl, rfl, _, rfl, ?_⟩
              rw [← et, decide_eq_false y0]
              refine ⟨_, rfl, _, _, rfl, rfl, _, rfl, ?_⟩
              rw [decide_eq_false M]
              exact six rfl rfl rfl hx9 fl6 hall bz m6 bl1 cv (.inr ⟨_, rfl, by omega⟩) fun H' s' => next s' ⟨_, none, _, none, none, _, _, none, _, _, _, _, _, _, rfl⟩
          · by_cases M : (80 : Int) < (manyOf fs ag (k : Int) t : Int)
            · refine ⟨_, rfl, _, _, rfl, rfl, _, rfl, ?_⟩
              rw [decide_eq_true M]
              refine ⟨_, rfl, p, _, _, _, rfl, rfl, hp9, rfl, rfl, _, rfl, ?_⟩
              rw [dec_int, decide_eq_false k0]
              refine ⟨_, rfl, _, _, rfl, rfl, _, rfl, ?_⟩
              rw [decide_eq_true M]
              refine ⟨_, rfl, p, _, _, _, rfl, rfl, hp9, rfl, _, _, rfl, rfl, _, rfl, ?_⟩
              rw [decide_eq_true (show (0 : Int) < (k : Int) by omega)]
              exact next (Same.refl H9) ⟨_, none, _, none, none, _, _, none, _, _, _, _, _, _, rfl⟩
            · have cv := cnt.2.2 k0 (by omega)
              refine ⟨_, rfl, _, _, rfl, rfl, _, rfl, ?_⟩
              rw [decide_eq_false M]
              refine ⟨_, rfl, _, rfl, p, _, _, _, rfl, rfl, hp9, rfl, rfl, _, rfl, ?_⟩
              rw [dec_int, decide_eq_false k0]
              refine ⟨_, rfl, _, _, rfl, rfl, _, rfl, ?_⟩
              rw [decide_eq_false M]
              exact six rfl rfl rfl hx9 fl6 hall bz m6 bl1 (by rw [← et]; exact cv) (.inr ⟨_, rfl, by omega⟩) fun H' s' => next s' ⟨_, none, _, none, none, _, _, none, _, _, _, _, _, _, rfl⟩
        · rintro σ Hc ⟨v1, v2, v3, v4, v5, v6, v7, v8, v9, v10, v11, v12, v13, v14, rfl, sbc, hbc⟩
          -- far
          have hpc : Sq K Hc p [.ref p1, .ref p2, .int (k : Int)] := .t (sbc _ _ np (s38 _ _ hp))
          have hxc := hx8.sb hb8 sbc
          obtain ⟨dy, q3, q4, hy1, hy2, hy3⟩ := id hxc
          have FR := B.far (t := (10 : Int) ^ (12 : Int).toNat) (by decide)
          refine ⟨_, rfl, x, dy, _, rfl, hy1, rfl, _, _, rfl, rfl, ⟨by decide, by decide, by decide⟩, x, _, _, _, _, rfl, hxc, by omega, hall, bz, by omega, .inr ⟨_, rfl, bl1, fun H9 s9 => ?_⟩⟩
          have sb9 : SameBut b H8 H9 := sbc.trans (.of s9)
          have hb9 : Box H9 b := hbc.ex s9
          have back : ∀ {σ' : L2.St} {H' : Hp}, Same H9 H' → (∃ (v1 v2 v3 v4 v5 v6 v7 v8 v9 v10 v11 v12 v13 v14 : Option V), σ' = [some (.ref a), v1, some (.ref b), v3, v4, v5, v6, v7, v8, v9, v10, v11, v12, v13, v14]) → (fun σ Hc => ∃ (v1 v2 v3 v4 v5 v6 v7 v8 v9 v10 v11 v12 v13 v14 : Option V), σ = [some (.ref a), v1, some (.ref b), v3, v4, v5, v6, v7, v8, v9, v10, v11, v12, v13, v14] ∧ SameBut b H1 Hc ∧ Box Hc b) σ' H' := by
            rintro σ' H' sx ⟨v1, v2, v3, v4, v5, v6, v7, v8, v9, v10, v11, v12, v13, v14, rfl⟩
            exact ⟨v1, v2, v3, v4, v5, v6, v7, v8, v9, v10, v11, v12, v13, v14, rfl, (((sb2.trans sb3).trans (.of s38)).trans sb9).trans (.of sx), hb9.ex sx⟩
          by_cases k0 : (k : Int) = 0
          · rw [FR.1 k0]
            refine ⟨_, rfl, rfl, _, rfl, p, _, _, _, rfl, rfl, hpc.ex s9, rfl, rfl, rfl, _, rfl, ?_⟩
            rw [dec_int, decide_eq_true k0]
            refine ⟨_, rfl, rfl, _, rfl, ?_⟩
            exact back (Same.refl H9) ⟨_, none, _, _, _, _, _, _, _, _, _, _, _, _, rfl⟩
          · obtain ⟨c, xx, yy, c0, ec, ex, ey, l1, l2⟩ := FR.2 k0
            rw [ec]
            refine ⟨_, rfl, rfl, _, rfl, p, _, _, _, rfl, rfl, hpc.ex s9, rfl, rfl, rfl, _, rfl, ?_⟩
            rw [dec_int, decide_eq_false k0]
            refine ⟨_, rfl, rfl, _, rfl, ?_⟩
            refine ⟨_, rfl, _, rfl, _, _, rfl, rfl, p, p1, p2, fs, ag, (k : Int), c - 1, ?_, sb9 _ _ np (s38 _ _ hp), sb9 _ _ np1 (s38 _ _ hp1), sb9 _ _ np2 (s38 _ _ hp2), by omega, by omega, by omega, by omega, ?_⟩
            · show [V.ref p, V.int ((c : Int) - 1)] = [V.ref p, V.int ((c - 1 : Nat) : Int)]
              rw [show ((c - 1 : Nat) : Int) = (c : Int) - 1 by omega]
            · rw [ex]
              refine ⟨_, _, rfl, rfl, ⟨by decide, by decide, by decide⟩, _, _, rfl, rfl, _, rfl, ?_⟩
              rw [decide_eq_true l1]
              refine ⟨_, rfl, _, rfl, p, p1, p2, fs, ag, (k : Int), c, rfl, sb9 _ _ np (s38 _ _ hp), sb9 _ _ np1 (s38 _ _ hp1), sb9 _ _ np2 (s38 _ _ hp2), by omega, by omega, by omega, by omega, ?_⟩
              rw [ey]
              refine ⟨_, _, rfl, rfl, _, rfl, ?_⟩
              rw [decide_eq_true l2]
              exact back (Same.refl H9) ⟨_, none, _, _, _, _, _, _, _, _, _, _, _, _, rfl⟩
      · rintro σ Hc ⟨v1, v2, v3, v4, v5, v6, v7, v8, v9, v10, v11, v12, v13, v14, rfl, sbc, hbc⟩
        refine ⟨_, _, _, _, _, _, _, _, _, _, _, _, _, _, rfl, ?_⟩
        intro a' o' ha'
        have h1' := s1 a' o' (sH a' o' ha')
        exact sbc a' o' (ne_of_none (sH a' o' ha') nb) h1'
    · rintro σ Hc ⟨v1, v2, v3, v4, v5, v6, v7, v8, v9, v10, v11, v12, v13, v14, rfl, sH⟩
      -- the written rows
      refine ⟨rfl, fun x1 H1 s1 hx1 => ?_⟩
      obtain ⟨dx, q1, q2, hy1, hy2, hy3⟩ := id hx1
      refine ⟨x1, dx, _, rfl, hy1, x1, [], [.non], 0, rfl, hx1, by decide, by decide, fun pr H2 s2 hpr => ⟨by decide, fun pt nt => ?_⟩⟩
      have e1 : [V.int ((0 / Nat.gcd 0 [V.non].length : Nat) : Int), V.int (([V.non].length / Nat.gcd 0 [V.non].length : Nat) : Int)] = [V.int 0, V.int 1] := by decide
      rw [e1] at hpr
      have ev : PyData.eqv (.tuple [.int 0, .int 1]) (.tuple [.int 0, .int 1]) = true := PySem.SeqAt.eqv_refl _ rfl
      refine ⟨.tuple [.int 0, .int 1], .tuple [.int 0, .int 1], .tup (.inl (.inl (same_new nt _ _ hpr))) (.cons (.int _) (.cons (.int _) .nil)), .tup (.inl (.inl upd_same)) (.cons (.int _) (.cons (.int _) .nil)), rfl, rfl, _, rfl, ?_⟩
      rw [ev]
      refine ⟨rfl, fun x2 H3 s3 hx2 => ?_⟩
      obtain ⟨dx2, q3, q4, hz1, hz2, hz3⟩ := id hx2
      refine ⟨x2, dx2, _, rfl, hz1, rfl, 5, rfl, x2, [], [.non], 0, -5, rfl, hx2, by decide, rfl, by decide, by decide, .inl ⟨rfl, by decide, rfl, _, rfl, ?_⟩⟩
      refine ⟨rfl, fun x3 H4 s4 hx3 => ?_⟩
      obtain ⟨dx3, q5, q6, hu1, hu2, hu3⟩ := id hx3
      refine ⟨x3, dx3, _, rfl, hu1, rfl, x3, [], [.int 0], 0, 0, rfl, hx3, by decide, rfl, by decide, by decide, .inr ⟨[0], rfl, by decide, fun H5 s5 => ⟨rfl, _, rfl, ?_⟩⟩⟩
      have e2 : countF [] [0] 0 0 = .non := by decide +kernel
      rw [e2]
      refine ⟨rfl, fun x4 H6 s6 hx4 => ?_⟩
      obtain ⟨dx4, q7, q8, hw1, hw2, hw3⟩ := id hx4
      refine ⟨x4, dx4, _, rfl, hw1, rfl, 1, rfl, x4, [], [.int 0], 0, -1, rfl, hx4, by decide, rfl, by decide, by decide, .inr ⟨[0], rfl, by decide, fun H7 s7 => ?_⟩⟩
      have e3 : countF [] [0] 0 (-1) = .int 0 := by decide +kernel
      rw [e3]
      exact ⟨rfl, q H7⟩
end
end WW

set_option Elab.async false
set_option linter.all false
set_option maxRecDepth 100000
set_option maxHeartbeats 0
namespace WW
open PySem PySem.Spec PyProof.Rows L2
def d_l_take : He5.DefA := ⟨fun K => He.fAd K ("_law_take", none), "_law_take", "_law_take", defArgs s_l_take, defBody s_l_take, defScope s_l_take, [], []⟩
def d_l_pick : He5.DefA := ⟨fun K => He.fAd K ("_law_pick", none), "_law_pick", "_law_pick", defArgs s_l_pick, defBody s_l_pick, defScope s_l_pick, [], []⟩
def d_is_integer : He5.DefA := ⟨fun K => He.fAd K ("is_integer", none), "is_integer", "is_integer", defArgs s_is_integer, defBody s_is_integer, defScope s_is_integer, [], []⟩
def d_is_number : He5.DefA := ⟨fun K => He.fAd K ("is_number", none), "is_number", "is_number", defArgs s_is_number, defBody s_is_number, defScope s_is_number, [], []⟩
def d_is_sequence : He5.DefA := ⟨fun K => He.fAd K ("is_sequence", none), "is_sequence", "is_sequence", defArgs s_is_sequence, defBody s_is_sequence, defScope s_is_sequence, [], []⟩
def d_is_thing : He5.DefA := ⟨fun K => He.fAd K ("is_thing", none), "is_thing", "is_thing", defArgs s_is_thing, defBody s_is_thing, defScope s_is_thing, [], []⟩
def d_is_below : He5.DefA := ⟨fun K => He.fAd K ("is_below", none), "is_below", "is_below", defArgs s_is_below, defBody s_is_below, defScope s_is_below, [], []⟩
def d_are_rising : He5.DefA := ⟨fun K => He.fAd K ("are_rising", none), "are_rising", "are_rising", defArgs s_are_rising, defBody s_are_rising, defScope s_are_rising, [], []⟩
def d_wrong_word : He5.DefA := ⟨fun K => He.fAd K ("wrong_word", none), "wrong_word", "wrong_word", defArgs s_wrong_word, defBody s_wrong_word, defScope s_wrong_word, [], []⟩
def d_is_turn : He5.DefA := ⟨fun K => He.fAd K ("is_turn", none), "is_turn", "is_turn", defArgs s_is_turn, defBody s_is_turn, defScope s_is_turn, [], []⟩
def d_least_form : He5.DefA := ⟨fun K => He.fAd K ("least_form", none), "least_form", "least_form", defArgs s_least_form, defBody s_least_form, defScope s_least_form, [], []⟩
def d_Row___init__ : He5.DefA := ⟨fun K => He.fAd K ("Row", some "__init__"), "__init__", "Row.__init__", defArgs s_Row___init__, defBody s_Row___init__, defScope s_Row___init__, [.int 0], []⟩
def d_l_box : He5.DefA := ⟨fun K => He.fAd K ("_law_box", none), "_law_box", "_law_box", defArgs s_l_box, defBody s_l_box, defScope s_l_box, [], []⟩
def d_l_row : He5.DefA := ⟨fun K => He.fAd K ("_law_row", none), "_law_row", "_law_row", defArgs s_l_row, defBody s_l_row, defScope s_l_row, [], []⟩
def d_divisor : He5.DefA := ⟨fun K => He.fAd K ("divisor", none), "divisor", "divisor", defArgs s_divisor, defBody s_divisor, defScope s_divisor, [], []⟩
def d_l_divisor : He5.DefA := ⟨fun K => He.fAd K ("_law_divisor", none), "_law_divisor", "_law_divisor", defArgs s_l_divisor, defBody s_l_divisor, defScope s_l_divisor, [], []⟩
def d_lowest : He5.DefA := ⟨fun K => He.fAd K ("lowest", none), "lowest", "lowest", defArgs s_lowest, defBody s_lowest, defScope s_lowest, [], []⟩
def d_Row_rate : He5.DefA := ⟨fun K => He5.wf K (He.ga K "Row") "property" "rate", "rate", "Row.rate", defArgs s_Row_rate, defBody s_Row_rate, defScope s_Row_rate, [], []⟩
def d_l_time : He5.DefA := ⟨fun K => He.fAd K ("_law_time", none), "_law_time", "_law_time", defArgs s_l_time, defBody s_l_time, defScope s_l_time, [], []⟩
def d_l_times : He5.DefA := ⟨fun K => He.fAd K ("_law_times", none), "_law_times", "_law_times", defArgs s_l_times, defBody s_l_times, defScope s_l_times, [], []⟩
def d_l_made : He5.DefA := ⟨fun K => He.fAd K ("_law_made", none), "_law_made", "_law_made", defArgs s_l_made, defBody s_l_made, defScope s_l_made, [], []⟩
def d_Row_count : He5.DefA := ⟨fun K => He.fAd K ("Row", some "count"), "count", "Row.count", defArgs s_Row_count, defBody s_Row_count, defScope s_Row_count, [], []⟩
def d_unit : He5.DefA := ⟨fun K => He.fAd K ("unit", none), "unit", "unit", defArgs s_unit, defBody s_unit, defScope s_unit, [], []⟩
def d_empty : He5.DefA := ⟨fun K => He.fAd K ("empty", none), "empty", "empty", defArgs s_empty, defBody s_empty, defScope s_empty, [], []⟩
def d_law : He5.DefA := ⟨fun K => He.fAd K ("law", none), "law", "law", defArgs s_law, defBody s_law, defScope s_law, [], []⟩
def steps : Nat := 4000
def fn : List He5.DefA := ([d_l_take, d_l_pick, d_is_integer, d_is_number, d_is_sequence, d_is_thing, d_is_below, d_are_rising, d_wrong_word, d_is_turn, d_least_form, d_Row___init__] : List He5.DefA) ++ ([d_l_box, d_l_row, d_divisor, d_l_divisor, d_lowest, d_Row_rate, d_l_time, d_l_times, d_l_made, d_Row_count, d_unit, d_empty] : List He5.DefA) ++ ([d_law] : List He5.DefA)
def fa : List He.Fa := ([.glo "_law_take", .glo "_law_pick", .glo "is_integer", .glo "is_number", .glo "is_sequence", .glo "is_thing", .glo "is_below", .glo "are_rising", .glo "wrong_word", .glo "is_turn", .glo "least_form", .glo "_law_box"] : List He.Fa) ++ ([.glo "_law_row", .glo "divisor", .glo "_law_divisor", .glo "lowest", .glo "_law_time", .glo "_law_times", .glo "_law_made", .glo "unit", .glo "empty", .glo "law", .free "int", .free "len"] : List He.Fa) ++ ([.free "isinstance", .free "bool", .free "list", .free "tuple", .free "any", .free "all", .free "range", .free "abs", .free "max", .free "min", .free "repr", .cls "Row"] : List He.Fa) ++ ([.noat "Row" "first", .noat "Row" "again", .noat "Row" "more", .meth "Row" "count", .mkr "Row", .glo "Row"] : List He.Fa)
def loose : List Str := (["_wall", "WaitError", "InvalidRow", "InvalidText", "DIGITS", "is_integer", "is_number", "is_sequence", "number_in", "integer_in", "divisor", "lowest"] : List Str) ++ (["MOST_DIGITS", "is_thing", "is_below", "are_rising", "wrong_word", "is_turn", "least_form", "Row", "word_of", "things_in", "unit", "empty"] : List Str) ++ (["_law_box", "_law_take", "_law_pick", "_law_mixed", "_law_row", "_law_time", "_law_times", "_law_made", "_law_divisor"] : List Str)
abbrev R : PySem.W.OpenRow := PySem.W.OpenLaw.row PySem.Challenge.rw_waitworks_k05_rates_and_counts
def exK (K : PySem.W.Frag) : Bool := propB K (He.ga K "Row") "rate"
abbrev hk : PySem.W.Hook := hookW 7 fa fn exK
def ob (s : PySem.W.SharedT) : He.AlD × Bool := obsW 7 fa fn exK (HandSHeadRun.getT s)
theorem ob_eq (s : PySem.W.SharedT) : ob s = hk.obs s.abs := obsW_eq (HandSHeadRun.getT_eq s)
theorem run (w : World) : HandSHeadRun.RunEq R (PySem.W.view R.prog [37]) hk ob steps loose w := by
  intro os
  kernel_rfl
/-- Row(a, b, c): every parameter is written, a default stands behind -/
theorem init_binds {K : PySem.W.Frag} {f : Addr} {fd : FuncData} (F : FunD K "__init__" "Row.__init__" (defArgs s_Row___init__) (defBody s_Row___init__) (defScope s_Row___init__) [.int 0] [] f fd) : Binds K fd ["self", "first", "again", "more"] [] := by
  obtain ⟨ds, v, b⟩ := F.binds1 (ps := ["self", "first", "again", "more"]) 4 1 (List.cons_ne_nil _ _) rfl fun T kV doc pm an cdv ct us its hu hi => by
    match us, hu, its, hi with
    | [u1, u2, u3, u4], _, [i1], _ => exact ⟨_, rfl, rfl⟩
  cases v
  exact b
theorem facts {P : Program} {w : World} {K : PySem.W.Frag} {h : Heap} {mg : Str → Option Value} {f : Addr} (X : K.In h) (G : h.Ns mainGlobals mg) (hfa : mg ("law" : Str) = some (.ref f)) (c : SaysW fa fn exK K) :
    ∃ fd : FuncData, (∀ (s : Shared) (v : Value), BindsTo s fd ⟨[v], []⟩ [("_law_script", v)]) ∧ ∀ base : Heap, K.In base → base.Ns mainGlobals mg → FnOk P w K mg base CX0 7 f fd ["_law_script"] (spLaw K) := by
  obtain ⟨c, cx⟩ := c
  have m_int := He.free_ok X G (c.fact 22 (f := .free "int") rfl)
  have m_len := He.free_ok X G (c.fact 23 (f := .free "len") rfl)
  have m_isinstance := He.free_ok X G (c.fact 24 (f := .free "isinstance") rfl)
  have m_bool := He.free_ok X G (c.fact 25 (f := .free "bool") rfl)
  have m_list := He.free_ok X G (c.fact 26 (f := .free "list") rfl)
  have m_tuple := He.free_ok X G (c.fact 27 (f := .free "tuple") rfl)
  have m_any := He.free_ok X G (c.fact 28 (f := .free "any") rfl)
  have m_all := He.free_ok X G (c.fact 29 (f := .free "all") rfl)
  have m_range := He.free_ok X G (c.fact 30 (f := .free "range") rfl)
  have m_abs := He.free_ok X G (c.fact 31 (f := .free "abs") rfl)
  have m_max := He.free_ok X G (c.fact 32 (f := .free "max") rfl)
  have m_min := He.free_ok X G (c.fact 33 (f := .free "min") rfl)
  have m_repr := He.free_ok X G (c.fact 34 (f := .free "repr") rfl)
  have RR : RowC K (He.ga K "Row") := ⟨He.cls_ok (c.fact 35 (f := .cls "Row") rfl), He.noat_ok (c.fact 36 (f := .noat "Row" "first") rfl), He.noat_ok (c.fact 37 (f := .noat "Row" "again") rfl), He.noat_ok (c.fact 38 (f := .noat "Row" "more") rfl)⟩
  obtain ⟨fd_l_take, F_l_take⟩ := c.def_ 0 (d := d_l_take) rfl
  obtain ⟨fd_l_pick, F_l_pick⟩ := c.def_ 1 (d := d_l_pick) rfl
  obtain ⟨fd_is_integer, F_is_integer⟩ := c.def_ 2 (d := d_is_integer) rfl
  obtain ⟨fd_is_number, F_is_number⟩ := c.def_ 3 (d := d_is_number) rfl
  obtain ⟨fd_is_sequence, F_is_sequence⟩ := c.def_ 4 (d := d_is_sequence) rfl
  obtain ⟨fd_is_thing, F_is_thing⟩ := c.def_ 5 (d := d_is_thing) rfl
  obtain ⟨fd_is_below, F_is_below⟩ := c.def_ 6 (d := d_is_below) rfl
  obtain ⟨fd_are_rising, F_are_rising⟩ := c.def_ 7 (d := d_are_rising) rfl
  obtain ⟨fd_wrong_word, F_wrong_word⟩ := c.def_ 8 (d := d_wrong_word) rfl
  obtain ⟨fd_is_turn, F_is_turn⟩ := c.def_ 9 (d := d_is_turn) rfl
  obtain ⟨fd_least_form, F_least_form⟩ := c.def_ 10 (d := d_least_form) rfl
  obtain ⟨fd_Row___init__, F_Row___init__⟩ := c.def_ 11 (d := d_Row___init__) rfl
  obtain ⟨fd_l_box, F_l_box⟩ := c.def_ 12 (d := d_l_box) rfl
  obtain ⟨fd_l_row, F_l_row⟩ := c.def_ 13 (d := d_l_row) rfl
  obtain ⟨fd_divisor, F_divisor⟩ := c.def_ 14 (d := d_divisor) rfl
  obtain ⟨fd_l_divisor, F_l_divisor⟩ := c.def_ 15 (d := d_l_divisor) rfl
  obtain ⟨fd_lowest, F_lowest⟩ := c.def_ 16 (d := d_lowest) rfl
  obtain ⟨fd_Row_rate, F_Row_rate⟩ := c.def_ 17 (d := d_Row_rate) rfl
  obtain ⟨fd_l_time, F_l_time⟩ := c.def_ 18 (d := d_l_time) rfl
  obtain ⟨fd_l_times, F_l_times⟩ := c.def_ 19 (d := d_l_times) rfl
  obtain ⟨fd_l_made, F_l_made⟩ := c.def_ 20 (d := d_l_made) rfl
  obtain ⟨fd_Row_count, F_Row_count⟩ := c.def_ 21 (d := d_Row_count) rfl
  obtain ⟨fd_unit, F_unit⟩ := c.def_ 22 (d := d_unit) rfl
  obtain ⟨fd_empty, F_empty⟩ := c.def_ 23 (d := d_empty) rfl
  obtain ⟨fd_law, F_law⟩ := c.def_ 24 (d := d_law) rfl
  have e := hfa.symm.trans (He.glo_ok X G (c.fact 21 (f := .glo "law") rfl))
  cases e
  have bL := FunD.bindsA (ps := ["_law_script"]) F_law fun _ _ _ _ _ _ us hl => match us, hl with | [_], _ => rfl
  refine ⟨fd_law, fun s v => bL s [v] rfl, fun base _ _ => ?_⟩
  have g__law_take : FnAt P w K mg base CX0 1 "_law_take" ["_law_box_here", "_law_many"] (spTake) := ⟨⟨_, ok_take F_l_take m_int, F_l_take.bindsN fun _ _ _ _ _ _ us hl => match us, hl with | [_, _], _ => rfl⟩, F_l_take.kp, He.glo_ok X G (c.fact 0 (f := .glo "_law_take") rfl)⟩
  have g__law_pick : FnAt P w K mg base CX0 2 "_law_pick" ["_law_box_here", "_law_some"] (spPick K) := ⟨⟨_, ok_pick F_l_pick m_len g__law_take, F_l_pick.bindsN fun _ _ _ _ _ _ us hl => match us, hl with | [_, _], _ => rfl⟩, F_l_pick.kp, He.glo_ok X G (c.fact 1 (f := .glo "_law_pick") rfl)⟩
  have g_is_integer : FnAt P w K mg base CX0 1 "is_integer" ["value"] (spInteger K) := ⟨⟨_, ok_is_integer F_is_integer m_isinstance m_int m_bool, F_is_integer.bindsN fun _ _ _ _ _ _ us hl => match us, hl with | [_], _ => rfl⟩, F_is_integer.kp, He.glo_ok X G (c.fact 2 (f := .glo "is_integer") rfl)⟩
  have g_is_number : FnAt P w K mg base CX0 2 "is_number" ["value"] (spNumber K) := ⟨⟨_, ok_is_number F_is_number g_is_integer, F_is_number.bindsN fun _ _ _ _ _ _ us hl => match us, hl with | [_], _ => rfl⟩, F_is_number.kp, He.glo_ok X G (c.fact 3 (f := .glo "is_number") rfl)⟩
  have g_is_sequence : FnAt P w K mg base CX0 1 "is_sequence" ["value"] (spSequence K) := ⟨⟨_, ok_is_sequence F_is_sequence m_isinstance m_list m_tuple, F_is_sequence.bindsN fun _ _ _ _ _ _ us hl => match us, hl with | [_], _ => rfl⟩, F_is_sequence.kp, He.glo_ok X G (c.fact 4 (f := .glo "is_sequence") rfl)⟩
  have g_is_thing : FnAt P w K mg base CX0 2 "is_thing" ["value"] (spThing K) := ⟨⟨_, ok_is_thing F_is_thing g_is_integer, F_is_thing.bindsN fun _ _ _ _ _ _ us hl => match us, hl with | [_], _ => rfl⟩, F_is_thing.kp, He.glo_ok X G (c.fact 5 (f := .glo "is_thing") rfl)⟩
  have g_is_below : FnAt P w K mg base CX0 1 "is_below" ["one", "other"] (spBelow) := ⟨⟨_, ok_is_below F_is_below , F_is_below.bindsN fun _ _ _ _ _ _ us hl => match us, hl with | [_, _], _ => rfl⟩, F_is_below.kp, He.glo_ok X G (c.fact 6 (f := .glo "is_below") rfl)⟩
  have g_are_rising : FnAt P w K mg base CX0 2 "are_rising" ["some"] (spRising K) := ⟨⟨_, ok_are_rising F_are_rising m_any m_len m_range g_is_below, F_are_rising.bindsN fun _ _ _ _ _ _ us hl => match us, hl with | [_], _ => rfl⟩, F_are_rising.kp, He.glo_ok X G (c.fact 7 (f := .glo "are_rising") rfl)⟩
  have g_wrong_word : FnAt P w K mg base CX0 3 "wrong_word" ["first", "again", "more"] (spWrong K) := ⟨⟨_, ok_wrong_word F_wrong_word m_all m_len g_is_sequence g_is_thing g_is_number g_are_rising, F_wrong_word.bindsN fun _ _ _ _ _ _ us hl => match us, hl with | [_, _, _], _ => rfl⟩, F_wrong_word.kp, He.glo_ok X G (c.fact 8 (f := .glo "wrong_word") rfl)⟩
  have g_is_turn : FnAt P w K mg base CX0 1 "is_turn" ["again", "more", "turn"] (spTurn K) := ⟨⟨_, ok_is_turn F_is_turn m_all m_len m_range, F_is_turn.bindsN fun _ _ _ _ _ _ us hl => match us, hl with | [_, _, _], _ => rfl⟩, F_is_turn.kp, He.glo_ok X G (c.fact 9 (f := .glo "is_turn") rfl)⟩
  have g_least_form : FnAt P w K mg base CX0 2 "least_form" ["first", "again", "more"] (spLeast K) := ⟨⟨_, ok_least_form F_least_form m_list m_len m_range m_tuple g_is_turn, F_least_form.bindsN fun _ _ _ _ _ _ us hl => match us, hl with | [_, _, _], _ => rfl⟩, F_least_form.kp, He.glo_ok X G (c.fact 10 (f := .glo "least_form") rfl)⟩
  have b_init := init_binds F_Row___init__
  have g_Row : MkAt P w K mg base CX0 4 "Row" ["self", "first", "again", "more"] (spInit K (He.ga K "Row")) [] := ⟨⟨_, _, [], He.mkr_ok (c.fact 40 (f := .mkr "Row") rfl), ok_Row_init F_Row___init__ RR m_tuple g_wrong_word g_least_form, .nil, b_init⟩, He.glo_ok X G (c.fact 41 (f := .glo "Row") rfl)⟩
  have g__law_box : FnAt P w K mg base CX0 1 "_law_box" ["_law_script", "_law_k"] (spBox K) := ⟨⟨_, ok_box F_l_box m_int m_len m_abs, F_l_box.bindsN fun _ _ _ _ _ _ us hl => match us, hl with | [_, _], _ => rfl⟩, F_l_box.kp, He.glo_ok X G (c.fact 11 (f := .glo "_law_box") rfl)⟩
  have g__law_row : FnAt P w K mg base CX0 3 "_law_row" ["_law_box_here", "_law_is_low"] (spRow) := ⟨⟨_, ok_row F_l_row m_int m_range g__law_take g__law_pick, F_l_row.bindsN fun _ _ _ _ _ _ us hl => match us, hl with | [_, _], _ => rfl⟩, F_l_row.kp, He.glo_ok X G (c.fact 12 (f := .glo "_law_row") rfl)⟩
  have g_divisor : FnAt P w K mg base CX0 1 "divisor" ["one", "other"] (spDiv) := ⟨⟨_, ok_divisor F_divisor , F_divisor.bindsN fun _ _ _ _ _ _ us hl => match us, hl with | [_, _], _ => rfl⟩, F_divisor.kp, He.glo_ok X G (c.fact 13 (f := .glo "divisor") rfl)⟩
  have g__law_divisor : FnAt P w K mg base CX0 1 "_law_divisor" ["_law_one", "_law_other"] (spDiv) := ⟨⟨_, ok_ldivisor F_l_divisor m_int, F_l_divisor.bindsN fun _ _ _ _ _ _ us hl => match us, hl with | [_, _], _ => rfl⟩, F_l_divisor.kp, He.glo_ok X G (c.fact 14 (f := .glo "_law_divisor") rfl)⟩
  have g_lowest : FnAt P w K mg base CX0 2 "lowest" ["upper", "lower"] (spLowest) := ⟨⟨_, ok_lowest F_lowest m_abs g_divisor, F_lowest.bindsN fun _ _ _ _ _ _ us hl => match us, hl with | [_, _], _ => rfl⟩, F_lowest.kp, He.glo_ok X G (c.fact 15 (f := .glo "lowest") rfl)⟩
  have g_Row_rate : PrpAt P w K mg base CX0 3 (He.ga K "Row") "rate" ["self"] (spRate (He.ga K "Row")) := ⟨_, _, _, propB_ok cx, ok_rate F_Row_rate RR m_len g_lowest, F_Row_rate.bindsN fun _ _ _ _ _ _ us hl => match us, hl with | [_], _ => rfl⟩
  have g__law_time : FnAt P w K mg base CX0 1 "_law_time" ["_law_told", "_law_n"] (spTime K) := ⟨⟨_, ok_time F_l_time m_len, F_l_time.bindsN fun _ _ _ _ _ _ us hl => match us, hl with | [_, _], _ => rfl⟩, F_l_time.kp, He.glo_ok X G (c.fact 16 (f := .glo "_law_time") rfl)⟩
  have g__law_times : FnAt P w K mg base CX0 2 "_law_times" ["_law_told", "_law_many"] (spTimes K) := ⟨⟨_, ok_times F_l_times m_range g__law_time, F_l_times.bindsN fun _ _ _ _ _ _ us hl => match us, hl with | [_, _], _ => rfl⟩, F_l_times.kp, He.glo_ok X G (c.fact 17 (f := .glo "_law_times") rfl)⟩
  have g__law_made : FnAt P w K mg base CX0 6 "_law_made" ["_law_told"] (spMade K (He.ga K "Row")) := ⟨⟨_, ok_made F_l_made g_Row, F_l_made.bindsN fun _ _ _ _ _ _ us hl => match us, hl with | [_], _ => rfl⟩, F_l_made.kp, He.glo_ok X G (c.fact 18 (f := .glo "_law_made") rfl)⟩
  have g_Row_count : MthAt P w K mg base CX0 1 (He.ga K "Row") "count" ["self", "time"] (spCount (He.ga K "Row")) := ⟨_, _, He.meth_ok (c.fact 39 (f := .meth "Row" "count") rfl), ok_count F_Row_count RR m_len, F_Row_count.bindsN fun _ _ _ _ _ _ us hl => match us, hl with | [_, _], _ => rfl⟩
  have g_unit : FnAt P w K mg base CX0 6 "unit" [] (spConst (He.ga K "Row") [] [.int 0] 0) := ⟨⟨_, ok_unit F_unit g_Row, F_unit.bindsN fun _ _ _ _ _ _ us hl => match us, hl with | [], _ => rfl⟩, F_unit.kp, He.glo_ok X G (c.fact 19 (f := .glo "unit") rfl)⟩
  have g_empty : FnAt P w K mg base CX0 6 "empty" [] (spConst (He.ga K "Row") [] [.non] 0) := ⟨⟨_, ok_empty F_empty g_Row, F_empty.bindsN fun _ _ _ _ _ _ us hl => match us, hl with | [], _ => rfl⟩, F_empty.kp, He.glo_ok X G (c.fact 20 (f := .glo "empty") rfl)⟩
  exact ok_law F_law m_range m_max m_min m_len m_repr RR.cls g__law_box g__law_row g__law_made g__law_divisor g_Row_rate g__law_times g__law_take g_Row_count g__law_time g_empty g_unit
end WW

open PySem PySem.W PySem.Calls PyProof.Rows
set_option maxRecDepth 100000 in
set_option maxHeartbeats 0 in
theorem PySem.Challenge.cw_waitworks_k05_rates_and_counts_holds : PySem.Challenge.rw_waitworks_k05_rates_and_counts.Holds := by
  w_on; o_law
  refine HandSHeadRun.head_any (r := OpenLaw.row PySem.Challenge.rw_waitworks_k05_rates_and_counts) (q := view (OpenLaw.row PySem.Challenge.rw_waitworks_k05_rates_and_counts).prog [37]) (H := WW.hk) (ob := WW.ob) (M := WW.steps) (loose := WW.loose) (d := HandSHeadRun.topDef (OpenLaw.row PySem.Challenge.rw_waitworks_k05_rates_and_counts).prog 37) (kwd := []) WW.ob_eq
    (by kernel_rfl) (fun s => by kernel_rfl) WW.run (by kernel_rfl) (by kernel_rfl) (by kernel_rfl) (by rfl) (by first | assumption | decide +kernel) (by decide +kernel) ⟨rfl, rfl, rfl, rfl, rfl, by decide +kernel⟩ ?hw ?hc
  case hw => w_witness2
  case hc =>
    refine L2.walk_ofE (l := PySem.Challenge.rw_waitworks_k05_rates_and_counts) (n := 63) (k := 7) (x := "_law_script") (CX := L2.CX0) rfl (by decide) (by kernel_rfl) ⟨rfl, by decide, by decide⟩ ?F (fun _ _ _ _ z => z)
    intro w mg fa h Y G hmg0
    obtain ⟨K, KX, c⟩ := Y
    have hmg : mg ("law" : PySem.Str) = some (.ref fa) := by
      have e : (HandSHeadRun.topDef (OpenLaw.row PySem.Challenge.rw_waitworks_k05_rates_and_counts).prog 37).name = ("law" : PySem.Str) := by kernel_rfl
      rw [← e]
      exact hmg0
    obtain ⟨fd, hb, hF⟩ := WW.facts (P := (PySem.Challenge.rw_waitworks_k05_rates_and_counts).prog) (w := w) KX G hmg c
    exact ⟨K, fd, WW.spLaw K, KX, hb, fun H a ns hl _ hS => ⟨a, ns, rfl, hS, hl, fun _ => rfl⟩, hF⟩

